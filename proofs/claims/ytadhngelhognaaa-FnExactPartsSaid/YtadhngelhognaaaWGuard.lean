/- Words that the walks use. -/
import Derived.Test.YtadhngelhognaaaWWords
namespace Go.Proofs.YtadhngelhognaaaW.PrintWords
open Go.RowKit
section
variable {P : Program} {ops : Array Oper} {rest : List Oper} {o : Oper} {a : Act} {Q : Exit → Act → World → Prop} {W : World}
end
end Go.Proofs.YtadhngelhognaaaW.PrintWords
