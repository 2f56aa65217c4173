/- Words that the walks use. -/
import Derived.Test.YtadhngelhognaaaWInv
import Derived.Test.YtadhngelhognaaaWFootNe
namespace Go.Proofs.YtadhngelhognaaaW.PrintWords
open Go.RowKit
end Go.Proofs.YtadhngelhognaaaW.PrintWords
namespace Go.Proofs.YtadhngelhognaaaW.PrintLast
section
variable {ops : Array Oper} {a : Act} {o og : Oper} {g : Nat} {t : Tmp} {u : Bool}
end
end Go.Proofs.YtadhngelhognaaaW.PrintLast
