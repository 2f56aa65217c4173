/- Words that the walks use. -/
import Derived.Test.YtdiemmcnekbfaaaWInv
import Derived.Test.YtdiemmcnekbfaaaWFootNe
namespace Go.Proofs.YtdiemmcnekbfaaaW.PrintWords
open Go.RowKit
end Go.Proofs.YtdiemmcnekbfaaaW.PrintWords
namespace Go.Proofs.YtdiemmcnekbfaaaW.PrintLast
section
variable {ops : Array Oper} {a : Act} {o og : Oper} {g : Nat} {t : Tmp} {u : Bool}
end
end Go.Proofs.YtdiemmcnekbfaaaW.PrintLast
