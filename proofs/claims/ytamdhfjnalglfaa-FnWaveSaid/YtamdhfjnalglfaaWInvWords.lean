/- Words that the walks use. -/
import Derived.Test.YtamdhfjnalglfaaWInv
import Derived.Test.YtamdhfjnalglfaaWFootNe
namespace Go.Proofs.YtamdhfjnalglfaaW.PrintWords
open Go.RowKit
end Go.Proofs.YtamdhfjnalglfaaW.PrintWords
namespace Go.Proofs.YtamdhfjnalglfaaW.PrintLast
section
variable {ops : Array Oper} {a : Act} {o og : Oper} {g : Nat} {t : Tmp} {u : Bool}
end
end Go.Proofs.YtamdhfjnalglfaaW.PrintLast
