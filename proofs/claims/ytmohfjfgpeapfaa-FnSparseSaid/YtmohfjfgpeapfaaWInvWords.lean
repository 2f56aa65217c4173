/- Words that the walks use. -/
import Derived.Test.YtmohfjfgpeapfaaWInv
import Derived.Test.YtmohfjfgpeapfaaWFootNe
namespace Go.Proofs.YtmohfjfgpeapfaaW.PrintWords
open Go.RowKit
end Go.Proofs.YtmohfjfgpeapfaaW.PrintWords
namespace Go.Proofs.YtmohfjfgpeapfaaW.PrintLast
section
variable {ops : Array Oper} {a : Act} {o og : Oper} {g : Nat} {t : Tmp} {u : Bool}
end
end Go.Proofs.YtmohfjfgpeapfaaW.PrintLast
