/- Words that the walks use. -/
import Derived.Test.YtamdhfjnalglfaaWWords
import Derived.Laws.StructEq
namespace Go.Proofs.YtamdhfjnalglfaaW.PrintWords
open Go.RowKit
section
variable {P : Program} {d : Nat} {xs ys : Array Value} {f : Field} {fs : List Field} {a b : Value} {r s : Bool} {w : World}
end
end Go.Proofs.YtamdhfjnalglfaaW.PrintWords
