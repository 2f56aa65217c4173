/- Words that the walks use. -/
import Derived.Test.YtoinagnieobbpaaProg
import Derived.Below
import Derived.Deep.Draws
import Derived.Deep.AppendLies
import Derived.Maps.AppendAt
import Derived.OwnWalk
import Derived.Laws.BytesArg
import Derived.Laws.MakeOwn
import Derived.Laws.OwnMore
import Derived.Deep.OwnRows
import Derived.Tactics
import Derived.Lib.ConvBytes
import Derived.Laws.Slices
import Derived.WalkKit
import Derived.KernelRfl
import Derived.RowKit3
import Derived.Deep.LoopGhost
import Derived.Deep.QuietTactic
import Derived.BigQuiet
import Derived.WideLaws
import Derived.Deep.DeepCutAuto
import Derived.Deep.CutBlock
import Derived.Deep.RegionHeld3
import Derived.Laws.Rows
import Derived.Lib.AppendStr
import Derived.ArgAppend
import Derived.Laws.IdiomCopy
import Derived.OrdersHeld
import Derived.Laws.BitsLemmas
import Derived.RowKit
import Derived.Shelf.Abstract
import Derived.DataElems
import Derived.Test.YtoinagnieobbpaaWWords
import Derived.Test.YtoinagnieobbpaaWLast
import Derived.Test.YtoinagnieobbpaaWTab
import Derived.Test.YtoinagnieobbpaaWQPut
import Derived.Test.YtoinagnieobbpaaWApart
import Derived.Test.YtoinagnieobbpaaWArr
import Derived.Test.YtoinagnieobbpaaWZeros
import Derived.Test.YtoinagnieobbpaaWFoot
import Derived.Test.YtoinagnieobbpaaWKept
import Derived.Test.YtoinagnieobbpaaWShare
import Derived.Test.YtoinagnieobbpaaWN
import Derived.Test.YtoinagnieobbpaaWEqStruct
import Derived.Test.YtoinagnieobbpaaWRepsOne
import Derived.Test.YtoinagnieobbpaaWGuard
import Derived.Test.YtoinagnieobbpaaWNEv
import Derived.Test.YtoinagnieobbpaaWMore
namespace Go.Proofs.Ytoinagnieobbpaa.Fv
open Go.RowKit Go.Proofs.YtoinagnieobbpaaW.PrintWords Go.Proofs.YtoinagnieobbpaaW.PrintLast Go.Proofs.YtoinagnieobbpaaW.PrintMore
set_option linter.unusedVariables false
section
variable {H : Type} {enc : TypeId × Value → H} {P : Program} {w : World}
theorem last_ {cs : List Value} {o s m : Nat} (hl : cs.length = m) (h : m ≤ o + s) : (cs.drop o).take s = cs.drop o := List.take_of_length_le (by rw [List.length_drop]; omega)
end
end Go.Proofs.Ytoinagnieobbpaa.Fv
