/- Words that the walks use. -/
import Derived.Test.YtadhngelhognaaaProg
import Derived.Below
import Derived.Deep.Draws
import Derived.Deep.AppendLies
import Derived.Maps.AppendAt
import Derived.OwnWalk
import Derived.Laws.BytesArg
import Derived.Laws.MakeOwn
import Derived.Laws.OwnMore
import Derived.Deep.OwnRows
import Derived.Tactics
import Derived.Lib.ConvBytes
import Derived.Laws.Slices
import Derived.WalkKit
import Derived.KernelRfl
import Derived.RowKit3
import Derived.Deep.LoopGhost
import Derived.Deep.QuietTactic
import Derived.BigQuiet
import Derived.WideLaws
import Derived.Deep.DeepCutAuto
import Derived.Deep.CutBlock
import Derived.Deep.RegionHeld3
import Derived.Laws.Rows
import Derived.Lib.AppendStr
import Derived.ArgAppend
import Derived.Laws.IdiomCopy
import Derived.OrdersHeld
import Derived.Laws.BitsLemmas
import Derived.RowKit
import Derived.Shelf.Abstract
import Derived.DataElems
import Derived.Test.YtadhngelhognaaaWWords
import Derived.Test.YtadhngelhognaaaWLast
import Derived.Test.YtadhngelhognaaaWTab
import Derived.Test.YtadhngelhognaaaWFour
import Derived.Test.YtadhngelhognaaaWQPut
import Derived.Test.YtadhngelhognaaaWApart
import Derived.Test.YtadhngelhognaaaWArr
import Derived.Test.YtadhngelhognaaaWZeros
import Derived.Test.YtadhngelhognaaaWFoot
import Derived.Test.YtadhngelhognaaaWKept
import Derived.Test.YtadhngelhognaaaWShare
import Derived.Test.YtadhngelhognaaaWN
import Derived.Test.YtadhngelhognaaaWFootNe
import Derived.Test.YtadhngelhognaaaWAt
import Derived.Test.YtadhngelhognaaaWEqStruct
import Derived.Test.YtadhngelhognaaaWRepsOne
import Derived.Test.YtadhngelhognaaaWInv
import Derived.Test.YtadhngelhognaaaWInvWords
import Derived.Test.YtadhngelhognaaaWGuard
import Derived.Test.YtadhngelhognaaaWNEv
import Derived.Test.YtadhngelhognaaaWMore
namespace Go.Proofs.Ytadhngelhognaaa.Fv
open Go.RowKit Go.Proofs.YtadhngelhognaaaW.PrintWords Go.Proofs.YtadhngelhognaaaW.PrintLast Go.Proofs.YtadhngelhognaaaW.PrintMore
set_option linter.unusedVariables false
section
variable {H : Type} {enc : TypeId × Value → H} {P : Program} {w : World}
theorem last_ {cs : List Value} {o s m : Nat} (hl : cs.length = m) (h : m ≤ o + s) : (cs.drop o).take s = cs.drop o := List.take_of_length_le (by rw [List.length_drop]; omega)
end
end Go.Proofs.Ytadhngelhognaaa.Fv
