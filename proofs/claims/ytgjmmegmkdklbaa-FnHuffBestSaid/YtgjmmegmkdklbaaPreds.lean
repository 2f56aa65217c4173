import Derived.Test.YtgjmmegmkdklbaaProg
import Derived.Below
import Derived.Deep.Draws
import Derived.Deep.AppendLies
import Derived.Maps.AppendAt
import Derived.OwnWalk
import Derived.Laws.BytesArg
import Derived.Laws.MakeOwn
import Derived.Laws.OwnMore
import Derived.Deep.OwnRows
import Derived.Tactics
import Derived.Lib.ConvBytes
import Derived.Laws.Slices
import Derived.WalkKit
import Derived.KernelRfl
import Derived.RowKit3
import Derived.Deep.LoopGhost
import Derived.Deep.QuietTactic
import Derived.BigQuiet
import Derived.WideLaws
import Derived.Deep.DeepCutAuto
import Derived.Deep.CutBlock
import Derived.Deep.RegionHeld3
import Derived.Laws.Rows
import Derived.Lib.AppendStr
import Derived.ArgAppend
import Derived.Laws.IdiomCopy
import Derived.OrdersHeld
import Derived.Laws.BitsLemmas
import Derived.RowKit
import Derived.Shelf.Abstract
import Derived.DataElems
import Derived.Test.YtgjmmegmkdklbaaWWords
import Derived.Test.YtgjmmegmkdklbaaWLast
import Derived.Test.YtgjmmegmkdklbaaWTab
import Derived.Test.YtgjmmegmkdklbaaWQPut
import Derived.Test.YtgjmmegmkdklbaaWApart
import Derived.Test.YtgjmmegmkdklbaaWArr
import Derived.Test.YtgjmmegmkdklbaaWZeros
import Derived.Test.YtgjmmegmkdklbaaWFoot
import Derived.Test.YtgjmmegmkdklbaaWKept
import Derived.Test.YtgjmmegmkdklbaaWShare
import Derived.Test.YtgjmmegmkdklbaaWN
import Derived.Test.YtgjmmegmkdklbaaWRepsOne
import Derived.Test.YtgjmmegmkdklbaaWGuard
import Derived.Test.YtgjmmegmkdklbaaWNEv
import Derived.Test.YtgjmmegmkdklbaaWMore
import Derived.Test.YtgjmmegmkdklbaaAreAll
namespace Go.Proofs.Ytgjmmegmkdklbaa.Fv
open Go.RowKit Go.Proofs.YtgjmmegmkdklbaaW.PrintWords Go.Proofs.YtgjmmegmkdklbaaW.PrintLast Go.Proofs.YtgjmmegmkdklbaaW.PrintMore
set_option linter.unusedVariables false
set_option linter.unusedSimpArgs false

def inR (x a b : Int) : Bool := decide (a ≤ x ∧ x ≤ b)
theorem within_calls (x a b : Int) (w : World) : Calls Try.prog 41 #[.int .i64 x, .int .i64 a, .int .i64 b] w fun e w' => e = .returned (.bool (inR x a b)) ∧ Drawn0 w w' := by
  unfold inR
  by_cases h1 : a ≤ x
  · by_cases h2 : x ≤ b
    · rw [decide_eq_true (⟨h1, h2⟩ : a ≤ x ∧ x ≤ b)]
      have b1 : decide (a ≤ x) = true := decide_eq_true h1
      have b2 : decide (x ≤ b) = true := decide_eq_true h2
      clear h1 h2
      go_enter Try.func41, Try.ntmps41
      go_wp2
      go_ret
      exact ⟨rfl, ⟨⟨0, rfl⟩⟩⟩
    · rw [decide_eq_false (fun h => h2 h.2 : ¬ (a ≤ x ∧ x ≤ b))]
      have b1 : decide (a ≤ x) = true := decide_eq_true h1
      have b2 : decide (x ≤ b) = false := decide_eq_false h2
      clear h1 h2
      go_enter Try.func41, Try.ntmps41
      go_wp2
      go_ret
      exact ⟨rfl, ⟨⟨0, rfl⟩⟩⟩
  · rw [decide_eq_false (fun h => h1 h.1 : ¬ (a ≤ x ∧ x ≤ b))]
    have b1 : decide (a ≤ x) = false := decide_eq_false h1
    clear h1
    go_enter Try.func41, Try.ntmps41
    go_wp2
    go_ret
    exact ⟨rfl, ⟨⟨0, rfl⟩⟩⟩

/-- loop.example/g00688/impl.isCount -/
def p54 (x : Int) : Bool := inR x 0 1000000
theorem tells54 (w : World) : Tells 54 #[] p54 w := fun W x _ => by
  show Calls Try.prog 54 #[.int .i64 x] W _
  have HC := Aside0.mk (within_calls x 0 1000000)
  unfold p54
  generalize inR x 0 1000000 = r at HC
  go_enter Try.func54, Try.ntmps54
  go_wp2_with (go_at_call 41; refine (HC.out _).mono ?_; rintro e w' ⟨rfl, ⟨nd, rfl⟩⟩)
  go_ret
  exact ⟨rfl, ⟨⟨_, rfl⟩⟩⟩

/-- loop.example/g00688/impl.HuffOk$1 -/
def p67 (x : Int) : Bool := inR x 0 60
theorem tells67 (w : World) : Tells 67 #[] p67 w := fun W x _ => by
  show Calls Try.prog 67 #[.int .i64 x] W _
  have HC := Aside0.mk (within_calls x 0 60)
  unfold p67
  generalize inR x 0 60 = r at HC
  go_enter Try.func67, Try.ntmps67
  go_wp2_with (go_at_call 41; refine (HC.out _).mono ?_; rintro e w' ⟨rfl, ⟨nd, rfl⟩⟩)
  go_ret
  exact ⟨rfl, ⟨⟨_, rfl⟩⟩⟩

end Go.Proofs.Ytgjmmegmkdklbaa.Fv
