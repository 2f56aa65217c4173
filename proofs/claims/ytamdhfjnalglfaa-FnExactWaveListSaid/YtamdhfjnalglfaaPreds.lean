import Derived.Test.YtamdhfjnalglfaaProg
import Derived.Below
import Derived.Deep.Draws
import Derived.Deep.AppendLies
import Derived.Maps.AppendAt
import Derived.OwnWalk
import Derived.Laws.BytesArg
import Derived.Laws.MakeOwn
import Derived.Laws.OwnMore
import Derived.Deep.OwnRows
import Derived.Tactics
import Derived.Lib.ConvBytes
import Derived.Laws.Slices
import Derived.WalkKit
import Derived.KernelRfl
import Derived.RowKit3
import Derived.Deep.LoopGhost
import Derived.Deep.QuietTactic
import Derived.BigQuiet
import Derived.WideLaws
import Derived.Deep.DeepCutAuto
import Derived.Deep.CutBlock
import Derived.Deep.RegionHeld3
import Derived.Laws.Rows
import Derived.Lib.AppendStr
import Derived.ArgAppend
import Derived.Laws.IdiomCopy
import Derived.OrdersHeld
import Derived.Laws.BitsLemmas
import Derived.RowKit
import Derived.Shelf.Abstract
import Derived.DataElems
import Derived.Test.YtamdhfjnalglfaaWWords
import Derived.Test.YtamdhfjnalglfaaWLast
import Derived.Test.YtamdhfjnalglfaaWTab
import Derived.Test.YtamdhfjnalglfaaWQPut
import Derived.Test.YtamdhfjnalglfaaWApart
import Derived.Test.YtamdhfjnalglfaaWArr
import Derived.Test.YtamdhfjnalglfaaWZeros
import Derived.Test.YtamdhfjnalglfaaWFoot
import Derived.Test.YtamdhfjnalglfaaWKept
import Derived.Test.YtamdhfjnalglfaaWShare
import Derived.Test.YtamdhfjnalglfaaWN
import Derived.Test.YtamdhfjnalglfaaWRepsOne
import Derived.Test.YtamdhfjnalglfaaWGuard
import Derived.Test.YtamdhfjnalglfaaWNEv
import Derived.Test.YtamdhfjnalglfaaWMore
import Derived.Test.YtamdhfjnalglfaaAreAll
namespace Go.Proofs.Ytamdhfjnalglfaa.Fv
open Go.RowKit Go.Proofs.YtamdhfjnalglfaaW.PrintWords Go.Proofs.YtamdhfjnalglfaaW.PrintLast Go.Proofs.YtamdhfjnalglfaaW.PrintMore
set_option linter.unusedVariables false
set_option linter.unusedSimpArgs false

def inR (x a b : Int) : Bool := decide (a ≤ x ∧ x ≤ b)
theorem within_calls (x a b : Int) (w : World) : Calls Try.prog 41 #[.int .i64 x, .int .i64 a, .int .i64 b] w fun e w' => e = .returned (.bool (inR x a b)) ∧ Drawn0 w w' := by
  unfold inR
  by_cases h1 : a ≤ x
  · by_cases h2 : x ≤ b
    · rw [decide_eq_true (⟨h1, h2⟩ : a ≤ x ∧ x ≤ b)]
      have b1 : decide (a ≤ x) = true := decide_eq_true h1
      have b2 : decide (x ≤ b) = true := decide_eq_true h2
      clear h1 h2
      go_enter Try.func41, Try.ntmps41
      go_wp2
      go_ret
      exact ⟨rfl, ⟨⟨0, rfl⟩⟩⟩
    · rw [decide_eq_false (fun h => h2 h.2 : ¬ (a ≤ x ∧ x ≤ b))]
      have b1 : decide (a ≤ x) = true := decide_eq_true h1
      have b2 : decide (x ≤ b) = false := decide_eq_false h2
      clear h1 h2
      go_enter Try.func41, Try.ntmps41
      go_wp2
      go_ret
      exact ⟨rfl, ⟨⟨0, rfl⟩⟩⟩
  · rw [decide_eq_false (fun h => h1 h.1 : ¬ (a ≤ x ∧ x ≤ b))]
    have b1 : decide (a ≤ x) = false := decide_eq_false h1
    clear h1
    go_enter Try.func41, Try.ntmps41
    go_wp2
    go_ret
    exact ⟨rfl, ⟨⟨0, rfl⟩⟩⟩

/-- loop.example/g00688/impl.WaveOf$1 -/
def p51 (x : Int) : Bool := inR x 0 511
theorem tells51 (w : World) : Tells 51 #[] p51 w := fun W x _ => by
  show Calls Try.prog 51 #[.int .i64 x] W _
  have HC := Aside0.mk (within_calls x 0 511)
  unfold p51
  generalize inR x 0 511 = r at HC
  go_enter Try.func51, Try.ntmps51
  go_wp2_with (go_at_call 41; refine (HC.out _).mono ?_; rintro e w' ⟨rfl, ⟨nd, rfl⟩⟩)
  go_ret
  exact ⟨rfl, ⟨⟨_, rfl⟩⟩⟩

end Go.Proofs.Ytamdhfjnalglfaa.Fv
