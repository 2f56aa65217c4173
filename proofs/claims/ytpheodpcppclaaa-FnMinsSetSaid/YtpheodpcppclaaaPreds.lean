import Derived.Test.YtpheodpcppclaaaProg
import Derived.Below
import Derived.Deep.Draws
import Derived.Deep.AppendLies
import Derived.Maps.AppendAt
import Derived.OwnWalk
import Derived.Laws.BytesArg
import Derived.Laws.MakeOwn
import Derived.Laws.OwnMore
import Derived.Deep.OwnRows
import Derived.Tactics
import Derived.Lib.ConvBytes
import Derived.Laws.Slices
import Derived.WalkKit
import Derived.KernelRfl
import Derived.RowKit3
import Derived.Deep.LoopGhost
import Derived.Deep.QuietTactic
import Derived.BigQuiet
import Derived.WideLaws
import Derived.Deep.DeepCutAuto
import Derived.Deep.CutBlock
import Derived.Deep.RegionHeld3
import Derived.Laws.Rows
import Derived.Lib.AppendStr
import Derived.ArgAppend
import Derived.Laws.IdiomCopy
import Derived.OrdersHeld
import Derived.Laws.BitsLemmas
import Derived.RowKit
import Derived.Shelf.Abstract
import Derived.DataElems
import Derived.Test.YtpheodpcppclaaaWWords
import Derived.Test.YtpheodpcppclaaaWLast
import Derived.Test.YtpheodpcppclaaaWTab
import Derived.Test.YtpheodpcppclaaaWFour
import Derived.Test.YtpheodpcppclaaaWQPut
import Derived.Test.YtpheodpcppclaaaWApart
import Derived.Test.YtpheodpcppclaaaWArr
import Derived.Test.YtpheodpcppclaaaWZeros
import Derived.Test.YtpheodpcppclaaaWFoot
import Derived.Test.YtpheodpcppclaaaWKept
import Derived.Test.YtpheodpcppclaaaWShare
import Derived.Test.YtpheodpcppclaaaWN
import Derived.Test.YtpheodpcppclaaaWFootNe
import Derived.Test.YtpheodpcppclaaaWAt
import Derived.Test.YtpheodpcppclaaaWEqStruct
import Derived.Test.YtpheodpcppclaaaWRepsOne
import Derived.Test.YtpheodpcppclaaaWInv
import Derived.Test.YtpheodpcppclaaaWInvWords
import Derived.Test.YtpheodpcppclaaaWGuard
import Derived.Test.YtpheodpcppclaaaWNEv
import Derived.Test.YtpheodpcppclaaaWMore
import Derived.Test.YtpheodpcppclaaaAreAll
namespace Go.Proofs.Ytpheodpcppclaaa.Fv
open Go.RowKit Go.Proofs.YtpheodpcppclaaaW.PrintWords Go.Proofs.YtpheodpcppclaaaW.PrintLast Go.Proofs.YtpheodpcppclaaaW.PrintMore
set_option linter.unusedVariables false
set_option linter.unusedSimpArgs false

def inR (x a b : Int) : Bool := decide (a ≤ x ∧ x ≤ b)
theorem within_calls (x a b : Int) (w : World) : Calls Try.prog 44 #[.int .i64 x, .int .i64 a, .int .i64 b] w fun e w' => e = .returned (.bool (inR x a b)) ∧ Drawn0 w w' := by
  unfold inR
  by_cases h1 : a ≤ x
  · by_cases h2 : x ≤ b
    · rw [decide_eq_true (⟨h1, h2⟩ : a ≤ x ∧ x ≤ b)]
      have b1 : decide (a ≤ x) = true := decide_eq_true h1
      have b2 : decide (x ≤ b) = true := decide_eq_true h2
      clear h1 h2
      go_enter Try.func44, Try.ntmps44
      go_wp2
      go_ret
      exact ⟨rfl, ⟨⟨0, rfl⟩⟩⟩
    · rw [decide_eq_false (fun h => h2 h.2 : ¬ (a ≤ x ∧ x ≤ b))]
      have b1 : decide (a ≤ x) = true := decide_eq_true h1
      have b2 : decide (x ≤ b) = false := decide_eq_false h2
      clear h1 h2
      go_enter Try.func44, Try.ntmps44
      go_wp2
      go_ret
      exact ⟨rfl, ⟨⟨0, rfl⟩⟩⟩
  · rw [decide_eq_false (fun h => h1 h.1 : ¬ (a ≤ x ∧ x ≤ b))]
    have b1 : decide (a ≤ x) = false := decide_eq_false h1
    clear h1
    go_enter Try.func44, Try.ntmps44
    go_wp2
    go_ret
    exact ⟨rfl, ⟨⟨0, rfl⟩⟩⟩

/-- loop.example/g00688/impl.isCount -/
def p48 (x : Int) : Bool := inR x 0 1000000
theorem tells48 (w : World) : Tells 48 #[] p48 w := fun W x _ => by
  show Calls Try.prog 48 #[.int .i64 x] W _
  have HC := Aside0.mk (within_calls x 0 1000000)
  unfold p48
  generalize inR x 0 1000000 = r at HC
  go_enter Try.func48, Try.ntmps48
  go_wp2_with (go_at_call 44; refine (HC.out _).mono ?_; rintro e w' ⟨rfl, ⟨nd, rfl⟩⟩)
  go_ret
  exact ⟨rfl, ⟨⟨_, rfl⟩⟩⟩

end Go.Proofs.Ytpheodpcppclaaa.Fv
