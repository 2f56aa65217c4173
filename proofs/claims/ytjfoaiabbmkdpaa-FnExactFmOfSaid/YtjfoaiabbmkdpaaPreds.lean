import Derived.Test.YtjfoaiabbmkdpaaProg
import Derived.Below
import Derived.Deep.Draws
import Derived.Deep.AppendLies
import Derived.Maps.AppendAt
import Derived.OwnWalk
import Derived.Laws.BytesArg
import Derived.Laws.MakeOwn
import Derived.Laws.OwnMore
import Derived.Deep.OwnRows
import Derived.Tactics
import Derived.Lib.ConvBytes
import Derived.Laws.Slices
import Derived.WalkKit
import Derived.KernelRfl
import Derived.RowKit3
import Derived.Deep.LoopGhost
import Derived.Deep.QuietTactic
import Derived.BigQuiet
import Derived.WideLaws
import Derived.Deep.DeepCutAuto
import Derived.Deep.CutBlock
import Derived.Deep.RegionHeld3
import Derived.Laws.Rows
import Derived.Lib.AppendStr
import Derived.ArgAppend
import Derived.Laws.IdiomCopy
import Derived.OrdersHeld
import Derived.Laws.BitsLemmas
import Derived.RowKit
import Derived.Shelf.Abstract
import Derived.DataElems
import Derived.Test.YtjfoaiabbmkdpaaWWords
import Derived.Test.YtjfoaiabbmkdpaaWLast
import Derived.Test.YtjfoaiabbmkdpaaWTab
import Derived.Test.YtjfoaiabbmkdpaaWQPut
import Derived.Test.YtjfoaiabbmkdpaaWApart
import Derived.Test.YtjfoaiabbmkdpaaWArr
import Derived.Test.YtjfoaiabbmkdpaaWZeros
import Derived.Test.YtjfoaiabbmkdpaaWFoot
import Derived.Test.YtjfoaiabbmkdpaaWKept
import Derived.Test.YtjfoaiabbmkdpaaWShare
import Derived.Test.YtjfoaiabbmkdpaaWN
import Derived.Test.YtjfoaiabbmkdpaaWEqStruct
import Derived.Test.YtjfoaiabbmkdpaaWRepsOne
import Derived.Test.YtjfoaiabbmkdpaaWGuard
import Derived.Test.YtjfoaiabbmkdpaaWNEv
import Derived.Test.YtjfoaiabbmkdpaaWMore
import Derived.Test.YtjfoaiabbmkdpaaAreAll
namespace Go.Proofs.Ytjfoaiabbmkdpaa.Fv
open Go.RowKit Go.Proofs.YtjfoaiabbmkdpaaW.PrintWords Go.Proofs.YtjfoaiabbmkdpaaW.PrintLast Go.Proofs.YtjfoaiabbmkdpaaW.PrintMore
set_option linter.unusedVariables false
set_option linter.unusedSimpArgs false

def inR (x a b : Int) : Bool := decide (a ≤ x ∧ x ≤ b)
theorem within_calls (x a b : Int) (w : World) : Calls Try.prog 42 #[.int .i64 x, .int .i64 a, .int .i64 b] w fun e w' => e = .returned (.bool (inR x a b)) ∧ Drawn0 w w' := by
  unfold inR
  by_cases h1 : a ≤ x
  · by_cases h2 : x ≤ b
    · rw [decide_eq_true (⟨h1, h2⟩ : a ≤ x ∧ x ≤ b)]
      have b1 : decide (a ≤ x) = true := decide_eq_true h1
      have b2 : decide (x ≤ b) = true := decide_eq_true h2
      clear h1 h2
      go_enter Try.func42, Try.ntmps42
      go_wp2
      go_ret
      exact ⟨rfl, ⟨⟨0, rfl⟩⟩⟩
    · rw [decide_eq_false (fun h => h2 h.2 : ¬ (a ≤ x ∧ x ≤ b))]
      have b1 : decide (a ≤ x) = true := decide_eq_true h1
      have b2 : decide (x ≤ b) = false := decide_eq_false h2
      clear h1 h2
      go_enter Try.func42, Try.ntmps42
      go_wp2
      go_ret
      exact ⟨rfl, ⟨⟨0, rfl⟩⟩⟩
  · rw [decide_eq_false (fun h => h1 h.1 : ¬ (a ≤ x ∧ x ≤ b))]
    have b1 : decide (a ≤ x) = false := decide_eq_false h1
    clear h1
    go_enter Try.func42, Try.ntmps42
    go_wp2
    go_ret
    exact ⟨rfl, ⟨⟨0, rfl⟩⟩⟩

/-- loop.example/g00688/impl.WaveOf$1 -/
def p61 (x : Int) : Bool := inR x 0 511
theorem tells61 (w : World) : Tells 61 #[] p61 w := fun W x _ => by
  show Calls Try.prog 61 #[.int .i64 x] W _
  have HC := Aside0.mk (within_calls x 0 511)
  unfold p61
  generalize inR x 0 511 = r at HC
  go_enter Try.func61, Try.ntmps61
  go_wp2_with (go_at_call 42; refine (HC.out _).mono ?_; rintro e w' ⟨rfl, ⟨nd, rfl⟩⟩)
  go_ret
  exact ⟨rfl, ⟨⟨_, rfl⟩⟩⟩

/-- loop.example/g00688/impl.PackOf$1 -/
abbrev ok63 (u : Int) : Prop := 0 ≤ u
def p63 (u x : Int) : Bool := inR x 0 (wrap64 ((shl .i64 1 u) - 1))
theorem tells63 (B : Nat) (u : Int) (w : World) (hb : w.heap[B]? = some (.cells #[.int .i64 u] 3)) (hok : ok63 u) : Tells 63 #[.pointer (some ⟨B, 0, none⟩)] (p63 u) w := fun W x hW => by
  have hB : B < w.heap.size := (Array.getElem?_eq_some_iff.1 hb).1
  have hc0 : w.cell? ⟨B, 0, none⟩ = some (.int .i64 u) := by simp [World.cell?, hb]
  have hc : W.cell? ⟨B, 0, none⟩ = some (.int .i64 u) := (hW.cell (p := ⟨B, 0, none⟩) hB).trans hc0
  show Calls Try.prog 63 #[.int .i64 x, .pointer (some ⟨B, 0, none⟩)] W _
  unfold p63
  obtain ⟨j, hj⟩ : ∃ j_ : Int, (shl .i64 1 u) = j_ := ⟨_, rfl⟩
  rw [hj]
  have hj_ : (IntKind.i64.wrap (1 * 2 ^ min u.toNat 64)) = j := hj
  have hjz : u ≤ 64 → (IntKind.i64.wrap (1 * 2 ^ u.toNat)) = j := shl_small hj
  have hju : (IntKind.i64.wrap (2 ^ min u.toNat 64)) = j := by have h_ := hj_; rw [Int.one_mul] at h_; exact h_
  have hjv : u ≤ 64 → (IntKind.i64.wrap (2 ^ u.toNat)) = j := fun hle_ => by have h_ := hjz hle_; rw [Int.one_mul] at h_; exact h_
  have hjy : (wrap64 (1 * 2 ^ min u.toNat 64)) = j := (i64_w _).symm.trans hj_
  have hjx : u ≤ 64 → (wrap64 (1 * 2 ^ u.toNat)) = j := fun h_ => (i64_w _).symm.trans (hjz h_)
  have hok1 : (0 ≤ u) = True := eq_true hok
  have HC := Aside0.mk (within_calls x 0 (wrap64 (j - 1)))
  generalize inR x 0 (wrap64 (j - 1)) = r at HC
  clear hb hc0 hB hW hok
  go_enter Try.func63, Try.ntmps63
  go_wp2_with (go_at_call 42; refine (HC.out _).mono ?_; rintro e w' ⟨rfl, ⟨nd, rfl⟩⟩)
  go_ret
  exact ⟨rfl, ⟨⟨_, rfl⟩⟩⟩

end Go.Proofs.Ytjfoaiabbmkdpaa.Fv
