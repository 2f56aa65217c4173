import Derived.Test.YtjfoaiabbmkdpaaProg
import Derived.Below
import Derived.Deep.Draws
import Derived.Deep.AppendLies
import Derived.Maps.AppendAt
import Derived.OwnWalk
import Derived.Laws.BytesArg
import Derived.Laws.MakeOwn
import Derived.Laws.OwnMore
import Derived.Deep.OwnRows
import Derived.Tactics
import Derived.Lib.ConvBytes
import Derived.Laws.Slices
import Derived.WalkKit
import Derived.KernelRfl
import Derived.RowKit3
import Derived.Deep.LoopGhost
import Derived.Deep.QuietTactic
import Derived.BigQuiet
import Derived.WideLaws
import Derived.Deep.DeepCutAuto
import Derived.Deep.CutBlock
import Derived.Deep.RegionHeld3
import Derived.Laws.Rows
import Derived.Lib.AppendStr
import Derived.ArgAppend
import Derived.Laws.IdiomCopy
import Derived.OrdersHeld
import Derived.Laws.BitsLemmas
import Derived.RowKit
import Derived.Shelf.Abstract
import Derived.DataElems
import Derived.Test.YtjfoaiabbmkdpaaWWords
import Derived.Test.YtjfoaiabbmkdpaaWLast
import Derived.Test.YtjfoaiabbmkdpaaWTab
import Derived.Test.YtjfoaiabbmkdpaaWQPut
import Derived.Test.YtjfoaiabbmkdpaaWApart
import Derived.Test.YtjfoaiabbmkdpaaWArr
import Derived.Test.YtjfoaiabbmkdpaaWZeros
import Derived.Test.YtjfoaiabbmkdpaaWFoot
import Derived.Test.YtjfoaiabbmkdpaaWKept
import Derived.Test.YtjfoaiabbmkdpaaWShare
import Derived.Test.YtjfoaiabbmkdpaaWN
import Derived.Test.YtjfoaiabbmkdpaaWEqStruct
import Derived.Test.YtjfoaiabbmkdpaaWRepsOne
import Derived.Test.YtjfoaiabbmkdpaaWGuard
import Derived.Test.YtjfoaiabbmkdpaaWNEv
import Derived.Test.YtjfoaiabbmkdpaaWMore
namespace Go.Proofs.Ytjfoaiabbmkdpaa.Fv
open Go.RowKit Go.Proofs.YtjfoaiabbmkdpaaW.PrintWords Go.Proofs.YtjfoaiabbmkdpaaW.PrintLast Go.Proofs.YtjfoaiabbmkdpaaW.PrintMore
set_option linter.unusedVariables false
set_option linter.unusedSimpArgs false

/-- What is asked of a function value that tells something of a number. -/
def Tells (g : Nat) (lb : Array Value) (p : Int → Bool) (w : World) : Prop :=
  ∀ (W : World) (x : Int), Below w.heap.size w W → Calls Try.prog g (#[.int .i64 x] ++ lb) W fun e W' => e = .returned (.bool (p x)) ∧ Drawn0 W W'

theorem all_any (p : Int → Bool) (l : List Int) : l.all p = !(l.any fun x => !p x) := by
  induction l with
  | nil => rfl
  | cons y ys ih => rw [List.all_cons, List.any_cons, ih]; cases p y <;> simp

def idxF (p : Int → Bool) (l : List Int) : Int := if l.any p = true then (l.findIdx p : Int) else -1

theorem idxF_neg (p : Int → Bool) (l : List Int) : decide (idxF p l ≥ 0) = l.any p := by
  unfold idxF
  by_cases h : l.any p = true
  · rw [if_pos h, h]
    exact decide_eq_true (by omega)
  · rw [if_neg h]
    rw [Bool.not_eq_true] at h
    rw [h]
    rfl

theorem idxF_hit (p : Int → Bool) (l : List Int) (x : Int) (h0 : 0 ≤ x) (h1 : x < (l.length : Int)) (hx : p (rd l x) = true) (hall : ∀ j : Nat, (j : Int) < x → p (l.getD j 0) = false) : idxF p l = x := by
  unfold idxF
  have hj : x.toNat < l.length := by omega
  have hg : l.getD x.toNat 0 = l[x.toNat] := by rw [List.getD_eq_getElem?_getD, List.getElem?_eq_getElem hj]; rfl
  have hp : p l[x.toNat] = true := by rw [← hg]; exact hx
  have ha : l.any p = true := List.any_eq_true.mpr ⟨l[x.toNat], List.getElem_mem hj, hp⟩
  rw [if_pos ha]
  have : l.findIdx p = x.toNat := by
    rw [List.findIdx_eq hj]
    refine ⟨hp, fun j hlt => ?_⟩
    have := hall j (by omega)
    rw [List.getD_eq_getElem?_getD, List.getElem?_eq_getElem (by omega)] at this
    exact this
  omega

theorem idxF_miss (p : Int → Bool) (l : List Int) (hall : ∀ j : Nat, j < l.length → p (l.getD j 0) = false) : idxF p l = -1 := by
  unfold idxF
  rw [if_neg]
  intro h
  obtain ⟨y, hy, hp⟩ := List.any_eq_true.mp h
  obtain ⟨j, hj, rfl⟩ := List.mem_iff_getElem.mp hy
  have := hall j hj
  rw [List.getD_eq_getElem?_getD, List.getElem?_eq_getElem hj] at this
  rw [show (some l[j]).getD 0 = l[j] from rfl, hp] at this
  exact Bool.noConfusion this

set_option maxHeartbeats 2000000 in
set_option maxRecDepth 100000 in
theorem indexFunc (g : Nat) (lb : Array Value) (p : Int → Bool) (eg : ∀ args w, (callFunc g args).run Try.prog w = .ok (.enter g args) w) (A0 : Option Addr) (c0 : Nat) (l0 : List Int) (w : World)
    (hr0 : Kd.C (Kd.int .i64) w A0 l0.length l0) (hc0 : l0.length ≤ c0) (hm : l0.length ≤ maxLen) (hp : Tells g lb p w) :
    Calls Try.prog 81 #[.slice A0 l0.length c0, .func (.func g) #[] lb] w fun e w' => e = .returned (.int .i64 (idxF p l0)) ∧ Drawn0 w w' := by
  have HR0 := Aside0.mk hr0
  have HC0 := Aside0.mk hc0
  have HM0 := Aside0.mk (show l0.length ≤ 9223372036854775807 by unfold maxLen at hm; omega)
  have HP := Aside0.mk hp
  clear hr0 hc0 hm hp
  go_enter Try.func81, Try.ntmps81
  go_wp2
  go_loopg [5, 8] l0.length (fun gg _ s8 wr => ∃ (x : Int) (q : Nat), s8 = .int .i64 x ∧ wr = w.drewN q ∧ Aside0 (0 ≤ x) ∧ Aside0 (x ≤ (l0.length : Int)) ∧ Aside0 ((l0.length : Int) - x ≤ (gg : Int)) ∧ Aside0 (∀ j : Nat, (j : Int) < x → p (l0.getD j 0) = false))
  case atStart => exact ⟨0, 0, rfl, rfl, ⟨by omega⟩, ⟨by omega⟩, ⟨by omega⟩, ⟨fun j hj => by omega⟩⟩
  case round =>
    obtain ⟨x, q, rfl, rfl, X0, X1, G, A⟩ := hrel
    by_cases hlt : x < (l0.length : Int)
    · have c0b : decide (x < (l0.length : Int)) = true := decide_eq_true hlt
      have p1 : 0 ≤ x := X0.out
      obtain ⟨ad, e1, hx1⟩ := Kd.at_int HR0.out x p1 hlt
      cases e1
      have HL := Aside0.mk hlt
      replace p1 := eq_true p1
      replace hlt := eq_true hlt
      have HCALL := Aside0.mk (fun q' => HP.out (w.drewN q') (rd l0 x) (pw_below_drewN (Below.refl _ w) q'))
      cases hq : p (rd l0 x) with
      | true =>
        have HQ := Aside0.mk hq
        rw [hq] at HCALL
        clear hq
        go_wp2_with (go_at_fn g; refine (HCALL.out _).mono ?_; rintro e w' ⟨rfl, ⟨nd, rfl⟩⟩)
        go_ret
        exact ⟨by rw [idxF_hit p l0 x X0.out HL.out HQ.out A.out]; rfl, ⟨⟨_, rfl⟩⟩⟩
      | false =>
        have HQ := Aside0.mk hq
        rw [hq] at HCALL
        clear hq
        have hw : wrap64 (x + 1) = x + 1 := by
          have := X0.out
          have := HL.out
          have := HM0.out
          unfold wrap64
          omega
        go_wp2_with (go_at_fn g; refine (HCALL.out _).mono ?_; rintro e w' ⟨rfl, ⟨nd, rfl⟩⟩)
        go_roundg (l0.length - (x + 1).toNat)
        case measure =>
          have := X0.out
          have := HL.out
          have := G.out
          omega
        case rel =>
          have h0 := X0.out
          have h1 := HL.out
          refine ⟨x + 1, _, by first | rfl | (simp [hw]; done), by first | rfl | exact World.drewN_drewN _ _ _, ⟨by omega⟩, ⟨by omega⟩, ⟨by omega⟩, ⟨fun j hj => ?_⟩⟩
          by_cases e : (j : Int) = x
          · have hq := HQ.out
            rw [← e] at hq
            unfold rd at hq
            rw [Int.toNat_natCast] at hq
            exact hq
          · exact A.out j (by omega)
    · have c0b : decide (x < (l0.length : Int)) = false := decide_eq_false hlt
      have HL := Aside0.mk hlt
      clear hlt
      go_wp2
      go_ret
      refine ⟨by rw [idxF_miss p l0 (fun j hj => A.out j (by have := HL.out; omega))]; rfl, ⟨⟨_, rfl⟩⟩⟩

set_option maxHeartbeats 2000000 in
theorem containsFunc (g : Nat) (lb : Array Value) (p : Int → Bool) (eg : ∀ args w, (callFunc g args).run Try.prog w = .ok (.enter g args) w) (A0 : Option Addr) (c0 : Nat) (l0 : List Int) (w : World)
    (hr0 : Kd.C (Kd.int .i64) w A0 l0.length l0) (hc0 : l0.length ≤ c0) (hm : l0.length ≤ maxLen) (hp : Tells g lb p w) :
    Calls Try.prog 68 #[.slice A0 l0.length c0, .func (.func g) #[] lb] w fun e w' => e = .returned (.bool (l0.any p)) ∧ Drawn0 w w' := by
  have HC := Aside0.mk (indexFunc g lb p eg A0 c0 l0 w hr0 hc0 hm hp)
  clear hr0 hc0 hm hp
  have hn := idxF_neg p l0
  generalize idxF p l0 = r at HC hn
  rw [← hn]
  clear hn
  go_enter Try.func68, Try.ntmps68
  go_wp2_with (go_at_call 81; refine HC.out.mono ?_; rintro e w' ⟨rfl, ⟨nd, rfl⟩⟩)
  go_ret
  exact ⟨rfl, ⟨⟨_, rfl⟩⟩⟩

set_option maxHeartbeats 2000000 in
/-- The literal inside areAll: 'not is(x)', is in a cell of its caller's. -/
theorem notIs (g : Nat) (lb : Array Value) (p : Int → Bool) (eg : ∀ args w, (callFunc g args).run Try.prog w = .ok (.enter g args) w) (B : Nat) (w : World) (hB : B < w.heap.size) (hb : w.cell? ⟨B, 0, none⟩ = some (.func (.func g) #[] lb)) (hp : Tells g lb p w) :
    Tells 69 #[.pointer (some ⟨B, 0, none⟩)] (fun x => !p x) w := fun W x hW => by
  have hc : W.cell? ⟨B, 0, none⟩ = some (.func (.func g) #[] lb) := (hW.cell (p := ⟨B, 0, none⟩) hB).trans hb
  have HCALL := Aside0.mk (hp W x hW)
  clear hp
  show Calls Try.prog 69 #[.int .i64 x, .pointer (some ⟨B, 0, none⟩)] W _
  go_enter Try.func69, Try.ntmps69
  go_wp2_with (go_at_fn g; refine HCALL.out.mono ?_; rintro e w' ⟨rfl, ⟨nd, rfl⟩⟩)
  go_ret
  exact ⟨rfl, ⟨⟨_, rfl⟩⟩⟩

set_option maxHeartbeats 2000000 in
theorem areAll (g : Nat) (lb : Array Value) (p : Int → Bool) (eg : ∀ args w, (callFunc g args).run Try.prog w = .ok (.enter g args) w) (A0 : Option Addr) (c0 : Nat) (l0 : List Int) (w : World)
    (hr0 : Kd.C (Kd.int .i64) w A0 l0.length l0) (hc0 : l0.length ≤ c0) (hm : l0.length ≤ maxLen) (hp : Tells g lb p w) :
    Calls Try.prog 60 #[.slice A0 l0.length c0, .func (.func g) #[] lb] w fun e w' => e = .returned (.bool (l0.all p)) ∧ Below w.heap.size w w' := by
  have el : ∀ args w, (callFunc 69 args).run Try.prog w = .ok (.enter 69 args) w := enters_of Try.func69 (by kernel_rfl) rfl
  have hB := below_alloc (Below.refl w.heap.size w) (.cells #[.func (.func g) #[] lb] 43)
  have hn := notIs g lb p eg w.heap.size (w.alloc (.cells #[.func (.func g) #[] lb] 43)) (by simp) (by simp) (fun W x hW => hp W x (hB.trans (hW.mono hB.size)))
  have HC := Aside0.mk (containsFunc 69 _ _ el A0 c0 l0 _ (Kd.C_alloc hr0 _) hc0 hm hn)
  clear hr0 hc0 hm hp hn hB
  have ha : l0.all p = !(l0.any fun x => !p x) := all_any p l0
  rw [ha]
  clear ha
  generalize (l0.any fun x => !p x) = r at HC
  go_enter Try.func60, Try.ntmps60
  go_wp2_with (go_at_call 68; refine HC.out.mono ?_; rintro e w' ⟨rfl, ⟨nd, rfl⟩⟩)
  go_ret
  exact ⟨rfl, pw_below_drewN (below_alloc (Below.refl _ _) _) _⟩

end Go.Proofs.Ytjfoaiabbmkdpaa.Fv
