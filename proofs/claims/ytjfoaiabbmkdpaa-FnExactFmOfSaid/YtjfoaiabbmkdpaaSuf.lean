import Derived.Test.YtjfoaiabbmkdpaaProg
import Derived.Below
import Derived.Deep.Draws
import Derived.Deep.AppendLies
import Derived.Maps.AppendAt
import Derived.OwnWalk
import Derived.Laws.BytesArg
import Derived.Laws.MakeOwn
import Derived.Laws.OwnMore
import Derived.Deep.OwnRows
import Derived.Tactics
import Derived.Lib.ConvBytes
import Derived.Laws.Slices
import Derived.WalkKit
import Derived.KernelRfl
import Derived.RowKit3
import Derived.Deep.LoopGhost
import Derived.Deep.QuietTactic
import Derived.BigQuiet
import Derived.WideLaws
import Derived.Deep.DeepCutAuto
import Derived.Deep.CutBlock
import Derived.Deep.RegionHeld3
import Derived.Laws.Rows
import Derived.Lib.AppendStr
import Derived.ArgAppend
import Derived.Laws.IdiomCopy
import Derived.OrdersHeld
import Derived.Laws.BitsLemmas
import Derived.RowKit
import Derived.Lib.BytesEntry
import Derived.Shelf.Abstract
import Derived.DataElems
import Derived.Test.YtjfoaiabbmkdpaaWWords
import Derived.Test.YtjfoaiabbmkdpaaWLast
import Derived.Test.YtjfoaiabbmkdpaaWTab
import Derived.Test.YtjfoaiabbmkdpaaWQPut
import Derived.Test.YtjfoaiabbmkdpaaWApart
import Derived.Test.YtjfoaiabbmkdpaaWArr
import Derived.Test.YtjfoaiabbmkdpaaWZeros
import Derived.Test.YtjfoaiabbmkdpaaWFoot
import Derived.Test.YtjfoaiabbmkdpaaWKept
import Derived.Test.YtjfoaiabbmkdpaaWShare
import Derived.Test.YtjfoaiabbmkdpaaWN
import Derived.Test.YtjfoaiabbmkdpaaWEqStruct
import Derived.Test.YtjfoaiabbmkdpaaWRepsOne
import Derived.Test.YtjfoaiabbmkdpaaWGuard
import Derived.Test.YtjfoaiabbmkdpaaWNEv
import Derived.Test.YtjfoaiabbmkdpaaWMore
import Derived.Test.YtjfoaiabbmkdpaaLays
-- import Lays
-- module Derived.Lib.BytesEntry
/- The suffixes of a text in order: bytes.Compare, the literal that compares, and slices.SortFunc behind it. -/
namespace Go.Proofs.Ytjfoaiabbmkdpaa.Fv
open Go.RowKit Go.Proofs.YtjfoaiabbmkdpaaW.PrintWords Go.Proofs.YtjfoaiabbmkdpaaW.PrintLast Go.Proofs.YtjfoaiabbmkdpaaW.PrintMore
set_option linter.unusedVariables false
set_option linter.unusedSimpArgs false

/-- How two rows of bytes compare. -/
def cmpB : List Int → List Int → Int
  | [], [] => 0
  | [], _ :: _ => -1
  | _ :: _, [] => 1
  | a :: s, b :: u => if a < b then -1 else if b < a then 1 else cmpB s u
def isB (x : Int) : Bool := decide (0 ≤ x ∧ x < 256)

theorem toU8_lt {x y : Int} (hx : 0 ≤ x ∧ x < 256) (hy : 0 ≤ y ∧ y < 256) : x.toNat.toUInt8 < y.toNat.toUInt8 ↔ x < y := by
  rw [UInt8.lt_iff_toNat_lt]
  simp only [Nat.toUInt8, UInt8.toNat_ofNat']
  rw [Nat.mod_eq_of_lt (by omega), Nat.mod_eq_of_lt (by omega)]
  omega

theorem cmpB_bytes : ∀ (xs ys : List Int), (∀ x ∈ xs, 0 ≤ x ∧ x < 256) → (∀ y ∈ ys, 0 ≤ y ∧ y < 256) → Lib.compareBytes (Lib.bytesOf xs) (Lib.bytesOf ys) = cmpB xs ys
  | [], [], _, _ => rfl
  | [], _ :: _, _, _ => rfl
  | _ :: _, [], _, _ => rfl
  | a :: s, b :: u, h1, h2 => by
    have ha := h1 a List.mem_cons_self
    have hb := h2 b List.mem_cons_self
    have ih := cmpB_bytes s u (fun x hx => h1 x (List.mem_cons_of_mem _ hx)) (fun x hx => h2 x (List.mem_cons_of_mem _ hx))
    simp only [Lib.bytesOf, List.map_cons, Lib.compareBytes, cmpB] at ih ⊢
    rw [ih]
    simp only [toU8_lt ha hb, toU8_lt hb ha]

theorem reads_bytes {w : World} {A : Option Addr} {l : List Int} {c : Nat} (h : Kd.C (Kd.int .u8) w A l.length l) :
    (Extern.Bytes.bytesOf (.slice A l.length c)).run Try.prog w = .ok ⟨(Lib.bytesOf l).toArray⟩ w := by
  rcases Nat.eq_zero_or_pos l.length with h0 | h0
  · obtain rfl := List.eq_nil_of_length_eq_zero h0
    cases A <;> rfl
  · obtain ⟨ad, rfl, hc⟩ := (Kd.reads_of_C (d := (0 : Int)) h).2.2 h0
    have hl := Lib.run_loadBytesX (P := Try.prog) w l ad .empty (fun j x hj => by
      have hjl := (List.getElem?_eq_some_iff.1 hj).1
      rw [hc j hjl, List.getD_eq_getElem?_getD, hj]
      rfl)
    rw [show (⟨ByteArray.empty.data ++ (Lib.bytesOf l).toArray⟩ : ByteArray) = ⟨(Lib.bytesOf l).toArray⟩ by
      apply ByteArray.ext
      show (#[] : Array UInt8) ++ (Lib.bytesOf l).toArray = _
      simp] at hl
    exact hl

theorem run_compareB {w : World} {A0 A1 : Option Addr} {l0 l1 : List Int} {c0 c1 : Nat} (h0 : Kd.C (Kd.int .u8) w A0 l0.length l0) (h1 : Kd.C (Kd.int .u8) w A1 l1.length l1)
    (b0 : ∀ x ∈ l0, 0 ≤ x ∧ x < 256) (b1 : ∀ x ∈ l1, 0 ≤ x ∧ x < 256) :
    (Extern.BytealgCompare.compare #[.slice A0 l0.length c0, .slice A1 l1.length c1]).run Try.prog w = .ok (.int .i64 (cmpB l0 l1)) w := by
  change Sem.run Try.prog (do pure (goInt (Extern.BytealgCompare.cmp (← Extern.Bytes.bytesOf (.slice A0 l0.length c0)) (← Extern.Bytes.bytesOf (.slice A1 l1.length c1))))) w = _
  simp only [Sem.run_bind, reads_bytes h0, reads_bytes h1, Result.andThen, Sem.run_pure, Lib.cmp_eq, cmpB_bytes l0 l1 b0 b1]
  rfl

set_option maxHeartbeats 2000000 in
/-- bytes.Compare -/
theorem bytesCompare (A0 A1 : Option Addr) (c0 c1 : Nat) (l0 l1 : List Int) (w : World) (hr0 : Kd.C (Kd.int .u8) w A0 l0.length l0) (hr1 : Kd.C (Kd.int .u8) w A1 l1.length l1)
    (b0 : ∀ x ∈ l0, 0 ≤ x ∧ x < 256) (b1 : ∀ x ∈ l1, 0 ≤ x ∧ x < 256) :
    Calls Try.prog 59 #[.slice A0 l0.length c0, .slice A1 l1.length c1] w fun e w' => e = .returned (.int .i64 (cmpB l0 l1)) ∧ Drawn0 w w' := by
  have hx : ∀ W, W = w → (callFunc 67 #[.slice A0 l0.length c0, .slice A1 l1.length c1]).run Try.prog W = .ok (.value (.int .i64 (cmpB l0 l1))) W := fun W hW => by
    subst hW
    rw [run_callFunc_extern Try.func67 (by kernel_rfl) (by kernel_rfl) (by kernel_rfl) (e := Extern.BytealgCompare.compare) (by kernel_rfl), run_compareB hr0 hr1 b0 b1]
    rfl
  clear hr0 hr1 b0 b1
  generalize cmpB l0 l1 = r at hx ⊢
  have hy := hx w rfl
  clear hx
  go_enter Try.func59, Try.ntmps59
  go_wp2
  go_ret
  exact ⟨rfl, Drawn0.refl _⟩

set_option maxHeartbeats 4000000 in
/-- The literal that suffixRows hands to slices.SortFunc. -/
theorem sufCmp (B : Nat) (A0 : Option Addr) (c0 : Nat) (l0 : List Int) (w : World) (i j : Nat) (hi : i ≤ l0.length) (hj : j ≤ l0.length)
    (hb : w.cell? ⟨B, 0, none⟩ = some (.slice A0 l0.length c0)) (hr : Kd.C (Kd.int .u8) w A0 l0.length l0) (hc : l0.length ≤ c0) (hw : ∀ x ∈ l0, 0 ≤ x ∧ x < 256) :
    Calls Try.prog 58 #[.int .i64 i, .int .i64 j, .pointer (some ⟨B, 0, none⟩)] w fun e w' => e = .returned (.int .i64 (cmpB (l0.drop i) (l0.drop j))) ∧ Drawn0 w w' := by
  have HCALL := Aside0.mk (fun (A A' : Option Addr) (m m' c c' : Nat) (W : World) (hA : A = if c0 = i then A0 else A0.map (·.add (i * 1))) (hA' : A' = if c0 = j then A0 else A0.map (·.add (j * 1))) (hm : m = (l0.drop i).length) (hm' : m' = (l0.drop j).length) (hW : Drawn0 w W) => (by
    subst hA hA' hm hm'
    exact bytesCompare _ _ c c' (l0.drop i) (l0.drop j) W
      (by obtain ⟨⟨q, rfl⟩⟩ := hW; exact Kd.C_drewN (Kd.C_drop hr hi hc) q) (by obtain ⟨⟨q, rfl⟩⟩ := hW; exact Kd.C_drewN (Kd.C_drop hr hj hc) q)
      (fun x hx => hw x (List.mem_of_mem_drop hx)) (fun x hx => hw x (List.mem_of_mem_drop hx)) :
    Calls Try.prog 59 #[.slice A m c, .slice A' m' c'] W fun e w' => e = .returned (.int .i64 (cmpB (l0.drop i) (l0.drop j))) ∧ Drawn0 W w'))
  clear hr hw
  generalize cmpB (l0.drop i) (l0.drop j) = r at HCALL ⊢
  simp only [List.length_drop] at HCALL
  generalize l0.length = n at *
  clear l0
  have p1 : ((i : Int) ≤ (n : Int)) = True := eq_true (by omega)
  have p2 : ((j : Int) ≤ (n : Int)) = True := eq_true (by omega)
  have p3 : (i ≤ n) = True := eq_true hi
  have p4 : (j ≤ n) = True := eq_true hj
  have p5 : (n ≤ c0) = True := eq_true hc
  have pick : ∀ (b1 b2 : Bool), decide (c0 = i) = b1 → decide (c0 = j) = b2 → Calls Try.prog 58 #[.int .i64 i, .int .i64 j, .pointer (some ⟨B, 0, none⟩)] w fun e w' => e = .returned (.int .i64 r) ∧ Drawn0 w w' := by
    intro b1 b2 e1 e2
    cases b1 <;> cases b2
    all_goals
      simp only [decide_eq_true_eq, decide_eq_false_iff_not] at e1 e2
      have f1 := Aside0.mk e1
      have f2 := Aside0.mk e2
      go_enter Try.func58, Try.ntmps58
      go_wp2
      go_region_with ((first | go_at_call 59 | go_at_fn 59); refine (HCALL.out _ _ _ _ _ _ _ (by have h1 := f1.out; have h2 := f2.out; simp only [Nat.mul_one]; split <;> first | rfl | (exfalso; omega)) (by have h1 := f1.out; have h2 := f2.out; simp only [Nat.mul_one]; split <;> first | rfl | (exfalso; omega)) (by first | rfl | (simp; done)) (by first | rfl | (simp; done)) ⟨⟨1, rfl⟩⟩).mono ?_; rintro e w' ⟨rfl, hd⟩; obtain ⟨⟨nd, rfl⟩⟩ := hd)
      all_goals
        go_wp2
        go_ret
        exact ⟨rfl, by repeat (first | exact Drawn0.refl _ | apply Drawn0.step)⟩
  exact pick _ _ rfl rfl

/-! ### A row of one's own behind a sort -/
open Go.Sort in
theorem own_put {W : World} {base : Nat} {e : TypeId} {size n c g : Nat} {xs : List Value} (h : W.ownsRow base e size (.slice (some ⟨g, 0, none⟩) n c) n xs) (m : Nat) (F : Array Value) (hF : F.size = n * size) (os : Array Obj) :
    (grow (putRow id (Sort.ahead W m) g 0 F) os).ownsRow base e size (.slice (some ⟨g, 0, none⟩) n c) n F.toList ∧ W.grownBy (grow (putRow id (Sort.ahead W m) g 0 F) os) (some g) := by
  rcases h.2 with ⟨he, _⟩ | ⟨g', cap, cur, he, hb, hh, hnc, hcm, hcs, ht⟩
  · cases he
  injection he with he1 he2 he3
  injection he1 with he1
  injection he1 with he1
  subst he1; subst he3
  have hlt : g < W.heap.size := (Array.getElem?_eq_some_iff.1 hh).1
  have hnc' : n * size ≤ c * size := Nat.mul_le_mul_right _ hnc
  have hrow : (grow (putRow id (Sort.ahead W m) g 0 F) os).heap[g]? = some (.cells (putCells id 0 F cur) e (0, 0)) := by
    show ((W.heap.modify g (onCells (putCells id 0 F))) ++ os)[g]? = _
    rw [Array.getElem?_append, if_pos (by simpa using hlt), Array.getElem?_modify, if_pos rfl, hh]
    rfl
  refine ⟨⟨by rw [Array.length_toList, hF], .inr ⟨g, c, putCells id 0 F cur, rfl, hb, hrow, hnc, hcm, by unfold putCells; rw [Array.size_mapIdx, hcs], ?_⟩⟩, ⟨rfl, rfl, rfl, ?_, ?_⟩⟩
  · apply List.ext_getElem?
    intro k
    rw [List.getElem?_take]
    by_cases hk : k < n * size
    · rw [if_pos hk]
      show (putCells id 0 F cur).toList[k]? = F.toList[k]?
      rw [Array.getElem?_toList, Array.getElem?_toList]
      unfold putCells
      rw [Array.getElem?_mapIdx, Array.getElem?_eq_getElem (by omega), Array.getElem?_eq_getElem (show k < F.size by omega), Option.map_some, if_pos ⟨Nat.zero_le _, by omega⟩, getElem!_pos F (k - 0) (by omega)]
      try rfl
    · rw [if_neg hk, List.getElem?_eq_none (by rw [Array.length_toList]; omega)]
  · show W.heap.size ≤ ((W.heap.modify g (onCells (putCells id 0 F))) ++ os).size
    simp
  · intro k hk hne
    show ((W.heap.modify g (onCells (putCells id 0 F))) ++ os)[k]? = _
    rw [Array.getElem?_append, if_pos (by simpa using hk), Array.getElem?_modify, if_neg (fun e => hne (by rw [e]))]
open Go.Sort in
theorem putRow_enc {α : Type} [Inhabited α] (enc : α → Value) (W : World) (g off : Nat) (d : Array α) : putRow enc W g off d = putRow id W g off (d.map enc) := by
  unfold putRow
  congr 1
  funext c
  unfold putCells
  congr 1
  funext k x
  rw [Array.size_map]
  split
  · rename_i hk
    rw [getElem!_pos d _ (by omega), getElem!_pos (d.map enc) _ (by rw [Array.size_map]; omega), Array.getElem_map]
    rfl
  · rfl
theorem kept_of_grown {w w' : World} {g : Nat} {P : Nat → Prop} (h : w.grownBy w' (some g)) (hg : P g) : Kept w w' (fun k => P k) :=
  ⟨h.size, fun i hi hn => h.block i hi (fun e => hn (by injection e with e; rw [e]; exact hg))⟩

/-! ### slices.SortFunc at the literal -/
def sufLe (l : List Int) (i j : Int) : Bool := !decide (cmpB (l.drop j.toNat) (l.drop i.toNat) < 0)
theorem cmpB_self : ∀ l : List Int, cmpB l l = 0
  | [] => rfl
  | a :: s => by simp [cmpB, cmpB_self s]
theorem cmpB_anti : ∀ a b : List Int, cmpB a b = - cmpB b a
  | [], [] => rfl
  | [], _ :: _ => rfl
  | _ :: _, [] => rfl
  | a :: s, b :: u => by
    simp only [cmpB]
    rw [cmpB_anti s u]
    by_cases h1 : a < b
    · have h2 : ¬ b < a := by omega
      simp [h1, h2]
    · by_cases h2 : b < a <;> simp [h1, h2]
theorem cmpB_zero : ∀ a b : List Int, cmpB a b = 0 → a = b
  | [], [], _ => rfl
  | [], _ :: _, h => by simp [cmpB] at h
  | _ :: _, [], h => by simp [cmpB] at h
  | a :: s, b :: u, h => by
    simp only [cmpB] at h
    by_cases h1 : a < b
    · simp [h1] at h
    · by_cases h2 : b < a
      · simp [h1, h2] at h
      · simp only [h1, h2, if_false] at h
        rw [cmpB_zero s u h, show a = b by omega]
theorem cmpB_trans : ∀ a b c : List Int, cmpB a b < 0 → cmpB b c < 0 → cmpB a c < 0
  | [], [], _, h, _ => by simp [cmpB] at h
  | [], _ :: _, [], _, h => by simp [cmpB] at h
  | [], _ :: _, _ :: _, _, _ => by simp [cmpB]
  | _ :: _, [], _, h, _ => by simp [cmpB] at h
  | _ :: _, _ :: _, [], _, h => by simp [cmpB] at h
  | a :: s, b :: u, c :: v, h1, h2 => by
    simp only [cmpB] at h1 h2 ⊢
    by_cases p1 : a < b
    · by_cases p2 : b < c
      · rw [if_pos (by omega)]; decide
      · by_cases p3 : c < b
        · rw [if_neg p2, if_pos p3] at h2; simp at h2
        · rw [if_pos (by omega)]; decide
    · by_cases p1' : b < a
      · rw [if_neg p1, if_pos p1'] at h1; simp at h1
      · rw [if_neg p1, if_neg p1'] at h1
        by_cases p2 : b < c
        · rw [if_pos (by omega)]; decide
        · by_cases p3 : c < b
          · rw [if_neg p2, if_pos p3] at h2; simp at h2
          · rw [if_neg p2, if_neg p3] at h2
            rw [if_neg (by omega), if_neg (by omega)]
            exact cmpB_trans s u v h1 h2
theorem cmpB_swo {α : Type} (f : α → List Int) : Go.Sort.SWO (ltOf fun x y : α => cmpB (f x) (f y)) where
  irrefl x := by show decide (cmpB (f x) (f x) < 0) = false; rw [cmpB_self]; rfl
  trans x y z h1 h2 := by
    have h1 : decide (cmpB (f x) (f y) < 0) = true := h1
    have h2 : decide (cmpB (f y) (f z) < 0) = true := h2
    show decide (cmpB (f x) (f z) < 0) = true
    rw [decide_eq_true_eq] at *
    exact cmpB_trans _ _ _ h1 h2
  ntrans x y z h1 h2 := by
    have h1 : decide (cmpB (f x) (f y) < 0) = false := h1
    have h2 : decide (cmpB (f y) (f z) < 0) = false := h2
    show decide (cmpB (f x) (f z) < 0) = false
    rw [decide_eq_false_iff_not] at *
    intro h
    rcases Int.lt_trichotomy (cmpB (f x) (f y)) 0 with a | a | a
    · exact h1 a
    · rw [cmpB_zero _ _ a] at h; exact h2 h
    · have a' : cmpB (f y) (f x) < 0 := by rw [cmpB_anti]; omega
      exact h2 (cmpB_trans _ _ _ a' h)

open Go.Sort in
set_option maxHeartbeats 4000000 in
/-- slices.SortFunc at the literal that compares suffixes: the row holds them in order. -/
theorem sortSuf {g : Nat} (P0 : Nat → Prop) (u : Value) (l0 : List Int) (A1 : Option Addr) (c1 : Nat) (l1 : List Int) (w0 w : World) (hB : Below w0.heap.size w0 w) (ho : Kd.R (Kd.int .i64) 3 w w0.heap.size P0 u l0)
    (hr : ∀ W', Kept w W' (fun k => P0 k) → Kd.C (Kd.int .u8) W' A1 l1.length l1) (hc : l1.length ≤ c1) (hb : w.heap[g]? = some (.cells #[.slice A1 l1.length c1] 22 (0, 0)))
    (hw : ∀ x ∈ l1, 0 ≤ x ∧ x < 256) (hl : ∀ x ∈ l0, 0 ≤ x ∧ x ≤ (l1.length : Int)) (hs : l0.length < 4611686018427387904) :
    Calls Try.prog 57 #[u, .func (.func 58) #[] #[.pointer (some ⟨g, 0, none⟩)]] w fun e w' => e = .returned (.tuple #[]) ∧ Kd.R (Kd.int .i64) 3 w' w0.heap.size (fun k => (P0 k ∨ w.heap.size ≤ k)) u (l0.mergeSort (sufLe l1)) ∧ Below w0.heap.size w0 w' ∧ Kept w w' (fun k => P0 k) := by
  have hown := Kd.own_of_R ho
  rcases hown.2 with ⟨he, h0⟩ | ⟨b, cap, cur, rfl, hbb, hh, hnc, hcm, hcs, ht⟩
  · obtain rfl := List.eq_nil_of_length_eq_zero h0
    subst he
    refine (AnyF.slices_SortFunc_none (P := Try.prog) (ρ := Lay.sortInt_ren) { Lay.sortInt with } none 0 _ w).mono ?_
    rintro e w' ⟨rfl, rfl⟩
    exact ⟨rfl, by rw [List.mergeSort_nil]; exact Kd.R_mono ho (fun k hk => .inl hk), hB, Kept.refl _ _⟩
  · have hP : P0 b := ho.1 b (by simp [Value.ownBlock])
    have hlt : b < w.heap.size := (Array.getElem?_eq_some_iff.1 hh).1
    have hgb : g ≠ b := by
      rintro rfl
      rw [hh] at hb
      injection hb with hb
      injection hb with _ hb
      exact absurd hb (by decide)
    have hglt : g < w.heap.size := (Array.getElem?_eq_some_iff.1 hb).1
    let dl : List (Fin (l1.length + 1)) := l0.attach.map fun x => ⟨x.1.toNat, by have := hl x.1 x.2; omega⟩
    let enc : Fin (l1.length + 1) → Value := fun x => .int .i64 (x.val : Int)
    let cf : Fin (l1.length + 1) → Fin (l1.length + 1) → Int := fun x y => cmpB (l1.drop x.val) (l1.drop y.val)
    have hdl : dl.length = l0.length := by simp [dl]
    have hde : dl.map (fun x => (x.val : Int)) = l0 := by
      simp only [dl, List.map_map]
      refine Eq.trans (List.map_congr_left (g := fun x => x.1) fun x _ => ?_) (List.attach_map_subtype_val l0)
      have := hl x.1 x.2
      show ((x.1.toNat : Nat) : Int) = x.1
      omega
    have hH : Holds enc w b 0 dl.toArray := by
      intro j hj
      have hj' : j < l0.length := by rw [List.size_toArray, hdl] at hj; exact hj
      obtain ⟨ad, e, hcell⟩ := (Kd.reads_of_C (d := (0 : Int)) (Kd.R_reads' ho).2.2).2.2 (by omega)
      injection e with e
      subst e
      have hce := hcell j hj'
      rw [add_at, Nat.zero_add] at hce
      refine ⟨?_, blk_frozen hh _⟩
      rw [Nat.zero_add, hce]
      show some (Value.int .i64 (l0.getD j 0)) = some (Value.int .i64 ((dl.toArray[j]!).val : Int))
      rw [getElem!_pos _ j hj]
      congr 2
      rw [List.getElem_toArray]
      conv => lhs; rw [← hde]
      rw [List.getD_eq_getElem?_getD, List.getElem?_map, List.getElem?_eq_getElem (by omega)]
      rfl
    have hgrown : ∀ (m : Nat) (os : Array Obj) (dk : Array (Fin (l1.length + 1))), dk.size = dl.toArray.size → (sortWorld enc w b 0 m dk os).ownsRow w0.heap.size 3 1 (.slice (some ⟨b, 0, none⟩) l0.length cap) l0.length (dk.map enc).toList ∧ w.grownBy (sortWorld enc w b 0 m dk os) (some b) := by
      intro m os dk hdk
      unfold sortWorld
      rw [putRow_enc]
      exact own_put hown m (dk.map enc) (by rw [Array.size_map, hdk, List.size_toArray, hdl, Nat.mul_one]) os
    have hcmp : CmpLays1 Try.prog 58 #[.pointer (some ⟨g, 0, none⟩)] enc cf b 0 dl.toArray.size w := by
      intro m os dk hdk x y
      obtain ⟨_, hg⟩ := hgrown m os dk hdk
      have hcell : (sortWorld enc w b 0 m dk os).cell? ⟨g, 0, none⟩ = some (.slice A1 l1.length c1) :=
        (World.cell?_of_block (a := ⟨g, 0, none⟩) (hg.block g hglt (fun e => hgb (by injection e)))).trans ((blk_cell hb 0).trans rfl)
      refine (sufCmp g A1 c1 l1 _ x.val y.val (by omega) (by omega) hcell (hr _ (kept_of_grown hg hP)) hc hw).mono ?_
      rintro e w' ⟨rfl, ⟨⟨q, rfl⟩⟩⟩
      exact ⟨rfl, q, #[], by rw [grow_empty]⟩
    have hT : ∀ x y, (ltOf cf) x y = false → (ltOf cf) y x = false → x = y := by
      intro x y h1 h2
      have h1 := of_decide_eq_false h1
      have h2 := of_decide_eq_false h2
      have h3 := cmpB_anti (l1.drop x.val) (l1.drop y.val)
      have h0 : cmpB (l1.drop x.val) (l1.drop y.val) = 0 := by
        have h1 : ¬ cmpB (l1.drop x.val) (l1.drop y.val) < 0 := h1
        have h2 : ¬ cmpB (l1.drop y.val) (l1.drop x.val) < 0 := h2
        omega
      have hlen := congrArg List.length (cmpB_zero _ _ h0)
      rw [List.length_drop, List.length_drop] at hlen
      have := x.2
      have := y.2
      exact Fin.ext (by omega)
    have eg : ∀ args w, (callFunc 58 args).run Try.prog w = .ok (.enter 58 args) w := enters_of Try.func58 (by kernel_rfl) rfl
    have hS := Any.slices_SortFunc_total Lay.sortInt enc (fun _ => rfl) cf (cmpB_swo fun x : Fin (l1.length + 1) => l1.drop x.val) 58 #[.pointer (some ⟨g, 0, none⟩)] b 0 cap dl.toArray w eg hcmp hH hlt (by rw [List.size_toArray, hdl]; exact hs) hT
    rw [List.size_toArray, hdl] at hS
    refine hS.mono ?_
    rintro e w' ⟨rfl, n, os, rfl⟩
    obtain ⟨ho', hg⟩ := hgrown n os (dl.mergeSort fun x y => !(ltOf cf) y x).toArray (by simp)
    have hres : ((dl.mergeSort fun x y => !(ltOf cf) y x).toArray.map enc).toList = encs (Value.int .i64) (l0.mergeSort (sufLe l1)) := by
      have hms := List.map_mergeSort (r := fun x y => !(ltOf cf) y x) (s := sufLe l1) (f := fun x : Fin (l1.length + 1) => (x.val : Int)) (l := dl) (fun x _ y _ => by
        simp only [sufLe, Int.toNat_natCast]
        rfl)
      rw [hde] at hms
      rw [← hms]
      simp [encs, enc, List.map_map, Function.comp_def]
    refine ⟨rfl, ?_, hB.grown hg hB.size (fun k e => by injection e with e; omega), kept_of_grown hg hP⟩
    refine Kd.R_of_own ?_ (fun k hk => .inl (ho.1 k hk))
    rw [← hres, List.length_mergeSort]
    exact ho'
end Go.Proofs.Ytjfoaiabbmkdpaa.Fv
