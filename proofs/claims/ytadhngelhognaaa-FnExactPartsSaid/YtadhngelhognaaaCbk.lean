/- Words that the walks use. -/
import Derived.Test.YtadhngelhognaaaProg
import Derived.Below
import Derived.Deep.Draws
import Derived.Deep.AppendLies
import Derived.Maps.AppendAt
import Derived.OwnWalk
import Derived.Laws.BytesArg
import Derived.Laws.MakeOwn
import Derived.Laws.OwnMore
import Derived.Deep.OwnRows
import Derived.Tactics
import Derived.Lib.ConvBytes
import Derived.Laws.Slices
import Derived.WalkKit
import Derived.KernelRfl
import Derived.RowKit3
import Derived.Deep.LoopGhost
import Derived.Deep.QuietTactic
import Derived.BigQuiet
import Derived.WideLaws
import Derived.Deep.DeepCutAuto
import Derived.Deep.CutBlock
import Derived.Deep.RegionHeld3
import Derived.Laws.Rows
import Derived.Lib.AppendStr
import Derived.ArgAppend
import Derived.Laws.IdiomCopy
import Derived.OrdersHeld
import Derived.Laws.BitsLemmas
import Derived.RowKit
import Derived.Lib.ConvBytes
import Derived.OwnWalk
import Derived.RangeFuncBox
import Derived.Shelf.Abstract
import Derived.DataElems
import Derived.Test.YtadhngelhognaaaWWords
import Derived.Test.YtadhngelhognaaaWLast
import Derived.Test.YtadhngelhognaaaWTab
import Derived.Test.YtadhngelhognaaaWFour
import Derived.Test.YtadhngelhognaaaWQPut
import Derived.Test.YtadhngelhognaaaWApart
import Derived.Test.YtadhngelhognaaaWArr
import Derived.Test.YtadhngelhognaaaWZeros
import Derived.Test.YtadhngelhognaaaWFoot
import Derived.Test.YtadhngelhognaaaWKept
import Derived.Test.YtadhngelhognaaaWShare
import Derived.Test.YtadhngelhognaaaWN
import Derived.Test.YtadhngelhognaaaWFootNe
import Derived.Test.YtadhngelhognaaaWAt
import Derived.Test.YtadhngelhognaaaWEqStruct
import Derived.Test.YtadhngelhognaaaWRepsOne
import Derived.Test.YtadhngelhognaaaWInv
import Derived.Test.YtadhngelhognaaaWInvWords
import Derived.Test.YtadhngelhognaaaWGuard
import Derived.Test.YtadhngelhognaaaWNEv
import Derived.Test.YtadhngelhognaaaWMore
namespace Go.Proofs.Ytadhngelhognaaa.Cbk
open Go.RowKit Go.Proofs.YtadhngelhognaaaW.PrintWords
theorem grown_cell (W : World) (b i : Nat) (v : Value) : W.grownBy (W.setCell ⟨b, i, none⟩ v) (some b) :=
  ⟨rfl, rfl, rfl, Nat.le_of_eq (by show W.heap.size = (W.heap.modify b _).size; rw [Array.size_modify]), fun k _ hk => Below.heap_setCell _ _ _ k (fun e => hk (by rw [e]))⟩
def OwnF (w : World) (base : Nat) (ok : Nat → Prop) (v : Value) (xs : List Int) : Prop :=
  (v = .slice none 0 0 ∧ xs = []) ∨ ∃ (g cap : Nat) (cur : Array Value) (fz : Nat × Nat), v = .slice (some ⟨g, 0, none⟩) xs.length cap ∧ base ≤ g ∧ ok g ∧ w.heap[g]? = some (.cells cur 5 fz) ∧ xs.length ≤ fz.1 ∧ xs.length ≤ cap ∧ xs.length ≤ 9223372036854775807 ∧ xs.length ≤ cur.size ∧ ∀ j, j < xs.length → cur[j]? = some (.int .u8 (xs.getD j 0))
section
variable {w w1 : World} {base base' : Nat} {ok ok' : Nat → Prop} {v : Value} {xs : List Int}
theorem own_mono (h : OwnF w base ok v xs) (hk : ∀ k, ok k → ok' k) : OwnF w base ok' v xs := by
  rcases h with h | ⟨g, cap, cur, fz, h1, h2, h3, h4⟩
  · exact .inl h
  · exact .inr ⟨g, cap, cur, fz, h1, h2, hk _ h3, h4⟩
theorem own_move (h : OwnF w base ok v xs) (hm : ∀ k, ok k → w1.heap[k]? = w.heap[k]?) : OwnF w1 base ok v xs := by
  rcases h with h | ⟨g, cap, cur, fz, h1, h2, h3, h4, h5⟩
  · exact .inl h
  · exact .inr ⟨g, cap, cur, fz, h1, h2, h3, (hm g h3).trans h4, h5⟩
theorem own_lower (hb : base' ≤ base) (h : OwnF w base ok v xs) : OwnF w base' ok v xs := by
  rcases h with h | ⟨g, cap, cur, fz, h1, h2, h3⟩
  · exact .inl h
  · exact .inr ⟨g, cap, cur, fz, h1, Nat.le_trans hb h2, h3⟩
theorem own_bound (h : OwnF w base ok v xs) : OwnF w base (fun k => ok k ∧ base ≤ k ∧ k < w.heap.size ∧ ∃ q, q ∈ [5] ∧ ∃ cells : Array Value × (Nat × Nat), w.heap[k]? = some (.cells cells.1 q cells.2)) v xs := by
  rcases h with h | ⟨g, cap, cur, fz, h1, h2, h3, h4, h5⟩
  · exact .inl h
  · exact .inr ⟨g, cap, cur, fz, h1, h2, ⟨h3, h2, (Array.getElem?_eq_some_iff.1 h4).1, 5, List.mem_cons_self, (cur, fz), h4⟩, h4, h5⟩
theorem own_reads (h : OwnF w base ok v xs) : ∃ A c, v = .slice A xs.length c ∧ xs.length ≤ c ∧ (Kd.int .u8).C w A xs.length xs := by
  rcases h with ⟨rfl, rfl⟩ | ⟨g, cap, cur, fz, h1, h2, h3, h4, h5, h6, h7, h8, h9⟩
  · exact ⟨none, 0, rfl, Nat.le_refl _, Kd.C_of_reads (enc := Value.int .u8) (d := (0 : Int)) (readsInt_of.1 ⟨rfl, Nat.zero_le _, fun hn => absurd hn (by simp)⟩)⟩
  · refine ⟨_, cap, h1, h6, Kd.C_of_reads (enc := Value.int .u8) (d := (0 : Int)) (readsInt_of.1 ⟨rfl, h7, fun _ => ⟨_, rfl, fun j hj => ?_⟩⟩)⟩
    rw [add_plain]
    simp only [World.cell?, h4]
    exact h9 j hj
theorem own_slice (h : OwnF w base ok v xs) : ∃ A c, v = .slice A xs.length c := by
  obtain ⟨A, c, e, _⟩ := own_reads h
  exact ⟨A, c, e⟩
theorem own_form (h : OwnF w base ok v xs) (hp : 0 < xs.length) : ∃ g cap, v = .slice (some ⟨g, 0, none⟩) xs.length cap ∧ base ≤ g ∧ ok g ∧ g < w.heap.size := by
  rcases h with ⟨_, rfl⟩ | ⟨g, cap, cur, fz, h1, h2, h3, h4, _⟩
  · simp at hp
  · exact ⟨g, cap, h1, h2, h3, (Array.getElem?_eq_some_iff.1 h4).1⟩
theorem own_cell {g n cap : Nat} (h : OwnF w base ok (.slice (some ⟨g, 0, none⟩) n cap) xs) (i : Int) (h0 : 0 ≤ i) (h1 : i < (xs.length : Int)) : w.cell? ⟨g, i.toNat, none⟩ = some (.int .u8 (xs.getD i.toNat 0)) ∧ w.frozen? ⟨g, i.toNat, none⟩ = false := by
  rcases h with ⟨e, _⟩ | ⟨g', cap', cur, fz, e, _, _, h4, h5, _, _, _, h9⟩
  · cases e
  · injection e with e1 e2 e3
    injection e1 with e1
    injection e1 with e1
    subst e1
    refine ⟨?_, ?_⟩
    · simp only [World.cell?, h4]
      exact h9 _ (by omega)
    · obtain ⟨lo, hi⟩ := fz
      simp only [World.frozen?, h4]
      have h5' : xs.length ≤ lo := h5
      simp only [Bool.and_eq_false_iff, decide_eq_false_iff_not]
      exact .inl (by omega)
theorem own_put {g n cap : Nat} (h : OwnF w base ok (.slice (some ⟨g, 0, none⟩) n cap) xs) (i : Int) (u : Int) : OwnF (w.setCell ⟨g, i.toNat, none⟩ (.int .u8 u)) base ok (.slice (some ⟨g, 0, none⟩) n cap) (xs.set i.toNat u) ∧ w.grownBy (w.setCell ⟨g, i.toNat, none⟩ (.int .u8 u)) (some g) := by
  refine ⟨?_, grown_cell w g i.toNat _⟩
  rcases h with ⟨e, _⟩ | ⟨g', cap', cur, fz, e, h2, h3, h4, h5, h6, h7, h8, h9⟩
  · cases e
  · injection e with e1 e2 e3
    injection e1 with e1
    injection e1 with e1
    subst e1 e2 e3
    refine .inr ⟨g, cap, cur.setIfInBounds i.toNat (.int .u8 u), fz, by rw [List.length_set], h2, h3, ?_, by rw [List.length_set]; exact h5, by rw [List.length_set]; exact h6, by rw [List.length_set]; exact h7, by rw [List.length_set, Array.size_setIfInBounds]; exact h8, fun j hj => ?_⟩
    · simp only [World.setCell, Array.getElem?_modify, h4]
      simp
    · rw [List.length_set] at hj
      rw [Array.getElem?_setIfInBounds, List.getD_eq_getElem?_getD, List.getElem?_set]
      by_cases c : i.toNat = j
      · subst c
        simp [hj, show i.toNat < cur.size by omega]
      · rw [if_neg c, if_neg c, ← List.getD_eq_getElem?_getD]
        exact h9 j hj
theorem own_conv {W0 W : World} (s : ByteArray) (hs : s.size ≤ 1048576) (hW : W.heap[W0.heap.size]? = (Lib.bytesWorld W0 5 s).heap[W0.heap.size]?) (hb : base ≤ W0.heap.size) (hc : s.size ≤ grownCap W0 s.size 0 5) :
    OwnF W base (fun k => k = W0.heap.size) (.slice (some ⟨W0.heap.size, 0, none⟩) s.size (grownCap W0 s.size 0 5)) (bytesOf s) := by
  rw [Lib.bytesWorld_at_new] at hW
  have hl : s.size ≤ (Lib.bytesCells W0 5 s).size := by simp [Lib.bytesCells]
  have hr := bytes_reads W0 5 s (by omega)
  refine .inr ⟨_, _, _, _, by rw [bytesOf_length], hb, rfl, hW, by rw [bytesOf_length]; exact hl, by rw [bytesOf_length]; exact hc, by rw [bytesOf_length]; omega, by rw [bytesOf_length]; exact hl, fun j hj => ?_⟩
  rw [bytesOf_length] at hj
  obtain ⟨ad, e, hcell⟩ := hr.2.2 (by omega)
  injection e with e
  subst e
  have := hcell j hj
  rw [add_plain] at this
  simp only [World.cell?, Lib.bytesWorld_at_new] at this
  exact this
end
def cv : Kd (List Int) where
  sz := 1
  E := [5]
  K := (Kd.slice 5 (Kd.int .u8)).K
  M := fun w base ok xs cs => ∃ v, cs = [v] ∧ OwnF w base ok v xs
  K_len := (Kd.slice 5 (Kd.int .u8)).K_len
  K_one := (Kd.slice 5 (Kd.int .u8)).K_one
  K_below := (Kd.slice 5 (Kd.int .u8)).K_below
  K_of_M := by
    rintro w base ok x cs ⟨v, rfl, h⟩
    obtain ⟨A, c, rfl, hl, hr⟩ := own_reads h
    exact ⟨A, c, rfl, hl, hr⟩
  M_mono := by
    rintro w base ok ok' x cs hok ⟨v, rfl, h⟩
    exact ⟨v, rfl, own_mono h hok⟩
  M_bound := by
    rintro w base ok x cs ⟨v, rfl, h⟩
    exact ⟨v, rfl, own_bound h⟩
  M_move := by
    rintro w w1 base ok x cs hm ⟨v, rfl, h⟩
    exact ⟨v, rfl, own_move h hm⟩
  M_lower := by
    rintro w base base' ok x cs hb ⟨v, rfl, h⟩
    exact ⟨v, rfl, own_lower hb h⟩
end Go.Proofs.Ytadhngelhognaaa.Cbk
