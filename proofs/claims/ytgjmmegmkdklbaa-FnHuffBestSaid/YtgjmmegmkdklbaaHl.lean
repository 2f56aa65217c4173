import Derived.Test.YtgjmmegmkdklbaaProg
import Derived.Below
import Derived.Deep.Draws
import Derived.Deep.AppendLies
import Derived.Maps.AppendAt
import Derived.OwnWalk
import Derived.Laws.BytesArg
import Derived.Laws.MakeOwn
import Derived.Laws.OwnMore
import Derived.Deep.OwnRows
import Derived.Tactics
import Derived.Lib.ConvBytes
import Derived.Laws.Slices
import Derived.WalkKit
import Derived.KernelRfl
import Derived.RowKit3
import Derived.Deep.LoopGhost
import Derived.Deep.QuietTactic
import Derived.BigQuiet
import Derived.WideLaws
import Derived.Deep.DeepCutAuto
import Derived.Deep.CutBlock
import Derived.Deep.RegionHeld3
import Derived.Laws.Rows
import Derived.Lib.AppendStr
import Derived.ArgAppend
import Derived.Laws.IdiomCopy
import Derived.OrdersHeld
import Derived.Laws.BitsLemmas
import Derived.RowKit
import Derived.Shelf.Abstract
import Derived.DataElems
import Derived.Test.YtgjmmegmkdklbaaWWords
import Derived.Test.YtgjmmegmkdklbaaWLast
import Derived.Test.YtgjmmegmkdklbaaWTab
import Derived.Test.YtgjmmegmkdklbaaWQPut
import Derived.Test.YtgjmmegmkdklbaaWApart
import Derived.Test.YtgjmmegmkdklbaaWArr
import Derived.Test.YtgjmmegmkdklbaaWZeros
import Derived.Test.YtgjmmegmkdklbaaWFoot
import Derived.Test.YtgjmmegmkdklbaaWKept
import Derived.Test.YtgjmmegmkdklbaaWShare
import Derived.Test.YtgjmmegmkdklbaaWN
import Derived.Test.YtgjmmegmkdklbaaWRepsOne
import Derived.Test.YtgjmmegmkdklbaaWGuard
import Derived.Test.YtgjmmegmkdklbaaWNEv
import Derived.Test.YtgjmmegmkdklbaaWMore
import Derived.Test.YtgjmmegmkdklbaaTre
import Derived.Test.YtgjmmegmkdklbaaBest
-- import Tre
-- import Best
/- impl.HuffLens, by hand: what ties the cells of a forest to math/Best's. -/
namespace Go.Proofs.Ytgjmmegmkdklbaa.Hl
open Go.RowKit Go.Lib Go.Proofs.Ytgjmmegmkdklbaa.Tre Go.Proofs.Ytgjmmegmkdklbaa.Best Go.Proofs.YtgjmmegmkdklbaaW.PrintWords Go.Proofs.YtgjmmegmkdklbaaW.PrintLast Go.Proofs.YtgjmmegmkdklbaaW.PrintMore
set_option linter.unusedVariables false
/-- A tree's cells and its symbols. -/
abbrev LT := T4 × List Int
abbrev zL : LT := (z4, [])
def trs (L : List LT) : List Tr := L.map fun p => (p.1.1, p.2)
def fs (L : List LT) : List T4 := L.map Prod.fst
theorem trs_len (L : List LT) : (trs L).length = L.length := List.length_map ..
theorem fs_len (L : List LT) : (fs L).length = L.length := List.length_map ..
theorem fs_get (L : List LT) (j : Nat) (h : j < L.length) : (fs L).getD j z4 = (L.getD j zL).1 := by
  unfold fs
  rw [List.getD_eq_getElem?_getD, List.getElem?_map, List.getElem?_eq_getElem h, List.getD_eq_getElem?_getD, List.getElem?_eq_getElem h]
  rfl
theorem trs_get (L : List LT) (j : Nat) (h : j < L.length) : (trs L).getD j (0, []) = ((L.getD j zL).1.1, (L.getD j zL).2) := by
  unfold trs
  rw [List.getD_eq_getElem?_getD, List.getElem?_map, List.getElem?_eq_getElem h, List.getD_eq_getElem?_getD, List.getElem?_eq_getElem h]
  rfl
theorem map_erase {α β : Type} (f : α → β) (L : List α) (a : Nat) : (L.map f).eraseIdx a = (L.eraseIdx a).map f := by
  rw [List.eraseIdx_eq_take_drop_succ, List.eraseIdx_eq_take_drop_succ, List.map_append, List.map_take, List.map_drop]
theorem first_lidx (L : List LT) (a : Nat) (h : FirstMin (fs L) a) : lidx (trs L) = a := by
  have hl := h.1
  rw [fs_len] at hl
  have hne : trs L ≠ [] := fun e => by
    have := congrArg List.length e
    rw [trs_len, List.length_nil] at this
    omega
  refine FM_unique (lidx_FM _ hne) ⟨by rw [trs_len]; exact hl, fun j hj => ?_, fun j hj => ?_⟩
  · rw [trs_len] at hj
    have := h.2.1 j (by rw [fs_len]; exact hj)
    rw [fs_get L a hl, fs_get L j hj] at this
    rw [trs_get L a hl, trs_get L j hj]
    exact this
  · have := h.2.2 j hj
    rw [fs_get L a hl, fs_get L j (Nat.lt_trans hj hl)] at this
    rw [trs_get L a hl, trs_get L j (Nat.lt_trans hj hl)]
    exact this
theorem bump_app : ∀ (a b ls : List Int), bumpL ls (a ++ b) = bumpL (bumpL ls a) b
  | [], _, _ => rfl
  | s :: a, b, ls => by rw [List.cons_append, bumpL, bumpL, bump_app a b]
theorem bump_bound : ∀ (ss ls : List Int) (B : Int), (∀ x ∈ ls, 0 ≤ x ∧ x ≤ B) → 0 ≤ B → ∀ x ∈ bumpL ls ss, 0 ≤ x ∧ x ≤ B + ss.length
  | [], ls, B, h, _ => by simpa [bumpL] using h
  | s :: ss, ls, B, h, hB => by
    have hg : 0 ≤ ls.getD s.toNat 0 ∧ ls.getD s.toNat 0 ≤ B := by
      rw [List.getD_eq_getElem?_getD]
      cases e : ls[s.toNat]? with
      | none => exact ⟨Int.le_refl _, hB⟩
      | some v => exact h v (List.mem_of_getElem? e)
    intro x hx
    rw [bumpL] at hx
    have := bump_bound ss _ (B + 1) (fun y hy => by
      rcases List.mem_or_eq_of_mem_set hy with hy | rfl
      · have := h y hy; omega
      · omega) (by omega) x hx
    rw [List.length_cons]
    omega
/-- What the merging keeps. -/
def HInv (n : Nat) (R : List Int) (m : Nat) (L : List LT) (ls : List Int) : Prop :=
  mergeF m (trs L) ls = R ∧ L.length ≤ m + 1 ∧ m ≤ 300 ∧ ls.length = n ∧ (∀ p ∈ L, (∀ s ∈ p.2, 0 ≤ s ∧ s < (n : Int)) ∧ 0 ≤ p.1.1 ∧ p.1.1 ≤ 1000000 * (p.2.length : Int)) ∧ (L.map fun p => p.2.length).sum ≤ 300 ∧ ∀ x ∈ ls, 0 ≤ x ∧ x ≤ 300 * (300 - (m : Int))
theorem HInv.done {n : Nat} {R : List Int} {m : Nat} {L : List LT} {ls : List Int} (h : HInv n R m L ls) (hl : L.length ≤ 1) : ls = R := by
  have h1 := h.1
  cases m with
  | zero => exact h1
  | succ m => rwa [mergeF, if_neg (by rw [trs_len]; omega)] at h1
theorem eraseL (L : List LT) (a : Nat) (h : a < L.length) : L.Perm (L.getD a zL :: L.eraseIdx a) := by
  induction L generalizing a with
  | nil => exact absurd h (by simp)
  | cons x l ih =>
    cases a with
    | zero => exact List.Perm.refl _
    | succ a =>
      simp only [List.getD_cons_succ, List.eraseIdx_cons_succ]
      exact ((ih a (by simpa using h)).cons x).trans (List.Perm.swap _ _ _)
theorem HInv.two {n : Nat} {R : List Int} {m : Nat} {L : List LT} {ls : List Int} (h : HInv n R m L ls) {a b : Nat} (h1 : 1 < L.length) (ha : a < L.length) (hb : b < (L.eraseIdx a).length) :
    ((∀ s ∈ (L.getD a zL).2 ++ ((L.eraseIdx a).getD b zL).2, 0 ≤ s ∧ s < (n : Int)) ∧ ((L.getD a zL).2 ++ ((L.eraseIdx a).getD b zL).2).length ≤ 300) ∧ (0 ≤ (L.getD a zL).1.1 ∧ (L.getD a zL).1.1 ≤ 300000000) ∧ 0 ≤ ((L.eraseIdx a).getD b zL).1.1 ∧ ((L.eraseIdx a).getD b zL).1.1 ≤ 300000000 := by
  obtain ⟨_, _, _, _, h5, h6, _⟩ := h
  have p1 := eraseL L a ha
  have p2 := eraseL _ b hb
  generalize L.eraseIdx a = L1 at *
  generalize L.getD a zL = p at *
  generalize L1.eraseIdx b = L2 at *
  generalize L1.getD b zL = q at *
  have s1 := (p1.map fun p : LT => p.2.length).sum_nat
  have s2 := (p2.map fun p : LT => p.2.length).sum_nat
  simp only [List.map_cons, List.sum_cons] at s1 s2
  have gp := h5 p (p1.mem_iff.2 List.mem_cons_self)
  have gq := h5 q (p1.mem_iff.2 (List.mem_cons_of_mem _ (p2.mem_iff.2 List.mem_cons_self)))
  refine ⟨⟨fun s hs => ?_, by rw [List.length_append]; omega⟩, by omega, by omega⟩
  rcases List.mem_append.1 hs with hs | hs
  · exact gp.1 s hs
  · exact gq.1 s hs
theorem HInv.next {n : Nat} {R : List Int} {m : Nat} {L : List LT} {ls : List Int} (h : HInv n R m L ls) {a b : Nat} (h1 : 1 < L.length) (ha : FirstMin (fs L) a) (hb : FirstMin (fs (L.eraseIdx a)) b) (T : T4)
    (hT : T.1 = (L.getD a zL).1.1 + ((L.eraseIdx a).getD b zL).1.1) : 0 < m ∧ HInv n R (m - 1) (((L.eraseIdx a).eraseIdx b) ++ [(T, (L.getD a zL).2 ++ ((L.eraseIdx a).getD b zL).2)]) (bumpL ls ((L.getD a zL).2 ++ ((L.eraseIdx a).getD b zL).2)) := by
  have la := ha.1
  have lb := hb.1
  rw [fs_len] at la lb
  have ht := h.two h1 la lb
  obtain ⟨e1, e2, e3, e4, e5, e6, e7⟩ := h
  obtain ⟨m, rfl⟩ : ∃ k, m = k + 1 := ⟨m - 1, by omega⟩
  refine ⟨by omega, ?_⟩
  rw [Nat.add_sub_cancel]
  have q1 : (trs L).eraseIdx a = trs (L.eraseIdx a) := map_erase _ _ _
  have q2 : (trs (L.eraseIdx a)).eraseIdx b = trs ((L.eraseIdx a).eraseIdx b) := map_erase _ _ _
  rw [mergeF, if_pos (by rw [trs_len]; exact h1), first_lidx L a ha, q1, first_lidx _ b hb, q2, trs_get L a la, trs_get _ b lb] at e1
  have p1 := eraseL L a la
  have p2 := eraseL _ b lb
  have l1 := List.length_eraseIdx_of_lt la
  have l2 := List.length_eraseIdx_of_lt lb
  generalize L.eraseIdx a = L1 at *
  generalize L.getD a zL = p at *
  generalize L1.eraseIdx b = L2 at *
  generalize L1.getD b zL = q at *
  have s1 := (p1.map fun p : LT => p.2.length).sum_nat
  have s2 := (p2.map fun p : LT => p.2.length).sum_nat
  simp only [List.map_cons, List.sum_cons] at s1 s2
  have gp := e5 p (p1.mem_iff.2 List.mem_cons_self)
  have gq := e5 q (p1.mem_iff.2 (List.mem_cons_of_mem _ (p2.mem_iff.2 List.mem_cons_self)))
  refine ⟨?_, by rw [List.length_append, List.length_singleton]; omega, by omega, by rw [bump_len]; exact e4, fun t ht' => ?_, ?_, fun x hx => ?_⟩
  · rw [← e1]
    unfold trs
    rw [List.map_append, List.map_cons, List.map_nil, hT]
  · rcases List.mem_append.1 ht' with h' | h'
    · exact e5 t (p1.mem_iff.2 (List.mem_cons_of_mem _ (p2.mem_iff.2 (List.mem_cons_of_mem _ h'))))
    · rw [List.mem_singleton] at h'
      subst h'
      refine ⟨ht.1.1, ?_⟩
      show 0 ≤ T.1 ∧ T.1 ≤ 1000000 * ((p.2 ++ q.2).length : Int)
      rw [hT, List.length_append]
      have := gp.2
      have := gq.2
      omega
  · simp only [List.map_append, List.sum_append, List.map_cons, List.map_nil, List.sum_cons, List.sum_nil, List.length_append]
    omega
  · have hb2 := bump_bound (p.2 ++ q.2) ls (300 * (300 - ((m + 1 : Nat) : Int))) e7 (by omega) x hx
    have := ht.1.2
    omega
/-- Where the trees' symbols lie. -/
def SymsAt (W : World) (B ob : Nat) (L : List LT) : Prop := ∀ p ∈ L, (Kd.int .i64).R 3 W B (fun k => k ≠ ob) (sl4 p.1) p.2
theorem SymsAt.keep {W W' : World} {B ob : Nat} {L : List LT} (h : SymsAt W B ob L) (hk : ∀ k cells, k ≠ ob → W.heap[k]? = some (.cells cells 3 (0, 0)) → W'.heap[k]? = W.heap[k]?) : SymsAt W' B ob L := fun p hp => by
  refine Kd.R_mono (Kd.R_move (Kd.R_bound (h p hp)) (fun k hk' => ?_)) (fun k hk' => hk'.1)
  obtain ⟨h1, _, _, q, hq, cells, hc⟩ := hk'
  have : q = 3 := by simpa [Kd.int, Kd.scalar] using hq
  subst this
  exact hk k cells h1 hc
theorem SymsAt.sub {W : World} {B ob : Nat} {L L' : List LT} (h : SymsAt W B ob L) (hs : ∀ p ∈ L', p ∈ L) : SymsAt W B ob L' := fun p hp => h p (hs p hp)
theorem SymsAt.below {W W' : World} {B ob : Nat} {L : List LT} (h : SymsAt W B ob L) (hb : Below W.heap.size W W') : SymsAt W' B ob L := fun p hp => Kd.R_below (h p hp) hb
theorem SymsAt.grown {W W' : World} {B ob g : Nat} {L : List LT} {cells : Array Value} {t : Nat} (h : SymsAt W B ob L) (hg : W.grownBy W' (some g)) (hc : W.heap[g]? = some (.cells cells t (0, 0))) (ht : t ≠ 3) : SymsAt W' B ob L :=
  h.keep fun k cs _ hk => hg.block k (Array.getElem?_eq_some_iff.1 hk).1 (fun e => by
    injection e with e
    subst e
    rw [hc] at hk
    injection hk with hk
    injection hk with _ hk
    exact ht hk)
theorem SymsAt.out {W W' : World} {B ob : Nat} {L : List LT} (h : SymsAt W B ob L) (hg : W.grownBy W' (some ob)) : SymsAt W' B ob L :=
  h.keep fun k cs hne hk => hg.block k (Array.getElem?_eq_some_iff.1 hk).1 (fun e => by injection e with e; exact hne e)
theorem SymsAt.forest {W W' : World} {B B' ob : Nat} {ok : Nat → Prop} {L : List LT} {v : Value} {rows : List (List Value)} (h : SymsAt W B ob L) (hF : (Kd.raw 2).R 67 W B' ok v rows) (hg : W.grownBy W' v.ownBlock) : SymsAt W' B ob L := fun p hp => Kd.R_over (h p hp) hF (by simp [Kd.int, Kd.scalar]) hg
theorem SymsAt.none {W W' : World} {B ob : Nat} {L : List LT} (h : SymsAt W B ob L) (hg : W.grownBy W' none) : SymsAt W' B ob L := fun p hp => Kd.R_grown (h p hp) hg (fun _ _ e => by cases e)
theorem out_over {W W' : World} {B B' : Nat} {ok okv : Nat → Prop} {u v : Value} {xs : List Int} {rows : List (List Value)} (h : (Kd.int .i64).R 3 W B ok u xs) (hF : (Kd.raw 2).R 67 W B' okv v rows) (hg : W.grownBy W' v.ownBlock) : (Kd.int .i64).R 3 W' B ok u xs := Kd.R_over h hF (by simp [Kd.int, Kd.scalar]) hg
theorem out_form {W : World} {B b : Nat} {ok : Nat → Prop} {v : Value} {xs : List Int} (h : (Kd.int .i64).R 3 W B ok v xs) (hb : v.ownBlock = some b) : ∃ c, v = .slice (some ⟨b, 0, none⟩) xs.length c ∧ xs.length ≤ c ∧ B ≤ b ∧ b < W.heap.size := by
  obtain ⟨A, c, rfl, hc, _⟩ := Kd.R_reads h
  have h1 := Kd.R_base h b hb
  have h2 := Kd.R_lt h b hb
  obtain ⟨_, inner, hown, _⟩ := h
  rcases hown.2 with ⟨he, hn⟩ | ⟨g, cap, cur, he, _⟩
  · injection he with he
    subst he
    simp [Value.ownBlock] at hb
  · injection he with he _ _
    subst he
    simp [Value.ownBlock] at hb
    subst hb
    exact ⟨c, rfl, hc, h1, h2⟩
theorem forest_form {W : World} {B : Nat} {ok : Nat → Prop} {v : Value} {L : List LT} (h : (Kd.raw 2).R 67 W B ok v (cellsOf (fs L))) (hl : 0 < L.length) : ∃ b c, v = .slice (some ⟨b, 0, none⟩) L.length c ∧ B ≤ b ∧ b < W.heap.size ∧ ∃ cells, W.heap[b]? = some (.cells cells 67 (0, 0)) := by
  have e : (cellsOf (fs L)).length = L.length := by unfold cellsOf; rw [List.length_map, fs_len]
  obtain ⟨g, cap, hv, h1, h2, h3⟩ := Kd.R_form h (by rw [e]; exact hl)
  rw [e] at hv
  exact ⟨g, cap, hv, h1, h2, h3⟩
theorem initF_snoc : ∀ (l : List Int) (k i : Nat), i < l.length → initF k (l.take (i + 1)) = initF k (l.take i) ++ (if l.getD i 0 > 0 then [(l.getD i 0, [((k + i : Nat) : Int)])] else [])
  | [], _, _, h => absurd h (by simp)
  | x :: l, k, 0, _ => by
    simp only [List.take_succ_cons, List.take_zero, initF, List.getD_cons_zero, Nat.add_zero, List.nil_append]
  | x :: l, k, i + 1, h => by
    have ih := initF_snoc l (k + 1) i (by simpa using h)
    rw [List.take_succ_cons, List.take_succ_cons, List.getD_cons_succ]
    simp only [initF]
    rw [ih, show k + 1 + i = k + (i + 1) by omega]
    split <;> simp
theorem fs_snoc (L : List LT) (T : T4) (s : List Int) : cellsOf (fs (L ++ [(T, s)])) = cellsOf (fs L) ++ [[.int .i64 T.1, sl4 T]] := by
  unfold cellsOf fs
  rw [List.map_append, List.map_append]
  rfl
theorem trs_snoc (L : List LT) (T : T4) (s : List Int) : trs (L ++ [(T, s)]) = trs L ++ [(T.1, s)] := by
  unfold trs
  rw [List.map_append]
  rfl
theorem SymsAt.snoc {W : World} {B ob : Nat} {L : List LT} {T : T4} {s : List Int} (h : SymsAt W B ob L) (hs : (Kd.int .i64).R 3 W B (fun k => k ≠ ob) (sl4 T) s) : SymsAt W B ob (L ++ [(T, s)]) := fun p hp => by
  rcases List.mem_append.1 hp with hp | hp
  · exact h p hp
  · rw [List.mem_singleton] at hp
    subst hp
    exact hs
theorem initF_mem : ∀ (l : List Int) (k : Nat) (T : Tr), T ∈ initF k l → ∃ i, i < l.length ∧ T.2 = [((k + i : Nat) : Int)] ∧ T.1 = l.getD i 0 ∧ l.getD i 0 > 0
  | [], _, T, h => by simp [initF] at h
  | x :: l, k, T, h => by
    have ih := initF_mem l (k + 1) T
    have step : T ∈ initF (k + 1) l → ∃ i, i < (x :: l).length ∧ T.2 = [((k + i : Nat) : Int)] ∧ T.1 = (x :: l).getD i 0 ∧ (x :: l).getD i 0 > 0 := fun h => by
      obtain ⟨i, h1, h2, h3, h4⟩ := ih h
      exact ⟨i + 1, by simpa using h1, by rw [h2]; congr 2; omega, by rw [List.getD_cons_succ]; exact h3, by rw [List.getD_cons_succ]; exact h4⟩
    rw [initF] at h
    split at h
    · rename_i hx
      rcases List.mem_cons.1 h with rfl | h
      · exact ⟨0, by simp, rfl, rfl, hx⟩
      · exact step h
    · exact step h
theorem sum_one : ∀ L : List LT, (∀ p ∈ L, p.2.length = 1) → (L.map fun p => p.2.length).sum = L.length
  | [], _ => rfl
  | p :: L, h => by
    rw [List.map_cons, List.sum_cons, sum_one L (fun q hq => h q (List.mem_cons_of_mem _ hq)), h p List.mem_cons_self, List.length_cons]
    omega
theorem trs_mem {L : List LT} {l : List Int} (h : trs L = initF 0 l) (p : LT) (hp : p ∈ L) : ∃ i, i < l.length ∧ p.2 = [(i : Int)] ∧ p.1.1 = l.getD i 0 ∧ l.getD i 0 > 0 := by
  have h1 : ((p.1.1, p.2) : Tr) ∈ trs L := List.mem_map_of_mem (f := fun p : LT => ((p.1.1, p.2) : Tr)) hp
  rw [h] at h1
  obtain ⟨i, a, b, c, d⟩ := initF_mem l 0 _ h1
  rw [Nat.zero_add] at b
  exact ⟨i, a, b, c, d⟩
theorem HInv.start {l : List Int} {L : List LT} (h : trs L = initF 0 l) (hl : L.length ≤ l.length) (h3 : l.length ≤ 300) (hc : ∀ x ∈ l, x ≤ 1000000) : HInv l.length (mergeF l.length (initF 0 l) (List.replicate l.length 0)) l.length L (List.replicate l.length 0) := by
  have hm := trs_mem h
  refine ⟨by rw [h], by omega, h3, List.length_replicate, fun p hp => ?_, ?_, fun x hx => ?_⟩
  · obtain ⟨i, h1, h2, h4, h5⟩ := hm p hp
    rw [h2, h4]
    have hx : l.getD i 0 ≤ 1000000 := by
      rw [List.getD_eq_getElem?_getD, List.getElem?_eq_getElem h1]
      exact hc _ (List.getElem_mem h1)
    refine ⟨fun s hs => ?_, by omega, by rw [List.length_singleton]; omega⟩
    rw [List.mem_singleton] at hs
    omega
  · rw [sum_one L (fun p hp => by obtain ⟨i, _, h2, _⟩ := hm p hp; rw [h2]; rfl)]
    omega
  · rw [List.eq_of_mem_replicate hx]
    omega
/-- What the walk holds of the forest, its symbols, the lengths. -/
structure Fo (w W : World) (ob n co : Nat) (v : Value) (L : List LT) (ls : List Int) : Prop where
  fo : (Kd.raw 2).R 67 W w.heap.size (fun _ => True) v (cellsOf (fs L))
  sy : SymsAt W w.heap.size ob L
  ou : (Kd.int .i64).R 3 W w.heap.size (fun _ => True) (.slice (some ⟨ob, 0, none⟩) n co) ls
  be : Below w.heap.size w W
  ol : ob < W.heap.size
theorem Fo.below {w W W' : World} {ob n co : Nat} {v : Value} {L : List LT} {ls : List Int} (h : Fo w W ob n co v L ls) (hb : Below W.heap.size W W') : Fo w W' ob n co v L ls :=
  ⟨Kd.R_below h.fo hb, h.sy.below hb, Kd.R_below h.ou hb, below_then h.be h.be.size hb, Nat.lt_of_lt_of_le h.ol hb.size⟩
theorem Fo.box {w W W' : World} {ob n co fb m c g : Nat} {L : List LT} {ls : List Int} {cells : Array Value} (h : Fo w W ob n co (.slice (some ⟨fb, 0, none⟩) m c) L ls) (hx : W.heap[g]? = some (.cells cells 67 (0, 0))) (hne : g ≠ fb) (hB : w.heap.size ≤ g) (hg : W.grownBy W' (some g)) : Fo w W' ob n co (.slice (some ⟨fb, 0, none⟩) m c) L ls :=
  ⟨Kd.R_grown1 h.fo rfl hg (by simpa [Value.ownBlock] using hne), h.sy.grown hg hx (by decide), Kd.R_mono (Kd.R_grown (Kd.R_types h.ou hx (by simp [Kd.int, Kd.scalar])) hg (fun k hk e => hk.2 (by injection e))) (fun _ _ => trivial), pw_below_grown h.be (some g) h.be.size hg (fun k e => by injection e with e; omega), Nat.lt_of_lt_of_le h.ol hg.size⟩
/-- lightest has been called. -/
theorem Fo.take {w W W' : World} {ob n co fb m c a : Nat} {L : List LT} {ls : List Int} {cells : Array Value} (h : Fo w W ob n co (.slice (some ⟨fb, 0, none⟩) m c) L ls) (hx : W.heap[fb]? = some (.cells cells 67 (0, 0))) (hg : W.grownBy W' (some fb))
    (hF : (Kd.raw 2).R 67 W' w.heap.size (fun _ => True) (.slice (some ⟨fb, 0, none⟩) (m - 1) c) (cellsOf ((fs L).eraseIdx a))) (hb : Below w.heap.size w W') : Fo w W' ob n co (.slice (some ⟨fb, 0, none⟩) (m - 1) c) (L.eraseIdx a) ls :=
  ⟨by rw [show fs (L.eraseIdx a) = (fs L).eraseIdx a from (map_erase _ _ _).symm]; exact hF, (h.sy.grown hg hx (by decide)).sub (fun p hp => List.mem_of_mem_eraseIdx hp), Kd.R_mono (Kd.R_grown (Kd.R_types h.ou hx (by simp [Kd.int, Kd.scalar])) hg (fun k hk e => hk.2 (by injection e))) (fun _ _ => trivial), hb, Nat.lt_of_lt_of_le h.ol hg.size⟩
theorem Fo.typed {w W : World} {ob n co fb m c : Nat} {L : List LT} {ls : List Int} (h : Fo w W ob n co (.slice (some ⟨fb, 0, none⟩) m c) L ls) : m = L.length ∧ w.heap.size ≤ fb ∧ fb < W.heap.size ∧ ∃ cells, W.heap[fb]? = some (.cells cells 67 (0, 0)) := by
  have h1 := Kd.R_reads' h.fo
  have h2 := Kd.R_base h.fo fb (by simp [Value.ownBlock])
  have h3 := Kd.R_lt h.fo fb (by simp [Value.ownBlock])
  obtain ⟨inner, ho⟩ := Kd.R_own h.fo
  exact ⟨by rw [h1.1]; unfold cellsOf; rw [List.length_map, fs_len], h2, h3, own_typed ho fb (by simp [Value.ownBlock])⟩
theorem far2 (W : World) {g h : Nat} (hne : g ≠ h) (i : Nat) (u v : Value) : ((W.setCell ⟨h, 0, none⟩ u).setCell ⟨h, 1, none⟩ v).cell? ⟨g, i, none⟩ = W.cell? ⟨g, i, none⟩ :=
  World.cell?_of_block (w' := (W.setCell ⟨h, 0, none⟩ u).setCell ⟨h, 1, none⟩ v) (w := W) ((Below.heap_setCell _ _ _ g hne).trans (Below.heap_setCell _ _ _ g hne))
theorem two_rows {W W' : World} {B g na ca nb cb : Nat} {Aa Ab : Option Addr} {ok ok' : Nat → Prop} {sa sb : List Int} (ha : (Kd.int .i64).R 3 W B ok (.slice Aa na ca) sa) (hb : (Kd.int .i64).R 3 W B ok' (.slice Ab nb cb) sb) (hW : Below W.heap.size W W') (hx : W'.heap[g]? = some (.cells #[.slice Aa na ca, .slice Ab nb cb] 24 (0, 0))) :
    (Kd.slice 3 (Kd.int .i64)).C W' (some ⟨g, 0, none⟩) ([sa, sb] : List (List Int)).length [sa, sb] := by
  obtain ⟨rfl, a1, a2⟩ := Kd.R_reads' ha
  obtain ⟨rfl, b1, b2⟩ := Kd.R_reads' hb
  refine ⟨rfl, by simp, fun _ => ⟨⟨g, 0, none⟩, rfl, fun j p hj => ?_⟩⟩
  have c0 := blk_cell hx 0
  have c1 := blk_cell hx 1
  match j with
  | 0 =>
    obtain rfl : sa = p := by simpa using hj
    exact ⟨[.slice Aa sa.length ca], rfl, ⟨Aa, ca, rfl, a1, Kd.C_below a2 hW⟩, fun k u hk => by
      match k with
      | 0 => obtain rfl : _ = u := by simpa using hk
             exact c0
      | k + 1 => simp at hk⟩
  | 1 =>
    obtain rfl : sb = p := by simpa using hj
    exact ⟨[.slice Ab sb.length cb], rfl, ⟨Ab, cb, rfl, b1, Kd.C_below b2 hW⟩, fun k u hk => by
      match k with
      | 0 => obtain rfl : _ = u := by simpa using hk
             exact c1
      | k + 1 => simp at hk⟩
  | j + 2 => simp at hj
/-- Behind the region that makes the new tree: its box. -/
structure Joined (w W : World) (ob n co fb m c : Nat) (L : List LT) (ls : List Int) (g9 : Nat) (x : Int) (Av : Option Addr) (nv cv : Nat) (ss : List Int) : Prop where
  bx : W.heap[g9]? = some (.cells #[.int .i64 x, .slice Av nv cv] 67 (0, 0))
  sy : (Kd.int .i64).R 3 W w.heap.size (fun k => k ≠ ob) (.slice Av nv cv) ss
  fo : Fo w W ob n co (.slice (some ⟨fb, 0, none⟩) m c) L ls
  ne : g9 ≠ fb ∧ w.heap.size ≤ g9
theorem Fo.rows {w w12 Wp w13 : World} {ob n co : Nat} {v u : Value} {L : List LT} {ls ss : List Int} (h : Fo w w12 ob n co v L ls) (hp : Below w12.heap.size w12 Wp) (h13 : (Kd.int .i64).R 3 w13 Wp.heap.size (fun _ => True) u ss) : (Kd.int .i64).R 3 w13 w.heap.size (fun k => k ≠ ob) u ss :=
  Kd.R_lower (Kd.R_mono (Kd.R_bound h13) (fun k hk => by have := hk.2.1; have := hp.size; have := h.ol; omega)) (Nat.le_trans h.be.size hp.size)
theorem Fo.join1 {w w12 Wp w13 : World} {ob n co fb m c g9 nv cv : Nat} {Av : Option Addr} {L : List LT} {ls ss : List Int} (x : Int) (h : Fo w w12 ob n co (.slice (some ⟨fb, 0, none⟩) m c) L ls) (hp : Below w12.heap.size w12 Wp) (b13 : Below Wp.heap.size Wp w13) (h13 : (Kd.int .i64).R 3 w13 Wp.heap.size (fun _ => True) (.slice Av nv cv) ss)
    (ox : w13.heap[g9]? = some (.cells #[.int .i64 0, .slice none 0 0] 67 (0, 0))) (hg : w12.heap.size ≤ g9) : Joined w ((w13.setCell ⟨g9, 0, none⟩ (.int .i64 x)).setCell ⟨g9, 1, none⟩ (.slice Av nv cv)) ob n co fb m c L ls g9 x Av nv cv ss := by
  have hgr := grown_trans2 (grown_cell w13 g9 0 (.int .i64 x)) (grown_cell _ g9 1 (.slice Av nv cv))
  have hb := below_then hp hp.size b13
  have hf := (h.below hb)
  have h1 := h.typed.2.2.1
  have h2 := h.be.size
  have hne : g9 ≠ fb := by omega
  exact ⟨blk_put (blk_put ox 0 _ rfl) 1 _ rfl, Kd.R_mono (Kd.R_grown (Kd.R_types (h.rows hp h13) ox (by simp [Kd.int, Kd.scalar])) hgr (fun k hk e => hk.2 (by injection e))) (fun k hk => hk.1), hf.box ox hne (by omega) hgr, hne, by omega⟩
theorem Fo.join2 {w w12 Wp w13 : World} {ob n co fb m c nv cv : Nat} {Av : Option Addr} {L : List LT} {ls ss : List Int} (x : Int) (h : Fo w w12 ob n co (.slice (some ⟨fb, 0, none⟩) m c) L ls) (hp : Below w12.heap.size w12 Wp) (b13 : Below Wp.heap.size Wp w13) (h13 : (Kd.int .i64).R 3 w13 Wp.heap.size (fun _ => True) (.slice Av nv cv) ss) :
    Joined w (w13.alloc (.cells #[.int .i64 x, .slice Av nv cv] 67)) ob n co fb m c L ls w13.heap.size x Av nv cv ss := by
  have hb := below_then hp hp.size b13
  have hf := (h.below hb)
  have h1 := hf.typed.2.2.1
  have h2 := hf.be.size
  exact ⟨blk_new _ _, Kd.R_alloc (h.rows hp h13) _, hf.below (below_alloc (Below.refl _ _) _), by omega, by omega⟩
theorem Joined.bump {w W : World} {ob n co fb m c : Nat} {L : List LT} {ls : List Int} {g9 : Nat} {x : Int} {Av : Option Addr} {nv cv : Nat} {ss : List Int} (h : Joined w W ob n co fb m c L ls g9 x Av nv cv ss) (s y : Int) : Joined w (W.setCell ⟨ob, s.toNat, none⟩ (.int .i64 y)) ob n co fb m c L (ls.set s.toNat y) g9 x Av nv cv ss := by
  obtain ⟨h1, h2⟩ := Kd.R_putg h.fo.ou s y
  obtain ⟨inner, ho⟩ := Kd.R_own h.fo.ou
  obtain ⟨cells, hc⟩ := own_typed ho ob (by simp [Value.ownBlock])
  obtain ⟨_, hB, hlt, fc, hfc⟩ := h.fo.typed
  have e1 : fb ≠ ob := blk_ne hfc hc (by decide)
  have e2 : g9 ≠ ob := blk_ne h.bx hc (by decide)
  have hob := own_base ho ob (by simp [Value.ownBlock])
  exact ⟨blk_grown h.bx h2 (fun e => e2 (by injection e)), Kd.R_grown h.sy h2 (fun k hk e => hk (by injection e)), ⟨Kd.R_grown1 h.fo.fo rfl h2 (by intro e; simp [Value.ownBlock] at e; exact e1 e.symm), h.fo.sy.out h2, h1, pw_below_grown h.fo.be (some ob) h.fo.be.size h2 (fun k e => by injection e with e; omega), Nat.lt_of_lt_of_le h.fo.ol h2.size⟩, h.ne⟩
theorem bump_take (ls ss : List Int) (j : Nat) (h : j < ss.length) : bumpL ls (ss.take (j + 1)) = (bumpL ls (ss.take j)).set (ss.getD j 0).toNat ((bumpL ls (ss.take j)).getD (ss.getD j 0).toNat 0 + 1) := by
  rw [List.take_succ_eq_append_getElem h, bump_app, List.getD_eq_getElem?_getD, List.getElem?_eq_getElem h]
  rfl
theorem HInv.low {n : Nat} {R : List Int} {m : Nat} {L : List LT} {ls : List Int} (h : HInv n R m L ls) (ss : List Int) (hs : ss.length ≤ 300) (j s : Nat) : 0 ≤ (bumpL ls (ss.take j)).getD s 0 ∧ (bumpL ls (ss.take j)).getD s 0 ≤ 100000 := by
  have hb := bump_bound (ss.take j) ls (300 * (300 - (m : Int))) h.2.2.2.2.2.2 (by have := h.2.2.1; omega)
  have hm := h.2.2.1
  have hl := List.length_take_le j ss
  have hl2 := List.length_take (i := j) (l := ss)
  rw [List.getD_eq_getElem?_getD]
  cases e : (bumpL ls (ss.take j))[s]? with
  | none => exact ⟨Int.le_refl _, by decide⟩
  | some v =>
    have := hb v (List.mem_of_getElem? e)
    show 0 ≤ v ∧ v ≤ 100000
    omega
theorem Joined.push {w W W' : World} {ob n co fb m c : Nat} {L : List LT} {ls : List Int} {g9 : Nat} {x : Int} {Av : Option Addr} {nv cv : Nat} {ss : List Int} {v : Value} (h : Joined w W ob n co fb m c L ls g9 x Av nv cv ss) (hF : (Kd.raw 2).R 67 W' w.heap.size (fun _ => True) v (cellsOf (fs L) ++ [[.int .i64 x, .slice Av nv cv]])) (hb : Below w.heap.size w W') (hg : W.grownBy W' (some fb)) :
    Fo w W' ob n co v (L ++ [((x, Av, nv, cv), ss)]) ls := by
  have hg' : W.grownBy W' (Value.slice (some ⟨fb, 0, none⟩) m c).ownBlock := by simpa [Value.ownBlock] using hg
  exact ⟨by rw [fs_snoc]; exact hF, (h.fo.sy.snoc (T := (x, Av, nv, cv)) h.sy).forest h.fo.fo hg', out_over h.fo.ou h.fo.fo hg', hb, Nat.lt_of_lt_of_le h.fo.ol hg.size⟩
end Go.Proofs.Ytgjmmegmkdklbaa.Hl
