/- Words that the walks use. -/
import Derived.Test.YtadhngelhognaaaBase
import Derived.Test.YtadhngelhognaaaSuf
import Derived.Test.YtadhngelhognaaaSx
namespace Go.Proofs.Ytadhngelhognaaa.Wz
open Go.Proofs.Ytadhngelhognaaa.Base Go.Proofs.Ytadhngelhognaaa.Fv Go.Proofs.Ytadhngelhognaaa.Sx Go.Proofs.YtadhngelhognaaaW.PrintWords
abbrev LL := List (List Int)
theorem cmp_take : ∀ (d : Nat) (x y : List Int), cmpB x y < 0 → cmpB (x.take d) (y.take d) ≤ 0
  | 0, x, y, _ => by simp [cmpB]
  | d + 1, [], [], h => by simp [cmpB] at h
  | d + 1, [], y :: u, h => by simp [cmpB]
  | d + 1, x :: s, [], h => by simp [cmpB] at h
  | d + 1, x :: s, y :: u, h => by
    simp only [List.take_succ_cons, cmpB] at h ⊢
    by_cases h1 : x < y
    · rw [if_pos h1]; decide
    · by_cases h2 : y < x
      · rw [if_neg h1, if_pos h2] at h; simp at h
      · rw [if_neg h1, if_neg h2] at h ⊢
        exact cmp_take d s u h
def headsOf (l : List Int) (d : Nat) : LL := (rowsOf l).map fun i => (l.drop i.toNat).take d
theorem headsOf_len (l : List Int) (d : Nat) : (headsOf l d).length = l.length + 1 := by unfold headsOf; rw [List.length_map, rowsOf_len]
theorem headsOf_at (l : List Int) (d j : Nat) (h : j < l.length + 1) : (headsOf l d).getD j [] = (l.drop ((rowsOf l).getD j 0).toNat).take d := by
  unfold headsOf
  rw [lget_lt _ _ _ (by rw [List.length_map, rowsOf_len]; exact h), lget_lt _ _ _ (by rw [rowsOf_len]; exact h), List.getElem_map]
theorem headsOf_sorted (l : List Int) (d : Nat) : (headsOf l d).Pairwise fun a b => cmpB a b ≤ 0 := by
  unfold headsOf
  rw [List.pairwise_map]
  exact (rowsOf_sorted l).imp fun h => cmp_take d _ _ h
theorem headsOf_mem {l : List Int} {d : Nat} {x : List Int} (h : x ∈ headsOf l d) : x.length ≤ l.length ∧ ∀ y ∈ x, y ∈ l := by
  unfold headsOf at h
  obtain ⟨i, _, rfl⟩ := List.mem_map.1 h
  exact ⟨by rw [List.length_take, List.length_drop]; omega, fun y hy => List.mem_of_mem_drop (List.mem_of_mem_take hy)⟩
def insW (x : List Int) : LL → LL
  | [] => [x]
  | w :: ws => if cmpB w x < 0 then w :: insW x ws else if cmpB w x = 0 then w :: ws else x :: w :: ws
theorem insW_mem (x y : List Int) : ∀ ws : LL, y ∈ insW x ws ↔ y = x ∨ y ∈ ws
  | [] => by simp [insW]
  | w :: ws => by
    unfold insW
    split
    · rw [List.mem_cons, insW_mem x y ws, List.mem_cons]
      constructor
      · rintro (h | h | h) <;> simp [h]
      · rintro (h | h | h) <;> simp [h]
    · split
      · rename_i h0
        have := cmpB_zero _ _ h0
        subst this
        constructor
        · intro h; exact .inr h
        · rintro (h | h)
          · rw [h]; exact List.mem_cons_self
          · exact h
      · simp
theorem insW_sorted (x : List Int) : ∀ ws : LL, ws.Pairwise (fun a b => cmpB a b < 0) → (insW x ws).Pairwise fun a b => cmpB a b < 0
  | [], _ => by simp [insW]
  | w :: ws, h => by
    rw [List.pairwise_cons] at h
    unfold insW
    split
    · rename_i h0
      rw [List.pairwise_cons]
      refine ⟨fun y hy => ?_, insW_sorted x ws h.2⟩
      rcases (insW_mem x y ws).1 hy with rfl | hy
      · exact h0
      · exact h.1 y hy
    · split
      · exact List.pairwise_cons.2 h
      · rename_i h0 h1
        have hx : cmpB x w < 0 := by rw [cmpB_anti]; omega
        rw [List.pairwise_cons, List.pairwise_cons]
        refine ⟨fun y hy => ?_, h⟩
        rcases List.mem_cons.1 hy with rfl | hy
        · exact hx
        · exact cmpB_trans _ _ _ hx (h.1 y hy)
theorem insW_new (x : List Int) : ∀ (ws : LL) (i : Nat), i ≤ ws.length → (∀ j, j < i → cmpB (ws.getD j []) x < 0) → (i < ws.length → 0 < cmpB (ws.getD i []) x) → insW x ws = ws.take i ++ x :: ws.drop i
  | [], i, h, _, _ => by
    have : i = 0 := by simpa using h
    subst this
    rfl
  | w :: ws, 0, _, _, h2 => by
    have := h2 (by simp)
    simp only [List.getD_cons_zero] at this
    unfold insW
    rw [if_neg (by omega), if_neg (by omega)]
    rfl
  | w :: ws, i + 1, h, h1, h2 => by
    have h0 := h1 0 (by omega)
    simp only [List.getD_cons_zero] at h0
    unfold insW
    rw [if_pos h0, insW_new x ws i (by simpa using h) (fun j hj => by have := h1 (j + 1) (by omega); simpa using this) (fun hi => by have := h2 (by simpa using hi); simpa using this)]
    rfl
theorem insW_old (x : List Int) : ∀ (ws : LL) (i : Nat), i < ws.length → (∀ j, j < i → cmpB (ws.getD j []) x < 0) → cmpB (ws.getD i []) x = 0 → insW x ws = ws
  | [], i, h, _, _ => absurd h (by simp)
  | w :: ws, 0, _, _, h2 => by
    simp only [List.getD_cons_zero] at h2
    unfold insW
    rw [if_neg (by omega), if_pos h2]
  | w :: ws, i + 1, h, h1, h2 => by
    have h0 := h1 0 (by omega)
    simp only [List.getD_cons_zero] at h0
    unfold insW
    rw [if_pos h0, insW_old x ws i (by simpa using h) (fun j hj => by have := h1 (j + 1) (by omega); simpa using this) (by simpa using h2)]
def wordsL (hs_ : LL) : LL := hs_.foldl (fun ws x => insW x ws) []
theorem fold_words : ∀ (hs_ ws : LL), ws.Pairwise (fun a b => cmpB a b < 0) → (hs_.foldl (fun ws x => insW x ws) ws).Pairwise (fun a b => cmpB a b < 0) ∧ ∀ y, y ∈ hs_.foldl (fun ws x => insW x ws) ws ↔ y ∈ hs_ ∨ y ∈ ws
  | [], ws, h => ⟨h, fun y => by simp⟩
  | a :: hs_, ws, h => by
    obtain ⟨h1, h2⟩ := fold_words hs_ (insW a ws) (insW_sorted a ws h)
    refine ⟨h1, fun y => ?_⟩
    rw [List.foldl_cons, h2 y, insW_mem, List.mem_cons]
    constructor
    · rintro (h | h | h) <;> simp [h]
    · rintro ((h | h) | h) <;> simp [h]
theorem wordsL_sorted (hs_ : LL) : (wordsL hs_).Pairwise fun a b => cmpB a b < 0 := (fold_words hs_ [] List.Pairwise.nil).1
theorem wordsL_mem (hs_ : LL) (y : List Int) : y ∈ wordsL hs_ ↔ y ∈ hs_ := by
  have := (fold_words hs_ [] List.Pairwise.nil).2 y
  simpa [wordsL] using this
theorem sorted_nodup {ws : LL} (h : ws.Pairwise fun a b => cmpB a b < 0) : ws.Nodup := h.imp fun {a b} hab e => by subst e; rw [cmpB_self] at hab; exact absurd hab (by decide)
theorem insW_len (x : List Int) : ∀ ws : LL, (insW x ws).length ≤ ws.length + 1
  | [] => by simp [insW]
  | w :: ws => by
    have := insW_len x ws
    unfold insW
    split
    · simp only [List.length_cons]; omega
    · split <;> simp
theorem fold_len : ∀ (hs_ ws : LL), (hs_.foldl (fun ws x => insW x ws) ws).length ≤ ws.length + hs_.length
  | [], ws => Nat.le_refl _
  | a :: hs_, ws => by
    have h1 := fold_len hs_ (insW a ws)
    have h2 := insW_len a ws
    rw [List.foldl_cons, List.length_cons]
    omega
theorem wordsL_le (hs_ : LL) : (wordsL hs_).length ≤ hs_.length := by
  have := fold_len hs_ []
  simpa [wordsL] using this
theorem words_unique (ws : LL) (hs_ : LL) (hs : ws.Pairwise fun a b => cmpB a b < 0) (hm : ∀ y, y ∈ ws ↔ y ∈ hs_) : ws = wordsL hs_ :=
  strict_unique (fun a b => cmpB a b < 0) (fun a h => by rw [cmpB_self] at h; exact absurd h (by decide)) (fun a b c => cmpB_trans a b c) _ _
    ((List.perm_ext_iff_of_nodup (sorted_nodup hs) (sorted_nodup (wordsL_sorted hs_))).2 fun y => by rw [hm, wordsL_mem]) hs (wordsL_sorted hs_)
theorem count_mono (p : List Int → Bool) : ∀ (hs_ : LL), (∀ i j, i ≤ j → j < hs_.length → p (hs_.getD j []) = true → p (hs_.getD i []) = true) → ∀ j, j < hs_.length → (p (hs_.getD j []) = true ↔ j < hs_.countP p)
  | [], _, j, h => absurd h (by simp)
  | a :: hs_, h, j, hj => by
    by_cases ha : p a = true
    · rw [List.countP_cons_of_pos ha]
      cases j with
      | zero => simp [ha]
      | succ j =>
        rw [List.getD_cons_succ, count_mono p hs_ (fun i j hij hj hp => by have := h (i + 1) (j + 1) (by omega) (by simpa using hj); simp only [List.getD_cons_succ] at this; exact this hp) j (by simpa using hj)]
        omega
    · have hall : ∀ i, i < (a :: hs_).length → ¬ p ((a :: hs_).getD i []) = true := fun i hi hp => ha (by have := h 0 i (by omega) hi hp; simpa using this)
      have hc : (a :: hs_).countP p = 0 := List.countP_eq_zero.2 fun x hx => by
        obtain ⟨i, hi, rfl⟩ := List.mem_iff_getElem.1 hx
        have := hall i hi
        rwa [lget_lt _ _ _ hi] at this
      rw [hc]
      exact ⟨fun hp => absurd hp (hall j hj), fun h => absurd h (by omega)⟩
def loOf (hs_ : LL) (w : List Int) : Nat := hs_.countP fun h => decide (cmpB h w < 0)
def hiOf (hs_ : LL) (w : List Int) : Nat := hs_.countP fun h => decide (cmpB h w ≤ 0)
theorem lo_le (hs_ : LL) (w : List Int) : loOf hs_ w ≤ hiOf hs_ w := List.countP_mono_left fun x _ h => by
  simp only [decide_eq_true_eq] at h ⊢
  omega
theorem hi_le (hs_ : LL) (w : List Int) : hiOf hs_ w ≤ hs_.length := List.countP_le_length
theorem pw_at {hs_ : LL} (h : hs_.Pairwise fun a b => cmpB a b ≤ 0) (i j : Nat) (hij : i ≤ j) (hj : j < hs_.length) : cmpB (hs_.getD i []) (hs_.getD j []) ≤ 0 := by
  rcases Nat.eq_or_lt_of_le hij with rfl | hlt
  · rw [cmpB_self]; exact Int.le_refl _
  · rw [lget_lt _ _ _ (by omega), lget_lt _ _ _ hj]
    exact List.pairwise_iff_getElem.1 h i j (by omega) hj hlt
theorem le_lt_trans {a b c : List Int} (h1 : cmpB a b ≤ 0) (h2 : cmpB b c < 0) : cmpB a c < 0 := by
  rcases Int.lt_or_eq_of_le h1 with h | h
  · exact cmpB_trans _ _ _ h h2
  · rw [cmpB_zero _ _ h]; exact h2
theorem le_trans' {a b c : List Int} (h1 : cmpB a b ≤ 0) (h2 : cmpB b c ≤ 0) : cmpB a c ≤ 0 := by
  rcases Int.lt_or_eq_of_le h2 with h | h
  · exact Int.le_of_lt (le_lt_trans h1 h)
  · rw [← cmpB_zero _ _ h]; exact h1
theorem lo_at {hs_ : LL} (h : hs_.Pairwise fun a b => cmpB a b ≤ 0) (w : List Int) (j : Nat) (hj : j < hs_.length) : cmpB (hs_.getD j []) w < 0 ↔ j < loOf hs_ w := by
  have := count_mono (fun h => decide (cmpB h w < 0)) hs_ (fun i j hij hj hp => by
    simp only [decide_eq_true_eq] at hp ⊢
    exact le_lt_trans (pw_at h i j hij hj) hp) j hj
  rw [decide_eq_true_eq] at this
  exact this
theorem hi_at {hs_ : LL} (h : hs_.Pairwise fun a b => cmpB a b ≤ 0) (w : List Int) (j : Nat) (hj : j < hs_.length) : cmpB (hs_.getD j []) w ≤ 0 ↔ j < hiOf hs_ w := by
  have := count_mono (fun h => decide (cmpB h w ≤ 0)) hs_ (fun i j hij hj hp => by
    simp only [decide_eq_true_eq] at hp ⊢
    exact le_trans' (pw_at h i j hij hj) hp) j hj
  rw [decide_eq_true_eq] at this
  exact this
end Go.Proofs.Ytadhngelhognaaa.Wz
