/- Huffman's optimality, in plain numbers: no program in sight. Written by this session. -/
namespace Go.Proofs.Ytgjmmegmkdklbaa.Best
/-- A number into a sorted list. -/
def insN (x : Nat) : List Nat → List Nat
  | [] => [x]
  | y :: l => if x ≤ y then x :: y :: l else y :: insN x l
theorem ins_len (x : Nat) : ∀ l, (insN x l).length = l.length + 1
  | [] => rfl
  | y :: l => by unfold insN; split <;> simp [ins_len x l]
theorem ins_perm (x : Nat) : ∀ l, (insN x l).Perm (x :: l)
  | [] => List.Perm.refl _
  | y :: l => by
    unfold insN
    split
    · exact List.Perm.refl _
    · exact ((ins_perm x l).cons y).trans (List.Perm.swap x y l)
theorem ins_sorted (x : Nat) : ∀ l, l.Pairwise (· ≤ ·) → (insN x l).Pairwise (· ≤ ·)
  | [], _ => by simp [insN]
  | y :: l, h => by
    unfold insN
    split
    · rename_i c
      refine List.pairwise_cons.2 ⟨fun z hz => ?_, h⟩
      rcases List.mem_cons.1 hz with rfl | hz
      · exact c
      · exact Nat.le_trans c (List.rel_of_pairwise_cons h hz)
    · rename_i c
      refine List.pairwise_cons.2 ⟨fun z hz => ?_, ins_sorted x l (List.pairwise_cons.1 h).2⟩
      rcases List.mem_cons.1 ((ins_perm x l).mem_iff.1 hz) with rfl | hz
      · omega
      · exact List.rel_of_pairwise_cons h hz
/-- The cost of merging the two lightest until one is left. -/
def mrg : Nat → List Nat → Nat
  | n + 1, a :: b :: l => a + b + mrg n (insN (a + b) l)
  | _, _ => 0
def costP (L : List (Nat × Nat)) : Nat := (L.map fun p => p.1 * p.2).sum
def kraftP (N : Nat) (L : List (Nat × Nat)) : Nat := (L.map fun p => 2 ^ (N - p.2)).sum
@[simp] theorem cost_cons (p : Nat × Nat) (L : List (Nat × Nat)) : costP (p :: L) = p.1 * p.2 + costP L := by simp [costP]
@[simp] theorem kraft_cons (N : Nat) (p : Nat × Nat) (L : List (Nat × Nat)) : kraftP N (p :: L) = 2 ^ (N - p.2) + kraftP N L := by simp [kraftP]
theorem cross (a b c d : Nat) (h1 : a ≤ b) (h2 : c ≤ d) : a * d + b * c ≤ a * c + b * d := by
  obtain ⟨x, rfl⟩ := Nat.exists_eq_add_of_le h1
  obtain ⟨y, rfl⟩ := Nat.exists_eq_add_of_le h2
  simp only [Nat.add_mul, Nat.mul_add]
  omega
/-- The lightest takes the greatest depth. -/
theorem swapmax (N w : Nat) : ∀ (R : List (Nat × Nat)) (d : Nat), (∀ p ∈ R, w ≤ p.1) → ∃ d' R', R'.map Prod.fst = R.map Prod.fst ∧ costP ((w, d') :: R') ≤ costP ((w, d) :: R) ∧ kraftP N ((w, d') :: R') = kraftP N ((w, d) :: R) ∧
    (∀ p ∈ R', p.2 ≤ d') ∧ ∀ M, d ≤ M → (∀ p ∈ R, p.2 ≤ M) → d' ≤ M ∧ ∀ p ∈ R', p.2 ≤ M
  | [], d, _ => ⟨d, [], rfl, Nat.le_refl _, rfl, by simp, fun M h _ => ⟨h, by simp⟩⟩
  | (w1, d1) :: R, d, h => by
    obtain ⟨d', R', e1, e2, e3, e4, e5⟩ := swapmax N w R d (fun p hp => h p (List.mem_cons_of_mem _ hp))
    have hw : w ≤ w1 := h (w1, d1) List.mem_cons_self
    simp only [cost_cons, kraft_cons] at e2 e3
    by_cases c : d1 ≤ d'
    · refine ⟨d', (w1, d1) :: R', by simp [e1], by simp only [cost_cons]; omega, by simp only [kraft_cons]; omega, fun p hp => ?_, fun M hM hR => ?_⟩
      · rcases List.mem_cons.1 hp with rfl | hp
        · exact c
        · exact e4 p hp
      · obtain ⟨q1, q2⟩ := e5 M hM (fun p hp => hR p (List.mem_cons_of_mem _ hp))
        refine ⟨q1, fun p hp => ?_⟩
        rcases List.mem_cons.1 hp with rfl | hp
        · exact hR _ List.mem_cons_self
        · exact q2 p hp
    · have := cross w w1 d' d1 hw (by omega)
      refine ⟨d1, (w1, d') :: R', by simp [e1], by simp only [cost_cons]; omega, by simp only [kraft_cons]; omega, fun p hp => ?_, fun M hM hR => ?_⟩
      · rcases List.mem_cons.1 hp with rfl | hp
        · show d' ≤ d1
          omega
        · have := e4 p hp; omega
      · obtain ⟨q1, q2⟩ := e5 M hM (fun p hp => hR p (List.mem_cons_of_mem _ hp))
        refine ⟨hR _ List.mem_cons_self, fun p hp => ?_⟩
        rcases List.mem_cons.1 hp with rfl | hp
        · exact q1
        · exact q2 p hp
/-- A pair into a list sorted by weight. -/
def insP (x : Nat × Nat) : List (Nat × Nat) → List (Nat × Nat)
  | [] => [x]
  | y :: l => if x.1 ≤ y.1 then x :: y :: l else y :: insP x l
theorem insP_fst (x : Nat × Nat) : ∀ l, (insP x l).map Prod.fst = insN x.1 (l.map Prod.fst)
  | [] => rfl
  | y :: l => by
    simp only [insP, insN, List.map_cons]
    split
    · rfl
    · simp [insP_fst x l]
theorem insP_cost (x : Nat × Nat) : ∀ l, costP (insP x l) = costP (x :: l)
  | [] => rfl
  | y :: l => by
    unfold insP
    split
    · rfl
    · have := insP_cost x l
      simp only [cost_cons] at this ⊢
      omega
theorem insP_kraft (N : Nat) (x : Nat × Nat) : ∀ l, kraftP N (insP x l) = kraftP N (x :: l)
  | [] => rfl
  | y :: l => by
    unfold insP
    split
    · rfl
    · have := insP_kraft N x l
      simp only [kraft_cons] at this ⊢
      omega
theorem insP_mem (x : Nat × Nat) : ∀ l, ∀ p ∈ insP x l, p = x ∨ p ∈ l
  | [], p, h => by simp [insP] at h; exact .inl h
  | y :: l, p, h => by
    unfold insP at h
    split at h
    · exact List.mem_cons.1 h
    · rcases List.mem_cons.1 h with rfl | h
      · exact .inr List.mem_cons_self
      · rcases insP_mem x l p h with h | h
        · exact .inl h
        · exact .inr (List.mem_cons_of_mem _ h)
theorem kraft_dvd (N d : Nat) (hd : d ≤ N) : ∀ R : List (Nat × Nat), (∀ p ∈ R, p.2 ≤ d) → 2 ^ (N - d) ∣ kraftP N R
  | [], _ => by simp [kraftP]
  | p :: R, h => by
    rw [kraft_cons]
    refine Nat.dvd_add (Nat.pow_dvd_pow 2 ?_) (kraft_dvd N d hd R fun q hq => h q (List.mem_cons_of_mem _ hq))
    have := h p List.mem_cons_self
    omega
theorem bestP (N : Nat) : ∀ (n : Nat) (L : List (Nat × Nat)), L.length ≤ n + 1 → (L.map Prod.fst).Pairwise (· ≤ ·) → (∀ p ∈ L, p.2 ≤ N) → kraftP N L ≤ 2 ^ N → mrg n (L.map Prod.fst) ≤ costP L
  | 0, L, hl, _, _, _ => by unfold mrg; exact Nat.zero_le _
  | n + 1, [], _, _, _, _ => Nat.zero_le _
  | n + 1, [p], _, _, _, _ => Nat.zero_le _
  | n + 1, (a, da) :: (b, db) :: R, hl, hs, hN, hk => by
    simp only [List.map_cons] at hs
    obtain ⟨ha, hs'⟩ := List.pairwise_cons.1 hs
    obtain ⟨hb, hR⟩ := List.pairwise_cons.1 hs'
    have la : ∀ p ∈ (b, db) :: R, a ≤ p.1 := fun p hp => ha p.1 (by
      have := List.mem_map_of_mem (f := Prod.fst) hp
      simpa using this)
    obtain ⟨D, R1, e1, e2, e3, e4, e5⟩ := swapmax N a ((b, db) :: R) da la
    obtain ⟨q1, q2⟩ := e5 N (hN _ List.mem_cons_self) (fun p hp => hN p (List.mem_cons_of_mem _ hp))
    obtain ⟨⟨b', db'⟩, R2, rfl⟩ : ∃ x R2, R1 = x :: R2 := by
      cases R1 with
      | nil => simp at e1
      | cons x R2 => exact ⟨x, R2, rfl⟩
    simp only [List.map_cons, List.cons.injEq] at e1
    obtain ⟨rfl, e1⟩ := e1
    have lb : ∀ p ∈ R2, b' ≤ p.1 := fun p hp => by
      have := List.mem_map_of_mem (f := Prod.fst) hp
      rw [e1] at this
      exact hb p.1 this
    obtain ⟨d2, R3, f1, f2, f3, f4, f5⟩ := swapmax N b' R2 db' lb
    obtain ⟨r1, r2⟩ := f5 D (e4 _ List.mem_cons_self) (fun p hp => e4 p (List.mem_cons_of_mem _ hp))
    obtain ⟨r3, r4⟩ := f5 N (q2 _ List.mem_cons_self) (fun p hp => q2 p (List.mem_cons_of_mem _ hp))
    rw [kraft_cons] at e3
    rw [cost_cons] at e2
    rw [← f3] at e3
    have k1 : 2 ^ (N - D) + (2 ^ (N - d2) + kraftP N R3) ≤ 2 ^ N := by
      simp only [kraft_cons] at e3 hk
      omega
    have pD : 0 < 2 ^ (N - D) := Nat.pow_pos (by decide)
    have hd2 : 1 ≤ d2 := by
      cases d2 with
      | zero => rw [Nat.sub_zero] at k1; omega
      | succ _ => omega
    obtain ⟨q, hq⟩ := kraft_dvd N d2 r3 R3 f4
    have hp2 : 2 ^ N = 2 ^ (N - d2) * 2 ^ d2 := by rw [← Nat.pow_add]; congr 1; omega
    have hh : 2 ^ (N - (d2 - 1)) = 2 ^ (N - d2) + 2 ^ (N - d2) := by
      rw [show N - (d2 - 1) = (N - d2) + 1 by omega, Nat.pow_succ]; omega
    have k2 : 2 ^ (N - (d2 - 1)) + kraftP N R3 ≤ 2 ^ N := by
      rw [hq] at k1 ⊢
      rw [hh]
      rw [hp2] at k1 ⊢
      have u : 0 < 2 ^ (N - d2) := Nat.pow_pos (by decide)
      generalize 2 ^ (N - d2) = U at *
      generalize 2 ^ d2 = P at *
      have : U * (1 + q) < U * P := by rw [Nat.mul_add]; omega
      have := Nat.lt_of_mul_lt_mul_left this
      have := Nat.mul_le_mul_left U (show 2 + q ≤ P by omega)
      rw [Nat.mul_add] at this
      omega
    have ih := bestP N n (insP (a + b', d2 - 1) R3) (by
      have := congrArg List.length (insP_fst (a + b', d2 - 1) R3)
      rw [List.length_map, ins_len, List.length_map] at this
      have e : R3.length = R.length := by
        have := congrArg List.length (f1.trans e1)
        simpa using this
      simp only [List.length_cons] at hl
      omega) (by rw [insP_fst, f1, e1]; exact ins_sorted _ _ hR) (fun p hp => by
      rcases insP_mem _ _ _ hp with rfl | hp
      · show d2 - 1 ≤ N
        omega
      · exact r4 p hp) (by rw [insP_kraft, kraft_cons]; exact k2)
    rw [insP_fst, f1, e1, insP_cost, cost_cons] at ih
    simp only [List.map_cons, mrg]
    have m1 : a * d2 ≤ a * D := Nat.mul_le_mul_left a r1
    have m2 : (a + b') * (d2 - 1) + (a + b') = a * d2 + b' * d2 := by
      obtain ⟨x, rfl⟩ : ∃ x, d2 = x + 1 := ⟨d2 - 1, by omega⟩
      rw [Nat.add_sub_cancel, ← Nat.mul_succ, Nat.add_mul]
    simp only [cost_cons] at e2 f2 ih ⊢
    omega

-- the forest
theorem sorted_unique : ∀ l1 l2 : List Nat, l1.Perm l2 → l1.Pairwise (· ≤ ·) → l2.Pairwise (· ≤ ·) → l1 = l2
  | [], l2, h, _, _ => h.nil_eq
  | x :: l1, [], h, _, _ => absurd h.length_eq (by simp)
  | x :: l1, y :: l2, h, h1, h2 => by
    have e : x = y := by
      have m1 : x ∈ y :: l2 := h.mem_iff.1 List.mem_cons_self
      have m2 : y ∈ x :: l1 := h.mem_iff.2 List.mem_cons_self
      rcases List.mem_cons.1 m1 with rfl | m1
      · rfl
      · rcases List.mem_cons.1 m2 with rfl | m2
        · rfl
        · have a := List.rel_of_pairwise_cons h2 m1
          have b := List.rel_of_pairwise_cons h1 m2
          omega
    subst e
    rw [sorted_unique l1 l2 h.cons_inv (List.pairwise_cons.1 h1).2 (List.pairwise_cons.1 h2).2]
def sortN : List Nat → List Nat
  | [] => []
  | x :: l => insN x (sortN l)
theorem sortN_perm : ∀ l, (sortN l).Perm l
  | [] => List.Perm.refl _
  | x :: l => (ins_perm x _).trans ((sortN_perm l).cons x)
theorem sortN_sorted : ∀ l, (sortN l).Pairwise (· ≤ ·)
  | [] => by simp [sortN]
  | x :: l => ins_sorted x _ (sortN_sorted l)
theorem sortN_eq {l m : List Nat} (h : m.Perm l) (hm : m.Pairwise (· ≤ ·)) : sortN l = m := sorted_unique _ _ ((sortN_perm l).trans h.symm) (sortN_sorted l) hm
abbrev Tr := Int × List Int
/-- The first of the lightest. -/
def FM (F : List Tr) (a : Nat) : Prop := a < F.length ∧ (∀ j, j < F.length → (F.getD a (0, [])).1 ≤ (F.getD j (0, [])).1) ∧ ∀ j, j < a → (F.getD a (0, [])).1 < (F.getD j (0, [])).1
theorem FM_unique {F : List Tr} {a b : Nat} (ha : FM F a) (hb : FM F b) : a = b := by
  rcases Nat.lt_trichotomy a b with h | h | h
  · have := hb.2.2 a h; have := ha.2.1 b hb.1; omega
  · exact h
  · have := ha.2.2 b h; have := hb.2.1 a ha.1; omega
def lidx : List Tr → Nat
  | [] => 0
  | x :: l => if l = [] then 0 else if ((l.getD (lidx l) (0, [])).1 < x.1) then lidx l + 1 else 0
theorem lidx_FM : ∀ F : List Tr, F ≠ [] → FM F (lidx F)
  | [], h => absurd rfl h
  | x :: l, _ => by
    by_cases e : l = []
    · subst e
      refine ⟨by simp [lidx], fun j hj => ?_, fun j hj => absurd hj (by simp [lidx])⟩
      have : j = 0 := by simpa using hj
      subst this
      simp [lidx]
    · obtain ⟨h1, h2, h3⟩ := lidx_FM l e
      unfold lidx
      rw [if_neg e]
      by_cases c : (l.getD (lidx l) (0, [])).1 < x.1
      · rw [if_pos c]
        refine ⟨by simp only [List.length_cons]; omega, fun j hj => ?_, fun j hj => ?_⟩
        · cases j with
          | zero => simp only [List.getD_cons_succ, List.getD_cons_zero]; omega
          | succ j => simp only [List.getD_cons_succ]; exact h2 j (by simp only [List.length_cons] at hj; omega)
        · cases j with
          | zero => simp only [List.getD_cons_succ, List.getD_cons_zero]; exact c
          | succ j => simp only [List.getD_cons_succ]; exact h3 j (by omega)
      · rw [if_neg c]
        refine ⟨by simp, fun j hj => ?_, fun j hj => absurd hj (by omega)⟩
        cases j with
        | zero => exact Int.le_refl _
        | succ j =>
          simp only [List.getD_cons_succ, List.getD_cons_zero]
          have := h2 j (by simp only [List.length_cons] at hj; omega)
          omega
def bumpL (ls : List Int) : List Int → List Int
  | [] => ls
  | s :: t => bumpL (ls.set s.toNat (ls.getD s.toNat 0 + 1)) t
theorem bump_len : ∀ (t ls : List Int), (bumpL ls t).length = ls.length
  | [], ls => rfl
  | s :: t, ls => by unfold bumpL; rw [bump_len t, List.length_set]
def mergeF : Nat → List Tr → List Int → List Int
  | 0, _, ls => ls
  | n + 1, F, ls => if 1 < F.length then
      mergeF n (((F.eraseIdx (lidx F)).eraseIdx (lidx (F.eraseIdx (lidx F)))) ++ [((F.getD (lidx F) (0, [])).1 + ((F.eraseIdx (lidx F)).getD (lidx (F.eraseIdx (lidx F))) (0, [])).1, (F.getD (lidx F) (0, [])).2 ++ ((F.eraseIdx (lidx F)).getD (lidx (F.eraseIdx (lidx F))) (0, [])).2)])
        (bumpL ls ((F.getD (lidx F) (0, [])).2 ++ ((F.eraseIdx (lidx F)).getD (lidx (F.eraseIdx (lidx F))) (0, [])).2))
    else ls
def dotS : List Int → List Int → Int
  | c :: cs, l :: ls => c * l + dotS cs ls
  | _, _ => 0
theorem tot_set : ∀ (cs ls : List Int) (i : Nat), i < cs.length → cs.length = ls.length → dotS cs (ls.set i (ls.getD i 0 + 1)) = dotS cs ls + cs.getD i 0
  | [], ls, i, h, _ => absurd h (by simp)
  | c :: cs, [], i, _, h => absurd h (by simp)
  | c :: cs, l :: ls, 0, _, _ => by simp only [List.set_cons_zero, dotS, List.getD_cons_zero, Int.mul_add, Int.mul_one]; omega
  | c :: cs, l :: ls, i + 1, h, hl => by
    simp only [List.set_cons_succ, dotS, List.getD_cons_succ]
    rw [tot_set cs ls i (by simpa using h) (by simpa using hl)]
    omega
def sumW (cs : List Int) : List Int → Int
  | [] => 0
  | s :: t => cs.getD s.toNat 0 + sumW cs t
theorem sumW_append (cs : List Int) : ∀ a b : List Int, sumW cs (a ++ b) = sumW cs a + sumW cs b
  | [], b => by simp [sumW]
  | s :: a, b => by simp only [List.cons_append, sumW, sumW_append cs a b]; omega
theorem tot_bump (cs : List Int) : ∀ (t ls : List Int), (∀ s ∈ t, 0 ≤ s ∧ s < cs.length) → cs.length = ls.length → dotS cs (bumpL ls t) = dotS cs ls + sumW cs t
  | [], ls, _, _ => by simp [bumpL, sumW]
  | s :: t, ls, h, hl => by
    have hs := h s List.mem_cons_self
    unfold bumpL
    rw [tot_bump cs t _ (fun x hx => h x (List.mem_cons_of_mem _ hx)) (by rw [List.length_set]; exact hl), tot_set cs ls s.toNat (by omega) hl, sumW]
    omega
def GoodF (cs : List Int) (F : List Tr) : Prop := ∀ T ∈ F, T.1 = sumW cs T.2 ∧ (∀ s ∈ T.2, 0 ≤ s ∧ s < cs.length) ∧ 0 ≤ T.1
theorem erase_perm : ∀ (F : List Tr) (a : Nat), a < F.length → F.Perm (F.getD a (0, []) :: F.eraseIdx a)
  | [], a, h => absurd h (by simp)
  | x :: l, 0, _ => List.Perm.refl _
  | x :: l, a + 1, h => by
    simp only [List.getD_cons_succ, List.eraseIdx_cons_succ]
    exact ((erase_perm l a (by simpa using h)).cons x).trans (List.Perm.swap _ _ _)
abbrev wsOf (F : List Tr) : List Nat := F.map fun T => T.1.toNat
theorem FM_least {F : List Tr} {a : Nat} (h : FM F a) : ∀ T ∈ F, (F.getD a (0, [])).1 ≤ T.1 := fun T hT => by
  obtain ⟨j, hj, e⟩ := List.getElem_of_mem hT
  have := h.2.1 j hj
  rw [show F.getD j (0, []) = T by simp [hj, e]] at this
  exact this
theorem sort_step (F : List Tr) (hF : F ≠ []) : sortN (wsOf F) = (F.getD (lidx F) (0, [])).1.toNat :: sortN (wsOf (F.eraseIdx (lidx F))) := by
  have h := lidx_FM F hF
  have hp := erase_perm F (lidx F) h.1
  refine sortN_eq ?_ ?_
  · exact ((sortN_perm _).cons _).trans (hp.map (fun T : Tr => T.1.toNat)).symm
  · refine List.pairwise_cons.2 ⟨fun x hx => ?_, sortN_sorted _⟩
    obtain ⟨T, hT, rfl⟩ := List.mem_map.1 ((sortN_perm _).mem_iff.1 hx)
    have := FM_least h T (List.mem_of_mem_eraseIdx hT)
    omega
theorem merge_tot (cs : List Int) : ∀ (n : Nat) (F : List Tr) (ls : List Int), F.length ≤ n + 1 → GoodF cs F → cs.length = ls.length → dotS cs (mergeF n F ls) = dotS cs ls + (mrg n (sortN (wsOf F)) : Int)
  | 0, F, ls, _, _, _ => by simp [mergeF, mrg]
  | n + 1, F, ls, hl, hg, he => by
    unfold mergeF
    by_cases c : 1 < F.length
    · rw [if_pos c]
      have hF : F ≠ [] := fun e => by rw [e] at c; simp at c
      have h1 := lidx_FM F hF
      have s1 := sort_step F hF
      have p1 := erase_perm F (lidx F) h1.1
      have l1 := List.length_eraseIdx_of_lt h1.1
      generalize F.eraseIdx (lidx F) = F1 at *
      generalize F.getD (lidx F) (0, []) = A at *
      have hF1 : F1 ≠ [] := fun e => by rw [e] at l1; simp at l1; omega
      have h2 := lidx_FM F1 hF1
      have s2 := sort_step F1 hF1
      have p2 := erase_perm F1 (lidx F1) h2.1
      have l2 := List.length_eraseIdx_of_lt h2.1
      generalize F1.eraseIdx (lidx F1) = F2 at *
      generalize F1.getD (lidx F1) (0, []) = B at *
      have gA := hg A (p1.mem_iff.2 List.mem_cons_self)
      have gB := hg B (p1.mem_iff.2 (List.mem_cons_of_mem _ (p2.mem_iff.2 List.mem_cons_self)))
      have g2 : ∀ T ∈ F2, T ∈ F := fun T hT => p1.mem_iff.2 (List.mem_cons_of_mem _ (p2.mem_iff.2 (List.mem_cons_of_mem _ hT)))
      have hsy : ∀ s ∈ A.2 ++ B.2, 0 ≤ s ∧ s < cs.length := fun s hs => by
        rcases List.mem_append.1 hs with hs | hs
        · exact gA.2.1 s hs
        · exact gB.2.1 s hs
      have gN : GoodF cs (F2 ++ [(A.1 + B.1, A.2 ++ B.2)]) := fun T hT => by
        rcases List.mem_append.1 hT with hT | hT
        · exact hg T (g2 T hT)
        · rw [List.mem_singleton] at hT
          subst hT
          refine ⟨?_, hsy, ?_⟩
          · show A.1 + B.1 = sumW cs (A.2 ++ B.2)
            rw [sumW_append, gA.1, gB.1]
          · show 0 ≤ A.1 + B.1
            omega
      have e3 : sortN (wsOf (F2 ++ [(A.1 + B.1, A.2 ++ B.2)])) = insN (A.1.toNat + B.1.toNat) (sortN (wsOf F2)) := by
        refine sortN_eq ?_ (ins_sorted _ _ (sortN_sorted _))
        refine (ins_perm _ _).trans ?_
        show List.Perm _ ((F2 ++ [(A.1 + B.1, A.2 ++ B.2)]).map fun T : Tr => T.1.toNat)
        rw [List.map_append, List.map_cons, List.map_nil, show ((A.1 + B.1, A.2 ++ B.2) : Tr).1.toNat = A.1.toNat + B.1.toNat by show (A.1 + B.1).toNat = _; omega]
        exact ((sortN_perm _).cons _).trans (List.perm_append_singleton _ _).symm
      rw [merge_tot cs n _ _ (by rw [List.length_append, List.length_singleton]; omega) gN (by rw [bump_len]; exact he), tot_bump cs _ _ hsy he, sumW_append, ← gA.1, ← gB.1, e3, s1, s2]
      simp only [mrg]
      omega
    · rw [if_neg c]
      have : mrg (n + 1) (sortN (wsOf F)) = 0 := by
        have hl2 : (sortN (wsOf F)).length = F.length := by rw [(sortN_perm _).length_eq, List.length_map]
        match hs : sortN (wsOf F) with
        | [] => rfl
        | [x] => rfl
        | x :: y :: l => rw [hs] at hl2; simp at hl2; omega
      rw [this]
      simp

-- a rival
def initF : Nat → List Int → List Tr
  | _, [] => []
  | i, c :: cs => if c > 0 then (c, [(i : Int)]) :: initF (i + 1) cs else initF (i + 1) cs
def prs : List Int → List Int → List (Nat × Nat)
  | c :: cs, l :: ls => if c > 0 then (c.toNat, l.toNat) :: prs cs ls else prs cs ls
  | _, _ => []
/-- Kraft's sum of the lengths that are used. -/
def kr : List Int → Nat
  | [] => 0
  | l :: ls => (if l > 0 then 2 ^ (60 - l.toNat) else 0) + kr ls
theorem initF_ws : ∀ (cs ls : List Int) (i : Nat), cs.length = ls.length → wsOf (initF i cs) = (prs cs ls).map Prod.fst
  | [], ls, i, _ => by cases ls <;> simp [initF, prs]
  | c :: cs, [], i, h => absurd h (by simp)
  | c :: cs, l :: ls, i, h => by
    have ih := initF_ws cs ls (i + 1) (by simpa using h)
    simp only [initF, prs]
    split
    · rw [List.map_cons, show wsOf ((c, [(i : Int)]) :: initF (i + 1) cs) = c.toNat :: wsOf (initF (i + 1) cs) from rfl, show (prs cs ls).map Prod.fst = wsOf (initF (i + 1) cs) from ih.symm]
    · exact ih
theorem initF_len : ∀ (cs : List Int) (i : Nat), (initF i cs).length ≤ cs.length
  | [], _ => by simp [initF]
  | c :: cs, i => by
    have := initF_len cs (i + 1)
    unfold initF
    split <;> simp only [List.length_cons] <;> omega
theorem initF_good (all : List Int) : ∀ (cs : List Int) (i : Nat), all.drop i = cs → GoodF all (initF i cs)
  | [], i, _ => fun T hT => by simp [initF] at hT
  | c :: cs, i, h => by
    have hi : i < all.length := by
      have := congrArg List.length h
      rw [List.length_drop, List.length_cons] at this
      omega
    have hd := List.drop_eq_getElem_cons hi
    rw [h] at hd
    injection hd with h1 h2
    have ih := initF_good all cs (i + 1) h2.symm
    unfold initF
    split
    · rename_i c0
      intro T hT
      rcases List.mem_cons.1 hT with rfl | hT
      · refine ⟨?_, fun s hs => ?_, by show 0 ≤ c; omega⟩
        · simp only [sumW, Int.toNat_natCast]
          rw [h1]
          simp [hi]
        · rw [List.mem_singleton] at hs
          subst hs
          exact ⟨by omega, by omega⟩
      · exact ih T hT
    · exact ih
theorem initF_shape : ∀ (cs : List Int) (k : Nat) (T : Tr), T ∈ initF k cs → ∃ i : Nat, 0 < T.1 ∧ T.2 = [(i : Int)] ∧ (k ≤ i ∧ i - k < cs.length) ∧ T.1 = cs.getD (i - k) 0
  | [], k, T, h => by simp [initF] at h
  | c :: cs, k, T, h => by
    unfold initF at h
    have next : T ∈ initF (k + 1) cs → ∃ i : Nat, 0 < T.1 ∧ T.2 = [(i : Int)] ∧ (k ≤ i ∧ i - k < (c :: cs).length) ∧ T.1 = (c :: cs).getD (i - k) 0 := fun h => by
      obtain ⟨i, h1, h2, h3, h4⟩ := initF_shape cs (k + 1) T h
      refine ⟨i, h1, h2, ⟨by omega, by simp only [List.length_cons]; omega⟩, ?_⟩
      rw [show i - k = (i - (k + 1)) + 1 by omega, List.getD_cons_succ]
      exact h4
    split at h
    · rename_i c0
      rcases List.mem_cons.1 h with rfl | h
      · exact ⟨k, c0, rfl, ⟨Nat.le_refl _, by simp⟩, by rw [Nat.sub_self, List.getD_cons_zero]⟩
      · exact next h
    · exact next h
theorem prs_cost : ∀ cs ls : List Int, cs.length = ls.length → (∀ c ∈ cs, 0 ≤ c) → (∀ l ∈ ls, 0 ≤ l) → (costP (prs cs ls) : Int) = dotS cs ls
  | [], ls, _, _, _ => by cases ls <;> simp [prs, costP, dotS]
  | c :: cs, [], h, _, _ => absurd h (by simp)
  | c :: cs, l :: ls, h, hc, hl => by
    have ih := prs_cost cs ls (by simpa using h) (fun x hx => hc x (List.mem_cons_of_mem _ hx)) (fun x hx => hl x (List.mem_cons_of_mem _ hx))
    have c0 := hc c List.mem_cons_self
    have l0 := hl l List.mem_cons_self
    unfold prs dotS
    split
    · obtain ⟨x, rfl⟩ := Int.eq_ofNat_of_zero_le c0
      obtain ⟨y, rfl⟩ := Int.eq_ofNat_of_zero_le l0
      rw [cost_cons, Int.natCast_add, ih]
      simp
    · obtain rfl : c = 0 := by omega
      rw [ih, Int.zero_mul, Int.zero_add]
theorem prs_kraft : ∀ cs ls : List Int, cs.length = ls.length → (∀ i, cs.getD i 0 > 0 → ls.getD i 0 > 0) → kraftP 60 (prs cs ls) ≤ kr ls
  | [], ls, _, _ => by cases ls <;> simp [prs, kraftP]
  | c :: cs, [], h, _ => absurd h (by simp)
  | c :: cs, l :: ls, h, hp => by
    have ih := prs_kraft cs ls (by simpa using h) (fun i hi => by have := hp (i + 1); simpa using this (by simpa using hi))
    have p0 := hp 0
    simp only [List.getD_cons_zero] at p0
    unfold prs kr
    split
    · rename_i c0
      rw [kraft_cons, if_pos (p0 c0)]
      show 2 ^ (60 - l.toNat) + _ ≤ _
      omega
    · omega
theorem prs_le : ∀ cs ls : List Int, (∀ l ∈ ls, l ≤ 60) → ∀ p ∈ prs cs ls, p.2 ≤ 60
  | [], ls, _, p, h => by cases ls <;> simp [prs] at h
  | c :: cs, [], _, p, h => by simp [prs] at h
  | c :: cs, l :: ls, hl, p, h => by
    unfold prs at h
    have ih := prs_le cs ls (fun x hx => hl x (List.mem_cons_of_mem _ hx)) p
    split at h
    · rcases List.mem_cons.1 h with rfl | h
      · have := hl l List.mem_cons_self
        show l.toNat ≤ 60
        omega
      · exact ih h
    · exact ih h
def sortPr : List (Nat × Nat) → List (Nat × Nat)
  | [] => []
  | x :: l => insP x (sortPr l)
theorem sortPr_fst : ∀ l, (sortPr l).map Prod.fst = sortN (l.map Prod.fst)
  | [] => rfl
  | x :: l => by simp only [sortPr, List.map_cons, sortN, insP_fst, sortPr_fst l]
theorem sortPr_cost : ∀ l, costP (sortPr l) = costP l
  | [] => rfl
  | x :: l => by simp only [sortPr, insP_cost, cost_cons, sortPr_cost l]
theorem sortPr_kraft (N : Nat) : ∀ l, kraftP N (sortPr l) = kraftP N l
  | [] => rfl
  | x :: l => by simp only [sortPr, insP_kraft, kraft_cons, sortPr_kraft N l]
theorem sortPr_mem : ∀ l, ∀ p ∈ sortPr l, p ∈ l
  | [], p, h => h
  | x :: l, p, h => by
    rcases insP_mem _ _ _ h with rfl | h
    · exact List.mem_cons_self
    · exact List.mem_cons_of_mem _ (sortPr_mem l p h)
theorem rival_best (cs ls : List Int) (n : Nat) (hn : cs.length ≤ n + 1) (hl : cs.length = ls.length) (hc : ∀ c ∈ cs, 0 ≤ c) (hr : ∀ l ∈ ls, 0 ≤ l ∧ l ≤ 60) (hp : ∀ i, cs.getD i 0 > 0 → ls.getD i 0 > 0) (hk : kr ls ≤ 2 ^ 60) :
    (mrg n (sortN (wsOf (initF 0 cs))) : Int) ≤ dotS cs ls := by
  have h1 := bestP 60 n (sortPr (prs cs ls)) (by
    have e := congrArg List.length (sortPr_fst (prs cs ls))
    rw [List.length_map, (sortN_perm _).length_eq, ← initF_ws cs ls 0 hl, List.length_map] at e
    have := initF_len cs 0
    omega) (by rw [sortPr_fst]; exact sortN_sorted _) (fun p hpm => prs_le cs ls (fun l h => (hr l h).2) p (sortPr_mem _ p hpm)) (by
    rw [sortPr_kraft]
    exact Nat.le_trans (prs_kraft cs ls hl hp) hk)
  rw [sortPr_fst, sortPr_cost, ← initF_ws cs ls 0 hl] at h1
  rw [← prs_cost cs ls hl hc (fun l h => (hr l h).1)]
  exact Int.ofNat_le.2 h1
theorem tot_zero : ∀ (cs : List Int) (n : Nat), dotS cs (List.replicate n 0) = 0
  | [], n => by cases n <;> simp [dotS]
  | c :: cs, 0 => by simp [dotS]
  | c :: cs, n + 1 => by simp only [List.replicate_succ, dotS, tot_zero cs n, Int.mul_zero, Int.add_zero]
/-- The reference's and the program's lengths. -/
def hufL (cs : List Int) : List Int :=
  if (initF 0 cs).length = 1 then (List.replicate cs.length 0).set (((initF 0 cs).getD 0 (0, [])).2.getD 0 0).toNat 1 else mergeF cs.length (initF 0 cs) (List.replicate cs.length 0)
def okC (l : List Int) : Bool := decide (l.length ≤ 300) && l.all fun c => decide (0 ≤ c ∧ c ≤ 1000000)
def lensR (cs : List Int) : List Int := if okC cs = true then hufL cs else []
theorem mergeF_len : ∀ (n : Nat) (F : List Tr) (ls : List Int), (mergeF n F ls).length = ls.length
  | 0, _, _ => rfl
  | n + 1, F, ls => by
    unfold mergeF
    split
    · rw [mergeF_len n, bump_len]
    · rfl
theorem hufL_len (cs : List Int) : (hufL cs).length = cs.length := by
  unfold hufL
  split
  · rw [List.length_set, List.length_replicate]
  · rw [mergeF_len, List.length_replicate]
theorem tot_ge (cs ls : List Int) (hl : cs.length = ls.length) (hc : ∀ c ∈ cs, 0 ≤ c) (hr : ∀ l ∈ ls, 0 ≤ l) : ∀ i, i < cs.length → cs.getD i 0 * ls.getD i 0 ≤ dotS cs ls := by
  induction cs generalizing ls with
  | nil => intro i h; exact absurd h (by simp)
  | cons c cs ih =>
    cases ls with
    | nil => exact absurd hl (by simp)
    | cons l ls =>
      have c0 := hc c List.mem_cons_self
      have l0 := hr l List.mem_cons_self
      have hn : 0 ≤ dotS cs ls := by
        rw [← prs_cost cs ls (by simpa using hl) (fun x hx => hc x (List.mem_cons_of_mem _ hx)) (fun x hx => hr x (List.mem_cons_of_mem _ hx))]
        exact Int.natCast_nonneg _
      have m0 := Int.mul_nonneg c0 l0
      intro i hi
      cases i with
      | zero => simp only [List.getD_cons_zero, dotS]; omega
      | succ i =>
        have := ih ls (by simpa using hl) (fun x hx => hc x (List.mem_cons_of_mem _ hx)) (fun x hx => hr x (List.mem_cons_of_mem _ hx)) i (by simpa using hi)
        simp only [List.getD_cons_succ, dotS]
        omega
theorem huf_best (cs ls : List Int) (hl : cs.length = ls.length) (hc : ∀ c ∈ cs, 0 ≤ c) (hr : ∀ l ∈ ls, 0 ≤ l ∧ l ≤ 60) (hp : ∀ i, cs.getD i 0 > 0 → ls.getD i 0 > 0) (hk : kr ls ≤ 2 ^ 60) : dotS cs (hufL cs) ≤ dotS cs ls := by
  unfold hufL
  have hg := initF_good cs cs 0 rfl
  split
  · rename_i h
    obtain ⟨T, hT⟩ := List.length_eq_one_iff.1 h
    have gT := hg T (by rw [hT]; exact List.mem_cons_self)
    have hg0 := initF_shape cs 0 T (by rw [hT]; exact List.mem_cons_self)
    obtain ⟨i, e1, e2, e3, e4⟩ := hg0
    rw [hT, List.getD_cons_zero, e2, List.getD_cons_zero, Int.toNat_natCast]
    rw [Nat.sub_zero] at e3 e4
    have hi : i < cs.length := by omega
    have := tot_set cs (List.replicate cs.length 0) i hi (by simp)
    rw [show (List.replicate cs.length (0 : Int)).getD i 0 = 0 by simp [hi], tot_zero, Int.zero_add, Int.zero_add] at this
    rw [this]
    have hge := tot_ge cs ls hl hc (fun l h => (hr l h).1) i hi
    have p1 := hp i (by rw [← e4]; exact e1)
    have c0 : 0 ≤ cs.getD i 0 := by rw [← e4]; omega
    have := Int.mul_le_mul_of_nonneg_left (show (1 : Int) ≤ ls.getD i 0 by omega) c0
    rw [Int.mul_one] at this
    omega
  · rw [merge_tot cs cs.length _ _ (by have := initF_len cs 0; omega) hg (by simp), tot_zero, Int.zero_add]
    exact rival_best cs ls cs.length (by omega) hl hc hr hp hk
end Go.Proofs.Ytgjmmegmkdklbaa.Best
