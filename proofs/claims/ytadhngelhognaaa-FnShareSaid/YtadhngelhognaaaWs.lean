/- Words that the walks use. -/
import Derived.Test.YtadhngelhognaaaSrt
import Derived.Test.YtadhngelhognaaaWz
import Derived.Sort.Walk0
import Derived.Laws.BytesArg
namespace Go.Proofs.Ytadhngelhognaaa.Ws
open Go.Proofs.Ytadhngelhognaaa.Base Go.Proofs.Ytadhngelhognaaa.Fv Go.Proofs.Ytadhngelhognaaa.Sx Go.Proofs.Ytadhngelhognaaa.Wz Go.Proofs.YtadhngelhognaaaW.PrintWords
def num (l : List UInt8) : List Int := l.map fun b => (b.toNat : Int)
theorem bytesOf_num (s : ByteArray) : bytesOf s = num (Srt.toL s) := rfl
theorem num_inj : ∀ x y : List UInt8, num x = num y → x = y
  | [], [], _ => rfl
  | [], _ :: _, h => by simp [num] at h
  | _ :: _, [], h => by simp [num] at h
  | a :: x, b :: y, h => by
    simp only [num, List.map_cons, List.cons.injEq] at h
    rw [num_inj x y h.2, UInt8.toNat_inj.1 (show a.toNat = b.toNat by omega)]
theorem bytesOf_inj {s t : ByteArray} (h : bytesOf s = bytesOf t) : s = t := by
  have := num_inj _ _ h
  rw [← Srt.of_to s, ← Srt.of_to t]
  exact congrArg Srt.ofL this
theorem toList_iff (s t : ByteArray) : s.toList = t.toList ↔ bytesOf s = bytesOf t := by
  rw [Lib.toList_data, Lib.toList_data]
  constructor
  · intro h
    unfold bytesOf
    rw [h]
  · intro h
    rw [bytesOf_inj h]
theorem num_of (xs : List Int) (h : ∀ x ∈ xs, 0 ≤ x ∧ x < 256) : bytesOf (strOfNums xs) = xs := by
  unfold bytesOf
  rw [strOfNums_data, List.map_map]
  refine (List.map_congr_left fun x hx => ?_).trans (List.map_id _)
  have := h x hx
  show ((UInt8.ofNat x.toNat).toNat : Int) = x
  rw [UInt8.toNat_ofNat', Nat.mod_eq_of_lt (by omega)]
  omega
theorem lt_cmp : ∀ x y : List UInt8, x < y ↔ cmpB (num x) (num y) < 0
  | [], [] => by simp [num, cmpB]
  | [], _ :: _ => by simp [num, cmpB]
  | _ :: _, [] => by simp [num, cmpB]
  | a :: x, b :: y => by
    have ih := lt_cmp x y
    rw [List.cons_lt_cons_iff, ih]
    simp only [num, List.map_cons, cmpB]
    rw [UInt8.lt_iff_toNat_lt, ← UInt8.toNat_inj]
    by_cases c : a.toNat < b.toNat
    · rw [if_pos (by omega)]
      simp [c]
    · by_cases d : b.toNat < a.toNat
      · rw [if_neg (by omega), if_pos (by omega)]
        constructor
        · rintro (h | h) <;> omega
        · intro h; exact absurd h (by decide)
      · rw [if_neg (by omega), if_neg (by omega)]
        constructor
        · rintro (h | h)
          · omega
          · exact h.2
        · intro h
          exact .inr ⟨by omega, h⟩
theorem le_cmp (x y : List UInt8) : x ≤ y ↔ cmpB (num x) (num y) ≤ 0 := by
  rw [← List.not_lt, lt_cmp, cmpB_anti (num y) (num x)]
  omega
theorem less_cmp (s t : ByteArray) : Op.bytesLess s.toList t.toList = decide (cmpB (bytesOf s) (bytesOf t) < 0) := by
  rw [bytesLess_eq, Lib.toList_data, Lib.toList_data]
  exact decide_eq_decide.2 (lt_cmp _ _)
theorem compact_inv (d : Array (List UInt8)) (hs : ∀ i j, i ≤ j → j < d.size → cmpB (num d[i]!) (num d[j]!) ≤ 0) : ∀ m, m ≤ d.size → (Lib.compactUpTo d m).Pairwise (fun a b => cmpB (num a) (num b) < 0) ∧ ∀ x, x ∈ Lib.compactUpTo d m ↔ ∃ j, j < m ∧ d[j]! = x
  | 0, _ => by simp [Lib.compactUpTo]
  | m + 1, h => by
    obtain ⟨h1, h2⟩ := compact_inv d hs m (by omega)
    rw [Lib.compactUpTo_succ]
    by_cases k : Lib.keeps d m = true
    · rw [if_pos k]
      refine ⟨List.pairwise_append.2 ⟨h1, by simp, fun a ha b hb => ?_⟩, fun x => ?_⟩
      · obtain ⟨j, hj, rfl⟩ := (h2 a).1 ha
        obtain rfl := List.mem_singleton.1 hb
        have k' : m = 0 ∨ d[m]! ≠ d[m - 1]! := by simpa [Lib.keeps] using k
        rcases k' with k' | k'
        · omega
        · have q1 := hs j (m - 1) (by omega) (by omega)
          have q2 := hs (m - 1) m (by omega) (by omega)
          have q3 : cmpB (num d[m - 1]!) (num d[m]!) ≠ 0 := fun e => k' (num_inj _ _ (cmpB_zero _ _ e)).symm
          exact le_lt_trans q1 (by omega)
      · rw [List.mem_append, h2 x, List.mem_singleton]
        constructor
        · rintro (⟨j, hj, e⟩ | e)
          · exact ⟨j, by omega, e⟩
          · exact ⟨m, by omega, e.symm⟩
        · rintro ⟨j, hj, e⟩
          by_cases c : j = m
          · subst c; exact .inr e.symm
          · exact .inl ⟨j, by omega, e⟩
    · rw [if_neg k, List.append_nil]
      refine ⟨h1, fun x => ?_⟩
      rw [h2 x]
      have k' : m ≠ 0 ∧ d[m]! = d[m - 1]! := by simpa [Lib.keeps] using k
      constructor
      · rintro ⟨j, hj, e⟩
        exact ⟨j, by omega, e⟩
      · rintro ⟨j, hj, e⟩
        by_cases c : j = m
        · subst c; exact ⟨j - 1, by omega, by rw [← k'.2]; exact e⟩
        · exact ⟨j, by omega, e⟩
theorem words_num (xs : List ByteArray) : (Srt.wordsOf xs).map bytesOf = wordsL (xs.map bytesOf) := by
  have hp : ((xs.map Srt.toL).mergeSort fun x y => decide (x ≤ y)).Pairwise fun a b => cmpB (num a) (num b) ≤ 0 := by
    have h := List.pairwise_mergeSort (le := fun x y : List UInt8 => decide (x ≤ y)) (fun a b c h1 h2 => by
      simp only [decide_eq_true_eq, le_cmp] at *
      exact le_trans' h1 h2) (fun a b => by
      simp only [Bool.or_eq_true, decide_eq_true_eq, le_cmp]
      rw [cmpB_anti (num b) (num a)]
      omega) (xs.map Srt.toL)
    refine h.imp fun h => ?_
    rw [← le_cmp]
    simpa using h
  have hperm : ((xs.map Srt.toL).mergeSort fun x y => decide (x ≤ y)).Perm (xs.map Srt.toL) := List.mergeSort_perm _ _
  have e : (Srt.wordsOf xs).map bytesOf = (Lib.compact ((xs.map Srt.toL).mergeSort fun x y => decide (x ≤ y))).map num := by
    unfold Srt.wordsOf
    rw [List.map_map]
    refine List.map_congr_left fun x _ => ?_
    show bytesOf (Srt.ofL x) = num x
    rw [bytesOf_num, Srt.to_of]
  generalize ((xs.map Srt.toL).mergeSort fun x y => decide (x ≤ y)) = zs at hp hperm e
  rw [e]
  obtain ⟨h1, h2⟩ := compact_inv zs.toArray (fun i j hij hj => by
    have hj' : j < zs.length := by simpa using hj
    rw [getElem!_pos zs.toArray i (by simp; omega), getElem!_pos zs.toArray j (by simpa using hj')]
    rcases Nat.eq_or_lt_of_le hij with rfl | hlt
    · rw [cmpB_self]; exact Int.le_refl _
    · exact List.pairwise_iff_getElem.1 hp i j (by omega) hj' hlt) zs.length (by simp)
  refine words_unique _ _ (by rw [List.pairwise_map]; exact h1) fun y => ?_
  rw [List.mem_map, List.mem_map]
  constructor
  · rintro ⟨x, hx, rfl⟩
    obtain ⟨j, hj, rfl⟩ := (h2 x).1 hx
    rw [getElem!_pos zs.toArray j (by simpa using hj)]
    obtain ⟨s, hs, e⟩ := List.mem_map.1 (hperm.mem_iff.1 (List.getElem_mem (l := zs) hj))
    exact ⟨s, hs, by rw [bytesOf_num, e]; rfl⟩
  · rintro ⟨s, hs, rfl⟩
    have hx := hperm.mem_iff.2 (List.mem_map_of_mem hs)
    obtain ⟨j, hj, e⟩ := List.mem_iff_getElem.1 hx
    refine ⟨Srt.toL s, (h2 _).2 ⟨j, hj, ?_⟩, rfl⟩
    rw [getElem!_pos zs.toArray j (by simpa using hj)]
    exact e
theorem words_len (xs : List ByteArray) : (Srt.wordsOf xs).length ≤ xs.length := by
  have := congrArg List.length (words_num xs)
  rw [List.length_map] at this
  rw [this]
  have := wordsL_le (xs.map bytesOf)
  rwa [List.length_map] at this
end Go.Proofs.Ytadhngelhognaaa.Ws
