import Derived.Test.YtgjmmegmkdklbaaProg
import Derived.Below
import Derived.Deep.Draws
import Derived.Deep.AppendLies
import Derived.Maps.AppendAt
import Derived.OwnWalk
import Derived.Laws.BytesArg
import Derived.Laws.MakeOwn
import Derived.Laws.OwnMore
import Derived.Deep.OwnRows
import Derived.Tactics
import Derived.Lib.ConvBytes
import Derived.Laws.Slices
import Derived.WalkKit
import Derived.KernelRfl
import Derived.RowKit3
import Derived.Deep.LoopGhost
import Derived.Deep.QuietTactic
import Derived.BigQuiet
import Derived.WideLaws
import Derived.Deep.DeepCutAuto
import Derived.Deep.CutBlock
import Derived.Deep.RegionHeld3
import Derived.Laws.Rows
import Derived.Lib.AppendStr
import Derived.ArgAppend
import Derived.Laws.IdiomCopy
import Derived.OrdersHeld
import Derived.Laws.BitsLemmas
import Derived.RowKit
import Derived.Shelf.Abstract
import Derived.DataElems
import Derived.Test.YtgjmmegmkdklbaaWWords
import Derived.Test.YtgjmmegmkdklbaaWLast
import Derived.Test.YtgjmmegmkdklbaaWTab
import Derived.Test.YtgjmmegmkdklbaaWQPut
import Derived.Test.YtgjmmegmkdklbaaWApart
import Derived.Test.YtgjmmegmkdklbaaWArr
import Derived.Test.YtgjmmegmkdklbaaWZeros
import Derived.Test.YtgjmmegmkdklbaaWFoot
import Derived.Test.YtgjmmegmkdklbaaWKept
import Derived.Test.YtgjmmegmkdklbaaWShare
import Derived.Test.YtgjmmegmkdklbaaWN
import Derived.Test.YtgjmmegmkdklbaaWRepsOne
import Derived.Test.YtgjmmegmkdklbaaWGuard
import Derived.Test.YtgjmmegmkdklbaaWNEv
import Derived.Test.YtgjmmegmkdklbaaWMore
/- copy(xs[k:], ys) onto a row of one's own. -/
namespace Go.Proofs.Ytgjmmegmkdklbaa
open Go.RowKit Go.Proofs.YtgjmmegmkdklbaaW.PrintWords Go.Proofs.YtgjmmegmkdklbaaW.PrintLast Go.Proofs.YtgjmmegmkdklbaaW.PrintMore
set_option linter.unusedVariables false
/-- What copy(xs[k:], ys) leaves in xs. -/
def kopy {α : Type} (xs : List α) (k : Nat) (ys : List α) : List α := xs.take k ++ (ys.take (xs.length - k) ++ xs.drop (k + ys.length))
theorem kopy_length {α : Type} {xs : List α} {k : Nat} (ys : List α) (hk : k ≤ xs.length) : (kopy xs k ys).length = xs.length := by
  simp only [kopy, List.length_append, List.length_take, List.length_drop]
  omega
theorem kopy_min {α : Type} {xs : List α} {k : Nat} (ys : List α) : kopy xs k ys = xs.take k ++ (ys.take (min ys.length (xs.length - k)) ++ xs.drop (k + min ys.length (xs.length - k))) := by
  unfold kopy
  congr 1
  rcases Nat.le_total ys.length (xs.length - k) with h | h
  · rw [Nat.min_eq_left h, List.take_of_length_le h, List.take_length]
  · rw [Nat.min_eq_right h, (List.drop_eq_nil_of_le (by omega) : xs.drop (k + ys.length) = []), (List.drop_eq_nil_of_le (by omega) : xs.drop (k + (xs.length - k)) = [])]
theorem kopy_none {α : Type} {xs : List α} {k : Nat} (ys : List α) (hk : k ≤ xs.length) (h0 : min ys.length (xs.length - k) = 0) : kopy xs k ys = xs := by
  rw [kopy_min, h0]
  simp
theorem take_splice {α : Type} (L X E : List α) (N k n : Nat) (hX : L.take N = X) (hE : E.length = n) (hN : k + n ≤ N) (hL : N ≤ L.length) :
    (L.take k ++ E ++ L.drop (k + n)).take N = X.take k ++ (E ++ X.drop (k + n)) := by
  subst hX; subst hE
  rw [List.take_append, List.take_append, List.take_of_length_le (l := L.take k) (by rw [List.length_take]; omega), List.take_of_length_le (l := E) (by rw [List.length_take]; omega), List.length_append, List.length_take,
    List.take_take, List.drop_take, Nat.min_eq_left (show k ≤ L.length by omega), Nat.min_eq_left (show k ≤ N by omega), List.append_assoc]
section
variable {P : Program} {ops : Array Oper} {rest : List Oper} {o : Oper} {a : Act} {Q : Exit → Act → World → Prop} {α : Type}
theorem kopy_whole {A0 : Option Addr} {c : Nat} : A0 = if c = 0 then A0 else A0.map (·.add (0 * 1)) := by
  split
  · rfl
  · cases A0 with
    | none => rfl
    | some ad =>
      obtain ⟨b, o, p⟩ := ad
      simp only [Option.map_some, Addr.add]
      split <;> simp_all
theorem R_copyin_run {enc : α → Value} {h1 : ∀ x, (enc x).oneCell' = true} (d : α) {W : World} (base : Nat) (ty t t' e : TypeId)
    (ht : P.underlying t = some (.slice e)) (hinfo : (P.info? e).map (·.size) = some 1)
    {A A0 S : Option Addr} {n c k cd cs : Nat} {xs ys : List α} {ok : Nat → Prop}
    (hA : A = if c = k then A0 else A0.map (·.add (k * 1)))
    (HO : (Kd.scalar enc h1).R e W base ok (.slice A0 n c) xs) (hk : k ≤ xs.length) (HS : (Kd.scalar enc h1).C W S ys.length ys) :
    ∃ w1, (Builtin.copy_ #[t, t'] ty #[.slice A (n - k) cd, .slice S ys.length cs]).run P W = .ok (goInt ((min ys.length (xs.length - k) : Nat) : Int)) w1 ∧ (Kd.scalar enc h1).R e w1 base ok (.slice A0 n c) (kopy xs k ys) ∧ W.grownBy w1 (Value.slice A0 n c).ownBlock := by
  have hR := Kd.reads_of_C (enc := enc) (d := d) (h1 := h1) HS
  obtain ⟨hn, hnc, _⟩ := Kd.R_reads' HO
  have hown := Kd.own_of_R HO
  rcases Nat.eq_zero_or_pos (min ys.length (xs.length - k)) with h0 | hp
  · refine ⟨W, ?_, by rw [kopy_none ys hk h0]; exact HO, World.grownBy.refl W _⟩
    rw [h0]
    exact run_copy_none W t t' ty e A S (n - k) cd ys.length cs ht hinfo (by rw [hn]; exact h0)
  · obtain ⟨ad, hS, hc⟩ := hR.2.2 (by omega)
    rcases hown.2 with ⟨_, hx0⟩ | ⟨g, cap, cur, hv, hb, hh, hnc', hcm, hcs, htake⟩
    · omega
    injection hv with hv1 hv2 hv3
    subst hv1; subst hv3
    obtain ⟨n2, hn2⟩ : ∃ n2, n2 = min ys.length (xs.length - k) := ⟨_, rfl⟩
    rw [← hn2] at hp ⊢
    have hck : c ≠ k := by omega
    rw [if_neg hck, Option.map_some, Nat.mul_one] at hA
    have hA' : A = some ⟨g, k, none⟩ := by rw [hA, add_at]; simp
    clear hA
    subst hA'
    have hcs1 : cur.size = c := by omega
    have hsrc : ∀ j u, (encs enc (ys.take n2))[j]? = some u → W.cell? (ad.add j) = some u := by
      intro j u hu
      have hj : j < (ys.take n2).length := by
        rcases Nat.lt_or_ge j (ys.take n2).length with h | h
        · exact h
        · rw [List.getElem?_eq_none (by rw [encs_length]; exact h)] at hu
          cases hu
      have hjm : j < n2 := by rw [List.length_take] at hj; omega
      rw [encs_get (d := d) _ j hj] at hu
      rw [hc j (by omega), ← hu]
      simp [List.getD_eq_getElem?_getD, hjm]
    have hkl : (encs enc (ys.take n2)).length = n2 := by rw [encs_length, List.length_take]; omega
    have hr := run_copy_cells (P := P) W t t' ty e g k (n - k) cd ad ys.length cs (encs enc (ys.take n2)) ht hinfo (by rw [hkl, hn]; exact hn2) hsrc
      (fun j hj => by rw [cell_of_row W g _ cur e (0, 0) hh]; simp; omega) (fun j _ => blk_frozen hh _) (by intro u hu; simp only [encs, List.mem_map] at hu; obtain ⟨q, _, rfl⟩ := hu; exact h1 q)
    obtain ⟨cur', h3, h4, h5⟩ := setCells_row (encs enc (ys.take n2)) k W cur hh (by rw [hkl]; omega)
    obtain ⟨s1, s2, s3, s4⟩ := setCells_same g (encs enc (ys.take n2)) k W
    refine ⟨_, by rw [hS, hr, hkl], Kd.R_of_own ?_ HO.1, ⟨s1, s2, s3, by rw [s4]; exact Nat.le_refl _, fun k' _ hk' => setCells_far _ _ k' (fun he => hk' (by rw [he]; simp [Value.ownBlock]))⟩⟩
    rw [kopy_length ys hk]
    refine ⟨by rw [encs_length, kopy_length ys hk, Nat.mul_one], .inr ⟨g, c, cur', by rw [hn], hb, h3, hnc', hcm, by rw [h4, hcs], ?_⟩⟩
    have hcl : cur.toList.length = cur.size := Array.length_toList
    rw [h5, hkl, Nat.mul_one, take_splice cur.toList (encs enc xs) _ xs.length k n2 (by rw [← htake, Nat.mul_one]) hkl (by omega) (by omega), kopy_min, ← hn2]
    simp [encs, List.map_take, List.map_drop]
/-- copy(xs[k:], ys): the row's cells from k on are written. -/
theorem R_copyin {enc : α → Value} {h1 : ∀ x, (enc x).oneCell' = true} (d : α) {w0 W : World} (base : Nat) (hgd : o.guard = none) (s x : Operand) (t t' e : TypeId)
    (ho : o.op = .call { callee := .builtin .copy, args := #[s, x], argTypes := #[t, t'] }) (ht : P.underlying t = some (.slice e)) (hinfo : (P.info? e).map (·.size) = some 1)
    {A A0 S : Option Addr} {n c k m cd cs : Nat} {xs ys : List α} {ok : Nat → Prop} (hs : a.eval s = .slice A m cd) (hx : a.eval x = .slice S ys.length cs)
    (hA : A = if c = k then A0 else A0.map (·.add (k * 1))) (hm : m = n - k)
    (HO : (Kd.scalar enc h1).R e W base ok (.slice A0 n c) xs) (hk : k ≤ xs.length) (HS : (Kd.scalar enc h1).C W S ys.length ys) (HB : Below base w0 W) (hbase : base ≤ W.heap.size)
    (h : ∀ w1, (Kd.scalar enc h1).R e w1 base ok (.slice A0 n c) (kopy xs k ys) → Below base w0 w1 → W.grownBy w1 (Value.slice A0 n c).ownBlock → wpList P ops Q rest (a.put o.dst (.int .i64 ((min ys.length (xs.length - k) : Nat) : Int))) w1) :
    wpList P ops Q (o :: rest) a W := by
  subst hm
  obtain ⟨w1, hr, hrow, hg⟩ := R_copyin_run (P := P) d base o.type t t' e ht hinfo (cd := cd) (cs := cs) hA HO hk HS
  refine wpList_plain hgd fun K hK => ?_
  unfold Oper.wp execOp
  simp only [ho, resolve, invoke, builtin, Sem.run_bind, Sem.run_pure, Result.andThen_ok, List.map_toArray, List.map_cons, List.map_nil, hs, hx, hr]
  exact hK _ _ (h w1 hrow (HB.grown hg hbase (own_base (Kd.own_of_R HO))) hg)
theorem R_copyin_step {Kc : Act → World → Prop} {enc : α → Value} {h1 : ∀ x, (enc x).oneCell' = true} (d : α) {w0 W : World} (base : Nat) (hw : Region.wanted o (yielded ops a.tmps) = true) (s x : Operand) (t t' e : TypeId)
    (ho : o.op = .call { callee := .builtin .copy, args := #[s, x], argTypes := #[t, t'] }) (ht : P.underlying t = some (.slice e)) (hinfo : (P.info? e).map (·.size) = some 1)
    {A A0 S : Option Addr} {n c k m cd cs : Nat} {xs ys : List α} {ok : Nat → Prop} (hs : a.eval s = .slice A m cd) (hx : a.eval x = .slice S ys.length cs)
    (hA : A = if c = k then A0 else A0.map (·.add (k * 1))) (hm : m = n - k)
    (HO : (Kd.scalar enc h1).R e W base ok (.slice A0 n c) xs) (hk : k ≤ xs.length) (HS : (Kd.scalar enc h1).C W S ys.length ys) (HB : Below base w0 W) (hbase : base ≤ W.heap.size)
    (h : ∀ w1, (Kd.scalar enc h1).R e w1 base ok (.slice A0 n c) (kopy xs k ys) → Below base w0 w1 → W.grownBy w1 (Value.slice A0 n c).ownBlock → Kc (a.put o.dst (.int .i64 ((min ys.length (xs.length - k) : Nat) : Int))) w1) :
    if Region.wanted o (yielded ops a.tmps) = true then Oper.wp P o a W Kc Q else Kc (a.put o.dst undef) W := by
  subst hm
  obtain ⟨w1, hr, hrow, hg⟩ := R_copyin_run (P := P) d base o.type t t' e ht hinfo (cd := cd) (cs := cs) hA HO hk HS
  rw [if_pos hw]
  unfold Oper.wp execOp
  simp only [ho, resolve, invoke, builtin, Sem.run_bind, Sem.run_pure, Result.andThen_ok, List.map_toArray, List.map_cons, List.map_nil, hs, hx, hr]
  exact h w1 hrow (HB.grown hg hbase (own_base (Kd.own_of_R HO))) hg
end
end Go.Proofs.Ytgjmmegmkdklbaa
