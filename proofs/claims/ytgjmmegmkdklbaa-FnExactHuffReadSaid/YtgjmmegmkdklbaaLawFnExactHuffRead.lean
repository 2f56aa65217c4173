-- A walk, made by walk.py, a program of this session's.
import Derived.Test.YtgjmmegmkdklbaaRows
import Derived.Test.YtgjmmegmkdklbaaQFnExactHuffReadx8
import Derived.Test.YtgjmmegmkdklbaaPureFnExactHuffRead
import Derived.Test.YtgjmmegmkdklbaaOpen
import Derived.WalkKit
import Derived.ProofKit
import Derived.OpenShut
import Derived.ShutString
import Derived.ChangeOld
import Derived.Below
import Derived.SizedLaws
namespace Go.Proofs.Ytgjmmegmkdklbaa.fnExactHuffRead
open Go.ChangeShapes Go.WideShapes Go.ChangeAt Go.RowKit Go.Proofs.YtgjmmegmkdklbaaW.PrintWords
open Go.ChangeMaps (open_string shut_string)
open Go.Proofs.Ytgjmmegmkdklbaa Go.Proofs.Ytgjmmegmkdklbaa.QFnExactHuffRead
set_option linter.unusedVariables false
theorem own : ownKnob Try.prog.godebug = none := by kernel_rfl
theorem laidOut : laidOutB Try.prog = true := by kernel_rfl
set_option maxRecDepth 100000 in
set_option maxHeartbeats 1000000 in
theorem lifted (os : Os) (started : os.Started) (H : Type) (enc : TypeId × Value → H) :
    ReturnsInHanded {} Try.checked os 6 .any (Rows.fnExactHuffReadSpec.pre6 enc Try.prog Try.f6 Rows.fnExactHuffReadRow.domain false) (Rows.fnExactHuffReadSpec.post enc Try.prog Try.f6 false true false false) := by
  refine returnsInHanded_of_change_sized (C := Try.checked) own started (by kernel_rfl) Try.func6
    (ChangeSpec.witness6 (enc := enc) (C := Try.checked) false ⟨#[], #[(.agg #[(.int .i64 0), (.slice none 0 0)]), .slice none 0 0, .int .i64 0], []⟩ 8 (by kernel_rfl) (by kernel_rfl) (by kernel_rfl) (by kernel_rfl)) ?_
  intro W base args ds gs before hval0 hW hcnd hsz0 _
  have hval : ∀ (j : Nat) t v, Try.f6.params[j]? = some t → args[j]? = some v → Value.okWide Try.prog W .any base t v := hval0
  have hW' := hW
  obtain ⟨p, q, hA0, hV, rfl, hfz, hnd⟩ := hW
  have hA : DataW.TrodAll enc Try.prog W 0 (fun _ => true) true Try.f6.params.toList args.toList ds p := hA0
  rw [Try.params6] at hA hval
  obtain ⟨v0, vs0, d0, ds0, p0, q0, hargs, rfl, rfl, h0, r0⟩ := trodAll_cons hA
  obtain ⟨v1, vs1, d1, ds1, p1, q1, rfl, rfl, rfl, h1, r1⟩ := trodAll_cons r0
  obtain ⟨v2, vs2, d2, ds2, p2, q2, rfl, rfl, rfl, h2, r2⟩ := trodAll_cons r1
  obtain ⟨rfl, rfl, rfl⟩ := trodAll_nil r2
  obtain rfl : args = #[v0, v1, v2] := by cases args; simp_all
  obtain ⟨rfl, rfl⟩ := trodVars_none hV
  have k0 := h0
  have lt0 : ∀ x ∈ p0, x.block < W.heap.size := by obtain ⟨m, hm⟩ := k0; exact DataW.trod_lt m _ _ _ hm
  obtain ⟨cs0, rfl, hs0⟩ := okWide_struct Try.underlying41 (hval 0 41 v0 rfl rfl)
  obtain ⟨x0, w0, o0⟩ : ∃ x, k41.K W x cs0.toList ∧ ok41 x := by
    obtain ⟨fuel, hf⟩ := h0
    exact (opens41 : Fv.Opens enc Try.prog W _ _ 41) _ _ _ hf
  obtain ⟨A0_1, c0_1, e0, hc0_1, hr0_1⟩ := k41_open w0
  obtain rfl := Fv.toList_eq e0
  have k1 := h1
  have lt1 : ∀ x ∈ p1, x.block < W.heap.size := by obtain ⟨m, hm⟩ := k1; exact DataW.trod_lt m _ _ _ hm
  obtain ⟨a1, len1, cap1, rfl⟩ := okWide_slice Try.underlying24 (hval 1 24 v1 rfl rfl)
  obtain ⟨l1, w1, o1⟩ : ∃ xs, (Kd.slice 3 (Kd.int .i64)).K W xs [.slice a1 len1 cap1] ∧ (Fv.OkL (Fv.OkI .i64)) xs := by
    obtain ⟨fuel, hf⟩ := h1
    exact ((Fv.opens_slice (d := (Kd.int .i64)) Try.underlying24 (by kernel_rfl) (Fv.opens_int Try.underlying3)) : Fv.Opens enc Try.prog W _ _ 24) _ _ _ hf
  obtain ⟨A1, c1, e1, hc1, hr1⟩ := w1
  injection e1 with e1 _
  injection e1 with ea1 el1 ec1
  subst ea1 el1 ec1
  obtain ⟨a2, rfl, rfl, rfl, w2⟩ := open_int Try.underlying3 (hval 2 3 v2 rfl rfl) h2
  clear hA0 hval0 hsz0
  obtain ⟨k, h⟩ := Pure.FnExactHuffRead x0.f0 x0.f1 l1 a2 o0 o1 w2
  refine (laws_FnExactHuffRead.calls k x0.f0 _ _ x0.f1 _ _ l1 a2 true W hr0_1 hc0_1 hr1 hc1 h).mono fun e W' ⟨he, hb⟩ => ?_
  have bel : Below W.heap.size W W' := hb
  subst he
  exact ⟨_, rfl, _, _, _, [], _, [], hW', trodAll_mk1 (shut_bool Try.underlying4 _), (trodAll_cons_mk (Below.trod laidOut (by kernel_rfl) (of_decide_eq_true (by kernel_rfl)) k0 bel lt0) (trodAll_cons_mk (Below.trod laidOut (by kernel_rfl) (of_decide_eq_true (by kernel_rfl)) k1 bel lt1) (trodAll_cons_mk (shut_int Try.underlying3 w2) trodAll_mk0))), rfl, bel.frame _, fun h => by cases h⟩
theorem over : Rows.fnExactHuffReadRow.holds Try.pinned (OpenSpec.ofChange Rows.fnExactHuffReadSpec) :=
  OpenClaim.holds_of_wide 6 Try.f6 rfl rfl rfl rfl rfl rfl rfl ⟨rfl, rfl, rfl, rfl, rfl⟩ rfl rfl rfl rfl rfl (by kernel_rfl) Try.func6 (by kernel_rfl)
    (of_decide_eq_true (by kernel_rfl)) (by unfold Func.isWrapper; first | (rw [if_pos (by decide +kernel)]; kernel_rfl) | (rw [if_neg (by decide +kernel)]; exact ⟨rfl, rfl⟩))
    (fun os started H enc _ => lifted os started H enc)
theorem proved : Rows.FnExactHuffReadSaid := over
#print axioms proved
end Go.Proofs.Ytgjmmegmkdklbaa.fnExactHuffRead
namespace Go.Proofs.Ytgjmmegmkdklbaa
/-- The row, under a short name, for the claim. -/
theorem fnExactHuffRead_holds : Rows.FnExactHuffReadSaid := fnExactHuffRead.proved
end Go.Proofs.Ytgjmmegmkdklbaa
