-- A walk, made by walk.py, a program of this session's.
import Derived.Test.YtadhngelhognaaaRows
import Derived.Test.YtadhngelhognaaaQFnExactShareOkx6
import Derived.Test.YtadhngelhognaaaPureFnExactShareOk
import Derived.Test.YtadhngelhognaaaOpen
import Derived.WalkKit
import Derived.ProofKit
import Derived.OpenShut
import Derived.ShutString
import Derived.ChangeOld
import Derived.Below
import Derived.SizedLaws
namespace Go.Proofs.Ytadhngelhognaaa.fnExactShareOk
open Go.ChangeShapes Go.WideShapes Go.ChangeAt Go.RowKit Go.Proofs.YtadhngelhognaaaW.PrintWords
open Go.ChangeMaps (open_string shut_string)
open Go.Proofs.Ytadhngelhognaaa Go.Proofs.Ytadhngelhognaaa.QFnExactShareOk
set_option linter.unusedVariables false
theorem own : ownKnob Try.prog.godebug = none := by kernel_rfl
theorem laidOut : laidOutB Try.prog = true := by kernel_rfl
set_option maxRecDepth 100000 in
set_option maxHeartbeats 1000000 in
theorem lifted (os : Os) (started : os.Started) (H : Type) (enc : TypeId × Value → H) :
    ReturnsInHanded {} Try.checked os 6 .any (Rows.fnExactShareOkSpec.pre6 enc Try.prog Try.f6 Rows.fnExactShareOkRow.domain false) (Rows.fnExactShareOkSpec.post enc Try.prog Try.f6 false true false false) := by
  refine returnsInHanded_of_change_sized (C := Try.checked) own started (by kernel_rfl) Try.func6
    (ChangeSpec.witness6 (enc := enc) (C := Try.checked) false ⟨#[], #[.slice none 0 0, .slice none 0 0, .slice none 0 0], []⟩ 8 (by kernel_rfl) (by kernel_rfl) (by kernel_rfl) (by kernel_rfl)) ?_
  intro W base args ds gs before hval0 hW hcnd hsz0 _
  have hval : ∀ (j : Nat) t v, Try.f6.params[j]? = some t → args[j]? = some v → Value.okWide Try.prog W .any base t v := hval0
  have hW' := hW
  obtain ⟨p, q, hA0, hV, rfl, hfz, hnd⟩ := hW
  have hA : DataW.TrodAll enc Try.prog W 0 (fun _ => true) true Try.f6.params.toList args.toList ds p := hA0
  rw [Try.params6] at hA hval
  obtain ⟨v0, vs0, d0, ds0, p0, q0, hargs, rfl, rfl, h0, r0⟩ := trodAll_cons hA
  obtain ⟨v1, vs1, d1, ds1, p1, q1, rfl, rfl, rfl, h1, r1⟩ := trodAll_cons r0
  obtain ⟨v2, vs2, d2, ds2, p2, q2, rfl, rfl, rfl, h2, r2⟩ := trodAll_cons r1
  obtain ⟨rfl, rfl, rfl⟩ := trodAll_nil r2
  obtain rfl : args = #[v0, v1, v2] := by cases args; simp_all
  obtain ⟨rfl, rfl⟩ := trodVars_none hV
  have k0 := h0
  have lt0 : ∀ x ∈ p0, x.block < W.heap.size := by obtain ⟨m, hm⟩ := k0; exact DataW.trod_lt m _ _ _ hm
  obtain ⟨a0, len0, cap0, rfl⟩ := okWide_slice Try.underlying22 (hval 0 22 v0 rfl rfl)
  obtain ⟨l0, w0, o0⟩ : ∃ xs, (Kd.slice 5 (Kd.int .u8)).K W xs [.slice a0 len0 cap0] ∧ (Fv.OkL (Fv.OkI .u8)) xs := by
    obtain ⟨fuel, hf⟩ := h0
    exact ((Fv.opens_slice (d := (Kd.int .u8)) Try.underlying22 (by kernel_rfl) (Fv.opens_int Try.underlying5)) : Fv.Opens enc Try.prog W _ _ 22) _ _ _ hf
  obtain ⟨A0, c0, e0, hc0, hr0⟩ := w0
  injection e0 with e0 _
  injection e0 with ea0 el0 ec0
  subst ea0 el0 ec0
  have k1 := h1
  have lt1 : ∀ x ∈ p1, x.block < W.heap.size := by obtain ⟨m, hm⟩ := k1; exact DataW.trod_lt m _ _ _ hm
  obtain ⟨a1, len1, cap1, rfl⟩ := okWide_slice Try.underlying22 (hval 1 22 v1 rfl rfl)
  obtain ⟨l1, w1, o1⟩ : ∃ xs, (Kd.slice 5 (Kd.int .u8)).K W xs [.slice a1 len1 cap1] ∧ (Fv.OkL (Fv.OkI .u8)) xs := by
    obtain ⟨fuel, hf⟩ := h1
    exact ((Fv.opens_slice (d := (Kd.int .u8)) Try.underlying22 (by kernel_rfl) (Fv.opens_int Try.underlying5)) : Fv.Opens enc Try.prog W _ _ 22) _ _ _ hf
  obtain ⟨A1, c1, e1, hc1, hr1⟩ := w1
  injection e1 with e1 _
  injection e1 with ea1 el1 ec1
  subst ea1 el1 ec1
  have k2 := h2
  have lt2 : ∀ x ∈ p2, x.block < W.heap.size := by obtain ⟨m, hm⟩ := k2; exact DataW.trod_lt m _ _ _ hm
  obtain ⟨a2, len2, cap2, rfl⟩ := okWide_slice Try.underlying37 (hval 2 37 v2 rfl rfl)
  obtain ⟨l2, w2, o2⟩ : ∃ xs, (Kd.slice 65 k65).K W xs [.slice a2 len2 cap2] ∧ (Fv.OkL ok65) xs := by
    obtain ⟨fuel, hf⟩ := h2
    exact ((Fv.opens_slice (d := k65) Try.underlying37 (by kernel_rfl) opens65) : Fv.Opens enc Try.prog W _ _ 37) _ _ _ hf
  obtain ⟨A2, c2, e2, hc2, hr2⟩ := w2
  injection e2 with e2 _
  injection e2 with ea2 el2 ec2
  subst ea2 el2 ec2
  clear hA0 hval0 hsz0
  obtain ⟨k, h⟩ := Pure.FnExactShareOk l0 l1 l2 o0 o1 o2
  refine (laws_FnExactShareOk.calls k _ _ l0 _ _ l1 _ _ l2 true W hr0 hc0 hr1 hc1 hr2 hc2 h).mono fun e W' ⟨he, hb⟩ => ?_
  have bel : Below W.heap.size W W' := hb
  subst he
  exact ⟨_, rfl, _, _, _, [], _, [], hW', trodAll_mk1 (shut_bool Try.underlying4 _), (trodAll_cons_mk (Below.trod laidOut (by kernel_rfl) (of_decide_eq_true (by kernel_rfl)) k0 bel lt0) (trodAll_cons_mk (Below.trod laidOut (by kernel_rfl) (of_decide_eq_true (by kernel_rfl)) k1 bel lt1) (trodAll_cons_mk (Below.trod laidOut (by kernel_rfl) (of_decide_eq_true (by kernel_rfl)) k2 bel lt2) trodAll_mk0))), rfl, bel.frame _, fun h => by cases h⟩
theorem over : Rows.fnExactShareOkRow.holds Try.pinned (OpenSpec.ofChange Rows.fnExactShareOkSpec) :=
  OpenClaim.holds_of_wide 6 Try.f6 rfl rfl rfl rfl rfl rfl rfl ⟨rfl, rfl, rfl, rfl, rfl⟩ rfl rfl rfl rfl rfl (by kernel_rfl) Try.func6 (by kernel_rfl)
    (of_decide_eq_true (by kernel_rfl)) (by unfold Func.isWrapper; first | (rw [if_pos (by decide +kernel)]; kernel_rfl) | (rw [if_neg (by decide +kernel)]; exact ⟨rfl, rfl⟩))
    (fun os started H enc _ => lifted os started H enc)
theorem proved : Rows.FnExactShareOkSaid := over
#print axioms proved
end Go.Proofs.Ytadhngelhognaaa.fnExactShareOk
namespace Go.Proofs.Ytadhngelhognaaa
/-- The row, under a short name, for the claim. -/
theorem fnExactShareOk_holds : Rows.FnExactShareOkSaid := fnExactShareOk.proved
end Go.Proofs.Ytadhngelhognaaa
