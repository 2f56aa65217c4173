-- A walk, made by walk.py, a program of this session's.
import Derived.Test.YtoinagnieobbpaaRows
import Derived.Test.YtoinagnieobbpaaQFnExactStretchKidsx13
import Derived.Test.YtoinagnieobbpaaPureFnExactStretchKids
import Derived.Test.YtoinagnieobbpaaOpen
import Derived.WalkKit
import Derived.ProofKit
import Derived.OpenShut
import Derived.ShutString
import Derived.ChangeOld
import Derived.Below
import Derived.SizedLaws
namespace Go.Proofs.Ytoinagnieobbpaa.fnExactStretchKids
open Go.ChangeShapes Go.WideShapes Go.ChangeAt Go.RowKit Go.Proofs.YtoinagnieobbpaaW.PrintWords
open Go.ChangeMaps (open_string shut_string)
open Go.Proofs.Ytoinagnieobbpaa Go.Proofs.Ytoinagnieobbpaa.QFnExactStretchKids
set_option linter.unusedVariables false
theorem own : ownKnob Try.prog.godebug = none := by kernel_rfl
theorem laidOut : laidOutB Try.prog = true := by kernel_rfl
set_option maxRecDepth 100000 in
set_option maxHeartbeats 1000000 in
theorem lifted (os : Os) (started : os.Started) (H : Type) (enc : TypeId × Value → H) :
    ReturnsInHanded {} Try.checked os 9 .any (Rows.fnExactStretchKidsSpec.pre6 enc Try.prog Try.f9 Rows.fnExactStretchKidsRow.domain false) (Rows.fnExactStretchKidsSpec.post enc Try.prog Try.f9 false true false false) := by
  refine returnsInHanded_of_change_sized (C := Try.checked) own started (by kernel_rfl) Try.func9
    (ChangeSpec.witness6 (enc := enc) (C := Try.checked) false ⟨#[], #[.slice none 0 0, (.agg #[(.int .i64 0), (.int .i64 0), (.int .i64 0)])], []⟩ 8 (by kernel_rfl) (by kernel_rfl) (by kernel_rfl) (by kernel_rfl)) ?_
  intro W base args ds gs before hval0 hW hcnd hsz0 _
  have hval : ∀ (j : Nat) t v, Try.f9.params[j]? = some t → args[j]? = some v → Value.okWide Try.prog W .any base t v := hval0
  have hW' := hW
  obtain ⟨p, q, hA0, hV, rfl, hfz, hnd⟩ := hW
  have hA : DataW.TrodAll enc Try.prog W 0 (fun _ => true) true Try.f9.params.toList args.toList ds p := hA0
  rw [Try.params9] at hA hval
  obtain ⟨v0, vs0, d0, ds0, p0, q0, hargs, rfl, rfl, h0, r0⟩ := trodAll_cons hA
  obtain ⟨v1, vs1, d1, ds1, p1, q1, rfl, rfl, rfl, h1, r1⟩ := trodAll_cons r0
  obtain ⟨rfl, rfl, rfl⟩ := trodAll_nil r1
  obtain rfl : args = #[v0, v1] := by cases args; simp_all
  obtain ⟨rfl, rfl⟩ := trodVars_none hV
  have k0 := h0
  have lt0 : ∀ x ∈ p0, x.block < W.heap.size := by obtain ⟨m, hm⟩ := k0; exact DataW.trod_lt m _ _ _ hm
  obtain ⟨a0, len0, cap0, rfl⟩ := okWide_slice Try.underlying22 (hval 0 22 v0 rfl rfl)
  obtain ⟨l0, w0, o0⟩ : ∃ xs, (Kd.slice 5 (Kd.int .u8)).K W xs [.slice a0 len0 cap0] ∧ (Fv.OkL (Fv.OkI .u8)) xs := by
    obtain ⟨fuel, hf⟩ := h0
    exact ((Fv.opens_slice (d := (Kd.int .u8)) Try.underlying22 (by kernel_rfl) (Fv.opens_int Try.underlying5)) : Fv.Opens enc Try.prog W _ _ 22) _ _ _ hf
  obtain ⟨A0, c0, e0, hc0, hr0⟩ := w0
  injection e0 with e0 _
  injection e0 with ea0 el0 ec0
  subst ea0 el0 ec0
  have k1 := h1
  have lt1 : ∀ x ∈ p1, x.block < W.heap.size := by obtain ⟨m, hm⟩ := k1; exact DataW.trod_lt m _ _ _ hm
  obtain ⟨cs1, rfl, hs1⟩ := okWide_struct Try.underlying24 (hval 1 24 v1 rfl rfl)
  obtain ⟨x1, w1, o1⟩ : ∃ x, k24.K W x cs1.toList ∧ ok24 x := by
    obtain ⟨fuel, hf⟩ := h1
    exact (opens24 : Fv.Opens enc Try.prog W _ _ 24) _ _ _ hf
  obtain e1 := k24_open w1
  obtain rfl := Fv.toList_eq e1
  clear hA0 hval0 hsz0
  obtain ⟨k, h⟩ := Pure.FnExactStretchKids l0 x1.f0 x1.f1 x1.f2 o0 o1
  refine (laws_FnExactStretchKids.calls k _ _ l0 x1.f0 x1.f1 x1.f2 true W hr0 hc0 h).mono fun e W' ⟨he, hb⟩ => ?_
  have bel : Below W.heap.size W W' := hb
  subst he
  exact ⟨_, rfl, _, _, _, [], _, [], hW', trodAll_mk1 (shut_bool Try.underlying4 _), (trodAll_cons_mk (Below.trod laidOut (by kernel_rfl) (of_decide_eq_true (by kernel_rfl)) k0 bel lt0) (trodAll_cons_mk (Below.trod laidOut (by kernel_rfl) (of_decide_eq_true (by kernel_rfl)) k1 bel lt1) trodAll_mk0)), rfl, bel.frame _, fun h => by cases h⟩
theorem over : Rows.fnExactStretchKidsRow.holds Try.pinned (OpenSpec.ofChange Rows.fnExactStretchKidsSpec) :=
  OpenClaim.holds_of_wide 9 Try.f9 rfl rfl rfl rfl rfl rfl rfl ⟨rfl, rfl, rfl, rfl, rfl⟩ rfl rfl rfl rfl rfl (by kernel_rfl) Try.func9 (by kernel_rfl)
    (of_decide_eq_true (by kernel_rfl)) (by unfold Func.isWrapper; first | (rw [if_pos (by decide +kernel)]; kernel_rfl) | (rw [if_neg (by decide +kernel)]; exact ⟨rfl, rfl⟩))
    (fun os started H enc _ => lifted os started H enc)
theorem proved : Rows.FnExactStretchKidsSaid := over
#print axioms proved
end Go.Proofs.Ytoinagnieobbpaa.fnExactStretchKids
namespace Go.Proofs.Ytoinagnieobbpaa
/-- The row, under a short name, for the claim. -/
theorem fnExactStretchKids_holds : Rows.FnExactStretchKidsSaid := fnExactStretchKids.proved
end Go.Proofs.Ytoinagnieobbpaa
