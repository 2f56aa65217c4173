-- A walk, made by walk.py, a program of this session's.
import Derived.Test.YtmohfjfgpeapfaaRows
import Derived.Test.YtmohfjfgpeapfaaQFnExactSparseRankx13
import Derived.Test.YtmohfjfgpeapfaaPureFnExactSparseRank
import Derived.Test.YtmohfjfgpeapfaaOpen
import Derived.WalkKit
import Derived.ProofKit
import Derived.OpenShut
import Derived.ShutString
import Derived.ChangeOld
import Derived.Below
import Derived.SizedLaws
namespace Go.Proofs.Ytmohfjfgpeapfaa.fnExactSparseRank
open Go.ChangeShapes Go.WideShapes Go.ChangeAt Go.RowKit Go.Proofs.YtmohfjfgpeapfaaW.PrintWords
open Go.ChangeMaps (open_string shut_string)
open Go.Proofs.Ytmohfjfgpeapfaa Go.Proofs.Ytmohfjfgpeapfaa.QFnExactSparseRank
set_option linter.unusedVariables false
theorem own : ownKnob Try.prog.godebug = none := by kernel_rfl
theorem laidOut : laidOutB Try.prog = true := by kernel_rfl
set_option maxRecDepth 100000 in
set_option maxHeartbeats 1000000 in
theorem lifted (os : Os) (started : os.Started) (H : Type) (enc : TypeId × Value → H) :
    ReturnsInHanded {} Try.checked os 6 .any (Rows.fnExactSparseRankSpec.pre6 enc Try.prog Try.f6 Rows.fnExactSparseRankRow.domain false) (Rows.fnExactSparseRankSpec.post enc Try.prog Try.f6 false true false false) := by
  refine returnsInHanded_of_change_sized (C := Try.checked) own started (by kernel_rfl) Try.func6
    (ChangeSpec.witness6 (enc := enc) (C := Try.checked) false ⟨#[], #[(.agg #[(.int .i64 0), (.int .i64 0), (.int .i64 0), (.int .i64 0), (.int .i64 0), (.slice none 0 0), (.int .i64 0), (.slice none 0 0)]), .int .i64 0], []⟩ 8 (by kernel_rfl) (by kernel_rfl) (by kernel_rfl) (by kernel_rfl)) ?_
  intro W base args ds gs before hval0 hW hcnd hsz0 _
  have hval : ∀ (j : Nat) t v, Try.f6.params[j]? = some t → args[j]? = some v → Value.okWide Try.prog W .any base t v := hval0
  have hW' := hW
  obtain ⟨p, q, hA0, hV, rfl, hfz, hnd⟩ := hW
  have hA : DataW.TrodAll enc Try.prog W 0 (fun _ => true) true Try.f6.params.toList args.toList ds p := hA0
  rw [Try.params6] at hA hval
  obtain ⟨v0, vs0, d0, ds0, p0, q0, hargs, rfl, rfl, h0, r0⟩ := trodAll_cons hA
  obtain ⟨v1, vs1, d1, ds1, p1, q1, rfl, rfl, rfl, h1, r1⟩ := trodAll_cons r0
  obtain ⟨rfl, rfl, rfl⟩ := trodAll_nil r1
  obtain rfl : args = #[v0, v1] := by cases args; simp_all
  obtain ⟨rfl, rfl⟩ := trodVars_none hV
  have k0 := h0
  have lt0 : ∀ x ∈ p0, x.block < W.heap.size := by obtain ⟨m, hm⟩ := k0; exact DataW.trod_lt m _ _ _ hm
  obtain ⟨cs0, rfl, hs0⟩ := okWide_struct Try.underlying45 (hval 0 45 v0 rfl rfl)
  obtain ⟨x0, w0, o0⟩ : ∃ x, k45.K W x cs0.toList ∧ ok45 x := by
    obtain ⟨fuel, hf⟩ := h0
    exact (opens45 : Fv.Opens enc Try.prog W _ _ 45) _ _ _ hf
  obtain ⟨A0_5, c0_5, A0_7, c0_7, e0, hc0_5, hr0_5, hc0_7, hr0_7⟩ := k45_open w0
  obtain rfl := Fv.toList_eq e0
  obtain ⟨a1, rfl, rfl, rfl, w1⟩ := open_int Try.underlying3 (hval 1 3 v1 rfl rfl) h1
  clear hA0 hval0 hsz0
  obtain ⟨k, h⟩ := Pure.FnExactSparseRank x0.f0 x0.f1 x0.f2.f0 x0.f2.f1 x0.f2.f2.f0 x0.f2.f2.f1 x0.f3.f0 x0.f3.f1 a1 o0 w1
  refine (laws_FnExactSparseRank.calls k x0.f0 x0.f1 x0.f2.f0 x0.f2.f1 x0.f2.f2.f0 _ _ x0.f2.f2.f1 x0.f3.f0 _ _ x0.f3.f1 a1 true W hr0_5 hc0_5 hr0_7 hc0_7 h).mono fun e W' ⟨he, hb⟩ => ?_
  have bel : Below W.heap.size W W' := hb
  subst he
  exact ⟨_, rfl, _, _, _, [], _, [], hW', trodAll_mk1 (shut_bool Try.underlying4 _), (trodAll_cons_mk (Below.trod laidOut (by kernel_rfl) (of_decide_eq_true (by kernel_rfl)) k0 bel lt0) (trodAll_cons_mk (shut_int Try.underlying3 w1) trodAll_mk0)), rfl, bel.frame _, fun h => by cases h⟩
theorem over : Rows.fnExactSparseRankRow.holds Try.pinned (OpenSpec.ofChange Rows.fnExactSparseRankSpec) :=
  OpenClaim.holds_of_wide 6 Try.f6 rfl rfl rfl rfl rfl rfl rfl ⟨rfl, rfl, rfl, rfl, rfl⟩ rfl rfl rfl rfl rfl (by kernel_rfl) Try.func6 (by kernel_rfl)
    (of_decide_eq_true (by kernel_rfl)) (by unfold Func.isWrapper; first | (rw [if_pos (by decide +kernel)]; kernel_rfl) | (rw [if_neg (by decide +kernel)]; exact ⟨rfl, rfl⟩))
    (fun os started H enc _ => lifted os started H enc)
theorem proved : Rows.FnExactSparseRankSaid := over
#print axioms proved
end Go.Proofs.Ytmohfjfgpeapfaa.fnExactSparseRank
namespace Go.Proofs.Ytmohfjfgpeapfaa
/-- The row, under a short name, for the claim. -/
theorem fnExactSparseRank_holds : Rows.FnExactSparseRankSaid := fnExactSparseRank.proved
end Go.Proofs.Ytmohfjfgpeapfaa
