-- A walk, made by walk.py, a program of this session's.
import Derived.Test.YtamdhfjnalglfaaQFnExactWaveListx0
import Derived.Test.YtamdhfjnalglfaaQFnExactWaveListx5
namespace Go.Proofs.Ytamdhfjnalglfaa.QFnExactWaveList
open Go.RowKit Go.Proofs.YtamdhfjnalglfaaW.PrintWords Go.Proofs.YtamdhfjnalglfaaW.PrintLast Go.Proofs.YtamdhfjnalglfaaW.PrintMore
attribute [local go_sem] max2_int min2_int max_two min_two max_three min_three max_four min_four   -- for this text's walks alone
set_option linter.unusedVariables false
set_option linter.unusedSimpArgs false

/-! ### spec_BitsOk: function 60 -/
mutual
def spec_BitsOk.j0 : Nat → Bool → Int → List Int → Option (Bool)
 | 0, _, _, _ => none
 | k + 1, x23, x227000, x227001 => if x23 = true then (some false) else ((spec_l01List.f k x227000 x227001).bind fun t227 => ((spec_BitsOf.f k t227).bind fun bt230 => (spec_BitsOk.l0 k 0 x227000 x227001 bt230.1 bt230.2.1)))
def spec_BitsOk.l0 : Nat → Int → Int → List Int → Int → List Int → Option (Bool)
 | 0, _, _, _, _, _ => none
 | k + 1, x5, x227000, x227001, x236000, x236001 => if x5 < (x227001.length : Int) then (if 0 ≤ x5 then (if x5 < (x236001.length : Int) then (if (rd x227001 x5) = (rd x236001 x5) then (spec_BitsOk.l0 k (wrap64 (x5 + 1)) x227000 x227001 x236000 x236001) else (some false)) else (none)) else (none)) else (some true)
end
def spec_BitsOk.f (k : Nat) (a0_0 : Int) (l0_1 : List Int) : Option (Bool) := if a0_0 < 0 then (spec_BitsOk.j0 k true a0_0 l0_1) else (if a0_0 > 5000 then (spec_BitsOk.j0 k true a0_0 l0_1) else (spec_BitsOk.j0 k ((l0_1.length : Int) != (wrap64 (Int.tdiv (wrap64 (a0_0 + 63)) 64))) a0_0 l0_1))
theorem spec_BitsOk.mono_l : ∀ k, (∀ y0 y1 y2, LeO (spec_BitsOk.j0 k y0 y1 y2) (spec_BitsOk.j0 (k + 1) y0 y1 y2)) ∧ (∀ y0 y1 y2 y3 y4, LeO (spec_BitsOk.l0 k y0 y1 y2 y3 y4) (spec_BitsOk.l0 (k + 1) y0 y1 y2 y3 y4))
 | 0 => ⟨fun _ _ _ r h => by simp [spec_BitsOk.j0] at h, fun _ _ _ _ _ r h => by simp [spec_BitsOk.l0] at h⟩
 | k + 1 => by
  obtain ⟨ih0, ih1⟩ := spec_BitsOk.mono_l k
  refine ⟨?_, ?_⟩
  ·intro y0 y1 y2
   unfold spec_BitsOk.j0
   repeat' first|(with_reducible first|exact ih0 _ _ _|exact ih1 _ _ _ _ _|exact spec_BitsOf.mono _ _|exact spec_l01List.mono _ _ _|exact LeO.refl _|exact LeO.none _|refine LeO.ite ?_ ?_|refine LeO.bind ?_ (fun _ => ?_))|exact LeO.none _|refine LeO.ite ?_ ?_|refine LeO.bind ?_ (fun _ => ?_)
  ·intro y0 y1 y2 y3 y4
   unfold spec_BitsOk.l0
   repeat' first|(with_reducible first|exact ih0 _ _ _|exact ih1 _ _ _ _ _|exact spec_BitsOf.mono _ _|exact spec_l01List.mono _ _ _|exact LeO.refl _|exact LeO.none _|refine LeO.ite ?_ ?_|refine LeO.bind ?_ (fun _ => ?_))|exact LeO.none _|refine LeO.ite ?_ ?_|refine LeO.bind ?_ (fun _ => ?_)
theorem spec_BitsOk.mono : ∀ a0 a1 k, LeO (spec_BitsOk.f k a0 a1) (spec_BitsOk.f (k + 1) a0 a1) := by
 intro a0 a1 k
 obtain ⟨ih0, ih1⟩ := spec_BitsOk.mono_l k
 unfold spec_BitsOk.f
 repeat' first|(with_reducible first|exact ih0 _ _ _|exact ih1 _ _ _ _ _|exact spec_BitsOf.mono _ _|exact spec_l01List.mono _ _ _|exact LeO.refl _|exact LeO.none _|refine LeO.ite ?_ ?_|refine LeO.bind ?_ (fun _ => ?_))|exact LeO.none _|refine LeO.ite ?_ ?_|refine LeO.bind ?_ (fun _ => ?_)
set_option maxHeartbeats 8000000 in
set_option maxRecDepth 100000 in
theorem spec_BitsOk.calls (k : Nat) (a0_0 : Int) (A0_1 : Option Addr) (c0_1 : Nat) (l0_1 : List Int) (r : Bool) (w : World) (hr0_1 : Kd.C (Kd.int .u64) w A0_1 l0_1.length l0_1) (hc0_1 : l0_1.length ≤ c0_1) (h : spec_BitsOk.f k a0_0 l0_1 = some r) :
  Calls Try.prog 60 #[.agg #[.int .i64 a0_0, .slice A0_1 l0_1.length c0_1]] w fun e w' => e = .returned (.bool r) ∧ Below w.heap.size w w' := by
 have hu64:=Try.underlying64
 have HR0_1:=mk0 hr0_1
 have HC0_1:=mk0 hc0_1
 clear hr0_1 hc0_1
 have HB:=mk0 (Below.refl w.heap.size w)
 have H:(if a0_0 < 0 then (spec_BitsOk.j0 k true a0_0 l0_1) else (if a0_0 > 5000 then (spec_BitsOk.j0 k true a0_0 l0_1) else (spec_BitsOk.j0 k ((l0_1.length:Int) != (wrap64 (Int.tdiv (wrap64 (a0_0 + 63)) 64))) a0_0 l0_1))) = some r:=h
 clear h
 have HC2:=mk0 H
 clear H
 go_enter Try.func60,Try.ntmps60
 go_upto_region 1 with (first|((with_reducible refine gate_dst (N:=1) rfl ?_);(try (refine gate_guard (by rfl) ?_;dsimp only));refine box_event ?hg (N:=1) ?hd (cs:=#[.int .i64 a0_0,.slice A0_1 l0_1.length c0_1]) (t:=64) ?hr ?_;(case hd=>rfl);(case hg=>rfl);(case hr=>first|(go_simp;done)|(go_simp;rfl));intro gb226 hg w3 hbox hb;have n0_:=mk0 (below_step (by repeat (first|(with_reducible first|exact HB.out|apply aZ|apply nZ|apply dZ)|exact HB.out)) hb);have n1_:=mk0 (hbox);have n2_:=mk0 ((by rw [hg];exact (below_size (by repeat (first|(with_reducible first|exact HB.out|apply aZ|apply nZ|apply dZ)|exact HB.out))):w.heap.size ≤ gb226));have n3_:=mk0 ((by rw [hg];exact (below_size (by repeat (first|(with_reducible first|exact HB.out|apply aZ|apply nZ|apply dZ)|exact HB.out))):w.heap.size ≤ gb226));clear HB;have HB:=n0_;have BK226:=n1_;have GW226:=n2_;have GE226:=n3_;clear n0_ n1_ n2_ n3_ hb hbox hg))
 repeat (go_quiet (first|((with_reducible refine gate_dst (N:=1) rfl ?_);(try (refine gate_guard (by rfl) ?_;dsimp only));refine box_event ?hg (N:=1) ?hd (cs:=#[.int .i64 a0_0,.slice A0_1 l0_1.length c0_1]) (t:=64) ?hr ?_;(case hd=>rfl);(case hg=>rfl);(case hr=>first|(go_simp;done)|(go_simp;rfl));intro gb226 hg w3 hbox hb;have n0_:=mk0 (below_step (by repeat (first|(with_reducible first|exact HB.out|apply aZ|apply nZ|apply dZ)|exact HB.out)) hb);have n1_:=mk0 (hbox);have n2_:=mk0 ((by rw [hg];exact (below_size (by repeat (first|(with_reducible first|exact HB.out|apply aZ|apply nZ|apply dZ)|exact HB.out))):w.heap.size ≤ gb226));have n3_:=mk0 ((by rw [hg];exact (below_size (by repeat (first|(with_reducible first|exact HB.out|apply aZ|apply nZ|apply dZ)|exact HB.out))):w.heap.size ≤ gb226));clear HB;have HB:=n0_;have BK226:=n1_;have GW226:=n2_;have GE226:=n3_;clear n0_ n1_ n2_ n3_ hb hbox hg));go_upto_region 1 with (first|((with_reducible refine gate_dst (N:=1) rfl ?_);(try (refine gate_guard (by rfl) ?_;dsimp only));refine box_event ?hg (N:=1) ?hd (cs:=#[.int .i64 a0_0,.slice A0_1 l0_1.length c0_1]) (t:=64) ?hr ?_;(case hd=>rfl);(case hg=>rfl);(case hr=>first|(go_simp;done)|(go_simp;rfl));intro gb226 hg w3 hbox hb;have n0_:=mk0 (below_step (by repeat (first|(with_reducible first|exact HB.out|apply aZ|apply nZ|apply dZ)|exact HB.out)) hb);have n1_:=mk0 (hbox);have n2_:=mk0 ((by rw [hg];exact (below_size (by repeat (first|(with_reducible first|exact HB.out|apply aZ|apply nZ|apply dZ)|exact HB.out))):w.heap.size ≤ gb226));have n3_:=mk0 ((by rw [hg];exact (below_size (by repeat (first|(with_reducible first|exact HB.out|apply aZ|apply nZ|apply dZ)|exact HB.out))):w.heap.size ≤ gb226));clear HB;have HB:=n0_;have BK226:=n1_;have GW226:=n2_;have GE226:=n3_;clear n0_ n1_ n2_ n3_ hb hbox hg)))
 (try simp only [Act.put,sA,sO,sS])
 go_cut [23] (fun v23 wc=>∃ (kq:Nat) (x23_1:Bool),v23 = .bool x23_1 ∧ Aside0 (spec_BitsOk.j0 kq x23_1 a0_0 l0_1 = some r) ∧ Aside0 (kq ≤ k) ∧ Aside0 (wc.heap[gb226]? = some (.cells #[.int .i64 a0_0,(.slice A0_1 l0_1.length c0_1)] 64 (0,0))) ∧ Aside0 (Below w.heap.size w wc))
 case first =>
  have H:=HC2.out
  clear HC2
  by_cases c4:a0_0 < 0
  ·rw [if_pos c4] at H
   have c4b0:decide (a0_0 < 0) = true:=decide_eq_true c4
   clear c4
   (first|rw [c4b0]|(simp only [i64_w,i32_w];rw [c4b0])|skip)
   have H':=mk0 H
   clear H
   have hcz5_0:w3.cell? ⟨gb226,0,none⟩ = some (.int .i64 a0_0):=(blk_cell BK226.out 0).trans rfl
   have hcz5_1:w3.cell? ⟨gb226,1,none⟩ = some (.slice A0_1 l0_1.length c0_1):=(blk_cell BK226.out 1).trans rfl
   have hfz5_0:=blk_frozen BK226.out 0
   have hfz5_1:=blk_frozen BK226.out 1
   go_wp2
   repeat (go_quiet (fail);try go_wp2)
   go_meet
   case rel=>exact⟨_,(true),(by first|rfl|(simp;done)|(simp [*];done)),H',⟨by first|omega|exact Nat.le_refl _⟩,⟨by (with_reducible repeat (first|apply nB|apply dB|apply aB));exact BK226.out⟩,⟨by repeat (first|(with_reducible first|exact HB.out|apply aZ|apply nZ|apply dZ|refine sZ ?_ GE226.out)|exact HB.out)⟩⟩
  rw [if_neg c4] at H
  have c4b0:decide (a0_0 < 0) = false:=decide_eq_false c4
  clear c4
  (first|rw [c4b0]|(simp only [i64_w,i32_w];rw [c4b0])|skip)
  by_cases c6:a0_0 > 5000
  ·rw [if_pos c6] at H
   have c6b0:decide (5000 < a0_0) = true:=decide_eq_true c6
   clear c6
   have H':=mk0 H
   clear H
   have hcz7_0:w3.cell? ⟨gb226,0,none⟩ = some (.int .i64 a0_0):=(blk_cell BK226.out 0).trans rfl
   have hcz7_1:w3.cell? ⟨gb226,1,none⟩ = some (.slice A0_1 l0_1.length c0_1):=(blk_cell BK226.out 1).trans rfl
   have hfz7_0:=blk_frozen BK226.out 0
   have hfz7_1:=blk_frozen BK226.out 1
   go_wp2
   repeat (go_quiet (fail);try go_wp2)
   go_meet
   case rel=>exact⟨_,(true),(by first|rfl|(simp;done)|(simp [*];done)),H',⟨by first|omega|exact Nat.le_refl _⟩,⟨by (with_reducible repeat (first|apply nB|apply dB|apply aB));exact BK226.out⟩,⟨by repeat (first|(with_reducible first|exact HB.out|apply aZ|apply nZ|apply dZ|refine sZ ?_ GE226.out)|exact HB.out)⟩⟩
  rw [if_neg c6] at H
  have c6b0:decide (5000 < a0_0) = false:=decide_eq_false c6
  clear c6
  have H':=mk0 H
  clear H
  have hcz8_0:w3.cell? ⟨gb226,0,none⟩ = some (.int .i64 a0_0):=(blk_cell BK226.out 0).trans rfl
  have hcz8_1:w3.cell? ⟨gb226,1,none⟩ = some (.slice A0_1 l0_1.length c0_1):=(blk_cell BK226.out 1).trans rfl
  have hfz8_0:=blk_frozen BK226.out 0
  have hfz8_1:=blk_frozen BK226.out 1
  go_wp2
  repeat (go_quiet (fail);try go_wp2)
  go_meet
  case rel=>exact⟨_,(((l0_1.length:Int) != (wrap64 (Int.tdiv (wrap64 (a0_0 + 63)) 64)))),(by first|rfl|(simp;done)|(simp [*];done)),H',⟨by first|omega|exact Nat.le_refl _⟩,⟨by (with_reducible repeat (first|apply nB|apply dB|apply aB));exact BK226.out⟩,⟨by repeat (first|(with_reducible first|exact HB.out|apply aZ|apply nZ|apply dZ|refine sZ ?_ GE226.out)|exact HB.out)⟩⟩
 case rest =>
  clear HC2
  try clear p2
  try clear c4
  try clear c4b0
  try clear c6
  try clear c6b0
  try clear p6
  try clear hcz5_0
  try clear hcz5_1
  try clear hcz7_0
  try clear hcz7_1
  try clear hcz8_0
  try clear hcz8_1
  try clear hfz5_0
  try clear hfz5_1
  try clear hfz7_0
  try clear hfz7_1
  try clear hfz8_0
  try clear hfz8_1
  obtain⟨kq,x23_1,rfl,HA,HJ1,BK226,HB⟩:=hcut
  cases kq with
  | zero=>exact absurd HA.out (by simp [spec_BitsOk.j0])
  | succ kj1 =>
   have H:=HA.out
   clear HA
   simp only [spec_BitsOk.j0] at H
   by_cases c9:x23_1 = true
   ·subst c9
    have H1:(some false) = some r:=by rw [if_pos rfl] at H;exact H
    clear H
    have H:=H1
    clear H1
    obtain rfl:=Option.some.inj H
    go_wp2
    repeat (go_quiet (fail);try go_wp2)
    go_ret
    exact⟨by first|rfl|(simp [errW_none,errW_some] <;> rfl)|(simp [*,errW_none,errW_some] <;> rfl),by repeat (first|(with_reducible first|exact HB.out|apply aZ|apply nZ|apply dZ|refine sZ ?_ GE226.out)|exact HB.out)⟩
   replace c9:=Bool.eq_false_iff.mpr c9
   subst c9
   have H1:((spec_l01List.f kj1 a0_0 l0_1).bind fun t227=>((spec_BitsOf.f kj1 t227).bind fun bt230=>(spec_BitsOk.l0 kj1 0 a0_0 l0_1 bt230.1 bt230.2.1))) = some r:=by rw [if_neg (show ¬ (false = true) by decide)] at H;exact H
   clear H
   have H:=H1
   clear H1
   replace H:=Option.bind_eq_some_iff.mp H
   obtain⟨t227,A100,H⟩:=H
   replace H:((spec_BitsOf.f kj1 t227).bind fun bt230=>(spec_BitsOk.l0 kj1 0 a0_0 l0_1 bt230.1 bt230.2.1)) = some r:=H
   have A10:=mk0 A100
   clear A100
   replace H:=Option.bind_eq_some_iff.mp H
   obtain⟨⟨t230,t231,t234⟩,A110,H⟩:=H
   replace H:(spec_BitsOk.l0 kj1 0 a0_0 l0_1 t230 t231) = some r:=H
   have A11:=mk0 A110
   clear A110
   have H':=mk0 H
   clear H
   have hcz12_0:wc.cell? ⟨gb226,0,none⟩ = some (.int .i64 a0_0):=(blk_cell BK226.out 0).trans rfl
   have hcz12_1:wc.cell? ⟨gb226,1,none⟩ = some (.slice A0_1 l0_1.length c0_1):=(blk_cell BK226.out 1).trans rfl
   have hfz12_0:=blk_frozen BK226.out 0
   have hfz12_1:=blk_frozen BK226.out 1
   go_wp2_with (first|(go_at_call 62;(with_reducible refine (spec_l01List.calls kj1 a0_0 _ _ l0_1 t227 _ ?side1 ?side2 A10.out).mono ?_);(case side1=>repeat (first|exact (Kd.C_below HR0_1.out HB.out)|(with_reducible first|apply aC|apply nC|apply dC)));(case side2=>exact HC0_1.out);rintro e w13 ⟨v228,rfl,ho0,hb⟩;have n0_:=mk0 (Kd.R_lower ho0 (below_size (by repeat (first|(with_reducible first|exact HB.out|apply aZ|apply nZ|apply dZ|refine sZ ?_ GE226.out)|exact HB.out))));have n1_:=mk0 (blk_below (g:=gb226) (o:=.cells #[.int .i64 a0_0,.slice A0_1 l0_1.length c0_1] 64 (0,0)) (by (with_reducible repeat (first|apply nB|apply dB|apply aB));exact BK226.out) hb);have n2_:=mk0 (below_step (by repeat (first|(with_reducible first|exact HB.out|apply aZ|apply nZ|apply dZ|refine sZ ?_ GE226.out)|exact HB.out)) hb);clear BK226 HB;have HO229:=n0_;have BK226:=n1_;have HB:=n2_;clear n0_ n1_ n2_;(try clear hb);(try clear hb2);(try clear hk);(try clear hi);(try clear ho0);obtain⟨Ao14,co14,eo14⟩:=Kd.R_slice HO229.out;subst eo14)|(go_at_call 49;(with_reducible refine (spec_BitsOf.calls kj1 _ _ t227 t230 t231 t234 _ ?side1 ?side2 A11.out).mono ?_);(case side1=>repeat (first|exact (Kd.R_reads' HO229.out).2.2|(with_reducible first|apply aC|apply nC|apply dC)));(case side2=>exact (Kd.R_reads' HO229.out).2.1);rintro e w15 ⟨v232,rfl,ho0,hb⟩;have n0_:=mk0 (Kd.R_below (by (with_reducible repeat (first|apply aR|apply nR|apply dR));exact HO229.out) hb);have n1_:=mk0 (Kd.R_lower ho0 (below_size (by repeat (first|(with_reducible first|exact HB.out|apply aZ|apply nZ|apply dZ|refine sZ ?_ GE226.out)|exact HB.out))));have n2_:=mk0 (blk_below (g:=gb226) (o:=.cells #[.int .i64 a0_0,.slice A0_1 l0_1.length c0_1] 64 (0,0)) (by (with_reducible repeat (first|apply nB|apply dB|apply aB));exact BK226.out) hb);have n3_:=mk0 (below_step (by repeat (first|(with_reducible first|exact HB.out|apply aZ|apply nZ|apply dZ|refine sZ ?_ GE226.out)|exact HB.out)) hb);clear HO229 BK226 HB;have HO229:=n0_;have HO233:=n1_;have BK226:=n2_;have HB:=n3_;clear n0_ n1_ n2_ n3_;(try clear hb);(try clear hb2);(try clear hk);(try clear hi);(try clear ho0))|((with_reducible refine gate_dst (N:=3) rfl ?_);(try (refine gate_guard (by rfl) ?_;dsimp only));refine box_event ?hg (N:=3) ?hd (cs:=#[.int .i64 0,.slice none 0 0]) (t:=64) ?hr ?_;(case hd=>rfl);(case hg=>rfl);(case hr=>first|(go_simp;done)|(go_simp;rfl));intro gb235 hg w16 hbox hb;have n0_:=mk0 (Kd.R_below (by (with_reducible repeat (first|apply aR|apply nR|apply dR));exact HO229.out) hb);have n1_:=mk0 (Kd.R_below (by (with_reducible repeat (first|apply aR|apply nR|apply dR));exact HO233.out) hb);have n2_:=mk0 (blk_below (g:=gb226) (o:=.cells #[.int .i64 a0_0,.slice A0_1 l0_1.length c0_1] 64 (0,0)) (by (with_reducible repeat (first|apply nB|apply dB|apply aB));exact BK226.out) hb);have n3_:=mk0 (below_step (by repeat (first|(with_reducible first|exact HB.out|apply aZ|apply nZ|apply dZ|refine sZ ?_ GE226.out)|exact HB.out)) hb);have n4_:=mk0 (hbox);have n5_:=mk0 ((by rw [hg];exact (below_size (by repeat (first|(with_reducible first|exact HB.out|apply aZ|apply nZ|apply dZ|refine sZ ?_ GE226.out)|exact HB.out))):w.heap.size ≤ gb235));have n6_:=mk0 ((by rw [hg];exact (below_size (by repeat (first|(with_reducible first|exact HB.out|apply aZ|apply nZ|apply dZ|refine sZ ?_ GE226.out)|exact HB.out))):w.heap.size ≤ gb235));have n7_:=mk0 ((by rw [hg];exact Nat.ne_of_lt (blk_lt (g:=gb226) (o:=.cells #[.int .i64 a0_0,.slice A0_1 l0_1.length c0_1] 64 (0,0)) (by (with_reducible repeat (first|apply nB|apply dB|apply aB));exact BK226.out)):gb226 ≠ gb235));have n8_:=mk0 ((by rw [hg];exact Nat.ne_of_gt (blk_lt (g:=gb226) (o:=.cells #[.int .i64 a0_0,.slice A0_1 l0_1.length c0_1] 64 (0,0)) (by (with_reducible repeat (first|apply nB|apply dB|apply aB));exact BK226.out)):gb235 ≠ gb226));clear HO229 HO233 BK226 HB;have HO229:=n0_;have HO233:=n1_;have BK226:=n2_;have HB:=n3_;have BK235:=n4_;have GW235:=n5_;have GE235:=n6_;have NB226_235:=n7_;have NB235_226:=n8_;clear n0_ n1_ n2_ n3_ n4_ n5_ n6_ n7_ n8_ hb hbox hg;have hnb17:=NB235_226.out;have hnc17:=NB226_235.out;have hcz18_0:w16.cell? ⟨gb235,0,none⟩ = some (.int .i64 0):=(blk_cell BK235.out 0).trans rfl;have hcz18_1:w16.cell? ⟨gb235,1,none⟩ = some (.slice none 0 0):=(blk_cell BK235.out 1).trans rfl;have hfz18_0:=blk_frozen BK235.out 0;have hfz18_1:=blk_frozen BK235.out 1;obtain⟨Ao19,co19,eo19⟩:=Kd.R_slice HO233.out;subst eo19))
   repeat (go_quiet (first|(go_at_call 62;(with_reducible refine (spec_l01List.calls kj1 a0_0 _ _ l0_1 t227 _ ?side1 ?side2 A10.out).mono ?_);(case side1=>repeat (first|exact (Kd.C_below HR0_1.out HB.out)|(with_reducible first|apply aC|apply nC|apply dC)));(case side2=>exact HC0_1.out);rintro e w13 ⟨v228,rfl,ho0,hb⟩;have n0_:=mk0 (Kd.R_lower ho0 (below_size (by repeat (first|(with_reducible first|exact HB.out|apply aZ|apply nZ|apply dZ|refine sZ ?_ GE226.out)|exact HB.out))));have n1_:=mk0 (blk_below (g:=gb226) (o:=.cells #[.int .i64 a0_0,.slice A0_1 l0_1.length c0_1] 64 (0,0)) (by (with_reducible repeat (first|apply nB|apply dB|apply aB));exact BK226.out) hb);have n2_:=mk0 (below_step (by repeat (first|(with_reducible first|exact HB.out|apply aZ|apply nZ|apply dZ|refine sZ ?_ GE226.out)|exact HB.out)) hb);clear BK226 HB;have HO229:=n0_;have BK226:=n1_;have HB:=n2_;clear n0_ n1_ n2_;(try clear hb);(try clear hb2);(try clear hk);(try clear hi);(try clear ho0);obtain⟨Ao14,co14,eo14⟩:=Kd.R_slice HO229.out;subst eo14)|(go_at_call 49;(with_reducible refine (spec_BitsOf.calls kj1 _ _ t227 t230 t231 t234 _ ?side1 ?side2 A11.out).mono ?_);(case side1=>repeat (first|exact (Kd.R_reads' HO229.out).2.2|(with_reducible first|apply aC|apply nC|apply dC)));(case side2=>exact (Kd.R_reads' HO229.out).2.1);rintro e w15 ⟨v232,rfl,ho0,hb⟩;have n0_:=mk0 (Kd.R_below (by (with_reducible repeat (first|apply aR|apply nR|apply dR));exact HO229.out) hb);have n1_:=mk0 (Kd.R_lower ho0 (below_size (by repeat (first|(with_reducible first|exact HB.out|apply aZ|apply nZ|apply dZ|refine sZ ?_ GE226.out)|exact HB.out))));have n2_:=mk0 (blk_below (g:=gb226) (o:=.cells #[.int .i64 a0_0,.slice A0_1 l0_1.length c0_1] 64 (0,0)) (by (with_reducible repeat (first|apply nB|apply dB|apply aB));exact BK226.out) hb);have n3_:=mk0 (below_step (by repeat (first|(with_reducible first|exact HB.out|apply aZ|apply nZ|apply dZ|refine sZ ?_ GE226.out)|exact HB.out)) hb);clear HO229 BK226 HB;have HO229:=n0_;have HO233:=n1_;have BK226:=n2_;have HB:=n3_;clear n0_ n1_ n2_ n3_;(try clear hb);(try clear hb2);(try clear hk);(try clear hi);(try clear ho0))|((with_reducible refine gate_dst (N:=3) rfl ?_);(try (refine gate_guard (by rfl) ?_;dsimp only));refine box_event ?hg (N:=3) ?hd (cs:=#[.int .i64 0,.slice none 0 0]) (t:=64) ?hr ?_;(case hd=>rfl);(case hg=>rfl);(case hr=>first|(go_simp;done)|(go_simp;rfl));intro gb235 hg w16 hbox hb;have n0_:=mk0 (Kd.R_below (by (with_reducible repeat (first|apply aR|apply nR|apply dR));exact HO229.out) hb);have n1_:=mk0 (Kd.R_below (by (with_reducible repeat (first|apply aR|apply nR|apply dR));exact HO233.out) hb);have n2_:=mk0 (blk_below (g:=gb226) (o:=.cells #[.int .i64 a0_0,.slice A0_1 l0_1.length c0_1] 64 (0,0)) (by (with_reducible repeat (first|apply nB|apply dB|apply aB));exact BK226.out) hb);have n3_:=mk0 (below_step (by repeat (first|(with_reducible first|exact HB.out|apply aZ|apply nZ|apply dZ|refine sZ ?_ GE226.out)|exact HB.out)) hb);have n4_:=mk0 (hbox);have n5_:=mk0 ((by rw [hg];exact (below_size (by repeat (first|(with_reducible first|exact HB.out|apply aZ|apply nZ|apply dZ|refine sZ ?_ GE226.out)|exact HB.out))):w.heap.size ≤ gb235));have n6_:=mk0 ((by rw [hg];exact (below_size (by repeat (first|(with_reducible first|exact HB.out|apply aZ|apply nZ|apply dZ|refine sZ ?_ GE226.out)|exact HB.out))):w.heap.size ≤ gb235));have n7_:=mk0 ((by rw [hg];exact Nat.ne_of_lt (blk_lt (g:=gb226) (o:=.cells #[.int .i64 a0_0,.slice A0_1 l0_1.length c0_1] 64 (0,0)) (by (with_reducible repeat (first|apply nB|apply dB|apply aB));exact BK226.out)):gb226 ≠ gb235));have n8_:=mk0 ((by rw [hg];exact Nat.ne_of_gt (blk_lt (g:=gb226) (o:=.cells #[.int .i64 a0_0,.slice A0_1 l0_1.length c0_1] 64 (0,0)) (by (with_reducible repeat (first|apply nB|apply dB|apply aB));exact BK226.out)):gb235 ≠ gb226));clear HO229 HO233 BK226 HB;have HO229:=n0_;have HO233:=n1_;have BK226:=n2_;have HB:=n3_;have BK235:=n4_;have GW235:=n5_;have GE235:=n6_;have NB226_235:=n7_;have NB235_226:=n8_;clear n0_ n1_ n2_ n3_ n4_ n5_ n6_ n7_ n8_ hb hbox hg;have hnb17:=NB235_226.out;have hnc17:=NB226_235.out;have hcz18_0:w16.cell? ⟨gb235,0,none⟩ = some (.int .i64 0):=(blk_cell BK235.out 0).trans rfl;have hcz18_1:w16.cell? ⟨gb235,1,none⟩ = some (.slice none 0 0):=(blk_cell BK235.out 1).trans rfl;have hfz18_0:=blk_frozen BK235.out 0;have hfz18_1:=blk_frozen BK235.out 1;obtain⟨Ao19,co19,eo19⟩:=Kd.R_slice HO233.out;subst eo19));try go_wp2_with (first|(go_at_call 62;(with_reducible refine (spec_l01List.calls kj1 a0_0 _ _ l0_1 t227 _ ?side1 ?side2 A10.out).mono ?_);(case side1=>repeat (first|exact (Kd.C_below HR0_1.out HB.out)|(with_reducible first|apply aC|apply nC|apply dC)));(case side2=>exact HC0_1.out);rintro e w13 ⟨v228,rfl,ho0,hb⟩;have n0_:=mk0 (Kd.R_lower ho0 (below_size (by repeat (first|(with_reducible first|exact HB.out|apply aZ|apply nZ|apply dZ|refine sZ ?_ GE226.out)|exact HB.out))));have n1_:=mk0 (blk_below (g:=gb226) (o:=.cells #[.int .i64 a0_0,.slice A0_1 l0_1.length c0_1] 64 (0,0)) (by (with_reducible repeat (first|apply nB|apply dB|apply aB));exact BK226.out) hb);have n2_:=mk0 (below_step (by repeat (first|(with_reducible first|exact HB.out|apply aZ|apply nZ|apply dZ|refine sZ ?_ GE226.out)|exact HB.out)) hb);clear BK226 HB;have HO229:=n0_;have BK226:=n1_;have HB:=n2_;clear n0_ n1_ n2_;(try clear hb);(try clear hb2);(try clear hk);(try clear hi);(try clear ho0);obtain⟨Ao14,co14,eo14⟩:=Kd.R_slice HO229.out;subst eo14)|(go_at_call 49;(with_reducible refine (spec_BitsOf.calls kj1 _ _ t227 t230 t231 t234 _ ?side1 ?side2 A11.out).mono ?_);(case side1=>repeat (first|exact (Kd.R_reads' HO229.out).2.2|(with_reducible first|apply aC|apply nC|apply dC)));(case side2=>exact (Kd.R_reads' HO229.out).2.1);rintro e w15 ⟨v232,rfl,ho0,hb⟩;have n0_:=mk0 (Kd.R_below (by (with_reducible repeat (first|apply aR|apply nR|apply dR));exact HO229.out) hb);have n1_:=mk0 (Kd.R_lower ho0 (below_size (by repeat (first|(with_reducible first|exact HB.out|apply aZ|apply nZ|apply dZ|refine sZ ?_ GE226.out)|exact HB.out))));have n2_:=mk0 (blk_below (g:=gb226) (o:=.cells #[.int .i64 a0_0,.slice A0_1 l0_1.length c0_1] 64 (0,0)) (by (with_reducible repeat (first|apply nB|apply dB|apply aB));exact BK226.out) hb);have n3_:=mk0 (below_step (by repeat (first|(with_reducible first|exact HB.out|apply aZ|apply nZ|apply dZ|refine sZ ?_ GE226.out)|exact HB.out)) hb);clear HO229 BK226 HB;have HO229:=n0_;have HO233:=n1_;have BK226:=n2_;have HB:=n3_;clear n0_ n1_ n2_ n3_;(try clear hb);(try clear hb2);(try clear hk);(try clear hi);(try clear ho0))|((with_reducible refine gate_dst (N:=3) rfl ?_);(try (refine gate_guard (by rfl) ?_;dsimp only));refine box_event ?hg (N:=3) ?hd (cs:=#[.int .i64 0,.slice none 0 0]) (t:=64) ?hr ?_;(case hd=>rfl);(case hg=>rfl);(case hr=>first|(go_simp;done)|(go_simp;rfl));intro gb235 hg w16 hbox hb;have n0_:=mk0 (Kd.R_below (by (with_reducible repeat (first|apply aR|apply nR|apply dR));exact HO229.out) hb);have n1_:=mk0 (Kd.R_below (by (with_reducible repeat (first|apply aR|apply nR|apply dR));exact HO233.out) hb);have n2_:=mk0 (blk_below (g:=gb226) (o:=.cells #[.int .i64 a0_0,.slice A0_1 l0_1.length c0_1] 64 (0,0)) (by (with_reducible repeat (first|apply nB|apply dB|apply aB));exact BK226.out) hb);have n3_:=mk0 (below_step (by repeat (first|(with_reducible first|exact HB.out|apply aZ|apply nZ|apply dZ|refine sZ ?_ GE226.out)|exact HB.out)) hb);have n4_:=mk0 (hbox);have n5_:=mk0 ((by rw [hg];exact (below_size (by repeat (first|(with_reducible first|exact HB.out|apply aZ|apply nZ|apply dZ|refine sZ ?_ GE226.out)|exact HB.out))):w.heap.size ≤ gb235));have n6_:=mk0 ((by rw [hg];exact (below_size (by repeat (first|(with_reducible first|exact HB.out|apply aZ|apply nZ|apply dZ|refine sZ ?_ GE226.out)|exact HB.out))):w.heap.size ≤ gb235));have n7_:=mk0 ((by rw [hg];exact Nat.ne_of_lt (blk_lt (g:=gb226) (o:=.cells #[.int .i64 a0_0,.slice A0_1 l0_1.length c0_1] 64 (0,0)) (by (with_reducible repeat (first|apply nB|apply dB|apply aB));exact BK226.out)):gb226 ≠ gb235));have n8_:=mk0 ((by rw [hg];exact Nat.ne_of_gt (blk_lt (g:=gb226) (o:=.cells #[.int .i64 a0_0,.slice A0_1 l0_1.length c0_1] 64 (0,0)) (by (with_reducible repeat (first|apply nB|apply dB|apply aB));exact BK226.out)):gb235 ≠ gb226));clear HO229 HO233 BK226 HB;have HO229:=n0_;have HO233:=n1_;have BK226:=n2_;have HB:=n3_;have BK235:=n4_;have GW235:=n5_;have GE235:=n6_;have NB226_235:=n7_;have NB235_226:=n8_;clear n0_ n1_ n2_ n3_ n4_ n5_ n6_ n7_ n8_ hb hbox hg;have hnb17:=NB235_226.out;have hnc17:=NB226_235.out;have hcz18_0:w16.cell? ⟨gb235,0,none⟩ = some (.int .i64 0):=(blk_cell BK235.out 0).trans rfl;have hcz18_1:w16.cell? ⟨gb235,1,none⟩ = some (.slice none 0 0):=(blk_cell BK235.out 1).trans rfl;have hfz18_0:=blk_frozen BK235.out 0;have hfz18_1:=blk_frozen BK235.out 1;obtain⟨Ao19,co19,eo19⟩:=Kd.R_slice HO233.out;subst eo19)))
   go_loopg [5] kj1 (fun kq v5 w'=>∃ (x5_2:Int),v5 = .int .i64 x5_2 ∧ Aside0 (spec_BitsOk.l0 kq x5_2 a0_0 l0_1 t230 t231 = some r) ∧ Aside0 (kq ≤ kj1) ∧ Aside0 (Kd.R (Kd.int .u64) 84 w' w.heap.size (fun _=>True) (.slice Ao19 t231.length co19) t231) ∧ Aside0 (w'.heap[gb226]? = some (.cells #[.int .i64 a0_0,(.slice A0_1 l0_1.length c0_1)] 64 (0,0))) ∧ Aside0 (w'.heap[gb235]? = some (.cells #[.int .i64 t230,(.slice Ao19 t231.length co19)] 64 (0,0))) ∧ Aside0 (Below w.heap.size w w'))
   case atStart=>exact⟨(0),(by first|rfl|(simp;done)|(simp [*];done)),H',⟨Nat.le_refl _⟩,⟨by (with_reducible repeat (first|apply aR|apply nR|apply dR));exact Kd.R_mono (Kd.R_far (p:=⟨gb235,1,none⟩) (Kd.R_far (p:=⟨gb235,0,none⟩) (Kd.R_types HO233.out BK235.out (by decide)) (by first|exact fun _ hk=>hk.2|(intro k_ hk;simp only [hk,ne_eq,and_self,not_false_eq_true])) (.int .i64 t230)) (by first|exact fun _ hk=>hk.2|(intro k_ hk;simp only [hk,ne_eq,and_self,not_false_eq_true])) (.slice Ao19 t231.length co19)) (fun _ hk=>trivial)⟩,⟨by (with_reducible repeat (first|apply nB|apply dB|apply aB));refine blk_far ?_ NB226_235.out _;(with_reducible repeat (first|apply nB|apply dB|apply aB));refine blk_far ?_ NB226_235.out _;(with_reducible repeat (first|apply nB|apply dB|apply aB));exact BK226.out⟩,⟨by (with_reducible repeat (first|apply nB|apply dB|apply aB));refine blk_put (cs:=#[.int .i64 t230,.slice none 0 0]) ?_ 1 _ rfl;(with_reducible repeat (first|apply nB|apply dB|apply aB));refine blk_put (cs:=#[.int .i64 0,.slice none 0 0]) ?_ 0 _ rfl;(with_reducible repeat (first|apply nB|apply dB|apply aB));exact BK235.out⟩,⟨by repeat (first|(with_reducible first|exact HB.out|apply aZ|apply nZ|apply dZ|refine sZ ?_ GE226.out|refine sZ ?_ GE235.out)|exact HB.out)⟩⟩
   case round =>
    clear H'
    try clear c1
    try clear p2
    try clear c4
    try clear c4b0
    try clear c6
    try clear c6b0
    try clear p6
    try clear c9
    try clear c17
    try clear hcz12_0
    try clear hcz12_1
    try clear hcz18_0
    try clear hcz18_1
    try clear hcz5_0
    try clear hcz5_1
    try clear hcz7_0
    try clear hcz7_1
    try clear hcz8_0
    try clear hcz8_1
    try clear hfz12_0
    try clear hfz12_1
    try clear hfz18_0
    try clear hfz18_1
    try clear hfz5_0
    try clear hfz5_1
    try clear hfz7_0
    try clear hfz7_1
    try clear hfz8_0
    try clear hfz8_1
    try clear p2
    try clear p6
    obtain⟨x5_2,rfl,HA,HK2,HO_236001,BK226,BK235,HB⟩:=hrel
    cases gk with
    | zero=>exact absurd HA.out (by simp [spec_BitsOk.l0])
    | succ k2 =>
     have H:=HA.out
     clear HA
     simp only [spec_BitsOk.l0] at H
     by_cases c20:x5_2 < (l0_1.length:Int)
     rotate_left
     ·rw [if_neg c20] at H
      have c20b0:decide (x5_2 < (l0_1.length:Int)) = false:=decide_eq_false c20
      clear c20
      obtain rfl:=Option.some.inj H
      have hnb30:=NB226_235.out
      have hnc30:=NB235_226.out
      have hcz31_0:wr.cell? ⟨gb226,0,none⟩ = some (.int .i64 a0_0):=(blk_cell BK226.out 0).trans rfl
      have hcz31_1:wr.cell? ⟨gb226,1,none⟩ = some (.slice A0_1 l0_1.length c0_1):=(blk_cell BK226.out 1).trans rfl
      have hfz31_0:=blk_frozen BK226.out 0
      have hfz31_1:=blk_frozen BK226.out 1
      go_wp2
      repeat (go_quiet (fail);try go_wp2)
      go_ret
      exact⟨by first|rfl|(simp [errW_none,errW_some] <;> rfl)|(simp [*,errW_none,errW_some] <;> rfl),by repeat (first|(with_reducible first|exact HB.out|apply aZ|apply nZ|apply dZ|refine sZ ?_ GE226.out|refine sZ ?_ GE235.out)|exact HB.out)⟩

     rw [if_pos c20] at H
     have c20b0:decide (x5_2 < (l0_1.length:Int)) = true:=decide_eq_true c20
     clear c20
     by_cases c21:0 ≤ x5_2
     rotate_left
     ·rw [if_neg c21] at H
      exact absurd H (by simp)
     rw [if_pos c21] at H
     have c21b0:decide (0 ≤ x5_2) = true:=decide_eq_true c21
     clear c21
     by_cases c22:x5_2 < (t231.length:Int)
     rotate_left
     ·rw [if_neg c22] at H
      exact absurd H (by simp)
     rw [if_pos c22] at H
     have c22b0:decide (x5_2 < (t231.length:Int)) = true:=decide_eq_true c22
     clear c22
     by_cases c23:(rd l0_1 x5_2) = (rd t231 x5_2)
     rotate_left
     ·rw [if_neg c23] at H
      have c23b0:((rd l0_1 x5_2) == (rd t231 x5_2)) = false:=beq_eq_false_iff_ne.mpr c23
      have c23b1:((rd l0_1 x5_2) != (rd t231 x5_2)) = true:=bne_iff_ne.mpr c23
      obtain rfl:=Option.some.inj H
      have hnb27:=NB226_235.out
      have hnc27:=NB235_226.out
      have hcz28_0:wr.cell? ⟨gb226,0,none⟩ = some (.int .i64 a0_0):=(blk_cell BK226.out 0).trans rfl
      have hcz28_1:wr.cell? ⟨gb226,1,none⟩ = some (.slice A0_1 l0_1.length c0_1):=(blk_cell BK226.out 1).trans rfl
      have hfz28_0:=blk_frozen BK226.out 0
      have hfz28_1:=blk_frozen BK226.out 1
      have p236:0 ≤ (x5_2:Int):=of_decide_eq_true (by first|(with_reducible assumption)|assumption)
      have q236:x5_2 < (l0_1.length:Int):=of_decide_eq_true (by first|(with_reducible assumption)|assumption)
      obtain⟨ad236,e236,hx236_0⟩:=Kd.at_int HR0_1.out x5_2 p236 q236
      cases e236
      replace hx236_0:=(HB.out.cell (World.block_lt_of_cell? w _ hx236_0)).trans hx236_0
      replace p236:=eq_true p236
      replace q236:=eq_true q236
      have hcz29_0:wr.cell? ⟨gb235,0,none⟩ = some (.int .i64 t230):=(blk_cell BK235.out 0).trans rfl
      have hcz29_1:wr.cell? ⟨gb235,1,none⟩ = some (.slice Ao19 t231.length co19):=(blk_cell BK235.out 1).trans rfl
      have hfz29_0:=blk_frozen BK235.out 0
      have hfz29_1:=blk_frozen BK235.out 1
      have p237:0 ≤ (x5_2:Int):=of_decide_eq_true (by first|(with_reducible assumption)|assumption)
      have q237:x5_2 < (t231.length:Int):=of_decide_eq_true (by first|(with_reducible assumption)|assumption)
      obtain⟨ad237,e237,hx237_0⟩:=Kd.at_int (Kd.R_reads' HO_236001.out).2.2 x5_2 p237 q237
      cases e237
      replace p237:=eq_true p237
      replace q237:=eq_true q237
      go_wp2
      repeat (go_quiet (fail);try go_wp2)
      go_ret
      exact⟨by first|rfl|(simp [errW_none,errW_some] <;> rfl)|(simp [*,errW_none,errW_some] <;> rfl),by repeat (first|(with_reducible first|exact HB.out|apply aZ|apply nZ|apply dZ|refine sZ ?_ GE226.out|refine sZ ?_ GE235.out)|exact HB.out)⟩
     rw [if_pos c23] at H
     have c23b0:((rd l0_1 x5_2) == (rd t231 x5_2)) = true:=beq_iff_eq.mpr c23
     have c23b1:((rd l0_1 x5_2) != (rd t231 x5_2)) = false:=bne_eq_false_iff_eq.mpr c23
     clear c23
     have H':=mk0 H
     clear H
     have hnb24:=NB226_235.out
     have hnc24:=NB235_226.out
     have hcz25_0:wr.cell? ⟨gb226,0,none⟩ = some (.int .i64 a0_0):=(blk_cell BK226.out 0).trans rfl
     have hcz25_1:wr.cell? ⟨gb226,1,none⟩ = some (.slice A0_1 l0_1.length c0_1):=(blk_cell BK226.out 1).trans rfl
     have hfz25_0:=blk_frozen BK226.out 0
     have hfz25_1:=blk_frozen BK226.out 1
     have p236:0 ≤ (x5_2:Int):=of_decide_eq_true (by first|(with_reducible assumption)|assumption)
     have q236:x5_2 < (l0_1.length:Int):=of_decide_eq_true (by first|(with_reducible assumption)|assumption)
     obtain⟨ad236,e236,hx236_0⟩:=Kd.at_int HR0_1.out x5_2 p236 q236
     cases e236
     replace hx236_0:=(HB.out.cell (World.block_lt_of_cell? w _ hx236_0)).trans hx236_0
     replace p236:=eq_true p236
     replace q236:=eq_true q236
     have hcz26_0:wr.cell? ⟨gb235,0,none⟩ = some (.int .i64 t230):=(blk_cell BK235.out 0).trans rfl
     have hcz26_1:wr.cell? ⟨gb235,1,none⟩ = some (.slice Ao19 t231.length co19):=(blk_cell BK235.out 1).trans rfl
     have hfz26_0:=blk_frozen BK235.out 0
     have hfz26_1:=blk_frozen BK235.out 1
     have p237:0 ≤ (x5_2:Int):=of_decide_eq_true (by first|(with_reducible assumption)|assumption)
     have q237:x5_2 < (t231.length:Int):=of_decide_eq_true (by first|(with_reducible assumption)|assumption)
     obtain⟨ad237,e237,hx237_0⟩:=Kd.at_int (Kd.R_reads' HO_236001.out).2.2 x5_2 p237 q237
     cases e237
     replace p237:=eq_true p237
     replace q237:=eq_true q237
     go_wp2
     repeat (go_quiet (fail);try go_wp2)
     go_roundg k2
     case measure=>have:=HJ1.out;have:=HK2.out;omega
     case rel=>exact⟨(wrap64 (x5_2 + 1)),(by first|rfl|(simp;done)|(simp [*];done)),H',⟨by have:=HJ1.out;have:=HK2.out;omega⟩,⟨by (with_reducible repeat (first|apply aR|apply nR|apply dR));exact HO_236001.out⟩,⟨by (with_reducible repeat (first|apply nB|apply dB|apply aB));exact BK226.out⟩,⟨by (with_reducible repeat (first|apply nB|apply dB|apply aB));exact BK235.out⟩,⟨by repeat (first|(with_reducible first|exact HB.out|apply aZ|apply nZ|apply dZ|refine sZ ?_ GE226.out|refine sZ ?_ GE235.out)|exact HB.out)⟩⟩
/-! ### spec_l01Bit: function 75 -/
def spec_l01Bit.f (a0 : Int) : Option (Bool) := if a0 = 0 then (some true) else (some (a0 == 1))
set_option maxHeartbeats 8000000 in
set_option maxRecDepth 100000 in
theorem spec_l01Bit.calls (a0 : Int) (r : Bool) (w : World) (h : spec_l01Bit.f a0 = some r) :
  Calls Try.prog 75 #[.int .i64 a0] w fun e w' => e = .returned (.bool r) ∧ Drawn0 w w' := by
 have H:(if a0 = 0 then (some true) else (some (a0 == 1))) = some r:=h
 clear h
 by_cases c2:a0 = 0
 ·rw [if_pos c2] at H
  have c2b0:(a0 == 0) = true:=beq_iff_eq.mpr c2
  have c2b1:(a0 != 0) = false:=bne_eq_false_iff_eq.mpr c2
  clear c2
  obtain rfl:=Option.some.inj H
  go_enter Try.func75,Try.ntmps75
  go_wp2
  go_ret
  exact⟨by first|rfl|(simp;done)|(simp [*];done),by repeat (first|exact Drawn0.refl _|apply Drawn0.step)⟩
 ·rw [if_neg c2] at H
  have c2b0:(a0 == 0) = false:=beq_eq_false_iff_ne.mpr c2
  have c2b1:(a0 != 0) = true:=bne_iff_ne.mpr c2
  obtain rfl:=Option.some.inj H
  go_enter Try.func75,Try.ntmps75
  go_wp2
  go_ret
  exact⟨by first|rfl|(simp;done)|(simp [*];done),by repeat (first|exact Drawn0.refl _|apply Drawn0.step)⟩

/-! ### spec_Rank: function 61 -/
mutual
def spec_Rank.j0 : Nat → Int → Int → Bool → Int → List Int → Option (Int)
 | 0, _, _, _, _, _ => none
 | k + 1, x1, x2, x27, x239000, x239001 => if x27 = true then (some (-1)) else ((spec_l01List.f k x239000 x239001).bind fun t241 => (spec_Rank.l0 k x1 x2 0 0 t241))
def spec_Rank.l0 : Nat → Int → Int → Int → Int → List Int → Option (Int)
 | 0, _, _, _, _, _ => none
 | k + 1, x1, x2, x8, x9, x29 => if x9 < x2 then (if 0 ≤ x9 then (if x9 < (x29.length : Int) then (if (rd x29 x9) = x1 then (spec_Rank.l0 k x1 x2 (wrap64 (x8 + 1)) (wrap64 (x9 + 1)) x29) else (spec_Rank.l0 k x1 x2 x8 (wrap64 (x9 + 1)) x29)) else (none)) else (none)) else (some x8)
end
def spec_Rank.f (k : Nat) (a0_0 : Int) (l0_1 : List Int) (a1 : Int) (a2 : Int) : Option (Int) := (spec_BitsOk.f k a0_0 l0_1).bind fun t239 => (if t239 = true then ((spec_l01Bit.f a1).bind fun t240 => (if t240 = true then (if a2 < 0 then (spec_Rank.j0 k a1 a2 true a0_0 l0_1) else (spec_Rank.j0 k a1 a2 (decide (a2 > a0_0)) a0_0 l0_1)) else (spec_Rank.j0 k a1 a2 true a0_0 l0_1))) else (spec_Rank.j0 k a1 a2 true a0_0 l0_1))
theorem spec_Rank.mono_l : ∀ k, (∀ y0 y1 y2 y3 y4, LeO (spec_Rank.j0 k y0 y1 y2 y3 y4) (spec_Rank.j0 (k + 1) y0 y1 y2 y3 y4)) ∧ (∀ y0 y1 y2 y3 y4, LeO (spec_Rank.l0 k y0 y1 y2 y3 y4) (spec_Rank.l0 (k + 1) y0 y1 y2 y3 y4))
 | 0 => ⟨fun _ _ _ _ _ r h => by simp [spec_Rank.j0] at h, fun _ _ _ _ _ r h => by simp [spec_Rank.l0] at h⟩
 | k + 1 => by
  obtain ⟨ih0, ih1⟩ := spec_Rank.mono_l k
  refine ⟨?_, ?_⟩
  ·intro y0 y1 y2 y3 y4
   unfold spec_Rank.j0
   repeat' first|(with_reducible first|exact ih0 _ _ _ _ _|exact ih1 _ _ _ _ _|exact spec_BitsOk.mono _ _ _|exact spec_l01List.mono _ _ _|exact LeO.refl _|exact LeO.none _|refine LeO.ite ?_ ?_|refine LeO.bind ?_ (fun _ => ?_))|exact LeO.none _|refine LeO.ite ?_ ?_|refine LeO.bind ?_ (fun _ => ?_)
  ·intro y0 y1 y2 y3 y4
   unfold spec_Rank.l0
   repeat' first|(with_reducible first|exact ih0 _ _ _ _ _|exact ih1 _ _ _ _ _|exact spec_BitsOk.mono _ _ _|exact spec_l01List.mono _ _ _|exact LeO.refl _|exact LeO.none _|refine LeO.ite ?_ ?_|refine LeO.bind ?_ (fun _ => ?_))|exact LeO.none _|refine LeO.ite ?_ ?_|refine LeO.bind ?_ (fun _ => ?_)
theorem spec_Rank.mono : ∀ a0 a1 a2 a3 k, LeO (spec_Rank.f k a0 a1 a2 a3) (spec_Rank.f (k + 1) a0 a1 a2 a3) := by
 intro a0 a1 a2 a3 k
 obtain ⟨ih0, ih1⟩ := spec_Rank.mono_l k
 unfold spec_Rank.f
 repeat' first|(with_reducible first|exact ih0 _ _ _ _ _|exact ih1 _ _ _ _ _|exact spec_BitsOk.mono _ _ _|exact spec_l01List.mono _ _ _|exact LeO.refl _|exact LeO.none _|refine LeO.ite ?_ ?_|refine LeO.bind ?_ (fun _ => ?_))|exact LeO.none _|refine LeO.ite ?_ ?_|refine LeO.bind ?_ (fun _ => ?_)
set_option maxHeartbeats 8000000 in
set_option maxRecDepth 100000 in
theorem spec_Rank.calls (k : Nat) (a0_0 : Int) (A0_1 : Option Addr) (c0_1 : Nat) (l0_1 : List Int) (a1 : Int) (a2 : Int) (r : Int) (w : World) (hr0_1 : Kd.C (Kd.int .u64) w A0_1 l0_1.length l0_1) (hc0_1 : l0_1.length ≤ c0_1) (h : spec_Rank.f k a0_0 l0_1 a1 a2 = some r) :
  Calls Try.prog 61 #[.agg #[.int .i64 a0_0, .slice A0_1 l0_1.length c0_1], .int .i64 a1, .int .i64 a2] w fun e w' => e = .returned (.int .i64 r) ∧ Below w.heap.size w w' := by
 have hu64:=Try.underlying64
 have HR0_1:=mk0 hr0_1
 have HC0_1:=mk0 hc0_1
 clear hr0_1 hc0_1
 have HB:=mk0 (Below.refl w.heap.size w)
 have H:((spec_BitsOk.f k a0_0 l0_1).bind fun t239=>(if t239 = true then ((spec_l01Bit.f a1).bind fun t240=>(if t240 = true then (if a2 < 0 then (spec_Rank.j0 k a1 a2 true a0_0 l0_1) else (spec_Rank.j0 k a1 a2 (decide (a2 > a0_0)) a0_0 l0_1)) else (spec_Rank.j0 k a1 a2 true a0_0 l0_1))) else (spec_Rank.j0 k a1 a2 true a0_0 l0_1))) = some r:=h
 clear h
 have HC4:=mk0 H
 clear H
 go_enter Try.func61,Try.ntmps61
 go_upto_region 1 with (first|((with_reducible refine gate_dst (N:=3) rfl ?_);refine box_event ?hg (N:=3) ?hd (cs:=#[.int .i64 a0_0,.slice A0_1 l0_1.length c0_1]) (t:=64) ?hr ?_;(case hd=>rfl);(case hg=>rfl);(case hr=>first|(go_simp;done)|(go_simp;rfl));intro gb238 hg w5 hbox hb;have n0_:=mk0 (below_step (by repeat (first|(with_reducible first|exact HB.out|apply aZ|apply nZ|apply dZ)|exact HB.out)) hb);have n1_:=mk0 (hbox);have n2_:=mk0 ((by rw [hg];exact (below_size (by repeat (first|(with_reducible first|exact HB.out|apply aZ|apply nZ|apply dZ)|exact HB.out))):w.heap.size ≤ gb238));have n3_:=mk0 ((by rw [hg];exact (below_size (by repeat (first|(with_reducible first|exact HB.out|apply aZ|apply nZ|apply dZ)|exact HB.out))):w.heap.size ≤ gb238));clear HB;have HB:=n0_;have BK238:=n1_;have GW238:=n2_;have GE238:=n3_;clear n0_ n1_ n2_ n3_ hb hbox hg))
 (try simp only [Act.put,sA,sO,sS])
 go_cut [27] (fun v27 wc=>∃ (kq:Nat) (x27_3:Bool),v27 = .bool x27_3 ∧ Aside0 (spec_Rank.j0 kq a1 a2 x27_3 a0_0 l0_1 = some r) ∧ Aside0 (kq ≤ k) ∧ Aside0 (wc.heap[gb238]? = some (.cells #[.int .i64 a0_0,(.slice A0_1 l0_1.length c0_1)] 64 (0,0))) ∧ Aside0 (Below w.heap.size w wc))
 case first =>
  have H:=HC4.out
  clear HC4
  replace H:=Option.bind_eq_some_iff.mp H
  obtain⟨t239,A60,H⟩:=H
  replace H:(if t239 = true then ((spec_l01Bit.f a1).bind fun t240=>(if t240 = true then (if a2 < 0 then (spec_Rank.j0 k a1 a2 true a0_0 l0_1) else (spec_Rank.j0 k a1 a2 (decide (a2 > a0_0)) a0_0 l0_1)) else (spec_Rank.j0 k a1 a2 true a0_0 l0_1))) else (spec_Rank.j0 k a1 a2 true a0_0 l0_1)) = some r:=H
  have A6:=mk0 A60
  clear A60
  by_cases c7:t239 = true
  rotate_left
  ·replace c7:=Bool.eq_false_iff.mpr c7
   subst c7
   have H1:(spec_Rank.j0 k a1 a2 true a0_0 l0_1) = some r:=by rw [if_neg (show ¬ (false = true) by decide)] at H;exact H
   clear H
   have H:=H1
   clear H1
   have H':=mk0 H
   clear H
   have hcz18_0:w5.cell? ⟨gb238,0,none⟩ = some (.int .i64 a0_0):=(blk_cell BK238.out 0).trans rfl
   have hcz18_1:w5.cell? ⟨gb238,1,none⟩ = some (.slice A0_1 l0_1.length c0_1):=(blk_cell BK238.out 1).trans rfl
   have hfz18_0:=blk_frozen BK238.out 0
   have hfz18_1:=blk_frozen BK238.out 1
   go_wp2_with (first|((with_reducible refine gate_callee (f:=60) rfl ?_);refine goesL_ (some 11) rfl rfl Try.func60 (by kernel_rfl) rfl #[.agg #[.int .i64 a0_0,.slice A0_1 l0_1.length c0_1]] rfl (by (try simp only [mA,mC,mN]);first|done|rfl|(simp only [List.length_drop,List.length_take];done)|(simp only [List.length_drop,List.length_take];rfl)) ?_;(with_reducible refine (spec_BitsOk.calls k a0_0 _ _ l0_1 false _ ?side1 ?side2 A6.out).mono ?_);(case side1=>repeat (first|exact (Kd.C_below HR0_1.out HB.out)|(with_reducible first|apply aC|apply nC|apply dC)));(case side2=>exact HC0_1.out);rintro e w19 ⟨rfl,hb⟩;refine⟨_,rfl,?_⟩;have n0_:=mk0 (blk_below (g:=gb238) (o:=.cells #[.int .i64 a0_0,.slice A0_1 l0_1.length c0_1] 64 (0,0)) (by (with_reducible repeat (first|apply nB|apply dB|apply aB));exact BK238.out) hb);have n1_:=mk0 (below_step (by repeat (first|(with_reducible first|exact HB.out|apply aZ|apply nZ|apply dZ|refine sZ ?_ GE238.out)|exact HB.out)) hb);clear BK238 HB;have BK238:=n0_;have HB:=n1_;clear n0_ n1_;(try clear hb);(try clear hb2);(try clear hk);(try clear hi)))
   go_meet
   case rel=>exact⟨_,(true),(by first|rfl|(simp;done)|(simp [*];done)),H',⟨by first|omega|exact Nat.le_refl _⟩,⟨by (with_reducible repeat (first|apply nB|apply dB|apply aB));exact BK238.out⟩,⟨by repeat (first|(with_reducible first|exact HB.out|apply aZ|apply nZ|apply dZ|refine sZ ?_ GE238.out)|exact HB.out)⟩⟩
  subst c7
  have H1:((spec_l01Bit.f a1).bind fun t240=>(if t240 = true then (if a2 < 0 then (spec_Rank.j0 k a1 a2 true a0_0 l0_1) else (spec_Rank.j0 k a1 a2 (decide (a2 > a0_0)) a0_0 l0_1)) else (spec_Rank.j0 k a1 a2 true a0_0 l0_1))) = some r:=by rw [if_pos rfl] at H;exact H
  clear H
  have H:=H1
  clear H1
  replace H:=Option.bind_eq_some_iff.mp H
  obtain⟨t240,A80,H⟩:=H
  replace H:(if t240 = true then (if a2 < 0 then (spec_Rank.j0 k a1 a2 true a0_0 l0_1) else (spec_Rank.j0 k a1 a2 (decide (a2 > a0_0)) a0_0 l0_1)) else (spec_Rank.j0 k a1 a2 true a0_0 l0_1)) = some r:=H
  have A8:=mk0 A80
  clear A80
  by_cases c9:t240 = true
  rotate_left
  ·replace c9:=Bool.eq_false_iff.mpr c9
   subst c9
   have H1:(spec_Rank.j0 k a1 a2 true a0_0 l0_1) = some r:=by rw [if_neg (show ¬ (false = true) by decide)] at H;exact H
   clear H
   have H:=H1
   clear H1
   have H':=mk0 H
   clear H
   have hcz16_0:w5.cell? ⟨gb238,0,none⟩ = some (.int .i64 a0_0):=(blk_cell BK238.out 0).trans rfl
   have hcz16_1:w5.cell? ⟨gb238,1,none⟩ = some (.slice A0_1 l0_1.length c0_1):=(blk_cell BK238.out 1).trans rfl
   have hfz16_0:=blk_frozen BK238.out 0
   have hfz16_1:=blk_frozen BK238.out 1
   go_wp2_with (first|((with_reducible refine gate_callee (f:=60) rfl ?_);refine goesL_ (some 11) rfl rfl Try.func60 (by kernel_rfl) rfl #[.agg #[.int .i64 a0_0,.slice A0_1 l0_1.length c0_1]] rfl (by (try simp only [mA,mC,mN]);first|done|rfl|(simp only [List.length_drop,List.length_take];done)|(simp only [List.length_drop,List.length_take];rfl)) ?_;(with_reducible refine (spec_BitsOk.calls k a0_0 _ _ l0_1 true _ ?side1 ?side2 A6.out).mono ?_);(case side1=>repeat (first|exact (Kd.C_below HR0_1.out HB.out)|(with_reducible first|apply aC|apply nC|apply dC)));(case side2=>exact HC0_1.out);rintro e w17 ⟨rfl,hb⟩;refine⟨_,rfl,?_⟩;have n0_:=mk0 (blk_below (g:=gb238) (o:=.cells #[.int .i64 a0_0,.slice A0_1 l0_1.length c0_1] 64 (0,0)) (by (with_reducible repeat (first|apply nB|apply dB|apply aB));exact BK238.out) hb);have n1_:=mk0 (below_step (by repeat (first|(with_reducible first|exact HB.out|apply aZ|apply nZ|apply dZ|refine sZ ?_ GE238.out)|exact HB.out)) hb);clear BK238 HB;have BK238:=n0_;have HB:=n1_;clear n0_ n1_;(try clear hb);(try clear hb2);(try clear hk);(try clear hi))|(go_at_call 75;(with_reducible refine (spec_l01Bit.calls a1 false _ A8.out).mono ?_);rintro e w' ⟨rfl,⟨nd,rfl⟩⟩))
   go_meet
   case rel=>exact⟨_,(true),(by first|rfl|(simp;done)|(simp [*];done)),H',⟨by first|omega|exact Nat.le_refl _⟩,⟨by (with_reducible repeat (first|apply nB|apply dB|apply aB));exact BK238.out⟩,⟨by repeat (first|(with_reducible first|exact HB.out|apply aZ|apply nZ|apply dZ|refine sZ ?_ GE238.out)|exact HB.out)⟩⟩
  subst c9
  have H1:(if a2 < 0 then (spec_Rank.j0 k a1 a2 true a0_0 l0_1) else (spec_Rank.j0 k a1 a2 (decide (a2 > a0_0)) a0_0 l0_1)) = some r:=by rw [if_pos rfl] at H;exact H
  clear H
  have H:=H1
  clear H1
  by_cases c10:a2 < 0
  ·rw [if_pos c10] at H
   have c10b0:decide (a2 < 0) = true:=decide_eq_true c10
   clear c10
   (first|rw [c10b0]|(simp only [i64_w,i32_w];rw [c10b0])|skip)
   have H':=mk0 H
   clear H
   have hcz11_0:w5.cell? ⟨gb238,0,none⟩ = some (.int .i64 a0_0):=(blk_cell BK238.out 0).trans rfl
   have hcz11_1:w5.cell? ⟨gb238,1,none⟩ = some (.slice A0_1 l0_1.length c0_1):=(blk_cell BK238.out 1).trans rfl
   have hfz11_0:=blk_frozen BK238.out 0
   have hfz11_1:=blk_frozen BK238.out 1
   go_wp2_with (first|((with_reducible refine gate_callee (f:=60) rfl ?_);refine goesL_ (some 11) rfl rfl Try.func60 (by kernel_rfl) rfl #[.agg #[.int .i64 a0_0,.slice A0_1 l0_1.length c0_1]] rfl (by (try simp only [mA,mC,mN]);first|done|rfl|(simp only [List.length_drop,List.length_take];done)|(simp only [List.length_drop,List.length_take];rfl)) ?_;(with_reducible refine (spec_BitsOk.calls k a0_0 _ _ l0_1 true _ ?side1 ?side2 A6.out).mono ?_);(case side1=>repeat (first|exact (Kd.C_below HR0_1.out HB.out)|(with_reducible first|apply aC|apply nC|apply dC)));(case side2=>exact HC0_1.out);rintro e w12 ⟨rfl,hb⟩;refine⟨_,rfl,?_⟩;have n0_:=mk0 (blk_below (g:=gb238) (o:=.cells #[.int .i64 a0_0,.slice A0_1 l0_1.length c0_1] 64 (0,0)) (by (with_reducible repeat (first|apply nB|apply dB|apply aB));exact BK238.out) hb);have n1_:=mk0 (below_step (by repeat (first|(with_reducible first|exact HB.out|apply aZ|apply nZ|apply dZ|refine sZ ?_ GE238.out)|exact HB.out)) hb);clear BK238 HB;have BK238:=n0_;have HB:=n1_;clear n0_ n1_;(try clear hb);(try clear hb2);(try clear hk);(try clear hi))|(go_at_call 75;(with_reducible refine (spec_l01Bit.calls a1 true _ A8.out).mono ?_);rintro e w' ⟨rfl,⟨nd,rfl⟩⟩))
   go_meet
   case rel=>exact⟨_,(true),(by first|rfl|(simp;done)|(simp [*];done)),H',⟨by first|omega|exact Nat.le_refl _⟩,⟨by (with_reducible repeat (first|apply nB|apply dB|apply aB));exact BK238.out⟩,⟨by repeat (first|(with_reducible first|exact HB.out|apply aZ|apply nZ|apply dZ|refine sZ ?_ GE238.out)|exact HB.out)⟩⟩
  rw [if_neg c10] at H
  have c10b0:decide (a2 < 0) = false:=decide_eq_false c10
  clear c10
  (first|rw [c10b0]|(simp only [i64_w,i32_w];rw [c10b0])|skip)
  have H':=mk0 H
  clear H
  have hcz13_0:w5.cell? ⟨gb238,0,none⟩ = some (.int .i64 a0_0):=(blk_cell BK238.out 0).trans rfl
  have hcz13_1:w5.cell? ⟨gb238,1,none⟩ = some (.slice A0_1 l0_1.length c0_1):=(blk_cell BK238.out 1).trans rfl
  have hfz13_0:=blk_frozen BK238.out 0
  have hfz13_1:=blk_frozen BK238.out 1
  go_wp2_with (first|((with_reducible refine gate_callee (f:=60) rfl ?_);refine goesL_ (some 11) rfl rfl Try.func60 (by kernel_rfl) rfl #[.agg #[.int .i64 a0_0,.slice A0_1 l0_1.length c0_1]] rfl (by (try simp only [mA,mC,mN]);first|done|rfl|(simp only [List.length_drop,List.length_take];done)|(simp only [List.length_drop,List.length_take];rfl)) ?_;(with_reducible refine (spec_BitsOk.calls k a0_0 _ _ l0_1 true _ ?side1 ?side2 A6.out).mono ?_);(case side1=>repeat (first|exact (Kd.C_below HR0_1.out HB.out)|(with_reducible first|apply aC|apply nC|apply dC)));(case side2=>exact HC0_1.out);rintro e w14 ⟨rfl,hb⟩;refine⟨_,rfl,?_⟩;have n0_:=mk0 (blk_below (g:=gb238) (o:=.cells #[.int .i64 a0_0,.slice A0_1 l0_1.length c0_1] 64 (0,0)) (by (with_reducible repeat (first|apply nB|apply dB|apply aB));exact BK238.out) hb);have n1_:=mk0 (below_step (by repeat (first|(with_reducible first|exact HB.out|apply aZ|apply nZ|apply dZ|refine sZ ?_ GE238.out)|exact HB.out)) hb);clear BK238 HB;have BK238:=n0_;have HB:=n1_;clear n0_ n1_;(try clear hb);(try clear hb2);(try clear hk);(try clear hi))|(go_at_call 75;(with_reducible refine (spec_l01Bit.calls a1 true _ A8.out).mono ?_);rintro e w' ⟨rfl,⟨nd,rfl⟩⟩;have hcz15_0:w14.cell? ⟨gb238,0,none⟩ = some (.int .i64 a0_0):=(blk_cell BK238.out 0).trans rfl;have hcz15_1:w14.cell? ⟨gb238,1,none⟩ = some (.slice A0_1 l0_1.length c0_1):=(blk_cell BK238.out 1).trans rfl;have hfz15_0:=blk_frozen BK238.out 0;have hfz15_1:=blk_frozen BK238.out 1))
  go_meet
  case rel=>exact⟨_,(decide (a2 > a0_0)),(by first|rfl|(simp;done)|(simp [*];done)),H',⟨by first|omega|exact Nat.le_refl _⟩,⟨by (with_reducible repeat (first|apply nB|apply dB|apply aB));exact BK238.out⟩,⟨by repeat (first|(with_reducible first|exact HB.out|apply aZ|apply nZ|apply dZ|refine sZ ?_ GE238.out)|exact HB.out)⟩⟩
 case rest =>
  clear HC4
  try clear c1
  try clear p2
  try clear c6
  try clear c7
  try clear c9
  try clear c10
  try clear c10b0
  try clear hcz11_0
  try clear hcz11_1
  try clear hcz13_0
  try clear hcz13_1
  try clear hcz15_0
  try clear hcz15_1
  try clear hcz16_0
  try clear hcz16_1
  try clear hcz18_0
  try clear hcz18_1
  try clear hfz11_0
  try clear hfz11_1
  try clear hfz13_0
  try clear hfz13_1
  try clear hfz15_0
  try clear hfz15_1
  try clear hfz16_0
  try clear hfz16_1
  try clear hfz18_0
  try clear hfz18_1
  obtain⟨kq,x27_3,rfl,HA,HJ3,BK238,HB⟩:=hcut
  cases kq with
  | zero=>exact absurd HA.out (by simp [spec_Rank.j0])
  | succ kj3 =>
   have H:=HA.out
   clear HA
   simp only [spec_Rank.j0] at H
   by_cases c20:x27_3 = true
   ·subst c20
    have H1:(some (-1)) = some r:=by rw [if_pos rfl] at H;exact H
    clear H
    have H:=H1
    clear H1
    obtain rfl:=Option.some.inj H
    go_wp2
    go_ret
    exact⟨by first|rfl|(simp [errW_none,errW_some] <;> rfl)|(simp [*,errW_none,errW_some] <;> rfl),by repeat (first|(with_reducible first|exact HB.out|apply aZ|apply nZ|apply dZ|refine sZ ?_ GE238.out)|exact HB.out)⟩
   replace c20:=Bool.eq_false_iff.mpr c20
   subst c20
   have H1:((spec_l01List.f kj3 a0_0 l0_1).bind fun t241=>(spec_Rank.l0 kj3 a1 a2 0 0 t241)) = some r:=by rw [if_neg (show ¬ (false = true) by decide)] at H;exact H
   clear H
   have H:=H1
   clear H1
   replace H:=Option.bind_eq_some_iff.mp H
   obtain⟨t241,A210,H⟩:=H
   replace H:(spec_Rank.l0 kj3 a1 a2 0 0 t241) = some r:=H
   have A21:=mk0 A210
   clear A210
   have H':=mk0 H
   clear H
   have hcz22_0:wc.cell? ⟨gb238,0,none⟩ = some (.int .i64 a0_0):=(blk_cell BK238.out 0).trans rfl
   have hcz22_1:wc.cell? ⟨gb238,1,none⟩ = some (.slice A0_1 l0_1.length c0_1):=(blk_cell BK238.out 1).trans rfl
   have hfz22_0:=blk_frozen BK238.out 0
   have hfz22_1:=blk_frozen BK238.out 1
   go_wp2_with (first|((with_reducible refine gate_callee (f:=62) rfl ?_);refine goesL_ (some 29) rfl rfl Try.func62 (by kernel_rfl) rfl #[.agg #[.int .i64 a0_0,.slice A0_1 l0_1.length c0_1]] rfl (by (try simp only [mA,mC,mN]);first|done|rfl|(simp only [List.length_drop,List.length_take];done)|(simp only [List.length_drop,List.length_take];rfl)) ?_;(with_reducible refine (spec_l01List.calls kj3 a0_0 _ _ l0_1 t241 _ ?side1 ?side2 A21.out).mono ?_);(case side1=>repeat (first|exact (Kd.C_below HR0_1.out HB.out)|(with_reducible first|apply aC|apply nC|apply dC)));(case side2=>exact HC0_1.out);rintro e w23 ⟨v242,rfl,ho0,hb⟩;refine⟨_,rfl,?_⟩;have n0_:=mk0 (Kd.R_lower ho0 (below_size (by repeat (first|(with_reducible first|exact HB.out|apply aZ|apply nZ|apply dZ|refine sZ ?_ GE238.out)|exact HB.out))));have n1_:=mk0 (blk_below (g:=gb238) (o:=.cells #[.int .i64 a0_0,.slice A0_1 l0_1.length c0_1] 64 (0,0)) (by (with_reducible repeat (first|apply nB|apply dB|apply aB));exact BK238.out) hb);have n2_:=mk0 (below_step (by repeat (first|(with_reducible first|exact HB.out|apply aZ|apply nZ|apply dZ|refine sZ ?_ GE238.out)|exact HB.out)) hb);clear BK238 HB;have HO243:=n0_;have BK238:=n1_;have HB:=n2_;clear n0_ n1_ n2_;(try clear hb);(try clear hb2);(try clear hk);(try clear hi);(try clear ho0)))
   go_loopg [8,9] kj3 (fun kq v8 v9 w'=>∃ (x8_2:Int) (x9_2:Int),v8 = .int .i64 x8_2 ∧ v9 = .int .i64 x9_2 ∧ Aside0 (spec_Rank.l0 kq a1 a2 x8_2 x9_2 t241 = some r) ∧ Aside0 (kq ≤ kj3) ∧ Aside0 (Kd.R (Kd.int .i64) 3 w' w.heap.size (fun _=>True) v242 t241) ∧ Aside0 (w'.heap[gb238]? = some (.cells #[.int .i64 a0_0,(.slice A0_1 l0_1.length c0_1)] 64 (0,0))) ∧ Aside0 (Below w.heap.size w w'))
   case atStart=>exact⟨(0),(0),(by first|rfl|(simp;done)|(simp [*];done)),(by first|rfl|(simp;done)|(simp [*];done)),H',⟨Nat.le_refl _⟩,⟨by (with_reducible repeat (first|apply aR|apply nR|apply dR));exact HO243.out⟩,⟨by (with_reducible repeat (first|apply nB|apply dB|apply aB));exact BK238.out⟩,⟨by repeat (first|(with_reducible first|exact HB.out|apply aZ|apply nZ|apply dZ|refine sZ ?_ GE238.out)|exact HB.out)⟩⟩
   case round =>
    clear H'
    try clear c1
    try clear c2
    try clear p2
    try clear c6
    try clear c7
    try clear c9
    try clear c10
    try clear c10b0
    try clear c20
    try clear hcz11_0
    try clear hcz11_1
    try clear hcz13_0
    try clear hcz13_1
    try clear hcz15_0
    try clear hcz15_1
    try clear hcz16_0
    try clear hcz16_1
    try clear hcz18_0
    try clear hcz18_1
    try clear hcz22_0
    try clear hcz22_1
    try clear hfz11_0
    try clear hfz11_1
    try clear hfz13_0
    try clear hfz13_1
    try clear hfz15_0
    try clear hfz15_1
    try clear hfz16_0
    try clear hfz16_1
    try clear hfz18_0
    try clear hfz18_1
    try clear hfz22_0
    try clear hfz22_1
    try clear p2
    obtain⟨x8_2,x9_2,rfl,rfl,HA,HK2,HO_29,BK238,HB⟩:=hrel
    cases gk with
    | zero=>exact absurd HA.out (by simp [spec_Rank.l0])
    | succ k2 =>
     have H:=HA.out
     clear HA
     simp only [spec_Rank.l0] at H
     by_cases c24:x9_2 < a2
     rotate_left
     ·rw [if_neg c24] at H
      have c24b0:decide (x9_2 < a2) = false:=decide_eq_false c24
      clear c24
      obtain rfl:=Option.some.inj H
      go_wp2
      go_ret
      exact⟨by first|rfl|(simp [errW_none,errW_some] <;> rfl)|(simp [*,errW_none,errW_some] <;> rfl),by repeat (first|(with_reducible first|exact HB.out|apply aZ|apply nZ|apply dZ|refine sZ ?_ GE238.out)|exact HB.out)⟩

     rw [if_pos c24] at H
     have c24b0:decide (x9_2 < a2) = true:=decide_eq_true c24
     clear c24
     by_cases c25:0 ≤ x9_2
     rotate_left
     ·rw [if_neg c25] at H
      exact absurd H (by simp)
     rw [if_pos c25] at H
     have c25b0:decide (0 ≤ x9_2) = true:=decide_eq_true c25
     clear c25
     by_cases c26:x9_2 < (t241.length:Int)
     rotate_left
     ·rw [if_neg c26] at H
      exact absurd H (by simp)
     rw [if_pos c26] at H
     have c26b0:decide (x9_2 < (t241.length:Int)) = true:=decide_eq_true c26
     clear c26
     by_cases c27:(rd t241 x9_2) = a1
     rotate_left
     ·rw [if_neg c27] at H
      have c27b0:((rd t241 x9_2) == a1) = false:=beq_eq_false_iff_ne.mpr c27
      have c27b1:((rd t241 x9_2) != a1) = true:=bne_iff_ne.mpr c27
      have H':=mk0 H
      clear H
      obtain⟨Ao29,co29,eo29⟩:=Kd.R_slice HO_29.out
      subst eo29
      have p244:0 ≤ (x9_2:Int):=of_decide_eq_true (by first|(with_reducible assumption)|assumption)
      have q244:x9_2 < (t241.length:Int):=of_decide_eq_true (by first|(with_reducible assumption)|assumption)
      obtain⟨ad244,e244,hx244_0⟩:=Kd.at_int (Kd.R_reads' HO_29.out).2.2 x9_2 p244 q244
      cases e244
      replace p244:=eq_true p244
      replace q244:=eq_true q244
      go_wp2
      go_roundg k2
      case measure=>have:=HJ3.out;have:=HK2.out;omega
      case rel=>exact⟨(x8_2),(wrap64 (x9_2 + 1)),(by first|rfl|(simp;done)|(simp [*];done)),(by first|rfl|(simp;done)|(simp [*];done)),H',⟨by have:=HJ3.out;have:=HK2.out;omega⟩,⟨by (with_reducible repeat (first|apply aR|apply nR|apply dR));exact HO_29.out⟩,⟨by (with_reducible repeat (first|apply nB|apply dB|apply aB));exact BK238.out⟩,⟨by repeat (first|(with_reducible first|exact HB.out|apply aZ|apply nZ|apply dZ|refine sZ ?_ GE238.out)|exact HB.out)⟩⟩
     rw [if_pos c27] at H
     have c27b0:((rd t241 x9_2) == a1) = true:=beq_iff_eq.mpr c27
     have c27b1:((rd t241 x9_2) != a1) = false:=bne_eq_false_iff_eq.mpr c27
     clear c27
     have H':=mk0 H
     clear H
     obtain⟨Ao28,co28,eo28⟩:=Kd.R_slice HO_29.out
     subst eo28
     have p244:0 ≤ (x9_2:Int):=of_decide_eq_true (by first|(with_reducible assumption)|assumption)
     have q244:x9_2 < (t241.length:Int):=of_decide_eq_true (by first|(with_reducible assumption)|assumption)
     obtain⟨ad244,e244,hx244_0⟩:=Kd.at_int (Kd.R_reads' HO_29.out).2.2 x9_2 p244 q244
     cases e244
     replace p244:=eq_true p244
     replace q244:=eq_true q244
     go_wp2
     go_roundg k2
     case measure=>have:=HJ3.out;have:=HK2.out;omega
     case rel=>exact⟨(wrap64 (x8_2 + 1)),(wrap64 (x9_2 + 1)),(by first|rfl|(simp;done)|(simp [*];done)),(by first|rfl|(simp;done)|(simp [*];done)),H',⟨by have:=HJ3.out;have:=HK2.out;omega⟩,⟨by (with_reducible repeat (first|apply aR|apply nR|apply dR));exact HO_29.out⟩,⟨by (with_reducible repeat (first|apply nB|apply dB|apply aB));exact BK238.out⟩,⟨by repeat (first|(with_reducible first|exact HB.out|apply aZ|apply nZ|apply dZ|refine sZ ?_ GE238.out)|exact HB.out)⟩⟩
end Go.Proofs.Ytamdhfjnalglfaa.QFnExactWaveList
