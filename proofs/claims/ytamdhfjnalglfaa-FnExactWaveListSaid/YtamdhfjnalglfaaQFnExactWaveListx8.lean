-- A walk, made by walk.py, a program of this session's.
import Derived.Test.YtamdhfjnalglfaaQFnExactWaveListx0
import Derived.Test.YtamdhfjnalglfaaQFnExactWaveListx5
import Derived.Test.YtamdhfjnalglfaaQFnExactWaveListx7
namespace Go.Proofs.Ytamdhfjnalglfaa.QFnExactWaveList
open Go.RowKit Go.Proofs.YtamdhfjnalglfaaW.PrintWords Go.Proofs.YtamdhfjnalglfaaW.PrintLast Go.Proofs.YtamdhfjnalglfaaW.PrintMore
attribute [local go_sem] max2_int min2_int max_two min_two max_three min_three max_four min_four   -- for this text's walks alone
set_option linter.unusedVariables false
set_option linter.unusedSimpArgs false

/-! ### spec_l07List: function 37 -/
mutual
def spec_l07List.l0 : Nat → List (List Int) → Int → List Int → Int → List Int → List (S64) → Option (List Int)
 | 0, _, _, _, _, _, _ => none
 | k + 1, x4, x5, x14, x253000, x253001, x253002 => if x5 < 9 then (if 0 ≤ x5 then (if x5 < (x253002.length : Int) then ((spec_l01List.f k ((rd_T64 x253002 x5).f0) ((rd_T64 x253002 x5).f1)).bind fun t260 => (if x4.length < 5864062014805 then (spec_l07List.l0 k (x4 ++ [t260]) (wrap64 (x5 + 1)) x14 x253000 x253001 x253002) else (none))) else (none)) else (none)) else (spec_l07List.l1 k x14 x4 0 x253000 x253001 x253002)
def spec_l07List.l1 : Nat → List Int → List (List Int) → Int → Int → List Int → List (S64) → Option (List Int)
 | 0, _, _, _, _, _, _ => none
 | k + 1, x3, x4, x6, x253000, x253001, x253002 => if x6 < x253000 then (spec_l07List.l2 k x3 x4 x6 x6 0 0 x253000 x253001 x253002) else (some x3)
def spec_l07List.l2 : Nat → List Int → List (List Int) → Int → Int → Int → Int → Int → List Int → List (S64) → Option (List Int)
 | 0, _, _, _, _, _, _, _, _, _ => none
 | k + 1, x3, x4, x6, x7, x8, x9, x253000, x253001, x253002 => if x9 < 9 then (if 0 ≤ x9 then (if x9 < (x4.length : Int) then (if 0 ≤ x7 then (if x7 < ((rd_L5 x4 x9).length : Int) then (spec_l07List.l3 k x3 x4 x6 x7 x8 x9 (rd (rd_L5 x4 x9) x7) 0 0 0 x253000 x253001 x253002) else (none)) else (none)) else (none)) else (none)) else (if x3.length < 17592186044416 then (spec_l07List.l1 k (x3 ++ [x8]) x4 (wrap64 (x6 + 1)) x253000 x253001 x253002) else (none))
def spec_l07List.l3 : Nat → List Int → List (List Int) → Int → Int → Int → Int → Int → Int → Int → Int → Int → List Int → List (S64) → Option (List Int)
 | 0, _, _, _, _, _, _, _, _, _, _, _, _, _ => none
 | k + 1, x3, x4, x6, x7, x8, x9, x10, x11, x12, x13, x253000, x253001, x253002 => if x13 < x253000 then (if 0 ≤ x9 then (if x9 < (x4.length : Int) then (if 0 ≤ x13 then (if x13 < ((rd_L5 x4 x9).length : Int) then (if (rd (rd_L5 x4 x9) x13) = 0 then (spec_l07List.j4 k x3 x4 x6 x7 x8 x9 x10 x11 (wrap64 (x12 + 1)) x13 x253000 x253001 x253002) else (spec_l07List.j4 k x3 x4 x6 x7 x8 x9 x10 x11 x12 x13 x253000 x253001 x253002)) else (none)) else (none)) else (none)) else (none)) else (if x10 = 1 then (spec_l07List.l2 k x3 x4 x6 (wrap64 (x12 + x11)) (wrap64 ((wrap64 (2 * x8)) + x10)) (wrap64 (x9 + 1)) x253000 x253001 x253002) else (spec_l07List.l2 k x3 x4 x6 x11 (wrap64 ((wrap64 (2 * x8)) + x10)) (wrap64 (x9 + 1)) x253000 x253001 x253002))
def spec_l07List.j4 : Nat → List Int → List (List Int) → Int → Int → Int → Int → Int → Int → Int → Int → Int → List Int → List (S64) → Option (List Int)
 | 0, _, _, _, _, _, _, _, _, _, _, _, _, _ => none
 | k + 1, x3, x4, x6, x7, x8, x9, x10, x11, x12, x13, x253000, x253001, x253002 => if x13 < x7 then (if 0 ≤ x9 then (if x9 < (x4.length : Int) then (if 0 ≤ x13 then (if x13 < ((rd_L5 x4 x9).length : Int) then (if (rd (rd_L5 x4 x9) x13) = x10 then (spec_l07List.l3 k x3 x4 x6 x7 x8 x9 x10 (wrap64 (x11 + 1)) x12 (wrap64 (x13 + 1)) x253000 x253001 x253002) else (spec_l07List.l3 k x3 x4 x6 x7 x8 x9 x10 x11 x12 (wrap64 (x13 + 1)) x253000 x253001 x253002)) else (none)) else (none)) else (none)) else (none)) else (spec_l07List.l3 k x3 x4 x6 x7 x8 x9 x10 x11 x12 (wrap64 (x13 + 1)) x253000 x253001 x253002)
end
def spec_l07List.f (k : Nat) (a0_0 : Int) (l0_1 : List Int) (l0_2 : List (S64)) : Option (List Int) := spec_l07List.l0 k (([] : List (List Int))) 0 (([] : List Int)) a0_0 l0_1 l0_2
theorem spec_l07List.mono_l : ∀ k, (∀ y0 y1 y2 y3 y4 y5, LeO (spec_l07List.l0 k y0 y1 y2 y3 y4 y5) (spec_l07List.l0 (k + 1) y0 y1 y2 y3 y4 y5)) ∧ (∀ y0 y1 y2 y3 y4 y5, LeO (spec_l07List.l1 k y0 y1 y2 y3 y4 y5) (spec_l07List.l1 (k + 1) y0 y1 y2 y3 y4 y5)) ∧ (∀ y0 y1 y2 y3 y4 y5 y6 y7 y8, LeO (spec_l07List.l2 k y0 y1 y2 y3 y4 y5 y6 y7 y8) (spec_l07List.l2 (k + 1) y0 y1 y2 y3 y4 y5 y6 y7 y8)) ∧ (∀ y0 y1 y2 y3 y4 y5 y6 y7 y8 y9 y10 y11 y12, LeO (spec_l07List.l3 k y0 y1 y2 y3 y4 y5 y6 y7 y8 y9 y10 y11 y12) (spec_l07List.l3 (k + 1) y0 y1 y2 y3 y4 y5 y6 y7 y8 y9 y10 y11 y12)) ∧ (∀ y0 y1 y2 y3 y4 y5 y6 y7 y8 y9 y10 y11 y12, LeO (spec_l07List.j4 k y0 y1 y2 y3 y4 y5 y6 y7 y8 y9 y10 y11 y12) (spec_l07List.j4 (k + 1) y0 y1 y2 y3 y4 y5 y6 y7 y8 y9 y10 y11 y12))
 | 0 => ⟨fun _ _ _ _ _ _ r h => by simp [spec_l07List.l0] at h, fun _ _ _ _ _ _ r h => by simp [spec_l07List.l1] at h, fun _ _ _ _ _ _ _ _ _ r h => by simp [spec_l07List.l2] at h, fun _ _ _ _ _ _ _ _ _ _ _ _ _ r h => by simp [spec_l07List.l3] at h, fun _ _ _ _ _ _ _ _ _ _ _ _ _ r h => by simp [spec_l07List.j4] at h⟩
 | k + 1 => by
  obtain ⟨ih0, ih1, ih2, ih3, ih4⟩ := spec_l07List.mono_l k
  refine ⟨?_, ?_, ?_, ?_, ?_⟩
  ·intro y0 y1 y2 y3 y4 y5
   unfold spec_l07List.l0
   repeat' first|(with_reducible first|exact ih0 _ _ _ _ _ _|exact ih1 _ _ _ _ _ _|exact ih2 _ _ _ _ _ _ _ _ _|exact ih3 _ _ _ _ _ _ _ _ _ _ _ _ _|exact ih4 _ _ _ _ _ _ _ _ _ _ _ _ _|exact spec_l01List.mono _ _ _|exact LeO.refl _|exact LeO.none _|refine LeO.ite ?_ ?_|refine LeO.bind ?_ (fun _ => ?_))|exact LeO.none _|refine LeO.ite ?_ ?_|refine LeO.bind ?_ (fun _ => ?_)
  ·intro y0 y1 y2 y3 y4 y5
   unfold spec_l07List.l1
   repeat' first|(with_reducible first|exact ih0 _ _ _ _ _ _|exact ih1 _ _ _ _ _ _|exact ih2 _ _ _ _ _ _ _ _ _|exact ih3 _ _ _ _ _ _ _ _ _ _ _ _ _|exact ih4 _ _ _ _ _ _ _ _ _ _ _ _ _|exact spec_l01List.mono _ _ _|exact LeO.refl _|exact LeO.none _|refine LeO.ite ?_ ?_|refine LeO.bind ?_ (fun _ => ?_))|exact LeO.none _|refine LeO.ite ?_ ?_|refine LeO.bind ?_ (fun _ => ?_)
  ·intro y0 y1 y2 y3 y4 y5 y6 y7 y8
   unfold spec_l07List.l2
   repeat' first|(with_reducible first|exact ih0 _ _ _ _ _ _|exact ih1 _ _ _ _ _ _|exact ih2 _ _ _ _ _ _ _ _ _|exact ih3 _ _ _ _ _ _ _ _ _ _ _ _ _|exact ih4 _ _ _ _ _ _ _ _ _ _ _ _ _|exact spec_l01List.mono _ _ _|exact LeO.refl _|exact LeO.none _|refine LeO.ite ?_ ?_|refine LeO.bind ?_ (fun _ => ?_))|exact LeO.none _|refine LeO.ite ?_ ?_|refine LeO.bind ?_ (fun _ => ?_)
  ·intro y0 y1 y2 y3 y4 y5 y6 y7 y8 y9 y10 y11 y12
   unfold spec_l07List.l3
   repeat' first|(with_reducible first|exact ih0 _ _ _ _ _ _|exact ih1 _ _ _ _ _ _|exact ih2 _ _ _ _ _ _ _ _ _|exact ih3 _ _ _ _ _ _ _ _ _ _ _ _ _|exact ih4 _ _ _ _ _ _ _ _ _ _ _ _ _|exact spec_l01List.mono _ _ _|exact LeO.refl _|exact LeO.none _|refine LeO.ite ?_ ?_|refine LeO.bind ?_ (fun _ => ?_))|exact LeO.none _|refine LeO.ite ?_ ?_|refine LeO.bind ?_ (fun _ => ?_)
  ·intro y0 y1 y2 y3 y4 y5 y6 y7 y8 y9 y10 y11 y12
   unfold spec_l07List.j4
   repeat' first|(with_reducible first|exact ih0 _ _ _ _ _ _|exact ih1 _ _ _ _ _ _|exact ih2 _ _ _ _ _ _ _ _ _|exact ih3 _ _ _ _ _ _ _ _ _ _ _ _ _|exact ih4 _ _ _ _ _ _ _ _ _ _ _ _ _|exact spec_l01List.mono _ _ _|exact LeO.refl _|exact LeO.none _|refine LeO.ite ?_ ?_|refine LeO.bind ?_ (fun _ => ?_))|exact LeO.none _|refine LeO.ite ?_ ?_|refine LeO.bind ?_ (fun _ => ?_)
theorem spec_l07List.mono : ∀ a0 a1 a2 k, LeO (spec_l07List.f k a0 a1 a2) (spec_l07List.f (k + 1) a0 a1 a2) := by
 intro a0 a1 a2 k
 obtain ⟨ih0, ih1, ih2, ih3, ih4⟩ := spec_l07List.mono_l k
 unfold spec_l07List.f
 repeat' first|(with_reducible first|exact ih0 _ _ _ _ _ _|exact ih1 _ _ _ _ _ _|exact ih2 _ _ _ _ _ _ _ _ _|exact ih3 _ _ _ _ _ _ _ _ _ _ _ _ _|exact ih4 _ _ _ _ _ _ _ _ _ _ _ _ _|exact spec_l01List.mono _ _ _|exact LeO.refl _|exact LeO.none _|refine LeO.ite ?_ ?_|refine LeO.bind ?_ (fun _ => ?_))|exact LeO.none _|refine LeO.ite ?_ ?_|refine LeO.bind ?_ (fun _ => ?_)
set_option maxHeartbeats 8000000 in
set_option maxRecDepth 100000 in
theorem spec_l07List.calls (k : Nat) (a0_0 : Int) (A0_1 : Option Addr) (c0_1 : Nat) (l0_1 : List Int) (A0_2 : Option Addr) (c0_2 : Nat) (l0_2 : List (S64)) (r : List Int) (w : World) (hr0_1 : Kd.C (Kd.int .i64) w A0_1 l0_1.length l0_1) (hc0_1 : l0_1.length ≤ c0_1) (hr0_2 : Kd.C k64 w A0_2 l0_2.length l0_2) (hc0_2 : l0_2.length ≤ c0_2) (h : spec_l07List.f k a0_0 l0_1 l0_2 = some r) :
  Calls Try.prog 37 #[.agg #[.int .i64 a0_0, .slice A0_1 l0_1.length c0_1, .slice A0_2 l0_2.length c0_2]] w fun e w' => ∃ v0_ : Value, e = .returned (v0_) ∧ Kd.R (Kd.int .i64) 3 w' w.heap.size (fun _ => True) v0_ r ∧ Below w.heap.size w w' := by
 have hu30:=Try.underlying30
 have hu64:=Try.underlying64
 have HR0_1:=mk0 hr0_1
 have HC0_1:=mk0 hc0_1
 clear hr0_1 hc0_1
 have HR0_2:=mk0 hr0_2
 have HC0_2:=mk0 hc0_2
 clear hr0_2 hc0_2
 have HB:=mk0 (Below.refl w.heap.size w)
 have H:(spec_l07List.l0 k (([]:List (List Int))) 0 (([]:List Int)) a0_0 l0_1 l0_2) = some r:=h
 clear h
 obtain⟨y253,hy253⟩:∃ y_:List Int,y_ = (([]:List Int)):=⟨_,rfl⟩
 replace H:(spec_l07List.l0 k (([]:List (List Int))) 0 y253 a0_0 l0_1 l0_2) = some r:=by first|(rw [hy253];with_reducible exact H)|(have H2_:=(Option.bind_some _ _).symm.trans H;rw [hy253];with_reducible exact H2_)|(have H2_:=(Option.bind_some _ _).symm.trans H;with_reducible exact H2_)|with_reducible exact H|(rw [hy253];exact H)|exact H
 have Ny253:=mk0 hy253
 clear hy253
 obtain⟨y256,hy256⟩:∃ y_:List (List Int),y_ = (([]:List (List Int))):=⟨_,rfl⟩
 replace H:(spec_l07List.l0 k y256 0 y253 a0_0 l0_1 l0_2) = some r:=by first|(rw [hy256];with_reducible exact H)|(have H2_:=(Option.bind_some _ _).symm.trans H;rw [hy256];with_reducible exact H2_)|(have H2_:=(Option.bind_some _ _).symm.trans H;with_reducible exact H2_)|with_reducible exact H|(rw [hy256];exact H)|exact H
 have Ny256:=mk0 hy256
 clear hy256
 have H':=mk0 H
 clear H
 go_enter Try.func37,Try.ntmps37
 go_wp2_with (first|((with_reducible refine gate_dst (N:=1) rfl ?_);refine box_event ?hg (N:=1) ?hd (cs:=#[.int .i64 a0_0,.slice A0_1 l0_1.length c0_1,.slice A0_2 l0_2.length c0_2]) (t:=30) ?hr ?_;(case hd=>rfl);(case hg=>rfl);(case hr=>first|(go_simp;done)|(go_simp;rfl));intro gb252 hg w2 hbox hb;have n0_:=mk0 (below_step (by repeat (first|(with_reducible first|exact HB.out|apply aZ|apply nZ|apply dZ)|exact HB.out)) hb);have n1_:=mk0 (hbox);have n2_:=mk0 ((by rw [hg];exact (below_size (by repeat (first|(with_reducible first|exact HB.out|apply aZ|apply nZ|apply dZ)|exact HB.out))):w.heap.size ≤ gb252));have n3_:=mk0 ((by rw [hg];exact (below_size (by repeat (first|(with_reducible first|exact HB.out|apply aZ|apply nZ|apply dZ)|exact HB.out))):w.heap.size ≤ gb252));clear HB;have HB:=n0_;have BK252:=n1_;have GW252:=n2_;have GE252:=n3_;clear n0_ n1_ n2_ n3_ hb hbox hg)|((with_reducible refine gate_dst (N:=14) rfl ?_);refine Kd.R_lit (Kd.int .i64) _ 3 ?hg (N:=14) ?hd (xs:=([]:List Int)) (inner:=[]) (ok:=fun _=>True) (okp:=fun _=>True) ?hr ?hp (fun _ hk=>hk) trivial (Below.refl _ _) (Nat.le_refl _) (by simp) ?_;(case hd=>rfl);(case hg=>rfl);(case hr=>first|(go_simp;done)|(go_simp;rfl));(case hp=>exact (Reps.none _ _));intro v254 w3 ho4 hb hg_ hnew_;clear hg_ hnew_;(first|rw [← Ny253.out] at ho4|(simp only [Int.reduceToNat] at ho4;rw [← Ny253.out] at ho4));have n0_:=mk0 (Kd.R_lower ho4 (below_size (by repeat (first|(with_reducible first|exact HB.out|apply aZ|apply nZ|apply dZ|refine sZ ?_ GE252.out)|exact HB.out))));have n1_:=mk0 (blk_below (g:=gb252) (o:=.cells #[.int .i64 a0_0,.slice A0_1 l0_1.length c0_1,.slice A0_2 l0_2.length c0_2] 30 (0,0)) (by (with_reducible repeat (first|apply nB|apply dB|apply aB));exact BK252.out) hb);have n2_:=mk0 (below_step (by repeat (first|(with_reducible first|exact HB.out|apply aZ|apply nZ|apply dZ|refine sZ ?_ GE252.out)|exact HB.out)) hb);clear BK252 HB;have HO255:=n0_;have BK252:=n1_;have HB:=n2_;clear n0_ n1_ n2_ hb ho4)|((with_reducible refine gate_dst (N:=15) rfl ?_);refine Kd.S_lit (Kd.slice 3 (Kd.int .i64)) _ 22 ?hg (N:=15) ?hd (xs:=([]:List (List Int))) (inner:=[]) (ok:=fun _=>True) (okp:=fun _=>True) ?hr ?hp (fun _ hk=>hk) trivial (Below.refl _ _) (Nat.le_refl _) (by simp) ?_;(case hd=>rfl);(case hg=>rfl);(case hr=>first|(go_simp;done)|(go_simp;rfl));(case hp=>exact (Reps.none _ _));intro v257 w5 ho6 hb hg_ hnew_;clear hg_ hnew_;(first|rw [← Ny256.out] at ho6|(simp only [Int.reduceToNat] at ho6;rw [← Ny256.out] at ho6));have n0_:=mk0 (Kd.R_below (by (with_reducible repeat (first|apply aR|apply nR|apply dR));exact HO255.out) hb);have n1_:=mk0 (Kd.S_lower (Kd.S_new' ho6 (Kd.R_lt (by (with_reducible repeat (first|apply aR|apply nR|apply dR));exact HO255.out))) (below_size (by repeat (first|(with_reducible first|exact HB.out|apply aZ|apply nZ|apply dZ|refine sZ ?_ GE252.out)|exact HB.out))));have n2_:=mk0 (blk_below (g:=gb252) (o:=.cells #[.int .i64 a0_0,.slice A0_1 l0_1.length c0_1,.slice A0_2 l0_2.length c0_2] 30 (0,0)) (by (with_reducible repeat (first|apply nB|apply dB|apply aB));exact BK252.out) hb);have n3_:=mk0 (below_step (by repeat (first|(with_reducible first|exact HB.out|apply aZ|apply nZ|apply dZ|refine sZ ?_ GE252.out)|exact HB.out)) hb);clear HO255 BK252 HB;have HO255:=n0_;have HO258:=n1_;have BK252:=n2_;have HB:=n3_;clear n0_ n1_ n2_ n3_ hb ho6))
 go_loopg [4,5] k (fun kq v4 v5 w'=>∃ (x4_1:List (List Int)) (x5_1:Int),v5 = .int .i64 x5_1 ∧ Aside0 (spec_l07List.l0 kq x4_1 x5_1 y253 a0_0 l0_1 l0_2 = some r) ∧ Aside0 (kq ≤ k) ∧ Aside0 (Kd.S (Kd.slice 3 (Kd.int .i64)) 22 w' w.heap.size (fun k_=>some k_ ≠ (v254:Value).ownBlock) v4 x4_1) ∧ Aside0 (Kd.R (Kd.int .i64) 3 w' w.heap.size (fun _=>True) v254 y253) ∧ Aside0 (w'.heap[gb252]? = some (.cells #[.int .i64 a0_0,(.slice A0_1 l0_1.length c0_1),(.slice A0_2 l0_2.length c0_2)] 30 (0,0))) ∧ Aside0 (Below w.heap.size w w'))
 case atStart=>exact⟨(y256),(0),(by first|rfl|(simp;done)|(simp [*];done)),H',⟨Nat.le_refl _⟩,⟨by (with_reducible repeat (first|apply aS|apply nS|apply dS));exact Kd.S_mono HO258.out (by first|exact fun _ hk=>hk.2|(intro k_ hk;simp only [hk,ne_eq,and_self,not_false_eq_true]))⟩,⟨by (with_reducible repeat (first|apply aR|apply nR|apply dR));exact HO255.out⟩,⟨by (with_reducible repeat (first|apply nB|apply dB|apply aB));exact BK252.out⟩,⟨by repeat (first|(with_reducible first|exact HB.out|apply aZ|apply nZ|apply dZ|refine sZ ?_ GE252.out)|exact HB.out)⟩⟩
 case round =>
  clear H'
  try clear p2
  try clear c3
  obtain⟨x4_1,x5_1,rfl,HA,HK1,HO_4,HO_14,BK252,HB⟩:=hrel
  cases gk with
  | zero=>exact absurd HA.out (by simp [spec_l07List.l0])
  | succ k1 =>
   have H:=HA.out
   clear HA
   simp only [spec_l07List.l0] at H
   by_cases c7:x5_1 < 9
   ·rw [if_pos c7] at H
    have c7b0:decide (x5_1 < 9) = true:=decide_eq_true c7
    clear c7
    by_cases c8:0 ≤ x5_1
    rotate_left
    ·rw [if_neg c8] at H
     exact absurd H (by simp)
    rw [if_pos c8] at H
    have c8b0:decide (0 ≤ x5_1) = true:=decide_eq_true c8
    clear c8
    by_cases c9:x5_1 < (l0_2.length:Int)
    rotate_left
    ·rw [if_neg c9] at H
     exact absurd H (by simp)
    rw [if_pos c9] at H
    have c9b0:decide (x5_1 < (l0_2.length:Int)) = true:=decide_eq_true c9
    (try simp only [hl259_1] at c9b0)
    (try simp only [hl269_0] at c9b0)
    (try simp only [hl271_0] at c9b0)
    (try simp only [hl273_0] at c9b0)
    clear c9
    replace H:=Option.bind_eq_some_iff.mp H
    obtain⟨t260,A100,H⟩:=H
    replace H:(if x4_1.length < 5864062014805 then (spec_l07List.l0 k1 (x4_1 ++ [t260]) (wrap64 (x5_1 + 1)) y253 a0_0 l0_1 l0_2) else (none)) = some r:=H
    have A10:=mk0 A100
    clear A100
    by_cases c11:x4_1.length < 5864062014805
    rotate_left
    ·rw [if_neg c11] at H
     exact absurd H (by simp)
    rw [if_pos c11] at H
    have LMc11:=mk0 c11
    clear c11
    obtain⟨y263,hy263⟩:∃ y_:List (List Int),y_ = (x4_1 ++ [t260]):=⟨_,rfl⟩
    replace H:(spec_l07List.l0 k1 y263 (wrap64 (x5_1 + 1)) y253 a0_0 l0_1 l0_2) = some r:=by first|(rw [hy263];with_reducible exact H)|(have H2_:=(Option.bind_some _ _).symm.trans H;rw [hy263];with_reducible exact H2_)|(have H2_:=(Option.bind_some _ _).symm.trans H;with_reducible exact H2_)|with_reducible exact H|(rw [hy263];exact H)|exact H
    have Ny263:=mk0 hy263
    clear hy263
    have H':=mk0 H
    clear H
    have hcz12_0:wr.cell? ⟨gb252,0,none⟩ = some (.int .i64 a0_0):=(blk_cell BK252.out 0).trans rfl
    have hcz12_1:wr.cell? ⟨gb252,1,none⟩ = some (.slice A0_1 l0_1.length c0_1):=(blk_cell BK252.out 1).trans rfl
    have hcz12_2:wr.cell? ⟨gb252,2,none⟩ = some (.slice A0_2 l0_2.length c0_2):=(blk_cell BK252.out 2).trans rfl
    have hfz12_0:=blk_frozen BK252.out 0
    have hfz12_1:=blk_frozen BK252.out 1
    have hfz12_2:=blk_frozen BK252.out 2
    have p259:0 ≤ (x5_1:Int):=of_decide_eq_true (by first|(with_reducible assumption)|assumption)
    have q259:x5_1 < (l0_2.length:Int):=of_decide_eq_true (by first|(with_reducible assumption)|assumption)
    obtain⟨ad259,A259_1,c259_1,e259,hx259_0,hx259_1,hl259_1,hi259_1⟩:=at_T64 HR0_2.out x5_1 p259 q259
    cases e259
    replace hx259_0:=(HB.out.cell (World.block_lt_of_cell? w _ hx259_0)).trans hx259_0
    replace hx259_1:=(HB.out.cell (World.block_lt_of_cell? w _ hx259_1)).trans hx259_1
    have HR259_1:=mk0 hi259_1
    have HC259_1:=mk0 hl259_1
    clear hi259_1 hl259_1
    replace p259:=eq_true p259
    replace q259:=eq_true q259
    go_wp2_with (first|((with_reducible refine gate_callee (f:=62) rfl ?_);refine goesL_ (some 26) rfl rfl Try.func62 (by kernel_rfl) rfl #[.agg #[.int .i64 ((rd_T64 l0_2 x5_1).f0),.slice A259_1 ((rd_T64 l0_2 x5_1).f1).length c259_1]] rfl (by (try simp only [mA,mC,mN]);first|done|rfl|(simp only [List.length_drop,List.length_take];done)|(simp only [List.length_drop,List.length_take];rfl)) ?_;(with_reducible refine (spec_l01List.calls k1 ((rd_T64 l0_2 x5_1).f0) _ _ ((rd_T64 l0_2 x5_1).f1) t260 _ ?side1 ?side2 A10.out).mono ?_);(case side1=>repeat (first|exact (Kd.C_below HR259_1.out HB.out)|(with_reducible first|apply aC|apply nC|apply dC)));(case side2=>exact HC259_1.out);rintro e w13 ⟨v261,rfl,ho0,hb⟩;refine⟨_,rfl,?_⟩;have n0_:=mk0 (Kd.S_elder' (by (with_reducible repeat (first|apply aS|apply nS|apply dS));exact HO_4.out) (Kd.R_base ho0) hb);have n1_:=mk0 (Kd.R_elder' (by (with_reducible repeat (first|apply aR|apply nR|apply dR));exact HO_14.out) (Kd.R_base ho0) hb);have n2_:=mk0 (Kd.R_lower (Kd.R_new' ho0 (Kd.R_lt (by (with_reducible repeat (first|apply aR|apply nR|apply dR));exact HO_14.out))) (below_size (by repeat (first|(with_reducible first|exact HB.out|apply aZ|apply nZ|apply dZ|refine sZ ?_ GE252.out)|exact HB.out))));have n3_:=mk0 (blk_below (g:=gb252) (o:=.cells #[.int .i64 a0_0,.slice A0_1 l0_1.length c0_1,.slice (some ad259) l0_2.length c0_2] 30 (0,0)) (by (with_reducible repeat (first|apply nB|apply dB|apply aB));exact BK252.out) hb);have n4_:=mk0 (below_step (by repeat (first|(with_reducible first|exact HB.out|apply aZ|apply nZ|apply dZ|refine sZ ?_ GE252.out)|exact HB.out)) hb);clear HO_4 HO_14 BK252 HB;have HO_4:=n0_;have HO_14:=n1_;have HO262:=n2_;have BK252:=n3_;have HB:=n4_;clear n0_ n1_ n2_ n3_ n4_;(try clear hb);(try clear hb2);(try clear hk);(try clear hi);(try clear ho0);obtain⟨Ao15,co15,eo15⟩:=Kd.R_slice HO262.out;subst eo15)|((with_reducible refine gate_builtin (b:=.append) (xs:=#[.tmp 20,.tmp 27]) rfl ?_);at_builtin;refine Kd.S_append (Kd.slice 3 (Kd.int .i64)) (w0:=w) w.heap.size rfl (.tmp 20) (.tmp 27) 77 22 (.slice none 0 0) 24 rfl Try.underlying77 info22 rfl (by decide) (by omega) u4 x4_1 t260 [.slice Ao15 t260.length co15] (fun k_=>some k_ ≠ (v254:Value).ownBlock) (fun k_=>some k_ = (.slice Ao15 t260.length co15:Value).ownBlock) rfl rfl ?aP (fun k_ hk_=>((Kd.R_mono (ok':=fun k_=>((fun k_=>some k_ ≠ (v254:Value).ownBlock)) k_ ∧ some k_ ≠ (u4:Value).ownBlock) (Kd.R_apart' (HO262.out) (Kd.S_typed HO_4.out) (by decide)) (fun k_ hk=>⟨hk.1.2,hk.2⟩))).1 k_ hk_.symm) ?aF ?aO ?aB ?aS ?aL ?_;(case aP=>exact Kd.M_row (Kd.R_mono (Kd.R_tight rfl (Kd.R_mono (ok':=fun k_=>((fun k_=>some k_ ≠ (v254:Value).ownBlock)) k_ ∧ some k_ ≠ (u4:Value).ownBlock) (Kd.R_apart' (HO262.out) (Kd.S_typed HO_4.out) (by decide)) (fun k_ hk=>⟨hk.1.2,hk.2⟩))) (fun _ h_=>h_)));(case aB=>exact (by repeat (first|(with_reducible first|exact HB.out|apply aZ|apply nZ|apply dZ|refine sZ ?_ GE252.out)|exact HB.out)));(case aF=>exact (fun k_ hk=>Kd.fresh' (Kd.R_lt (by (with_reducible repeat (first|apply aR|apply nR|apply dR));exact HO_14.out)) k_ hk));(case aO=>exact (by (with_reducible repeat (first|apply aS|apply nS|apply dS));exact Kd.S_mono HO_4.out (fun k_ hk=>⟨hk.1,fun e_=>hk.2 e_⟩)));(case aS=>exact (below_size (by repeat (first|(with_reducible first|exact HB.out|apply aZ|apply nZ|apply dZ|refine sZ ?_ GE252.out)|exact HB.out))));(case aL=>have:=LMc11.out;omega);intro v264 w14 ho hb hg hat;rw [← Ny263.out] at ho;have n0_:=mk0 (Kd.R_over' (by (with_reducible repeat (first|apply aR|apply nR|apply dR));exact HO_14.out) (Kd.S_typed (by (with_reducible repeat (first|apply aS|apply nS|apply dS));exact HO_4.out)) (by decide) hg);have n1_:=mk0 (blk_grown (g:=gb252) (o:=.cells #[.int .i64 a0_0,.slice A0_1 l0_1.length c0_1,.slice (some ad259) l0_2.length c0_2] 30 (0,0)) (by (with_reducible repeat (first|apply nB|apply dB|apply aB));exact BK252.out) hg (Kd.S_ne HO_4.out BK252.out (by decide)));have n2_:=mk0 (hb);have n3_:=mk0 (ho);clear HO_14 BK252 HB HO_4 HO262;have HO_14:=n0_;have BK252:=n1_;have HB:=n2_;have HO265:=n3_;clear n0_ n1_ n2_ n3_ ho hb hg hat))
    go_roundg k1
    case measure=>have:=HK1.out;omega
    case rel=>exact⟨(y263),(wrap64 (x5_1 + 1)),(by first|rfl|(simp;done)|(simp [*];done)),H',⟨by have:=HK1.out;omega⟩,⟨by (with_reducible repeat (first|apply aS|apply nS|apply dS));exact HO265.out⟩,⟨by (with_reducible repeat (first|apply aR|apply nR|apply dR));exact Kd.R_mono HO_14.out (fun _ hk=>trivial)⟩,⟨by (with_reducible repeat (first|apply nB|apply dB|apply aB));exact BK252.out⟩,⟨by repeat (first|(with_reducible first|exact HB.out|apply aZ|apply nZ|apply dZ|refine sZ ?_ GE252.out)|exact HB.out)⟩⟩
   rw [if_neg c7] at H
   have c7b0:decide (x5_1 < 9) = false:=decide_eq_false c7
   clear c7
   have H':=mk0 H
   clear H
   go_wp2
   go_loopg [3,6] k1 (fun kq v3 v6 w'=>∃ (x3_2:List Int) (x6_2:Int),v6 = .int .i64 x6_2 ∧ Aside0 (spec_l07List.l1 kq x3_2 x4_1 x6_2 a0_0 l0_1 l0_2 = some r) ∧ Aside0 (kq ≤ k1) ∧ Aside0 (Kd.R (Kd.int .i64) 3 w' w.heap.size (fun _=>True) v3 x3_2) ∧ Aside0 (Kd.S (Kd.slice 3 (Kd.int .i64)) 22 w' w.heap.size (fun k_=>some k_ ≠ (v3:Value).ownBlock) u4 x4_1) ∧ Aside0 (w'.heap[gb252]? = some (.cells #[.int .i64 a0_0,(.slice A0_1 l0_1.length c0_1),(.slice A0_2 l0_2.length c0_2)] 30 (0,0))) ∧ Aside0 (Below w.heap.size w w'))
   case atStart=>exact⟨(y253),(0),(by first|rfl|(simp;done)|(simp [*];done)),H',⟨Nat.le_refl _⟩,⟨by (with_reducible repeat (first|apply aR|apply nR|apply dR));exact HO_14.out⟩,⟨by (with_reducible repeat (first|apply aS|apply nS|apply dS));exact HO_4.out⟩,⟨by (with_reducible repeat (first|apply nB|apply dB|apply aB));exact BK252.out⟩,⟨by repeat (first|(with_reducible first|exact HB.out|apply aZ|apply nZ|apply dZ|refine sZ ?_ GE252.out)|exact HB.out)⟩⟩
   case round =>
    clear H'
    try clear c1
    try clear c2
    try clear p2
    try clear q2
    try clear hx2
    try clear c3
    try clear c6
    try clear p6
    try clear c7
    try clear c7b0
    try clear c8
    try clear c8b0
    try clear c9
    try clear c9b0
    try clear c11
    try clear hcz12_0
    try clear hcz12_1
    try clear hcz12_2
    try clear hfz12_0
    try clear hfz12_1
    try clear hfz12_2
    try clear hx259_0
    try clear hx259_1
    try clear p2
    try clear p259
    try clear q259
    obtain⟨x3_2,x6_2,rfl,HA,HK2,HO_3,HO_4,BK252,HB⟩:=hrel
    cases gk with
    | zero=>exact absurd HA.out (by simp [spec_l07List.l1])
    | succ k2 =>
     have H:=HA.out
     clear HA
     simp only [spec_l07List.l1] at H
     by_cases c16:x6_2 < a0_0
     rotate_left
     ·rw [if_neg c16] at H
      have c16b0:decide (x6_2 < a0_0) = false:=decide_eq_false c16
      clear c16
      obtain rfl:=Option.some.inj H
      have hcz43_0:wr.cell? ⟨gb252,0,none⟩ = some (.int .i64 a0_0):=(blk_cell BK252.out 0).trans rfl
      have hcz43_1:wr.cell? ⟨gb252,1,none⟩ = some (.slice A0_1 l0_1.length c0_1):=(blk_cell BK252.out 1).trans rfl
      have hcz43_2:wr.cell? ⟨gb252,2,none⟩ = some (.slice A0_2 l0_2.length c0_2):=(blk_cell BK252.out 2).trans rfl
      have hfz43_0:=blk_frozen BK252.out 0
      have hfz43_1:=blk_frozen BK252.out 1
      have hfz43_2:=blk_frozen BK252.out 2
      go_wp2
      go_ret
      exact⟨_,by first|rfl|(simp [errW_none,errW_some] <;> rfl)|(simp [*,errW_none,errW_some] <;> rfl),by (with_reducible repeat (first|apply aR|apply nR|apply dR));exact HO_3.out,by repeat (first|(with_reducible first|exact HB.out|apply aZ|apply nZ|apply dZ|refine sZ ?_ GE252.out)|exact HB.out)⟩

     rw [if_pos c16] at H
     have c16b0:decide (x6_2 < a0_0) = true:=decide_eq_true c16
     clear c16
     have H':=mk0 H
     clear H
     have hcz17_0:wr.cell? ⟨gb252,0,none⟩ = some (.int .i64 a0_0):=(blk_cell BK252.out 0).trans rfl
     have hcz17_1:wr.cell? ⟨gb252,1,none⟩ = some (.slice A0_1 l0_1.length c0_1):=(blk_cell BK252.out 1).trans rfl
     have hcz17_2:wr.cell? ⟨gb252,2,none⟩ = some (.slice A0_2 l0_2.length c0_2):=(blk_cell BK252.out 2).trans rfl
     have hfz17_0:=blk_frozen BK252.out 0
     have hfz17_1:=blk_frozen BK252.out 1
     have hfz17_2:=blk_frozen BK252.out 2
     go_wp2
     go_loopg [7,8,9] k2 (fun kq v7 v8 v9 w'=>∃ (x7_3:Int) (x8_3:Int) (x9_3:Int),v7 = .int .i64 x7_3 ∧ v8 = .int .i64 x8_3 ∧ v9 = .int .i64 x9_3 ∧ Aside0 (spec_l07List.l2 kq x3_2 x4_1 x6_2 x7_3 x8_3 x9_3 a0_0 l0_1 l0_2 = some r) ∧ Aside0 (kq ≤ k2) ∧ Aside0 (Kd.R (Kd.int .i64) 3 w' w.heap.size (fun _=>True) u3 x3_2) ∧ Aside0 (Kd.S (Kd.slice 3 (Kd.int .i64)) 22 w' w.heap.size (fun k_=>some k_ ≠ (u3:Value).ownBlock) u4 x4_1) ∧ Aside0 (w'.heap[gb252]? = some (.cells #[.int .i64 a0_0,(.slice A0_1 l0_1.length c0_1),(.slice A0_2 l0_2.length c0_2)] 30 (0,0))) ∧ Aside0 (Below w.heap.size w w'))
     case atStart=>exact⟨(x6_2),(0),(0),(by first|rfl|(simp;done)|(simp [*];done)),(by first|rfl|(simp;done)|(simp [*];done)),(by first|rfl|(simp;done)|(simp [*];done)),H',⟨Nat.le_refl _⟩,⟨by (with_reducible repeat (first|apply aR|apply nR|apply dR));exact HO_3.out⟩,⟨by (with_reducible repeat (first|apply aS|apply nS|apply dS));exact HO_4.out⟩,⟨by (with_reducible repeat (first|apply nB|apply dB|apply aB));exact BK252.out⟩,⟨by repeat (first|(with_reducible first|exact HB.out|apply aZ|apply nZ|apply dZ|refine sZ ?_ GE252.out)|exact HB.out)⟩⟩
     case round =>
      clear H'
      try clear c1
      try clear c2
      try clear p2
      try clear q2
      try clear hx2
      try clear c3
      try clear c6
      try clear p6
      try clear c7
      try clear c7b0
      try clear c8
      try clear c8b0
      try clear c9
      try clear c9b0
      try clear c11
      try clear c16
      try clear c16b0
      try clear hcz12_0
      try clear hcz12_1
      try clear hcz12_2
      try clear hcz17_0
      try clear hcz17_1
      try clear hcz17_2
      try clear hfz12_0
      try clear hfz12_1
      try clear hfz12_2
      try clear hfz17_0
      try clear hfz17_1
      try clear hfz17_2
      try clear hx259_0
      try clear hx259_1
      try clear p2
      try clear p259
      try clear p6
      try clear q2
      try clear q259
      obtain⟨x7_3,x8_3,x9_3,rfl,rfl,rfl,HA,HK3,HO_3,HO_4,BK252,HB⟩:=hrel
      cases gk with
      | zero=>exact absurd HA.out (by simp [spec_l07List.l2])
      | succ k3 =>
       have H:=HA.out
       clear HA
       simp only [spec_l07List.l2] at H
       by_cases c18:x9_3 < 9
       rotate_left
       ·rw [if_neg c18] at H
        have c18b0:decide (x9_3 < 9) = false:=decide_eq_false c18
        clear c18
        by_cases c41:x3_2.length < 17592186044416
        rotate_left
        ·rw [if_neg c41] at H
         exact absurd H (by simp)
        rw [if_pos c41] at H
        have LMc41:=mk0 c41
        clear c41
        obtain⟨y266,hy266⟩:∃ y_:List Int,y_ = (x3_2 ++ [x8_3]):=⟨_,rfl⟩
        replace H:(spec_l07List.l1 k3 y266 x4_1 (wrap64 (x6_2 + 1)) a0_0 l0_1 l0_2) = some r:=by first|(rw [hy266];with_reducible exact H)|(have H2_:=(Option.bind_some _ _).symm.trans H;rw [hy266];with_reducible exact H2_)|(have H2_:=(Option.bind_some _ _).symm.trans H;with_reducible exact H2_)|with_reducible exact H|(rw [hy266];exact H)|exact H
        have Ny266:=mk0 hy266
        clear hy266
        have H':=mk0 H
        clear H
        go_wp2_with (first|((with_reducible refine gate_builtin (b:=.append) (xs:=#[.tmp 89,.tmp 91]) rfl ?_);at_builtin;refine Kd.R_append (Kd.int .i64) (w0:=w) w.heap.size rfl (.tmp 89) (.tmp 91) 22 3 (.int .i64 0) 8 rfl Try.underlying22 info3 rfl (by decide) (by omega) u3 x3_2 x8_3 [.int .i64 x8_3] (fun _=>True) (fun _=>False) rfl rfl ?aP (fun _ hk=>hk.elim) ?aF ?aO ?aB ?aS ?aL ?_;(case aP=>exact rfl);(case aB=>exact (by repeat (first|(with_reducible first|exact HB.out|apply aZ|apply nZ|apply dZ|refine sZ ?_ GE252.out)|exact HB.out)));(case aF=>exact (fun _ _=>trivial));(case aO=>exact (by (with_reducible repeat (first|apply aR|apply nR|apply dR));exact HO_3.out));(case aS=>exact (below_size (by repeat (first|(with_reducible first|exact HB.out|apply aZ|apply nZ|apply dZ|refine sZ ?_ GE252.out)|exact HB.out))));(case aL=>have:=LMc41.out;omega);intro v267 w42 ho hb hg hat;rw [← Ny266.out] at ho;have n0_:=mk0 (Kd.S_after (ok:=(fun _=>True)) (by (with_reducible repeat (first|apply aS|apply nS|apply dS));exact Kd.S_mono HO_4.out (fun _ hk=>⟨trivial,hk⟩)) hg hat);have n1_:=mk0 (blk_grown (g:=gb252) (o:=.cells #[.int .i64 a0_0,.slice A0_1 l0_1.length c0_1,.slice A0_2 l0_2.length c0_2] 30 (0,0)) (by (with_reducible repeat (first|apply nB|apply dB|apply aB));exact BK252.out) hg (Kd.R_ne HO_3.out BK252.out (by decide)));have n2_:=mk0 (hb);have n3_:=mk0 (ho);clear HO_4 BK252 HB HO_3;have HO_4:=n0_;have BK252:=n1_;have HB:=n2_;have HO268:=n3_;clear n0_ n1_ n2_ n3_ ho hb hg hat))
        go_roundg k3
        case measure=>have:=HK1.out;have:=HK2.out;have:=HK3.out;omega
        case rel=>exact⟨(y266),(wrap64 (x6_2 + 1)),(by first|rfl|(simp;done)|(simp [*];done)),H',⟨by have:=HK1.out;have:=HK2.out;have:=HK3.out;omega⟩,⟨by (with_reducible repeat (first|apply aR|apply nR|apply dR));exact HO268.out⟩,⟨by (with_reducible repeat (first|apply aS|apply nS|apply dS));exact Kd.S_mono HO_4.out (by first|exact fun _ hk=>hk.2|(intro k_ hk;simp only [hk,ne_eq,and_self,not_false_eq_true]))⟩,⟨by (with_reducible repeat (first|apply nB|apply dB|apply aB));exact BK252.out⟩,⟨by repeat (first|(with_reducible first|exact HB.out|apply aZ|apply nZ|apply dZ|refine sZ ?_ GE252.out)|exact HB.out)⟩⟩
       rw [if_pos c18] at H
       have c18b0:decide (x9_3 < 9) = true:=decide_eq_true c18
       clear c18
       by_cases c19:0 ≤ x9_3
       rotate_left
       ·rw [if_neg c19] at H
        exact absurd H (by simp)
       rw [if_pos c19] at H
       have c19b0:decide (0 ≤ x9_3) = true:=decide_eq_true c19
       clear c19
       by_cases c20:x9_3 < (x4_1.length:Int)
       rotate_left
       ·rw [if_neg c20] at H
        exact absurd H (by simp)
       rw [if_pos c20] at H
       have c20b0:decide (x9_3 < (x4_1.length:Int)) = true:=decide_eq_true c20
       (try simp only [hl259_1] at c20b0)
       (try simp only [hl269_0] at c20b0)
       (try simp only [hl271_0] at c20b0)
       (try simp only [hl273_0] at c20b0)
       clear c20
       by_cases c21:0 ≤ x7_3
       rotate_left
       ·rw [if_neg c21] at H
        exact absurd H (by simp)
       rw [if_pos c21] at H
       have c21b0:decide (0 ≤ x7_3) = true:=decide_eq_true c21
       clear c21
       by_cases c22:x7_3 < ((rd_L5 x4_1 x9_3).length:Int)
       rotate_left
       ·rw [if_neg c22] at H
        exact absurd H (by simp)
       rw [if_pos c22] at H
       have c22b0:decide (x7_3 < ((rd_L5 x4_1 x9_3).length:Int)) = true:=decide_eq_true c22
       (try simp only [hl259_1] at c22b0)
       (try simp only [hl269_0] at c22b0)
       (try simp only [hl271_0] at c22b0)
       (try simp only [hl273_0] at c22b0)
       clear c22
       have H':=mk0 H
       clear H
       obtain⟨Ao23,co23,eo23⟩:=Kd.S_slice HO_4.out
       subst eo23
       have p269:0 ≤ (x9_3:Int):=of_decide_eq_true (by first|(with_reducible assumption)|assumption)
       have q269:x9_3 < (x4_1.length:Int):=of_decide_eq_true (by first|(with_reducible assumption)|assumption)
       obtain⟨ad269,A269_0,c269_0,e269,hx269_0,hl269_0,hi269_0⟩:=at_L5 (Kd.S_reads' HO_4.out).2.2 x9_3 p269 q269
       cases e269
       obtain⟨ce269,hce269,hMe269,hcc269⟩:=Kd.S_get HO_4.out [] x9_3 p269 (by first|exact q269|exact of_decide_eq_true (by first|(with_reducible assumption)|assumption)|(have e_:=(Kd.S_reads' HO_4.out).1;omega))
       obtain⟨ve269_0,rfl,ge269_0⟩:=hMe269
       have hv269_0:=hcc269 0 _ rfl
       rw [Nat.add_zero,show ((Kd.slice 3 (Kd.int .i64))).sz = 1 from rfl,Nat.mul_one] at hv269_0
       replace hv269_0:=Option.some.inj (hv269_0.symm.trans hx269_0)
       rw [hv269_0] at ge269_0
       have HL269_0:=mk0 (show Kd.R (Kd.int .i64) 3 _ _ _ _ (rd_L5 x4_1 x9_3) from ge269_0)
       clear hv269_0 ge269_0
       clear hcc269 hce269
       have HR269_0:=mk0 hi269_0
       have HC269_0:=mk0 hl269_0
       clear hi269_0 hl269_0
       replace p269:=eq_true p269
       replace q269:=eq_true q269
       have p270:0 ≤ (x7_3:Int):=of_decide_eq_true (by first|(with_reducible assumption)|assumption)
       have q270:x7_3 < ((rd_L5 x4_1 x9_3).length:Int):=of_decide_eq_true (by first|(with_reducible assumption)|assumption)
       obtain⟨ad270,e270,hx270_0⟩:=Kd.at_int (by repeat (first|(with_reducible exact HR269_0.out)|(with_reducible first|apply aC|apply nC|apply dC)|exact HR269_0.out|exact (Kd.V_reads' HL269_0.out).2.2)) x7_3 p270 q270
       cases e270
       replace p270:=eq_true p270
       replace q270:=eq_true q270
       go_wp2
       go_loopg [11,12,13] k3 (fun kq v11 v12 v13 w'=>∃ (x11_4:Int) (x12_4:Int) (x13_4:Int),v11 = .int .i64 x11_4 ∧ v12 = .int .i64 x12_4 ∧ v13 = .int .i64 x13_4 ∧ Aside0 (spec_l07List.l3 kq x3_2 x4_1 x6_2 x7_3 x8_3 x9_3 (rd (rd_L5 x4_1 x9_3) x7_3) x11_4 x12_4 x13_4 a0_0 l0_1 l0_2 = some r) ∧ Aside0 (kq ≤ k3) ∧ Aside0 (Kd.R (Kd.int .i64) 3 w' w.heap.size (fun _=>True) u3 x3_2) ∧ Aside0 (Kd.S (Kd.slice 3 (Kd.int .i64)) 22 w' w.heap.size (fun k_=>some k_ ≠ (u3:Value).ownBlock) (.slice (some ad269) x4_1.length co23) x4_1) ∧ Aside0 (w'.heap[gb252]? = some (.cells #[.int .i64 a0_0,(.slice A0_1 l0_1.length c0_1),(.slice A0_2 l0_2.length c0_2)] 30 (0,0))) ∧ Aside0 (Kd.C (Kd.int .i64) w' (some ad270) (rd_L5 x4_1 x9_3).length (rd_L5 x4_1 x9_3)) ∧ Aside0 (Below w.heap.size w w'))
       case atStart=>exact⟨(0),(0),(0),(by first|rfl|(simp;done)|(simp [*];done)),(by first|rfl|(simp;done)|(simp [*];done)),(by first|rfl|(simp;done)|(simp [*];done)),H',⟨Nat.le_refl _⟩,⟨by (with_reducible repeat (first|apply aR|apply nR|apply dR));exact HO_3.out⟩,⟨by (with_reducible repeat (first|apply aS|apply nS|apply dS));exact HO_4.out⟩,⟨by (with_reducible repeat (first|apply nB|apply dB|apply aB));exact BK252.out⟩,⟨by repeat (first|(with_reducible exact HR269_0.out)|(with_reducible first|apply aC|apply nC|apply dC)|exact HR269_0.out|exact (Kd.V_reads' HL269_0.out).2.2)⟩,⟨by repeat (first|(with_reducible first|exact HB.out|apply aZ|apply nZ|apply dZ|refine sZ ?_ GE252.out)|exact HB.out)⟩⟩
       case round =>
        clear H'
        try clear c1
        try clear c2
        try clear p2
        try clear q2
        try clear hx2
        try clear c3
        try clear c6
        try clear p6
        try clear c7
        try clear c7b0
        try clear c8
        try clear c8b0
        try clear c9
        try clear c9b0
        try clear c11
        try clear c16
        try clear c16b0
        try clear c18
        try clear c18b0
        try clear c19
        try clear c19b0
        try clear c20
        try clear c20b0
        try clear c21
        try clear c21b0
        try clear c22
        try clear c22b0
        try clear hcz12_0
        try clear hcz12_1
        try clear hcz12_2
        try clear hcz17_0
        try clear hcz17_1
        try clear hcz17_2
        try clear hfz12_0
        try clear hfz12_1
        try clear hfz12_2
        try clear hfz17_0
        try clear hfz17_1
        try clear hfz17_2
        try clear hx259_0
        try clear hx259_1
        try clear hx269_0
        try clear hx270_0
        try clear p2
        try clear p259
        try clear p269
        try clear p270
        try clear p6
        try clear q2
        try clear q259
        try clear q269
        try clear q270
        obtain⟨x11_4,x12_4,x13_4,rfl,rfl,rfl,HA,HK4,HO_3,HO_4,BK252,HR269_0,HB⟩:=hrel
        cases gk with
        | zero=>exact absurd HA.out (by simp [spec_l07List.l3])
        | succ k4 =>
         have H:=HA.out
         clear HA
         simp only [spec_l07List.l3] at H
         by_cases c24:x13_4 < a0_0
         rotate_left
         ·rw [if_neg c24] at H
          have c24b0:decide (x13_4 < a0_0) = false:=decide_eq_false c24
          clear c24
          by_cases c38:(rd (rd_L5 x4_1 x9_3) x7_3) = 1
          rotate_left
          ·rw [if_neg c38] at H
           have c38b0:((rd (rd_L5 x4_1 x9_3) x7_3) == 1) = false:=beq_eq_false_iff_ne.mpr c38
           have c38b1:((rd (rd_L5 x4_1 x9_3) x7_3) != 1) = true:=bne_iff_ne.mpr c38
           have H':=mk0 H
           clear H
           have hcz40_0:wr.cell? ⟨gb252,0,none⟩ = some (.int .i64 a0_0):=(blk_cell BK252.out 0).trans rfl
           have hcz40_1:wr.cell? ⟨gb252,1,none⟩ = some (.slice A0_1 l0_1.length c0_1):=(blk_cell BK252.out 1).trans rfl
           have hcz40_2:wr.cell? ⟨gb252,2,none⟩ = some (.slice A0_2 l0_2.length c0_2):=(blk_cell BK252.out 2).trans rfl
           have hfz40_0:=blk_frozen BK252.out 0
           have hfz40_1:=blk_frozen BK252.out 1
           have hfz40_2:=blk_frozen BK252.out 2
           go_wp2
           go_roundg k4
           case measure=>have:=HK1.out;have:=HK2.out;have:=HK3.out;have:=HK4.out;omega
           case rel=>exact⟨(x11_4),(wrap64 ((wrap64 (2 * x8_3)) + (rd (rd_L5 x4_1 x9_3) x7_3))),(wrap64 (x9_3 + 1)),(by first|rfl|(simp;done)|(simp [*];done)),(by first|rfl|(simp;done)|(simp [*];done)),(by first|rfl|(simp;done)|(simp [*];done)),H',⟨by have:=HK1.out;have:=HK2.out;have:=HK3.out;have:=HK4.out;omega⟩,⟨by (with_reducible repeat (first|apply aR|apply nR|apply dR));exact HO_3.out⟩,⟨by (with_reducible repeat (first|apply aS|apply nS|apply dS));exact HO_4.out⟩,⟨by (with_reducible repeat (first|apply nB|apply dB|apply aB));exact BK252.out⟩,⟨by repeat (first|(with_reducible first|exact HB.out|apply aZ|apply nZ|apply dZ|refine sZ ?_ GE252.out)|exact HB.out)⟩⟩
          rw [if_pos c38] at H
          have c38b0:((rd (rd_L5 x4_1 x9_3) x7_3) == 1) = true:=beq_iff_eq.mpr c38
          have c38b1:((rd (rd_L5 x4_1 x9_3) x7_3) != 1) = false:=bne_eq_false_iff_eq.mpr c38
          clear c38
          have H':=mk0 H
          clear H
          have hcz39_0:wr.cell? ⟨gb252,0,none⟩ = some (.int .i64 a0_0):=(blk_cell BK252.out 0).trans rfl
          have hcz39_1:wr.cell? ⟨gb252,1,none⟩ = some (.slice A0_1 l0_1.length c0_1):=(blk_cell BK252.out 1).trans rfl
          have hcz39_2:wr.cell? ⟨gb252,2,none⟩ = some (.slice A0_2 l0_2.length c0_2):=(blk_cell BK252.out 2).trans rfl
          have hfz39_0:=blk_frozen BK252.out 0
          have hfz39_1:=blk_frozen BK252.out 1
          have hfz39_2:=blk_frozen BK252.out 2
          go_wp2
          go_roundg k4
          case measure=>have:=HK1.out;have:=HK2.out;have:=HK3.out;have:=HK4.out;omega
          case rel=>exact⟨(wrap64 (x12_4 + x11_4)),(wrap64 ((wrap64 (2 * x8_3)) + (rd (rd_L5 x4_1 x9_3) x7_3))),(wrap64 (x9_3 + 1)),(by first|rfl|(simp;done)|(simp [*];done)),(by first|rfl|(simp;done)|(simp [*];done)),(by first|rfl|(simp;done)|(simp [*];done)),H',⟨by have:=HK1.out;have:=HK2.out;have:=HK3.out;have:=HK4.out;omega⟩,⟨by (with_reducible repeat (first|apply aR|apply nR|apply dR));exact HO_3.out⟩,⟨by (with_reducible repeat (first|apply aS|apply nS|apply dS));exact HO_4.out⟩,⟨by (with_reducible repeat (first|apply nB|apply dB|apply aB));exact BK252.out⟩,⟨by repeat (first|(with_reducible first|exact HB.out|apply aZ|apply nZ|apply dZ|refine sZ ?_ GE252.out)|exact HB.out)⟩⟩
         rw [if_pos c24] at H
         have c24b0:decide (x13_4 < a0_0) = true:=decide_eq_true c24
         clear c24
         by_cases c25:0 ≤ x9_3
         rotate_left
         ·rw [if_neg c25] at H
          exact absurd H (by simp)
         rw [if_pos c25] at H
         have c25b0:decide (0 ≤ x9_3) = true:=decide_eq_true c25
         clear c25
         by_cases c26:x9_3 < (x4_1.length:Int)
         rotate_left
         ·rw [if_neg c26] at H
          exact absurd H (by simp)
         rw [if_pos c26] at H
         have c26b0:decide (x9_3 < (x4_1.length:Int)) = true:=decide_eq_true c26
         (try simp only [hl259_1] at c26b0)
         (try simp only [hl269_0] at c26b0)
         (try simp only [hl271_0] at c26b0)
         (try simp only [hl273_0] at c26b0)
         clear c26
         by_cases c27:0 ≤ x13_4
         rotate_left
         ·rw [if_neg c27] at H
          exact absurd H (by simp)
         rw [if_pos c27] at H
         have c27b0:decide (0 ≤ x13_4) = true:=decide_eq_true c27
         clear c27
         by_cases c28:x13_4 < ((rd_L5 x4_1 x9_3).length:Int)
         rotate_left
         ·rw [if_neg c28] at H
          exact absurd H (by simp)
         rw [if_pos c28] at H
         have c28b0:decide (x13_4 < ((rd_L5 x4_1 x9_3).length:Int)) = true:=decide_eq_true c28
         (try simp only [hl259_1] at c28b0)
         (try simp only [hl269_0] at c28b0)
         (try simp only [hl271_0] at c28b0)
         (try simp only [hl273_0] at c28b0)
         clear c28
         have HC29:=mk0 H
         clear H
         have hcz30_0:wr.cell? ⟨gb252,0,none⟩ = some (.int .i64 a0_0):=(blk_cell BK252.out 0).trans rfl
         have hcz30_1:wr.cell? ⟨gb252,1,none⟩ = some (.slice A0_1 l0_1.length c0_1):=(blk_cell BK252.out 1).trans rfl
         have hcz30_2:wr.cell? ⟨gb252,2,none⟩ = some (.slice A0_2 l0_2.length c0_2):=(blk_cell BK252.out 2).trans rfl
         have hfz30_0:=blk_frozen BK252.out 0
         have hfz30_1:=blk_frozen BK252.out 1
         have hfz30_2:=blk_frozen BK252.out 2
         have p271:0 ≤ (x9_3:Int):=of_decide_eq_true (by first|(with_reducible assumption)|assumption)
         have q271:x9_3 < (x4_1.length:Int):=of_decide_eq_true (by first|(with_reducible assumption)|assumption)
         obtain⟨ad271,A271_0,c271_0,e271,hx271_0,hl271_0,hi271_0⟩:=at_L5 (Kd.S_reads' HO_4.out).2.2 x9_3 p271 q271
         obtain rfl:ad269 = ad271:=(by injection e271)
         obtain⟨ce271,hce271,hMe271,hcc271⟩:=Kd.S_get HO_4.out [] x9_3 p271 (by first|exact q271|exact of_decide_eq_true (by first|(with_reducible assumption)|assumption)|(have e_:=(Kd.S_reads' HO_4.out).1;omega))
         obtain⟨ve271_0,rfl,ge271_0⟩:=hMe271
         have hv271_0:=hcc271 0 _ rfl
         rw [Nat.add_zero,show ((Kd.slice 3 (Kd.int .i64))).sz = 1 from rfl,Nat.mul_one] at hv271_0
         replace hv271_0:=Option.some.inj (hv271_0.symm.trans hx271_0)
         rw [hv271_0] at ge271_0
         have HL271_0:=mk0 (show Kd.R (Kd.int .i64) 3 _ _ _ _ (rd_L5 x4_1 x9_3) from ge271_0)
         clear hv271_0 ge271_0
         clear hcc271 hce271
         have HR271_0:=mk0 hi271_0
         have HC271_0:=mk0 hl271_0
         clear hi271_0 hl271_0
         replace p271:=eq_true p271
         replace q271:=eq_true q271
         have p272:0 ≤ (x13_4:Int):=of_decide_eq_true (by first|(with_reducible assumption)|assumption)
         have q272:x13_4 < ((rd_L5 x4_1 x9_3).length:Int):=of_decide_eq_true (by first|(with_reducible assumption)|assumption)
         obtain⟨ad272,e272,hx272_0⟩:=Kd.at_int (by repeat (first|(with_reducible exact HR271_0.out)|(with_reducible first|apply aC|apply nC|apply dC)|exact HR271_0.out|exact (Kd.V_reads' HL271_0.out).2.2)) x13_4 p272 q272
         cases e272
         replace p272:=eq_true p272
         replace q272:=eq_true q272
         go_upto_if 60 with (fail)
         go_cut [12] (fun v12 wc=>∃ (kq:Nat) (x12_28:Int),v12 = .int .i64 x12_28 ∧ Aside0 (spec_l07List.j4 kq x3_2 x4_1 x6_2 x7_3 x8_3 x9_3 (rd (rd_L5 x4_1 x9_3) x7_3) x11_4 x12_28 x13_4 a0_0 l0_1 l0_2 = some r) ∧ Aside0 (kq ≤ k4) ∧ Aside0 (Kd.R (Kd.int .i64) 3 wc w.heap.size (fun _=>True) u3 x3_2) ∧ Aside0 (Kd.S (Kd.slice 3 (Kd.int .i64)) 22 wc w.heap.size (fun k_=>some k_ ≠ (u3:Value).ownBlock) (.slice (some ad269) x4_1.length co23) x4_1) ∧ Aside0 (wc.heap[gb252]? = some (.cells #[.int .i64 a0_0,(.slice A0_1 l0_1.length c0_1),(.slice A0_2 l0_2.length c0_2)] 30 (0,0))) ∧ Aside0 (Kd.C (Kd.int .i64) wc (some ad270) (rd_L5 x4_1 x9_3).length (rd_L5 x4_1 x9_3)) ∧ Aside0 (Kd.C (Kd.int .i64) wc (some ad272) (rd_L5 x4_1 x9_3).length (rd_L5 x4_1 x9_3)) ∧ Aside0 (Below w.heap.size w wc))
         case first =>
          have H:=HC29.out
          clear HC29
          by_cases c31:(rd (rd_L5 x4_1 x9_3) x13_4) = 0
          rotate_left
          ·rw [if_neg c31] at H
           have c31b0:((rd (rd_L5 x4_1 x9_3) x13_4) == 0) = false:=beq_eq_false_iff_ne.mpr c31
           have c31b1:((rd (rd_L5 x4_1 x9_3) x13_4) != 0) = true:=bne_iff_ne.mpr c31
           (first|rw [c31b0]|(simp only [i64_w,i32_w];rw [c31b0])|skip)
           have H':=mk0 H
           clear H
           go_wp2
           go_meet
           case rel=>exact⟨_,(x12_4),(by first|rfl|(simp;done)|(simp [*];done)),H',⟨by have:=HK1.out;have:=HK2.out;have:=HK3.out;have:=HK4.out;first|omega|exact Nat.le_refl _⟩,⟨by (with_reducible repeat (first|apply aR|apply nR|apply dR));exact HO_3.out⟩,⟨by (with_reducible repeat (first|apply aS|apply nS|apply dS));exact HO_4.out⟩,⟨by (with_reducible repeat (first|apply nB|apply dB|apply aB));exact BK252.out⟩,⟨by repeat (first|(with_reducible exact HR269_0.out)|(with_reducible first|apply aC|apply nC|apply dC)|exact HR269_0.out|exact (Kd.V_reads' HL269_0.out).2.2)⟩,⟨by repeat (first|(with_reducible exact HR271_0.out)|(with_reducible first|apply aC|apply nC|apply dC)|exact HR271_0.out|exact (Kd.V_reads' HL271_0.out).2.2)⟩,⟨by repeat (first|(with_reducible first|exact HB.out|apply aZ|apply nZ|apply dZ|refine sZ ?_ GE252.out)|exact HB.out)⟩⟩
          rw [if_pos c31] at H
          have c31b0:((rd (rd_L5 x4_1 x9_3) x13_4) == 0) = true:=beq_iff_eq.mpr c31
          have c31b1:((rd (rd_L5 x4_1 x9_3) x13_4) != 0) = false:=bne_eq_false_iff_eq.mpr c31
          clear c31
          (first|rw [c31b0]|(simp only [i64_w,i32_w];rw [c31b0])|skip)
          have H':=mk0 H
          clear H
          go_wp2
          go_meet
          case rel=>exact⟨_,(wrap64 (x12_4 + 1)),(by first|rfl|(simp;done)|(simp [*];done)),H',⟨by have:=HK1.out;have:=HK2.out;have:=HK3.out;have:=HK4.out;first|omega|exact Nat.le_refl _⟩,⟨by (with_reducible repeat (first|apply aR|apply nR|apply dR));exact HO_3.out⟩,⟨by (with_reducible repeat (first|apply aS|apply nS|apply dS));exact HO_4.out⟩,⟨by (with_reducible repeat (first|apply nB|apply dB|apply aB));exact BK252.out⟩,⟨by repeat (first|(with_reducible exact HR269_0.out)|(with_reducible first|apply aC|apply nC|apply dC)|exact HR269_0.out|exact (Kd.V_reads' HL269_0.out).2.2)⟩,⟨by repeat (first|(with_reducible exact HR271_0.out)|(with_reducible first|apply aC|apply nC|apply dC)|exact HR271_0.out|exact (Kd.V_reads' HL271_0.out).2.2)⟩,⟨by repeat (first|(with_reducible first|exact HB.out|apply aZ|apply nZ|apply dZ|refine sZ ?_ GE252.out)|exact HB.out)⟩⟩
         case rest =>
          clear HC29
          try clear c1
          try clear c2
          try clear p2
          try clear q2
          try clear hx2
          try clear c3
          try clear c6
          try clear p6
          try clear c7
          try clear c7b0
          try clear c8
          try clear c8b0
          try clear c9
          try clear c9b0
          try clear c11
          try clear c16
          try clear c16b0
          try clear c18
          try clear c18b0
          try clear c19
          try clear c19b0
          try clear c20
          try clear c20b0
          try clear c21
          try clear c21b0
          try clear c22
          try clear c22b0
          try clear c24
          try clear c24b0
          try clear c25
          try clear c25b0
          try clear p25
          try clear q25
          try clear hx25
          try clear c26
          try clear c26b0
          try clear p26
          try clear q26
          try clear hx26
          try clear c27
          try clear c27b0
          try clear p27
          try clear q27
          try clear hx27
          try clear c28
          try clear c28b0
          try clear c31
          try clear c31b0
          try clear c31b1
          try clear hcz12_0
          try clear hcz12_1
          try clear hcz12_2
          try clear hcz17_0
          try clear hcz17_1
          try clear hcz17_2
          try clear hcz30_0
          try clear hcz30_1
          try clear hcz30_2
          try clear hfz12_0
          try clear hfz12_1
          try clear hfz12_2
          try clear hfz17_0
          try clear hfz17_1
          try clear hfz17_2
          try clear hfz30_0
          try clear hfz30_1
          try clear hfz30_2
          try clear hx259_0
          try clear hx259_1
          try clear hx269_0
          try clear hx270_0
          try clear hx271_0
          try clear hx272_0
          try clear p2
          try clear p259
          try clear p269
          try clear p270
          try clear p271
          try clear p272
          try clear p6
          try clear q2
          try clear q259
          try clear q269
          try clear q270
          try clear q271
          try clear q272
          obtain⟨kq,x12_28,rfl,HA,HJ28,HO_3,HO_4,BK252,HR269_0,HR271_0,HB⟩:=hcut
          cases kq with
          | zero=>exact absurd HA.out (by simp [spec_l07List.j4])
          | succ kj28 =>
           have H:=HA.out
           clear HA
           simp only [spec_l07List.j4] at H
           by_cases c32:x13_4 < x7_3
           rotate_left
           ·rw [if_neg c32] at H
            have c32b0:decide (x13_4 < x7_3) = false:=decide_eq_false c32
            clear c32
            have H':=mk0 H
            clear H
            go_wp2
            go_roundg kj28
            case measure=>have:=HK1.out;have:=HK2.out;have:=HK3.out;have:=HK4.out;have:=HJ28.out;omega
            case rel=>exact⟨(x11_4),(x12_28),(wrap64 (x13_4 + 1)),(by first|rfl|(simp;done)|(simp [*];done)),(by first|rfl|(simp;done)|(simp [*];done)),(by first|rfl|(simp;done)|(simp [*];done)),H',⟨by have:=HK1.out;have:=HK2.out;have:=HK3.out;have:=HK4.out;have:=HJ28.out;omega⟩,⟨by (with_reducible repeat (first|apply aR|apply nR|apply dR));exact HO_3.out⟩,⟨by (with_reducible repeat (first|apply aS|apply nS|apply dS));exact HO_4.out⟩,⟨by (with_reducible repeat (first|apply nB|apply dB|apply aB));exact BK252.out⟩,⟨by repeat (first|(with_reducible exact HR269_0.out)|(with_reducible first|apply aC|apply nC|apply dC)|exact HR269_0.out|exact (Kd.V_reads' HL269_0.out).2.2)⟩,⟨by repeat (first|(with_reducible first|exact HB.out|apply aZ|apply nZ|apply dZ|refine sZ ?_ GE252.out)|exact HB.out)⟩⟩
           rw [if_pos c32] at H
           have c32b0:decide (x13_4 < x7_3) = true:=decide_eq_true c32
           clear c32
           by_cases c33:0 ≤ x9_3
           rotate_left
           ·rw [if_neg c33] at H
            exact absurd H (by simp)
           rw [if_pos c33] at H
           have c33b0:decide (0 ≤ x9_3) = true:=decide_eq_true c33
           clear c33
           by_cases c34:x9_3 < (x4_1.length:Int)
           rotate_left
           ·rw [if_neg c34] at H
            exact absurd H (by simp)
           rw [if_pos c34] at H
           have c34b0:decide (x9_3 < (x4_1.length:Int)) = true:=decide_eq_true c34
           (try simp only [hl259_1] at c34b0)
           (try simp only [hl269_0] at c34b0)
           (try simp only [hl271_0] at c34b0)
           (try simp only [hl273_0] at c34b0)
           clear c34
           by_cases c35:0 ≤ x13_4
           rotate_left
           ·rw [if_neg c35] at H
            exact absurd H (by simp)
           rw [if_pos c35] at H
           have c35b0:decide (0 ≤ x13_4) = true:=decide_eq_true c35
           clear c35
           by_cases c36:x13_4 < ((rd_L5 x4_1 x9_3).length:Int)
           rotate_left
           ·rw [if_neg c36] at H
            exact absurd H (by simp)
           rw [if_pos c36] at H
           have c36b0:decide (x13_4 < ((rd_L5 x4_1 x9_3).length:Int)) = true:=decide_eq_true c36
           (try simp only [hl259_1] at c36b0)
           (try simp only [hl269_0] at c36b0)
           (try simp only [hl271_0] at c36b0)
           (try simp only [hl273_0] at c36b0)
           clear c36
           by_cases c37:(rd (rd_L5 x4_1 x9_3) x13_4) = (rd (rd_L5 x4_1 x9_3) x7_3)
           rotate_left
           ·rw [if_neg c37] at H
            have c37b0:((rd (rd_L5 x4_1 x9_3) x13_4) == (rd (rd_L5 x4_1 x9_3) x7_3)) = false:=beq_eq_false_iff_ne.mpr c37
            have c37b1:((rd (rd_L5 x4_1 x9_3) x13_4) != (rd (rd_L5 x4_1 x9_3) x7_3)) = true:=bne_iff_ne.mpr c37
            have H':=mk0 H
            clear H
            have p273:0 ≤ (x9_3:Int):=of_decide_eq_true (by first|(with_reducible assumption)|assumption)
            have q273:x9_3 < (x4_1.length:Int):=of_decide_eq_true (by first|(with_reducible assumption)|assumption)
            obtain⟨ad273,A273_0,c273_0,e273,hx273_0,hl273_0,hi273_0⟩:=at_L5 (Kd.S_reads' HO_4.out).2.2 x9_3 p273 q273
            obtain rfl:ad269 = ad273:=(by injection e273)
            obtain⟨ce273,hce273,hMe273,hcc273⟩:=Kd.S_get HO_4.out [] x9_3 p273 (by first|exact q273|exact of_decide_eq_true (by first|(with_reducible assumption)|assumption)|(have e_:=(Kd.S_reads' HO_4.out).1;omega))
            obtain⟨ve273_0,rfl,ge273_0⟩:=hMe273
            have hv273_0:=hcc273 0 _ rfl
            rw [Nat.add_zero,show ((Kd.slice 3 (Kd.int .i64))).sz = 1 from rfl,Nat.mul_one] at hv273_0
            replace hv273_0:=Option.some.inj (hv273_0.symm.trans hx273_0)
            rw [hv273_0] at ge273_0
            have HL273_0:=mk0 (show Kd.R (Kd.int .i64) 3 _ _ _ _ (rd_L5 x4_1 x9_3) from ge273_0)
            clear hv273_0 ge273_0
            clear hcc273 hce273
            have HR273_0:=mk0 hi273_0
            have HC273_0:=mk0 hl273_0
            clear hi273_0 hl273_0
            replace p273:=eq_true p273
            replace q273:=eq_true q273
            have p274:0 ≤ (x13_4:Int):=of_decide_eq_true (by first|(with_reducible assumption)|assumption)
            have q274:x13_4 < ((rd_L5 x4_1 x9_3).length:Int):=of_decide_eq_true (by first|(with_reducible assumption)|assumption)
            obtain⟨ad274,e274,hx274_0⟩:=Kd.at_int (by repeat (first|(with_reducible exact HR273_0.out)|(with_reducible first|apply aC|apply nC|apply dC)|exact HR273_0.out|exact (Kd.V_reads' HL273_0.out).2.2)) x13_4 p274 q274
            cases e274
            replace p274:=eq_true p274
            replace q274:=eq_true q274
            go_wp2
            go_roundg kj28
            case measure=>have:=HK1.out;have:=HK2.out;have:=HK3.out;have:=HK4.out;have:=HJ28.out;omega
            case rel=>exact⟨(x11_4),(x12_28),(wrap64 (x13_4 + 1)),(by first|rfl|(simp;done)|(simp [*];done)),(by first|rfl|(simp;done)|(simp [*];done)),(by first|rfl|(simp;done)|(simp [*];done)),H',⟨by have:=HK1.out;have:=HK2.out;have:=HK3.out;have:=HK4.out;have:=HJ28.out;omega⟩,⟨by (with_reducible repeat (first|apply aR|apply nR|apply dR));exact HO_3.out⟩,⟨by (with_reducible repeat (first|apply aS|apply nS|apply dS));exact HO_4.out⟩,⟨by (with_reducible repeat (first|apply nB|apply dB|apply aB));exact BK252.out⟩,⟨by repeat (first|(with_reducible exact HR269_0.out)|(with_reducible first|apply aC|apply nC|apply dC)|exact HR269_0.out|exact (Kd.V_reads' HL269_0.out).2.2)⟩,⟨by repeat (first|(with_reducible first|exact HB.out|apply aZ|apply nZ|apply dZ|refine sZ ?_ GE252.out)|exact HB.out)⟩⟩
           rw [if_pos c37] at H
           have c37b0:((rd (rd_L5 x4_1 x9_3) x13_4) == (rd (rd_L5 x4_1 x9_3) x7_3)) = true:=beq_iff_eq.mpr c37
           have c37b1:((rd (rd_L5 x4_1 x9_3) x13_4) != (rd (rd_L5 x4_1 x9_3) x7_3)) = false:=bne_eq_false_iff_eq.mpr c37
           clear c37
           have H':=mk0 H
           clear H
           have p273:0 ≤ (x9_3:Int):=of_decide_eq_true (by first|(with_reducible assumption)|assumption)
           have q273:x9_3 < (x4_1.length:Int):=of_decide_eq_true (by first|(with_reducible assumption)|assumption)
           obtain⟨ad273,A273_0,c273_0,e273,hx273_0,hl273_0,hi273_0⟩:=at_L5 (Kd.S_reads' HO_4.out).2.2 x9_3 p273 q273
           obtain rfl:ad269 = ad273:=(by injection e273)
           obtain⟨ce273,hce273,hMe273,hcc273⟩:=Kd.S_get HO_4.out [] x9_3 p273 (by first|exact q273|exact of_decide_eq_true (by first|(with_reducible assumption)|assumption)|(have e_:=(Kd.S_reads' HO_4.out).1;omega))
           obtain⟨ve273_0,rfl,ge273_0⟩:=hMe273
           have hv273_0:=hcc273 0 _ rfl
           rw [Nat.add_zero,show ((Kd.slice 3 (Kd.int .i64))).sz = 1 from rfl,Nat.mul_one] at hv273_0
           replace hv273_0:=Option.some.inj (hv273_0.symm.trans hx273_0)
           rw [hv273_0] at ge273_0
           have HL273_0:=mk0 (show Kd.R (Kd.int .i64) 3 _ _ _ _ (rd_L5 x4_1 x9_3) from ge273_0)
           clear hv273_0 ge273_0
           clear hcc273 hce273
           have HR273_0:=mk0 hi273_0
           have HC273_0:=mk0 hl273_0
           clear hi273_0 hl273_0
           replace p273:=eq_true p273
           replace q273:=eq_true q273
           have p274:0 ≤ (x13_4:Int):=of_decide_eq_true (by first|(with_reducible assumption)|assumption)
           have q274:x13_4 < ((rd_L5 x4_1 x9_3).length:Int):=of_decide_eq_true (by first|(with_reducible assumption)|assumption)
           obtain⟨ad274,e274,hx274_0⟩:=Kd.at_int (by repeat (first|(with_reducible exact HR273_0.out)|(with_reducible first|apply aC|apply nC|apply dC)|exact HR273_0.out|exact (Kd.V_reads' HL273_0.out).2.2)) x13_4 p274 q274
           cases e274
           replace p274:=eq_true p274
           replace q274:=eq_true q274
           go_wp2
           go_roundg kj28
           case measure=>have:=HK1.out;have:=HK2.out;have:=HK3.out;have:=HK4.out;have:=HJ28.out;omega
           case rel=>exact⟨(wrap64 (x11_4 + 1)),(x12_28),(wrap64 (x13_4 + 1)),(by first|rfl|(simp;done)|(simp [*];done)),(by first|rfl|(simp;done)|(simp [*];done)),(by first|rfl|(simp;done)|(simp [*];done)),H',⟨by have:=HK1.out;have:=HK2.out;have:=HK3.out;have:=HK4.out;have:=HJ28.out;omega⟩,⟨by (with_reducible repeat (first|apply aR|apply nR|apply dR));exact HO_3.out⟩,⟨by (with_reducible repeat (first|apply aS|apply nS|apply dS));exact HO_4.out⟩,⟨by (with_reducible repeat (first|apply nB|apply dB|apply aB));exact BK252.out⟩,⟨by repeat (first|(with_reducible exact HR269_0.out)|(with_reducible first|apply aC|apply nC|apply dC)|exact HR269_0.out|exact (Kd.V_reads' HL269_0.out).2.2)⟩,⟨by repeat (first|(with_reducible first|exact HB.out|apply aZ|apply nZ|apply dZ|refine sZ ?_ GE252.out)|exact HB.out)⟩⟩
/-! ### spec_WaveList: function 29 -/
def spec_WaveList.f (k : Nat) (a0_0 : Int) (l0_1 : List Int) (l0_2 : List (S64)) : Option (List Int) := (spec_WaveOk.f k a0_0 l0_1 l0_2).bind fun t276 => (if t276 = true then ((spec_l07List.f k a0_0 l0_1 l0_2).bind fun t277 => (some t277)) else (some ([] : List Int)))
theorem spec_WaveList.mono : ∀ a0 a1 a2 k, LeO (spec_WaveList.f k a0 a1 a2) (spec_WaveList.f (k + 1) a0 a1 a2) := by
 intro a0 a1 a2 k
 unfold spec_WaveList.f
 repeat' first|(with_reducible first|exact spec_WaveOk.mono _ _ _ _|exact spec_l07List.mono _ _ _ _|exact LeO.refl _|exact LeO.none _|refine LeO.ite ?_ ?_|refine LeO.bind ?_ (fun _ => ?_))|exact LeO.none _|refine LeO.ite ?_ ?_|refine LeO.bind ?_ (fun _ => ?_)
set_option maxHeartbeats 8000000 in
set_option maxRecDepth 100000 in
theorem spec_WaveList.calls (k : Nat) (a0_0 : Int) (A0_1 : Option Addr) (c0_1 : Nat) (l0_1 : List Int) (A0_2 : Option Addr) (c0_2 : Nat) (l0_2 : List (S64)) (r : List Int) (w : World) (hr0_1 : Kd.C (Kd.int .i64) w A0_1 l0_1.length l0_1) (hc0_1 : l0_1.length ≤ c0_1) (hr0_2 : Kd.C k64 w A0_2 l0_2.length l0_2) (hc0_2 : l0_2.length ≤ c0_2) (h : spec_WaveList.f k a0_0 l0_1 l0_2 = some r) :
  Calls Try.prog 29 #[.agg #[.int .i64 a0_0, .slice A0_1 l0_1.length c0_1, .slice A0_2 l0_2.length c0_2]] w fun e w' => ∃ v0_ : Value, e = .returned (v0_) ∧ Kd.R (Kd.int .i64) 3 w' w.heap.size (fun _ => True) v0_ r ∧ Below w.heap.size w w' := by
 have hu30:=Try.underlying30
 have HR0_1:=mk0 hr0_1
 have HC0_1:=mk0 hc0_1
 clear hr0_1 hc0_1
 have HR0_2:=mk0 hr0_2
 have HC0_2:=mk0 hc0_2
 clear hr0_2 hc0_2
 have HB:=mk0 (Below.refl w.heap.size w)
 have H:((spec_WaveOk.f k a0_0 l0_1 l0_2).bind fun t276=>(if t276 = true then ((spec_l07List.f k a0_0 l0_1 l0_2).bind fun t277=>(some t277)) else (some ([]:List Int)))) = some r:=h
 clear h
 replace H:=Option.bind_eq_some_iff.mp H
 obtain⟨t276,A20,H⟩:=H
 replace H:(if t276 = true then ((spec_l07List.f k a0_0 l0_1 l0_2).bind fun t277=>(some t277)) else (some ([]:List Int))) = some r:=H
 have A2:=mk0 A20
 clear A20
 by_cases c3:t276 = true
 ·subst c3
  have H1:((spec_l07List.f k a0_0 l0_1 l0_2).bind fun t277=>(some t277)) = some r:=by rw [if_pos rfl] at H;exact H
  clear H
  have H:=H1
  clear H1
  replace H:=Option.bind_eq_some_iff.mp H
  obtain⟨t277,A40,H⟩:=H
  replace H:(some t277) = some r:=H
  have A4:=mk0 A40
  clear A40
  obtain rfl:=Option.some.inj H
  go_enter Try.func29,Try.ntmps29
  go_wp2_with (first|((with_reducible refine gate_dst (N:=1) rfl ?_);refine box_event ?hg (N:=1) ?hd (cs:=#[.int .i64 a0_0,.slice A0_1 l0_1.length c0_1,.slice A0_2 l0_2.length c0_2]) (t:=30) ?hr ?_;(case hd=>rfl);(case hg=>rfl);(case hr=>first|(go_simp;done)|(go_simp;rfl));intro gb275 hg w5 hbox hb;have n0_:=mk0 (below_step (by repeat (first|(with_reducible first|exact HB.out|apply aZ|apply nZ|apply dZ)|exact HB.out)) hb);have n1_:=mk0 (hbox);have n2_:=mk0 ((by rw [hg];exact (below_size (by repeat (first|(with_reducible first|exact HB.out|apply aZ|apply nZ|apply dZ)|exact HB.out))):w.heap.size ≤ gb275));have n3_:=mk0 ((by rw [hg];exact (below_size (by repeat (first|(with_reducible first|exact HB.out|apply aZ|apply nZ|apply dZ)|exact HB.out))):w.heap.size ≤ gb275));clear HB;have HB:=n0_;have BK275:=n1_;have GW275:=n2_;have GE275:=n3_;clear n0_ n1_ n2_ n3_ hb hbox hg;have hcz6_0:w5.cell? ⟨gb275,0,none⟩ = some (.int .i64 a0_0):=(blk_cell BK275.out 0).trans rfl;have hcz6_1:w5.cell? ⟨gb275,1,none⟩ = some (.slice A0_1 l0_1.length c0_1):=(blk_cell BK275.out 1).trans rfl;have hcz6_2:w5.cell? ⟨gb275,2,none⟩ = some (.slice A0_2 l0_2.length c0_2):=(blk_cell BK275.out 2).trans rfl;have hfz6_0:=blk_frozen BK275.out 0;have hfz6_1:=blk_frozen BK275.out 1;have hfz6_2:=blk_frozen BK275.out 2)|((with_reducible refine gate_callee (f:=36) rfl ?_);refine goesL_ (some 4) rfl rfl Try.func36 (by kernel_rfl) rfl #[.agg #[.int .i64 a0_0,.slice A0_1 l0_1.length c0_1,.slice A0_2 l0_2.length c0_2]] rfl (by (try simp only [mA,mC,mN]);first|done|rfl|(simp only [List.length_drop,List.length_take];done)|(simp only [List.length_drop,List.length_take];rfl)) ?_;(with_reducible refine (spec_WaveOk.calls k a0_0 _ _ l0_1 _ _ l0_2 true _ ?side1 ?side2 ?side3 ?side4 A2.out).mono ?_);(case side1=>repeat (first|exact (Kd.C_below HR0_1.out HB.out)|(with_reducible first|apply aC|apply nC|apply dC)));(case side2=>exact HC0_1.out);(case side3=>repeat (first|exact (Kd.C_below HR0_2.out HB.out)|(with_reducible first|apply aC|apply nC|apply dC)));(case side4=>exact HC0_2.out);rintro e w7 ⟨rfl,hb⟩;refine⟨_,rfl,?_⟩;have n0_:=mk0 (blk_below (g:=gb275) (o:=.cells #[.int .i64 a0_0,.slice A0_1 l0_1.length c0_1,.slice A0_2 l0_2.length c0_2] 30 (0,0)) (by (with_reducible repeat (first|apply nB|apply dB|apply aB));exact BK275.out) hb);have n1_:=mk0 (below_step (by repeat (first|(with_reducible first|exact HB.out|apply aZ|apply nZ|apply dZ|refine sZ ?_ GE275.out)|exact HB.out)) hb);clear BK275 HB;have BK275:=n0_;have HB:=n1_;clear n0_ n1_;(try clear hb);(try clear hb2);(try clear hk);(try clear hi);have hcz8_0:w7.cell? ⟨gb275,0,none⟩ = some (.int .i64 a0_0):=(blk_cell BK275.out 0).trans rfl;have hcz8_1:w7.cell? ⟨gb275,1,none⟩ = some (.slice A0_1 l0_1.length c0_1):=(blk_cell BK275.out 1).trans rfl;have hcz8_2:w7.cell? ⟨gb275,2,none⟩ = some (.slice A0_2 l0_2.length c0_2):=(blk_cell BK275.out 2).trans rfl;have hfz8_0:=blk_frozen BK275.out 0;have hfz8_1:=blk_frozen BK275.out 1;have hfz8_2:=blk_frozen BK275.out 2)|((with_reducible refine gate_callee (f:=37) rfl ?_);refine goesL_ (some 7) rfl rfl Try.func37 (by kernel_rfl) rfl #[.agg #[.int .i64 a0_0,.slice A0_1 l0_1.length c0_1,.slice A0_2 l0_2.length c0_2]] rfl (by (try simp only [mA,mC,mN]);first|done|rfl|(simp only [List.length_drop,List.length_take];done)|(simp only [List.length_drop,List.length_take];rfl)) ?_;(with_reducible refine (spec_l07List.calls k a0_0 _ _ l0_1 _ _ l0_2 t277 _ ?side1 ?side2 ?side3 ?side4 A4.out).mono ?_);(case side1=>repeat (first|exact (Kd.C_below HR0_1.out HB.out)|(with_reducible first|apply aC|apply nC|apply dC)));(case side2=>exact HC0_1.out);(case side3=>repeat (first|exact (Kd.C_below HR0_2.out HB.out)|(with_reducible first|apply aC|apply nC|apply dC)));(case side4=>exact HC0_2.out);rintro e w9 ⟨v278,rfl,ho0,hb⟩;refine⟨_,rfl,?_⟩;have n0_:=mk0 (Kd.R_lower ho0 (below_size (by repeat (first|(with_reducible first|exact HB.out|apply aZ|apply nZ|apply dZ|refine sZ ?_ GE275.out)|exact HB.out))));have n1_:=mk0 (blk_below (g:=gb275) (o:=.cells #[.int .i64 a0_0,.slice A0_1 l0_1.length c0_1,.slice A0_2 l0_2.length c0_2] 30 (0,0)) (by (with_reducible repeat (first|apply nB|apply dB|apply aB));exact BK275.out) hb);have n2_:=mk0 (below_step (by repeat (first|(with_reducible first|exact HB.out|apply aZ|apply nZ|apply dZ|refine sZ ?_ GE275.out)|exact HB.out)) hb);clear BK275 HB;have HO279:=n0_;have BK275:=n1_;have HB:=n2_;clear n0_ n1_ n2_;(try clear hb);(try clear hb2);(try clear hk);(try clear hi);(try clear ho0)))
  go_ret
  exact⟨_,by first|rfl|(simp [errW_none,errW_some] <;> rfl)|(simp [*,errW_none,errW_some] <;> rfl),by (with_reducible repeat (first|apply aR|apply nR|apply dR));exact HO279.out,by repeat (first|(with_reducible first|exact HB.out|apply aZ|apply nZ|apply dZ|refine sZ ?_ GE275.out)|exact HB.out)⟩
 ·replace c3:=Bool.eq_false_iff.mpr c3
  subst c3
  have H1:(some ([]:List Int)) = some r:=by rw [if_neg (show ¬ (false = true) by decide)] at H;exact H
  clear H
  have H:=H1
  clear H1
  obtain rfl:=Option.some.inj H
  go_enter Try.func29,Try.ntmps29
  go_wp2_with (first|((with_reducible refine gate_dst (N:=1) rfl ?_);refine box_event ?hg (N:=1) ?hd (cs:=#[.int .i64 a0_0,.slice A0_1 l0_1.length c0_1,.slice A0_2 l0_2.length c0_2]) (t:=30) ?hr ?_;(case hd=>rfl);(case hg=>rfl);(case hr=>first|(go_simp;done)|(go_simp;rfl));intro gb275 hg w10 hbox hb;have n0_:=mk0 (below_step (by repeat (first|(with_reducible first|exact HB.out|apply aZ|apply nZ|apply dZ)|exact HB.out)) hb);have n1_:=mk0 (hbox);have n2_:=mk0 ((by rw [hg];exact (below_size (by repeat (first|(with_reducible first|exact HB.out|apply aZ|apply nZ|apply dZ)|exact HB.out))):w.heap.size ≤ gb275));have n3_:=mk0 ((by rw [hg];exact (below_size (by repeat (first|(with_reducible first|exact HB.out|apply aZ|apply nZ|apply dZ)|exact HB.out))):w.heap.size ≤ gb275));clear HB;have HB:=n0_;have BK275:=n1_;have GW275:=n2_;have GE275:=n3_;clear n0_ n1_ n2_ n3_ hb hbox hg;have hcz11_0:w10.cell? ⟨gb275,0,none⟩ = some (.int .i64 a0_0):=(blk_cell BK275.out 0).trans rfl;have hcz11_1:w10.cell? ⟨gb275,1,none⟩ = some (.slice A0_1 l0_1.length c0_1):=(blk_cell BK275.out 1).trans rfl;have hcz11_2:w10.cell? ⟨gb275,2,none⟩ = some (.slice A0_2 l0_2.length c0_2):=(blk_cell BK275.out 2).trans rfl;have hfz11_0:=blk_frozen BK275.out 0;have hfz11_1:=blk_frozen BK275.out 1;have hfz11_2:=blk_frozen BK275.out 2)|((with_reducible refine gate_callee (f:=36) rfl ?_);refine goesL_ (some 4) rfl rfl Try.func36 (by kernel_rfl) rfl #[.agg #[.int .i64 a0_0,.slice A0_1 l0_1.length c0_1,.slice A0_2 l0_2.length c0_2]] rfl (by (try simp only [mA,mC,mN]);first|done|rfl|(simp only [List.length_drop,List.length_take];done)|(simp only [List.length_drop,List.length_take];rfl)) ?_;(with_reducible refine (spec_WaveOk.calls k a0_0 _ _ l0_1 _ _ l0_2 false _ ?side1 ?side2 ?side3 ?side4 A2.out).mono ?_);(case side1=>repeat (first|exact (Kd.C_below HR0_1.out HB.out)|(with_reducible first|apply aC|apply nC|apply dC)));(case side2=>exact HC0_1.out);(case side3=>repeat (first|exact (Kd.C_below HR0_2.out HB.out)|(with_reducible first|apply aC|apply nC|apply dC)));(case side4=>exact HC0_2.out);rintro e w12 ⟨rfl,hb⟩;refine⟨_,rfl,?_⟩;have n0_:=mk0 (blk_below (g:=gb275) (o:=.cells #[.int .i64 a0_0,.slice A0_1 l0_1.length c0_1,.slice A0_2 l0_2.length c0_2] 30 (0,0)) (by (with_reducible repeat (first|apply nB|apply dB|apply aB));exact BK275.out) hb);have n1_:=mk0 (below_step (by repeat (first|(with_reducible first|exact HB.out|apply aZ|apply nZ|apply dZ|refine sZ ?_ GE275.out)|exact HB.out)) hb);clear BK275 HB;have BK275:=n0_;have HB:=n1_;clear n0_ n1_;(try clear hb);(try clear hb2);(try clear hk);(try clear hi)))
  go_ret
  exact⟨_,by first|rfl|(simp [errW_none,errW_some] <;> rfl)|(simp [*,errW_none,errW_some] <;> rfl),by first|exact Kd.R_nil _ _ _ _ _|exact Kd.N_nil _ _ _ _ _|exact Kd.V_nil _ _ _ _ _|exact Kd.Q_nil _ _ _ _ _|exact Kd.S_nil _ _ _ _ _,by repeat (first|(with_reducible first|exact HB.out|apply aZ|apply nZ|apply dZ|refine sZ ?_ GE275.out)|exact HB.out)⟩

end Go.Proofs.Ytamdhfjnalglfaa.QFnExactWaveList
