-- A walk, made by walk.py, a program of this session's.
import Derived.Test.YtamdhfjnalglfaaQFnExactWaveLessx0
import Derived.Test.YtamdhfjnalglfaaQFnExactWaveLessx2
namespace Go.Proofs.Ytamdhfjnalglfaa.QFnExactWaveLess
open Go.RowKit Go.Proofs.YtamdhfjnalglfaaW.PrintWords Go.Proofs.YtamdhfjnalglfaaW.PrintLast Go.Proofs.YtamdhfjnalglfaaW.PrintMore
attribute [local go_sem] max2_int min2_int max_two min_two max_three min_three max_four min_four   -- for this text's walks alone
set_option linter.unusedVariables false
set_option linter.unusedSimpArgs false

/-! ### spec_l07List: function 37 -/
mutual
def spec_l07List.l0 : Nat → List (List Int) → Int → List Int → Int → List Int → List (S64) → Option (List Int)
 | 0, _, _, _, _, _, _ => none
 | k + 1, x4, x5, x14, x165000, x165001, x165002 => if x5 < 9 then (if 0 ≤ x5 then (if x5 < (x165002.length : Int) then ((spec_l01List.f k ((rd_T64 x165002 x5).f0) ((rd_T64 x165002 x5).f1)).bind fun t172 => (if x4.length < 5864062014805 then (spec_l07List.l0 k (x4 ++ [t172]) (wrap64 (x5 + 1)) x14 x165000 x165001 x165002) else (none))) else (none)) else (none)) else (spec_l07List.l1 k x14 x4 0 x165000 x165001 x165002)
def spec_l07List.l1 : Nat → List Int → List (List Int) → Int → Int → List Int → List (S64) → Option (List Int)
 | 0, _, _, _, _, _, _ => none
 | k + 1, x3, x4, x6, x165000, x165001, x165002 => if x6 < x165000 then (spec_l07List.l2 k x3 x4 x6 x6 0 0 x165000 x165001 x165002) else (some x3)
def spec_l07List.l2 : Nat → List Int → List (List Int) → Int → Int → Int → Int → Int → List Int → List (S64) → Option (List Int)
 | 0, _, _, _, _, _, _, _, _, _ => none
 | k + 1, x3, x4, x6, x7, x8, x9, x165000, x165001, x165002 => if x9 < 9 then (if 0 ≤ x9 then (if x9 < (x4.length : Int) then (if 0 ≤ x7 then (if x7 < ((rd_L5 x4 x9).length : Int) then (spec_l07List.l3 k x3 x4 x6 x7 x8 x9 (rd (rd_L5 x4 x9) x7) 0 0 0 x165000 x165001 x165002) else (none)) else (none)) else (none)) else (none)) else (if x3.length < 17592186044416 then (spec_l07List.l1 k (x3 ++ [x8]) x4 (wrap64 (x6 + 1)) x165000 x165001 x165002) else (none))
def spec_l07List.l3 : Nat → List Int → List (List Int) → Int → Int → Int → Int → Int → Int → Int → Int → Int → List Int → List (S64) → Option (List Int)
 | 0, _, _, _, _, _, _, _, _, _, _, _, _, _ => none
 | k + 1, x3, x4, x6, x7, x8, x9, x10, x11, x12, x13, x165000, x165001, x165002 => if x13 < x165000 then (if 0 ≤ x9 then (if x9 < (x4.length : Int) then (if 0 ≤ x13 then (if x13 < ((rd_L5 x4 x9).length : Int) then (if (rd (rd_L5 x4 x9) x13) = 0 then (spec_l07List.j4 k x3 x4 x6 x7 x8 x9 x10 x11 (wrap64 (x12 + 1)) x13 x165000 x165001 x165002) else (spec_l07List.j4 k x3 x4 x6 x7 x8 x9 x10 x11 x12 x13 x165000 x165001 x165002)) else (none)) else (none)) else (none)) else (none)) else (if x10 = 1 then (spec_l07List.l2 k x3 x4 x6 (wrap64 (x12 + x11)) (wrap64 ((wrap64 (2 * x8)) + x10)) (wrap64 (x9 + 1)) x165000 x165001 x165002) else (spec_l07List.l2 k x3 x4 x6 x11 (wrap64 ((wrap64 (2 * x8)) + x10)) (wrap64 (x9 + 1)) x165000 x165001 x165002))
def spec_l07List.j4 : Nat → List Int → List (List Int) → Int → Int → Int → Int → Int → Int → Int → Int → Int → List Int → List (S64) → Option (List Int)
 | 0, _, _, _, _, _, _, _, _, _, _, _, _, _ => none
 | k + 1, x3, x4, x6, x7, x8, x9, x10, x11, x12, x13, x165000, x165001, x165002 => if x13 < x7 then (if 0 ≤ x9 then (if x9 < (x4.length : Int) then (if 0 ≤ x13 then (if x13 < ((rd_L5 x4 x9).length : Int) then (if (rd (rd_L5 x4 x9) x13) = x10 then (spec_l07List.l3 k x3 x4 x6 x7 x8 x9 x10 (wrap64 (x11 + 1)) x12 (wrap64 (x13 + 1)) x165000 x165001 x165002) else (spec_l07List.l3 k x3 x4 x6 x7 x8 x9 x10 x11 x12 (wrap64 (x13 + 1)) x165000 x165001 x165002)) else (none)) else (none)) else (none)) else (none)) else (spec_l07List.l3 k x3 x4 x6 x7 x8 x9 x10 x11 x12 (wrap64 (x13 + 1)) x165000 x165001 x165002)
end
def spec_l07List.f (k : Nat) (a0_0 : Int) (l0_1 : List Int) (l0_2 : List (S64)) : Option (List Int) := spec_l07List.l0 k (([] : List (List Int))) 0 (([] : List Int)) a0_0 l0_1 l0_2
theorem spec_l07List.mono_l : ∀ k, (∀ y0 y1 y2 y3 y4 y5, LeO (spec_l07List.l0 k y0 y1 y2 y3 y4 y5) (spec_l07List.l0 (k + 1) y0 y1 y2 y3 y4 y5)) ∧ (∀ y0 y1 y2 y3 y4 y5, LeO (spec_l07List.l1 k y0 y1 y2 y3 y4 y5) (spec_l07List.l1 (k + 1) y0 y1 y2 y3 y4 y5)) ∧ (∀ y0 y1 y2 y3 y4 y5 y6 y7 y8, LeO (spec_l07List.l2 k y0 y1 y2 y3 y4 y5 y6 y7 y8) (spec_l07List.l2 (k + 1) y0 y1 y2 y3 y4 y5 y6 y7 y8)) ∧ (∀ y0 y1 y2 y3 y4 y5 y6 y7 y8 y9 y10 y11 y12, LeO (spec_l07List.l3 k y0 y1 y2 y3 y4 y5 y6 y7 y8 y9 y10 y11 y12) (spec_l07List.l3 (k + 1) y0 y1 y2 y3 y4 y5 y6 y7 y8 y9 y10 y11 y12)) ∧ (∀ y0 y1 y2 y3 y4 y5 y6 y7 y8 y9 y10 y11 y12, LeO (spec_l07List.j4 k y0 y1 y2 y3 y4 y5 y6 y7 y8 y9 y10 y11 y12) (spec_l07List.j4 (k + 1) y0 y1 y2 y3 y4 y5 y6 y7 y8 y9 y10 y11 y12))
 | 0 => ⟨fun _ _ _ _ _ _ r h => by simp [spec_l07List.l0] at h, fun _ _ _ _ _ _ r h => by simp [spec_l07List.l1] at h, fun _ _ _ _ _ _ _ _ _ r h => by simp [spec_l07List.l2] at h, fun _ _ _ _ _ _ _ _ _ _ _ _ _ r h => by simp [spec_l07List.l3] at h, fun _ _ _ _ _ _ _ _ _ _ _ _ _ r h => by simp [spec_l07List.j4] at h⟩
 | k + 1 => by
  obtain ⟨ih0, ih1, ih2, ih3, ih4⟩ := spec_l07List.mono_l k
  refine ⟨?_, ?_, ?_, ?_, ?_⟩
  ·intro y0 y1 y2 y3 y4 y5
   unfold spec_l07List.l0
   repeat' first|(with_reducible first|exact ih0 _ _ _ _ _ _|exact ih1 _ _ _ _ _ _|exact ih2 _ _ _ _ _ _ _ _ _|exact ih3 _ _ _ _ _ _ _ _ _ _ _ _ _|exact ih4 _ _ _ _ _ _ _ _ _ _ _ _ _|exact spec_l01List.mono _ _ _|exact LeO.refl _|exact LeO.none _|refine LeO.ite ?_ ?_|refine LeO.bind ?_ (fun _ => ?_))|exact LeO.none _|refine LeO.ite ?_ ?_|refine LeO.bind ?_ (fun _ => ?_)
  ·intro y0 y1 y2 y3 y4 y5
   unfold spec_l07List.l1
   repeat' first|(with_reducible first|exact ih0 _ _ _ _ _ _|exact ih1 _ _ _ _ _ _|exact ih2 _ _ _ _ _ _ _ _ _|exact ih3 _ _ _ _ _ _ _ _ _ _ _ _ _|exact ih4 _ _ _ _ _ _ _ _ _ _ _ _ _|exact spec_l01List.mono _ _ _|exact LeO.refl _|exact LeO.none _|refine LeO.ite ?_ ?_|refine LeO.bind ?_ (fun _ => ?_))|exact LeO.none _|refine LeO.ite ?_ ?_|refine LeO.bind ?_ (fun _ => ?_)
  ·intro y0 y1 y2 y3 y4 y5 y6 y7 y8
   unfold spec_l07List.l2
   repeat' first|(with_reducible first|exact ih0 _ _ _ _ _ _|exact ih1 _ _ _ _ _ _|exact ih2 _ _ _ _ _ _ _ _ _|exact ih3 _ _ _ _ _ _ _ _ _ _ _ _ _|exact ih4 _ _ _ _ _ _ _ _ _ _ _ _ _|exact spec_l01List.mono _ _ _|exact LeO.refl _|exact LeO.none _|refine LeO.ite ?_ ?_|refine LeO.bind ?_ (fun _ => ?_))|exact LeO.none _|refine LeO.ite ?_ ?_|refine LeO.bind ?_ (fun _ => ?_)
  ·intro y0 y1 y2 y3 y4 y5 y6 y7 y8 y9 y10 y11 y12
   unfold spec_l07List.l3
   repeat' first|(with_reducible first|exact ih0 _ _ _ _ _ _|exact ih1 _ _ _ _ _ _|exact ih2 _ _ _ _ _ _ _ _ _|exact ih3 _ _ _ _ _ _ _ _ _ _ _ _ _|exact ih4 _ _ _ _ _ _ _ _ _ _ _ _ _|exact spec_l01List.mono _ _ _|exact LeO.refl _|exact LeO.none _|refine LeO.ite ?_ ?_|refine LeO.bind ?_ (fun _ => ?_))|exact LeO.none _|refine LeO.ite ?_ ?_|refine LeO.bind ?_ (fun _ => ?_)
  ·intro y0 y1 y2 y3 y4 y5 y6 y7 y8 y9 y10 y11 y12
   unfold spec_l07List.j4
   repeat' first|(with_reducible first|exact ih0 _ _ _ _ _ _|exact ih1 _ _ _ _ _ _|exact ih2 _ _ _ _ _ _ _ _ _|exact ih3 _ _ _ _ _ _ _ _ _ _ _ _ _|exact ih4 _ _ _ _ _ _ _ _ _ _ _ _ _|exact spec_l01List.mono _ _ _|exact LeO.refl _|exact LeO.none _|refine LeO.ite ?_ ?_|refine LeO.bind ?_ (fun _ => ?_))|exact LeO.none _|refine LeO.ite ?_ ?_|refine LeO.bind ?_ (fun _ => ?_)
theorem spec_l07List.mono : ∀ a0 a1 a2 k, LeO (spec_l07List.f k a0 a1 a2) (spec_l07List.f (k + 1) a0 a1 a2) := by
 intro a0 a1 a2 k
 obtain ⟨ih0, ih1, ih2, ih3, ih4⟩ := spec_l07List.mono_l k
 unfold spec_l07List.f
 repeat' first|(with_reducible first|exact ih0 _ _ _ _ _ _|exact ih1 _ _ _ _ _ _|exact ih2 _ _ _ _ _ _ _ _ _|exact ih3 _ _ _ _ _ _ _ _ _ _ _ _ _|exact ih4 _ _ _ _ _ _ _ _ _ _ _ _ _|exact spec_l01List.mono _ _ _|exact LeO.refl _|exact LeO.none _|refine LeO.ite ?_ ?_|refine LeO.bind ?_ (fun _ => ?_))|exact LeO.none _|refine LeO.ite ?_ ?_|refine LeO.bind ?_ (fun _ => ?_)
set_option maxHeartbeats 8000000 in
set_option maxRecDepth 100000 in
theorem spec_l07List.calls (k : Nat) (a0_0 : Int) (A0_1 : Option Addr) (c0_1 : Nat) (l0_1 : List Int) (A0_2 : Option Addr) (c0_2 : Nat) (l0_2 : List (S64)) (r : List Int) (w : World) (hr0_1 : Kd.C (Kd.int .i64) w A0_1 l0_1.length l0_1) (hc0_1 : l0_1.length ≤ c0_1) (hr0_2 : Kd.C k64 w A0_2 l0_2.length l0_2) (hc0_2 : l0_2.length ≤ c0_2) (h : spec_l07List.f k a0_0 l0_1 l0_2 = some r) :
  Calls Try.prog 37 #[.agg #[.int .i64 a0_0, .slice A0_1 l0_1.length c0_1, .slice A0_2 l0_2.length c0_2]] w fun e w' => ∃ v0_ : Value, e = .returned (v0_) ∧ Kd.R (Kd.int .i64) 3 w' w.heap.size (fun _ => True) v0_ r ∧ Below w.heap.size w w' := by
 have hu30:=Try.underlying30
 have hu64:=Try.underlying64
 have HR0_1:=mk0 hr0_1
 have HC0_1:=mk0 hc0_1
 clear hr0_1 hc0_1
 have HR0_2:=mk0 hr0_2
 have HC0_2:=mk0 hc0_2
 clear hr0_2 hc0_2
 have HB:=mk0 (Below.refl w.heap.size w)
 have H:(spec_l07List.l0 k (([]:List (List Int))) 0 (([]:List Int)) a0_0 l0_1 l0_2) = some r:=h
 clear h
 obtain⟨y165,hy165⟩:∃ y_:List Int,y_ = (([]:List Int)):=⟨_,rfl⟩
 replace H:(spec_l07List.l0 k (([]:List (List Int))) 0 y165 a0_0 l0_1 l0_2) = some r:=by first|(rw [hy165];with_reducible exact H)|(have H2_:=(Option.bind_some _ _).symm.trans H;rw [hy165];with_reducible exact H2_)|(have H2_:=(Option.bind_some _ _).symm.trans H;with_reducible exact H2_)|with_reducible exact H|(rw [hy165];exact H)|exact H
 have Ny165:=mk0 hy165
 clear hy165
 obtain⟨y168,hy168⟩:∃ y_:List (List Int),y_ = (([]:List (List Int))):=⟨_,rfl⟩
 replace H:(spec_l07List.l0 k y168 0 y165 a0_0 l0_1 l0_2) = some r:=by first|(rw [hy168];with_reducible exact H)|(have H2_:=(Option.bind_some _ _).symm.trans H;rw [hy168];with_reducible exact H2_)|(have H2_:=(Option.bind_some _ _).symm.trans H;with_reducible exact H2_)|with_reducible exact H|(rw [hy168];exact H)|exact H
 have Ny168:=mk0 hy168
 clear hy168
 have H':=mk0 H
 clear H
 go_enter Try.func37,Try.ntmps37
 go_wp2_with (first|((with_reducible refine gate_dst (N:=1) rfl ?_);refine box_event ?hg (N:=1) ?hd (cs:=#[.int .i64 a0_0,.slice A0_1 l0_1.length c0_1,.slice A0_2 l0_2.length c0_2]) (t:=30) ?hr ?_;(case hd=>rfl);(case hg=>rfl);(case hr=>first|(go_simp;done)|(go_simp;rfl));intro gb164 hg w2 hbox hb;have n0_:=mk0 (below_step (by repeat (first|(with_reducible first|exact HB.out|apply aZ|apply nZ|apply dZ)|exact HB.out)) hb);have n1_:=mk0 (hbox);have n2_:=mk0 ((by rw [hg];exact (below_size (by repeat (first|(with_reducible first|exact HB.out|apply aZ|apply nZ|apply dZ)|exact HB.out))):w.heap.size ≤ gb164));have n3_:=mk0 ((by rw [hg];exact (below_size (by repeat (first|(with_reducible first|exact HB.out|apply aZ|apply nZ|apply dZ)|exact HB.out))):w.heap.size ≤ gb164));clear HB;have HB:=n0_;have BK164:=n1_;have GW164:=n2_;have GE164:=n3_;clear n0_ n1_ n2_ n3_ hb hbox hg)|((with_reducible refine gate_dst (N:=14) rfl ?_);refine Kd.R_lit (Kd.int .i64) _ 3 ?hg (N:=14) ?hd (xs:=([]:List Int)) (inner:=[]) (ok:=fun _=>True) (okp:=fun _=>True) ?hr ?hp (fun _ hk=>hk) trivial (Below.refl _ _) (Nat.le_refl _) (by simp) ?_;(case hd=>rfl);(case hg=>rfl);(case hr=>first|(go_simp;done)|(go_simp;rfl));(case hp=>exact (Reps.none _ _));intro v166 w3 ho4 hb hg_ hnew_;clear hg_ hnew_;(first|rw [← Ny165.out] at ho4|(simp only [Int.reduceToNat] at ho4;rw [← Ny165.out] at ho4));have n0_:=mk0 (Kd.R_lower ho4 (below_size (by repeat (first|(with_reducible first|exact HB.out|apply aZ|apply nZ|apply dZ|refine sZ ?_ GE164.out)|exact HB.out))));have n1_:=mk0 (blk_below (g:=gb164) (o:=.cells #[.int .i64 a0_0,.slice A0_1 l0_1.length c0_1,.slice A0_2 l0_2.length c0_2] 30 (0,0)) (by (with_reducible repeat (first|apply nB|apply dB|apply aB));exact BK164.out) hb);have n2_:=mk0 (below_step (by repeat (first|(with_reducible first|exact HB.out|apply aZ|apply nZ|apply dZ|refine sZ ?_ GE164.out)|exact HB.out)) hb);clear BK164 HB;have HO167:=n0_;have BK164:=n1_;have HB:=n2_;clear n0_ n1_ n2_ hb ho4)|((with_reducible refine gate_dst (N:=15) rfl ?_);refine Kd.S_lit (Kd.slice 3 (Kd.int .i64)) _ 22 ?hg (N:=15) ?hd (xs:=([]:List (List Int))) (inner:=[]) (ok:=fun _=>True) (okp:=fun _=>True) ?hr ?hp (fun _ hk=>hk) trivial (Below.refl _ _) (Nat.le_refl _) (by simp) ?_;(case hd=>rfl);(case hg=>rfl);(case hr=>first|(go_simp;done)|(go_simp;rfl));(case hp=>exact (Reps.none _ _));intro v169 w5 ho6 hb hg_ hnew_;clear hg_ hnew_;(first|rw [← Ny168.out] at ho6|(simp only [Int.reduceToNat] at ho6;rw [← Ny168.out] at ho6));have n0_:=mk0 (Kd.R_below (by (with_reducible repeat (first|apply aR|apply nR|apply dR));exact HO167.out) hb);have n1_:=mk0 (Kd.S_lower (Kd.S_new' ho6 (Kd.R_lt (by (with_reducible repeat (first|apply aR|apply nR|apply dR));exact HO167.out))) (below_size (by repeat (first|(with_reducible first|exact HB.out|apply aZ|apply nZ|apply dZ|refine sZ ?_ GE164.out)|exact HB.out))));have n2_:=mk0 (blk_below (g:=gb164) (o:=.cells #[.int .i64 a0_0,.slice A0_1 l0_1.length c0_1,.slice A0_2 l0_2.length c0_2] 30 (0,0)) (by (with_reducible repeat (first|apply nB|apply dB|apply aB));exact BK164.out) hb);have n3_:=mk0 (below_step (by repeat (first|(with_reducible first|exact HB.out|apply aZ|apply nZ|apply dZ|refine sZ ?_ GE164.out)|exact HB.out)) hb);clear HO167 BK164 HB;have HO167:=n0_;have HO170:=n1_;have BK164:=n2_;have HB:=n3_;clear n0_ n1_ n2_ n3_ hb ho6))
 go_loopg [4,5] k (fun kq v4 v5 w'=>∃ (x4_1:List (List Int)) (x5_1:Int),v5 = .int .i64 x5_1 ∧ Aside0 (spec_l07List.l0 kq x4_1 x5_1 y165 a0_0 l0_1 l0_2 = some r) ∧ Aside0 (kq ≤ k) ∧ Aside0 (Kd.S (Kd.slice 3 (Kd.int .i64)) 22 w' w.heap.size (fun k_=>some k_ ≠ (v166:Value).ownBlock) v4 x4_1) ∧ Aside0 (Kd.R (Kd.int .i64) 3 w' w.heap.size (fun _=>True) v166 y165) ∧ Aside0 (w'.heap[gb164]? = some (.cells #[.int .i64 a0_0,(.slice A0_1 l0_1.length c0_1),(.slice A0_2 l0_2.length c0_2)] 30 (0,0))) ∧ Aside0 (Below w.heap.size w w'))
 case atStart=>exact⟨(y168),(0),(by first|rfl|(simp;done)|(simp [*];done)),H',⟨Nat.le_refl _⟩,⟨by (with_reducible repeat (first|apply aS|apply nS|apply dS));exact Kd.S_mono HO170.out (fun _ hk=>hk.2)⟩,⟨by (with_reducible repeat (first|apply aR|apply nR|apply dR));exact HO167.out⟩,⟨by (with_reducible repeat (first|apply nB|apply dB|apply aB));exact BK164.out⟩,⟨by repeat (first|(with_reducible first|exact HB.out|apply aZ|apply nZ|apply dZ|refine sZ ?_ GE164.out)|exact HB.out)⟩⟩
 case round =>
  clear H'
  try clear p2
  try clear c3
  obtain⟨x4_1,x5_1,rfl,HA,HK1,HO_4,HO_14,BK164,HB⟩:=hrel
  cases gk with
  | zero=>exact absurd HA.out (by simp [spec_l07List.l0])
  | succ k1 =>
   have H:=HA.out
   clear HA
   simp only [spec_l07List.l0] at H
   by_cases c7:x5_1 < 9
   ·rw [if_pos c7] at H
    have c7b0:decide (x5_1 < 9) = true:=decide_eq_true c7
    clear c7
    by_cases c8:0 ≤ x5_1
    rotate_left
    ·rw [if_neg c8] at H
     exact absurd H (by simp)
    rw [if_pos c8] at H
    have c8b0:decide (0 ≤ x5_1) = true:=decide_eq_true c8
    clear c8
    by_cases c9:x5_1 < (l0_2.length:Int)
    rotate_left
    ·rw [if_neg c9] at H
     exact absurd H (by simp)
    rw [if_pos c9] at H
    have c9b0:decide (x5_1 < (l0_2.length:Int)) = true:=decide_eq_true c9
    (try simp only [hl171_1] at c9b0)
    (try simp only [hl181_0] at c9b0)
    (try simp only [hl183_0] at c9b0)
    (try simp only [hl185_0] at c9b0)
    clear c9
    replace H:=Option.bind_eq_some_iff.mp H
    obtain⟨t172,A100,H⟩:=H
    replace H:(if x4_1.length < 5864062014805 then (spec_l07List.l0 k1 (x4_1 ++ [t172]) (wrap64 (x5_1 + 1)) y165 a0_0 l0_1 l0_2) else (none)) = some r:=H
    have A10:=mk0 A100
    clear A100
    by_cases c11:x4_1.length < 5864062014805
    rotate_left
    ·rw [if_neg c11] at H
     exact absurd H (by simp)
    rw [if_pos c11] at H
    have LMc11:=mk0 c11
    clear c11
    obtain⟨y175,hy175⟩:∃ y_:List (List Int),y_ = (x4_1 ++ [t172]):=⟨_,rfl⟩
    replace H:(spec_l07List.l0 k1 y175 (wrap64 (x5_1 + 1)) y165 a0_0 l0_1 l0_2) = some r:=by first|(rw [hy175];with_reducible exact H)|(have H2_:=(Option.bind_some _ _).symm.trans H;rw [hy175];with_reducible exact H2_)|(have H2_:=(Option.bind_some _ _).symm.trans H;with_reducible exact H2_)|with_reducible exact H|(rw [hy175];exact H)|exact H
    have Ny175:=mk0 hy175
    clear hy175
    have H':=mk0 H
    clear H
    have hcz12_0:wr.cell? ⟨gb164,0,none⟩ = some (.int .i64 a0_0):=(blk_cell BK164.out 0).trans rfl
    have hcz12_1:wr.cell? ⟨gb164,1,none⟩ = some (.slice A0_1 l0_1.length c0_1):=(blk_cell BK164.out 1).trans rfl
    have hcz12_2:wr.cell? ⟨gb164,2,none⟩ = some (.slice A0_2 l0_2.length c0_2):=(blk_cell BK164.out 2).trans rfl
    have hfz12_0:=blk_frozen BK164.out 0
    have hfz12_1:=blk_frozen BK164.out 1
    have hfz12_2:=blk_frozen BK164.out 2
    have p171:0 ≤ (x5_1:Int):=of_decide_eq_true (by first|(with_reducible assumption)|assumption)
    have q171:x5_1 < (l0_2.length:Int):=of_decide_eq_true (by first|(with_reducible assumption)|assumption)
    obtain⟨ad171,A171_1,c171_1,e171,hx171_0,hx171_1,hl171_1,hi171_1⟩:=at_T64 HR0_2.out x5_1 p171 q171
    cases e171
    replace hx171_0:=(HB.out.cell (World.block_lt_of_cell? w _ hx171_0)).trans hx171_0
    replace hx171_1:=(HB.out.cell (World.block_lt_of_cell? w _ hx171_1)).trans hx171_1
    have HR171_1:=mk0 hi171_1
    have HC171_1:=mk0 hl171_1
    clear hi171_1 hl171_1
    replace p171:=eq_true p171
    replace q171:=eq_true q171
    go_wp2_with (first|((with_reducible refine gate_callee (f:=62) rfl ?_);refine goesL_ (some 26) rfl rfl Try.func62 (by kernel_rfl) rfl #[.agg #[.int .i64 ((rd_T64 l0_2 x5_1).f0),.slice A171_1 ((rd_T64 l0_2 x5_1).f1).length c171_1]] rfl (by (try simp only [mA,mC,mN]);first|done|rfl|(simp only [List.length_drop,List.length_take];rfl)) ?_;(with_reducible refine (spec_l01List.calls k1 ((rd_T64 l0_2 x5_1).f0) _ _ ((rd_T64 l0_2 x5_1).f1) t172 _ ?side1 ?side2 A10.out).mono ?_);(case side1=>repeat (first|exact (Kd.C_below HR171_1.out HB.out)|(with_reducible first|apply aC|apply nC|apply dC)));(case side2=>exact HC171_1.out);rintro e w13 ⟨v173,rfl,ho0,hb⟩;refine⟨_,rfl,?_⟩;have n0_:=mk0 (Kd.S_elder' (by (with_reducible repeat (first|apply aS|apply nS|apply dS));exact HO_4.out) (Kd.R_base ho0) hb);have n1_:=mk0 (Kd.R_elder' (by (with_reducible repeat (first|apply aR|apply nR|apply dR));exact HO_14.out) (Kd.R_base ho0) hb);have n2_:=mk0 (Kd.R_lower (Kd.R_new' ho0 (Kd.R_lt (by (with_reducible repeat (first|apply aR|apply nR|apply dR));exact HO_14.out))) (below_size (by repeat (first|(with_reducible first|exact HB.out|apply aZ|apply nZ|apply dZ|refine sZ ?_ GE164.out)|exact HB.out))));have n3_:=mk0 (blk_below (g:=gb164) (o:=.cells #[.int .i64 a0_0,.slice A0_1 l0_1.length c0_1,.slice (some ad171) l0_2.length c0_2] 30 (0,0)) (by (with_reducible repeat (first|apply nB|apply dB|apply aB));exact BK164.out) hb);have n4_:=mk0 (below_step (by repeat (first|(with_reducible first|exact HB.out|apply aZ|apply nZ|apply dZ|refine sZ ?_ GE164.out)|exact HB.out)) hb);clear HO_4 HO_14 BK164 HB;have HO_4:=n0_;have HO_14:=n1_;have HO174:=n2_;have BK164:=n3_;have HB:=n4_;clear n0_ n1_ n2_ n3_ n4_;(try clear hb);(try clear hb2);(try clear hk);(try clear hi);(try clear ho0);obtain⟨Ao15,co15,eo15⟩:=Kd.R_slice HO174.out;subst eo15)|((with_reducible refine gate_builtin (b:=.append) (xs:=#[.tmp 20,.tmp 27]) rfl ?_);at_builtin;refine Kd.S_append (Kd.slice 3 (Kd.int .i64)) (w0:=w) w.heap.size rfl (.tmp 20) (.tmp 27) 77 22 (.slice none 0 0) 24 rfl Try.underlying77 info22 rfl (by decide) (by omega) u4 x4_1 t172 [.slice Ao15 t172.length co15] (fun k_=>some k_ ≠ (v166:Value).ownBlock) (fun k_=>some k_ = (.slice Ao15 t172.length co15:Value).ownBlock) rfl rfl ?aP (fun k_ hk_=>((Kd.R_mono (ok':=fun k_=>((fun k_=>some k_ ≠ (v166:Value).ownBlock)) k_ ∧ some k_ ≠ (u4:Value).ownBlock) (Kd.R_apart' (HO174.out) (Kd.S_typed HO_4.out) (by decide)) (fun k_ hk=>⟨hk.1.2,hk.2⟩))).1 k_ hk_.symm) ?aF ?aO ?aB ?aS ?aL ?_;(case aP=>exact Kd.M_row (Kd.R_mono (Kd.R_tight rfl (Kd.R_mono (ok':=fun k_=>((fun k_=>some k_ ≠ (v166:Value).ownBlock)) k_ ∧ some k_ ≠ (u4:Value).ownBlock) (Kd.R_apart' (HO174.out) (Kd.S_typed HO_4.out) (by decide)) (fun k_ hk=>⟨hk.1.2,hk.2⟩))) (fun _ h_=>h_)));(case aB=>exact (by repeat (first|(with_reducible first|exact HB.out|apply aZ|apply nZ|apply dZ|refine sZ ?_ GE164.out)|exact HB.out)));(case aF=>exact (fun k_ hk=>Kd.fresh' (Kd.R_lt (by (with_reducible repeat (first|apply aR|apply nR|apply dR));exact HO_14.out)) k_ hk));(case aO=>exact (by (with_reducible repeat (first|apply aS|apply nS|apply dS));exact Kd.S_mono HO_4.out (fun k_ hk=>⟨hk.1,fun e_=>hk.2 e_⟩)));(case aS=>exact (below_size (by repeat (first|(with_reducible first|exact HB.out|apply aZ|apply nZ|apply dZ|refine sZ ?_ GE164.out)|exact HB.out))));(case aL=>have:=LMc11.out;omega);intro v176 w14 ho hb hg hat;rw [← Ny175.out] at ho;have n0_:=mk0 (Kd.R_over' (by (with_reducible repeat (first|apply aR|apply nR|apply dR));exact HO_14.out) (Kd.S_typed (by (with_reducible repeat (first|apply aS|apply nS|apply dS));exact HO_4.out)) (by decide) hg);have n1_:=mk0 (blk_grown (g:=gb164) (o:=.cells #[.int .i64 a0_0,.slice A0_1 l0_1.length c0_1,.slice (some ad171) l0_2.length c0_2] 30 (0,0)) (by (with_reducible repeat (first|apply nB|apply dB|apply aB));exact BK164.out) hg (Kd.S_ne HO_4.out BK164.out (by decide)));have n2_:=mk0 (hb);have n3_:=mk0 (ho);clear HO_14 BK164 HB HO_4 HO174;have HO_14:=n0_;have BK164:=n1_;have HB:=n2_;have HO177:=n3_;clear n0_ n1_ n2_ n3_ ho hb hg hat))
    go_roundg k1
    case measure=>have:=HK1.out;omega
    case rel=>exact⟨(y175),(wrap64 (x5_1 + 1)),(by first|rfl|(simp;done)|(simp [*];done)),H',⟨by have:=HK1.out;omega⟩,⟨by (with_reducible repeat (first|apply aS|apply nS|apply dS));exact HO177.out⟩,⟨by (with_reducible repeat (first|apply aR|apply nR|apply dR));exact Kd.R_mono HO_14.out (fun _ hk=>trivial)⟩,⟨by (with_reducible repeat (first|apply nB|apply dB|apply aB));exact BK164.out⟩,⟨by repeat (first|(with_reducible first|exact HB.out|apply aZ|apply nZ|apply dZ|refine sZ ?_ GE164.out)|exact HB.out)⟩⟩
   rw [if_neg c7] at H
   have c7b0:decide (x5_1 < 9) = false:=decide_eq_false c7
   clear c7
   have H':=mk0 H
   clear H
   go_wp2
   go_loopg [3,6] k1 (fun kq v3 v6 w'=>∃ (x3_2:List Int) (x6_2:Int),v6 = .int .i64 x6_2 ∧ Aside0 (spec_l07List.l1 kq x3_2 x4_1 x6_2 a0_0 l0_1 l0_2 = some r) ∧ Aside0 (kq ≤ k1) ∧ Aside0 (Kd.R (Kd.int .i64) 3 w' w.heap.size (fun _=>True) v3 x3_2) ∧ Aside0 (Kd.S (Kd.slice 3 (Kd.int .i64)) 22 w' w.heap.size (fun k_=>some k_ ≠ (v3:Value).ownBlock) u4 x4_1) ∧ Aside0 (w'.heap[gb164]? = some (.cells #[.int .i64 a0_0,(.slice A0_1 l0_1.length c0_1),(.slice A0_2 l0_2.length c0_2)] 30 (0,0))) ∧ Aside0 (Below w.heap.size w w'))
   case atStart=>exact⟨(y165),(0),(by first|rfl|(simp;done)|(simp [*];done)),H',⟨Nat.le_refl _⟩,⟨by (with_reducible repeat (first|apply aR|apply nR|apply dR));exact HO_14.out⟩,⟨by (with_reducible repeat (first|apply aS|apply nS|apply dS));exact HO_4.out⟩,⟨by (with_reducible repeat (first|apply nB|apply dB|apply aB));exact BK164.out⟩,⟨by repeat (first|(with_reducible first|exact HB.out|apply aZ|apply nZ|apply dZ|refine sZ ?_ GE164.out)|exact HB.out)⟩⟩
   case round =>
    clear H'
    try clear c1
    try clear p1
    try clear q1
    try clear hx1
    try clear p2
    try clear c3
    try clear c6
    try clear p6
    try clear c7
    try clear c7b0
    try clear c8
    try clear c8b0
    try clear c9
    try clear c9b0
    try clear c11
    try clear hcz12_0
    try clear hcz12_1
    try clear hcz12_2
    try clear hfz12_0
    try clear hfz12_1
    try clear hfz12_2
    try clear hx171_0
    try clear hx171_1
    try clear p171
    try clear p2
    try clear q171
    obtain⟨x3_2,x6_2,rfl,HA,HK2,HO_3,HO_4,BK164,HB⟩:=hrel
    cases gk with
    | zero=>exact absurd HA.out (by simp [spec_l07List.l1])
    | succ k2 =>
     have H:=HA.out
     clear HA
     simp only [spec_l07List.l1] at H
     by_cases c16:x6_2 < a0_0
     rotate_left
     ·rw [if_neg c16] at H
      have c16b0:decide (x6_2 < a0_0) = false:=decide_eq_false c16
      clear c16
      obtain rfl:=Option.some.inj H
      have hcz43_0:wr.cell? ⟨gb164,0,none⟩ = some (.int .i64 a0_0):=(blk_cell BK164.out 0).trans rfl
      have hcz43_1:wr.cell? ⟨gb164,1,none⟩ = some (.slice A0_1 l0_1.length c0_1):=(blk_cell BK164.out 1).trans rfl
      have hcz43_2:wr.cell? ⟨gb164,2,none⟩ = some (.slice A0_2 l0_2.length c0_2):=(blk_cell BK164.out 2).trans rfl
      have hfz43_0:=blk_frozen BK164.out 0
      have hfz43_1:=blk_frozen BK164.out 1
      have hfz43_2:=blk_frozen BK164.out 2
      go_wp2
      go_ret
      exact⟨_,by first|rfl|(simp [errW_none,errW_some] <;> rfl)|(simp [*,errW_none,errW_some] <;> rfl),by (with_reducible repeat (first|apply aR|apply nR|apply dR));exact HO_3.out,by repeat (first|(with_reducible first|exact HB.out|apply aZ|apply nZ|apply dZ|refine sZ ?_ GE164.out)|exact HB.out)⟩

     rw [if_pos c16] at H
     have c16b0:decide (x6_2 < a0_0) = true:=decide_eq_true c16
     clear c16
     have H':=mk0 H
     clear H
     have hcz17_0:wr.cell? ⟨gb164,0,none⟩ = some (.int .i64 a0_0):=(blk_cell BK164.out 0).trans rfl
     have hcz17_1:wr.cell? ⟨gb164,1,none⟩ = some (.slice A0_1 l0_1.length c0_1):=(blk_cell BK164.out 1).trans rfl
     have hcz17_2:wr.cell? ⟨gb164,2,none⟩ = some (.slice A0_2 l0_2.length c0_2):=(blk_cell BK164.out 2).trans rfl
     have hfz17_0:=blk_frozen BK164.out 0
     have hfz17_1:=blk_frozen BK164.out 1
     have hfz17_2:=blk_frozen BK164.out 2
     go_wp2
     go_loopg [7,8,9] k2 (fun kq v7 v8 v9 w'=>∃ (x7_3:Int) (x8_3:Int) (x9_3:Int),v7 = .int .i64 x7_3 ∧ v8 = .int .i64 x8_3 ∧ v9 = .int .i64 x9_3 ∧ Aside0 (spec_l07List.l2 kq x3_2 x4_1 x6_2 x7_3 x8_3 x9_3 a0_0 l0_1 l0_2 = some r) ∧ Aside0 (kq ≤ k2) ∧ Aside0 (Kd.R (Kd.int .i64) 3 w' w.heap.size (fun _=>True) u3 x3_2) ∧ Aside0 (Kd.S (Kd.slice 3 (Kd.int .i64)) 22 w' w.heap.size (fun k_=>some k_ ≠ (u3:Value).ownBlock) u4 x4_1) ∧ Aside0 (w'.heap[gb164]? = some (.cells #[.int .i64 a0_0,(.slice A0_1 l0_1.length c0_1),(.slice A0_2 l0_2.length c0_2)] 30 (0,0))) ∧ Aside0 (Below w.heap.size w w'))
     case atStart=>exact⟨(x6_2),(0),(0),(by first|rfl|(simp;done)|(simp [*];done)),(by first|rfl|(simp;done)|(simp [*];done)),(by first|rfl|(simp;done)|(simp [*];done)),H',⟨Nat.le_refl _⟩,⟨by (with_reducible repeat (first|apply aR|apply nR|apply dR));exact HO_3.out⟩,⟨by (with_reducible repeat (first|apply aS|apply nS|apply dS));exact HO_4.out⟩,⟨by (with_reducible repeat (first|apply nB|apply dB|apply aB));exact BK164.out⟩,⟨by repeat (first|(with_reducible first|exact HB.out|apply aZ|apply nZ|apply dZ|refine sZ ?_ GE164.out)|exact HB.out)⟩⟩
     case round =>
      clear H'
      try clear c1
      try clear p1
      try clear q1
      try clear hx1
      try clear p2
      try clear c3
      try clear c6
      try clear p6
      try clear c7
      try clear c7b0
      try clear c8
      try clear c8b0
      try clear c9
      try clear c9b0
      try clear c11
      try clear c16
      try clear c16b0
      try clear c17
      try clear p17
      try clear q17
      try clear hx17
      try clear hcz12_0
      try clear hcz12_1
      try clear hcz12_2
      try clear hcz17_0
      try clear hcz17_1
      try clear hcz17_2
      try clear hfz12_0
      try clear hfz12_1
      try clear hfz12_2
      try clear hfz17_0
      try clear hfz17_1
      try clear hfz17_2
      try clear hx171_0
      try clear hx171_1
      try clear p1
      try clear p171
      try clear p2
      try clear p6
      try clear q1
      try clear q171
      obtain⟨x7_3,x8_3,x9_3,rfl,rfl,rfl,HA,HK3,HO_3,HO_4,BK164,HB⟩:=hrel
      cases gk with
      | zero=>exact absurd HA.out (by simp [spec_l07List.l2])
      | succ k3 =>
       have H:=HA.out
       clear HA
       simp only [spec_l07List.l2] at H
       by_cases c18:x9_3 < 9
       rotate_left
       ·rw [if_neg c18] at H
        have c18b0:decide (x9_3 < 9) = false:=decide_eq_false c18
        clear c18
        by_cases c41:x3_2.length < 17592186044416
        rotate_left
        ·rw [if_neg c41] at H
         exact absurd H (by simp)
        rw [if_pos c41] at H
        have LMc41:=mk0 c41
        clear c41
        obtain⟨y178,hy178⟩:∃ y_:List Int,y_ = (x3_2 ++ [x8_3]):=⟨_,rfl⟩
        replace H:(spec_l07List.l1 k3 y178 x4_1 (wrap64 (x6_2 + 1)) a0_0 l0_1 l0_2) = some r:=by first|(rw [hy178];with_reducible exact H)|(have H2_:=(Option.bind_some _ _).symm.trans H;rw [hy178];with_reducible exact H2_)|(have H2_:=(Option.bind_some _ _).symm.trans H;with_reducible exact H2_)|with_reducible exact H|(rw [hy178];exact H)|exact H
        have Ny178:=mk0 hy178
        clear hy178
        have H':=mk0 H
        clear H
        go_wp2_with (first|((with_reducible refine gate_builtin (b:=.append) (xs:=#[.tmp 89,.tmp 91]) rfl ?_);at_builtin;refine Kd.R_append (Kd.int .i64) (w0:=w) w.heap.size rfl (.tmp 89) (.tmp 91) 22 3 (.int .i64 0) 8 rfl Try.underlying22 info3 rfl (by decide) (by omega) u3 x3_2 x8_3 [.int .i64 x8_3] (fun _=>True) (fun _=>False) rfl rfl ?aP (fun _ hk=>hk.elim) ?aF ?aO ?aB ?aS ?aL ?_;(case aP=>exact rfl);(case aB=>exact (by repeat (first|(with_reducible first|exact HB.out|apply aZ|apply nZ|apply dZ|refine sZ ?_ GE164.out)|exact HB.out)));(case aF=>exact (fun _ _=>trivial));(case aO=>exact (by (with_reducible repeat (first|apply aR|apply nR|apply dR));exact HO_3.out));(case aS=>exact (below_size (by repeat (first|(with_reducible first|exact HB.out|apply aZ|apply nZ|apply dZ|refine sZ ?_ GE164.out)|exact HB.out))));(case aL=>have:=LMc41.out;omega);intro v179 w42 ho hb hg hat;rw [← Ny178.out] at ho;have n0_:=mk0 (Kd.S_after (ok:=(fun _=>True)) (by (with_reducible repeat (first|apply aS|apply nS|apply dS));exact Kd.S_mono HO_4.out (fun _ hk=>⟨trivial,hk⟩)) hg hat);have n1_:=mk0 (blk_grown (g:=gb164) (o:=.cells #[.int .i64 a0_0,.slice A0_1 l0_1.length c0_1,.slice A0_2 l0_2.length c0_2] 30 (0,0)) (by (with_reducible repeat (first|apply nB|apply dB|apply aB));exact BK164.out) hg (Kd.R_ne HO_3.out BK164.out (by decide)));have n2_:=mk0 (hb);have n3_:=mk0 (ho);clear HO_4 BK164 HB HO_3;have HO_4:=n0_;have BK164:=n1_;have HB:=n2_;have HO180:=n3_;clear n0_ n1_ n2_ n3_ ho hb hg hat))
        go_roundg k3
        case measure=>have:=HK1.out;have:=HK2.out;have:=HK3.out;omega
        case rel=>exact⟨(y178),(wrap64 (x6_2 + 1)),(by first|rfl|(simp;done)|(simp [*];done)),H',⟨by have:=HK1.out;have:=HK2.out;have:=HK3.out;omega⟩,⟨by (with_reducible repeat (first|apply aR|apply nR|apply dR));exact HO180.out⟩,⟨by (with_reducible repeat (first|apply aS|apply nS|apply dS));exact Kd.S_mono HO_4.out (fun _ hk=>hk.2)⟩,⟨by (with_reducible repeat (first|apply nB|apply dB|apply aB));exact BK164.out⟩,⟨by repeat (first|(with_reducible first|exact HB.out|apply aZ|apply nZ|apply dZ|refine sZ ?_ GE164.out)|exact HB.out)⟩⟩
       rw [if_pos c18] at H
       have c18b0:decide (x9_3 < 9) = true:=decide_eq_true c18
       clear c18
       by_cases c19:0 ≤ x9_3
       rotate_left
       ·rw [if_neg c19] at H
        exact absurd H (by simp)
       rw [if_pos c19] at H
       have c19b0:decide (0 ≤ x9_3) = true:=decide_eq_true c19
       clear c19
       by_cases c20:x9_3 < (x4_1.length:Int)
       rotate_left
       ·rw [if_neg c20] at H
        exact absurd H (by simp)
       rw [if_pos c20] at H
       have c20b0:decide (x9_3 < (x4_1.length:Int)) = true:=decide_eq_true c20
       (try simp only [hl171_1] at c20b0)
       (try simp only [hl181_0] at c20b0)
       (try simp only [hl183_0] at c20b0)
       (try simp only [hl185_0] at c20b0)
       clear c20
       by_cases c21:0 ≤ x7_3
       rotate_left
       ·rw [if_neg c21] at H
        exact absurd H (by simp)
       rw [if_pos c21] at H
       have c21b0:decide (0 ≤ x7_3) = true:=decide_eq_true c21
       clear c21
       by_cases c22:x7_3 < ((rd_L5 x4_1 x9_3).length:Int)
       rotate_left
       ·rw [if_neg c22] at H
        exact absurd H (by simp)
       rw [if_pos c22] at H
       have c22b0:decide (x7_3 < ((rd_L5 x4_1 x9_3).length:Int)) = true:=decide_eq_true c22
       (try simp only [hl171_1] at c22b0)
       (try simp only [hl181_0] at c22b0)
       (try simp only [hl183_0] at c22b0)
       (try simp only [hl185_0] at c22b0)
       clear c22
       have H':=mk0 H
       clear H
       obtain⟨Ao23,co23,eo23⟩:=Kd.S_slice HO_4.out
       subst eo23
       have p181:0 ≤ (x9_3:Int):=of_decide_eq_true (by first|(with_reducible assumption)|assumption)
       have q181:x9_3 < (x4_1.length:Int):=of_decide_eq_true (by first|(with_reducible assumption)|assumption)
       obtain⟨ad181,A181_0,c181_0,e181,hx181_0,hl181_0,hi181_0⟩:=at_L5 (Kd.S_reads' HO_4.out).2.2 x9_3 p181 q181
       cases e181
       obtain⟨ce181,hce181,hMe181,hcc181⟩:=Kd.S_get HO_4.out [] x9_3 p181 (by first|exact q181|exact of_decide_eq_true (by first|(with_reducible assumption)|assumption)|(have e_:=(Kd.S_reads' HO_4.out).1;omega))
       obtain⟨ve181_0,rfl,ge181_0⟩:=hMe181
       have hv181_0:=hcc181 0 _ rfl
       rw [Nat.add_zero,show ((Kd.slice 3 (Kd.int .i64))).sz = 1 from rfl,Nat.mul_one] at hv181_0
       replace hv181_0:=Option.some.inj (hv181_0.symm.trans hx181_0)
       rw [hv181_0] at ge181_0
       have HL181_0:=mk0 (show Kd.R (Kd.int .i64) 3 _ _ _ _ (rd_L5 x4_1 x9_3) from ge181_0)
       clear hv181_0 ge181_0
       clear hcc181 hce181
       have HR181_0:=mk0 hi181_0
       have HC181_0:=mk0 hl181_0
       clear hi181_0 hl181_0
       replace p181:=eq_true p181
       replace q181:=eq_true q181
       have p182:0 ≤ (x7_3:Int):=of_decide_eq_true (by first|(with_reducible assumption)|assumption)
       have q182:x7_3 < ((rd_L5 x4_1 x9_3).length:Int):=of_decide_eq_true (by first|(with_reducible assumption)|assumption)
       obtain⟨ad182,e182,hx182_0⟩:=Kd.at_int (by repeat (first|(with_reducible exact HR181_0.out)|(with_reducible first|apply aC|apply nC|apply dC)|exact HR181_0.out)) x7_3 p182 q182
       cases e182
       replace p182:=eq_true p182
       replace q182:=eq_true q182
       go_wp2
       go_loopg [11,12,13] k3 (fun kq v11 v12 v13 w'=>∃ (x11_4:Int) (x12_4:Int) (x13_4:Int),v11 = .int .i64 x11_4 ∧ v12 = .int .i64 x12_4 ∧ v13 = .int .i64 x13_4 ∧ Aside0 (spec_l07List.l3 kq x3_2 x4_1 x6_2 x7_3 x8_3 x9_3 (rd (rd_L5 x4_1 x9_3) x7_3) x11_4 x12_4 x13_4 a0_0 l0_1 l0_2 = some r) ∧ Aside0 (kq ≤ k3) ∧ Aside0 (Kd.R (Kd.int .i64) 3 w' w.heap.size (fun _=>True) u3 x3_2) ∧ Aside0 (Kd.S (Kd.slice 3 (Kd.int .i64)) 22 w' w.heap.size (fun k_=>some k_ ≠ (u3:Value).ownBlock) (.slice (some ad181) x4_1.length co23) x4_1) ∧ Aside0 (w'.heap[gb164]? = some (.cells #[.int .i64 a0_0,(.slice A0_1 l0_1.length c0_1),(.slice A0_2 l0_2.length c0_2)] 30 (0,0))) ∧ Aside0 (Kd.C (Kd.int .i64) w' (some ad182) (rd_L5 x4_1 x9_3).length (rd_L5 x4_1 x9_3)) ∧ Aside0 (Below w.heap.size w w'))
       case atStart=>exact⟨(0),(0),(0),(by first|rfl|(simp;done)|(simp [*];done)),(by first|rfl|(simp;done)|(simp [*];done)),(by first|rfl|(simp;done)|(simp [*];done)),H',⟨Nat.le_refl _⟩,⟨by (with_reducible repeat (first|apply aR|apply nR|apply dR));exact HO_3.out⟩,⟨by (with_reducible repeat (first|apply aS|apply nS|apply dS));exact HO_4.out⟩,⟨by (with_reducible repeat (first|apply nB|apply dB|apply aB));exact BK164.out⟩,⟨by repeat (first|(with_reducible exact HR181_0.out)|(with_reducible first|apply aC|apply nC|apply dC)|exact HR181_0.out)⟩,⟨by repeat (first|(with_reducible first|exact HB.out|apply aZ|apply nZ|apply dZ|refine sZ ?_ GE164.out)|exact HB.out)⟩⟩
       case round =>
        clear H'
        try clear c1
        try clear p1
        try clear q1
        try clear hx1
        try clear c2
        try clear p2
        try clear c3
        try clear c6
        try clear p6
        try clear c7
        try clear c7b0
        try clear c8
        try clear c8b0
        try clear c9
        try clear c9b0
        try clear c11
        try clear c16
        try clear c16b0
        try clear c17
        try clear p17
        try clear q17
        try clear hx17
        try clear c18
        try clear c18b0
        try clear p18
        try clear q18
        try clear hx18
        try clear c19
        try clear c19b0
        try clear c20
        try clear c20b0
        try clear c21
        try clear c21b0
        try clear c22
        try clear c22b0
        try clear hcz12_0
        try clear hcz12_1
        try clear hcz12_2
        try clear hcz17_0
        try clear hcz17_1
        try clear hcz17_2
        try clear hfz12_0
        try clear hfz12_1
        try clear hfz12_2
        try clear hfz17_0
        try clear hfz17_1
        try clear hfz17_2
        try clear hx171_0
        try clear hx171_1
        try clear hx181_0
        try clear hx182_0
        try clear p1
        try clear p17
        try clear p171
        try clear p181
        try clear p182
        try clear p2
        try clear p6
        try clear q1
        try clear q17
        try clear q171
        try clear q181
        try clear q182
        obtain⟨x11_4,x12_4,x13_4,rfl,rfl,rfl,HA,HK4,HO_3,HO_4,BK164,HR181_0,HB⟩:=hrel
        cases gk with
        | zero=>exact absurd HA.out (by simp [spec_l07List.l3])
        | succ k4 =>
         have H:=HA.out
         clear HA
         simp only [spec_l07List.l3] at H
         by_cases c24:x13_4 < a0_0
         rotate_left
         ·rw [if_neg c24] at H
          have c24b0:decide (x13_4 < a0_0) = false:=decide_eq_false c24
          clear c24
          by_cases c38:(rd (rd_L5 x4_1 x9_3) x7_3) = 1
          rotate_left
          ·rw [if_neg c38] at H
           have c38b0:((rd (rd_L5 x4_1 x9_3) x7_3) == 1) = false:=beq_eq_false_iff_ne.mpr c38
           have c38b1:((rd (rd_L5 x4_1 x9_3) x7_3) != 1) = true:=bne_iff_ne.mpr c38
           have H':=mk0 H
           clear H
           have hcz40_0:wr.cell? ⟨gb164,0,none⟩ = some (.int .i64 a0_0):=(blk_cell BK164.out 0).trans rfl
           have hcz40_1:wr.cell? ⟨gb164,1,none⟩ = some (.slice A0_1 l0_1.length c0_1):=(blk_cell BK164.out 1).trans rfl
           have hcz40_2:wr.cell? ⟨gb164,2,none⟩ = some (.slice A0_2 l0_2.length c0_2):=(blk_cell BK164.out 2).trans rfl
           have hfz40_0:=blk_frozen BK164.out 0
           have hfz40_1:=blk_frozen BK164.out 1
           have hfz40_2:=blk_frozen BK164.out 2
           go_wp2
           go_roundg k4
           case measure=>have:=HK1.out;have:=HK2.out;have:=HK3.out;have:=HK4.out;omega
           case rel=>exact⟨(x11_4),(wrap64 ((wrap64 (2 * x8_3)) + (rd (rd_L5 x4_1 x9_3) x7_3))),(wrap64 (x9_3 + 1)),(by first|rfl|(simp;done)|(simp [*];done)),(by first|rfl|(simp;done)|(simp [*];done)),(by first|rfl|(simp;done)|(simp [*];done)),H',⟨by have:=HK1.out;have:=HK2.out;have:=HK3.out;have:=HK4.out;omega⟩,⟨by (with_reducible repeat (first|apply aR|apply nR|apply dR));exact HO_3.out⟩,⟨by (with_reducible repeat (first|apply aS|apply nS|apply dS));exact HO_4.out⟩,⟨by (with_reducible repeat (first|apply nB|apply dB|apply aB));exact BK164.out⟩,⟨by repeat (first|(with_reducible first|exact HB.out|apply aZ|apply nZ|apply dZ|refine sZ ?_ GE164.out)|exact HB.out)⟩⟩
          rw [if_pos c38] at H
          have c38b0:((rd (rd_L5 x4_1 x9_3) x7_3) == 1) = true:=beq_iff_eq.mpr c38
          have c38b1:((rd (rd_L5 x4_1 x9_3) x7_3) != 1) = false:=bne_eq_false_iff_eq.mpr c38
          clear c38
          have H':=mk0 H
          clear H
          have hcz39_0:wr.cell? ⟨gb164,0,none⟩ = some (.int .i64 a0_0):=(blk_cell BK164.out 0).trans rfl
          have hcz39_1:wr.cell? ⟨gb164,1,none⟩ = some (.slice A0_1 l0_1.length c0_1):=(blk_cell BK164.out 1).trans rfl
          have hcz39_2:wr.cell? ⟨gb164,2,none⟩ = some (.slice A0_2 l0_2.length c0_2):=(blk_cell BK164.out 2).trans rfl
          have hfz39_0:=blk_frozen BK164.out 0
          have hfz39_1:=blk_frozen BK164.out 1
          have hfz39_2:=blk_frozen BK164.out 2
          go_wp2
          go_roundg k4
          case measure=>have:=HK1.out;have:=HK2.out;have:=HK3.out;have:=HK4.out;omega
          case rel=>exact⟨(wrap64 (x12_4 + x11_4)),(wrap64 ((wrap64 (2 * x8_3)) + (rd (rd_L5 x4_1 x9_3) x7_3))),(wrap64 (x9_3 + 1)),(by first|rfl|(simp;done)|(simp [*];done)),(by first|rfl|(simp;done)|(simp [*];done)),(by first|rfl|(simp;done)|(simp [*];done)),H',⟨by have:=HK1.out;have:=HK2.out;have:=HK3.out;have:=HK4.out;omega⟩,⟨by (with_reducible repeat (first|apply aR|apply nR|apply dR));exact HO_3.out⟩,⟨by (with_reducible repeat (first|apply aS|apply nS|apply dS));exact HO_4.out⟩,⟨by (with_reducible repeat (first|apply nB|apply dB|apply aB));exact BK164.out⟩,⟨by repeat (first|(with_reducible first|exact HB.out|apply aZ|apply nZ|apply dZ|refine sZ ?_ GE164.out)|exact HB.out)⟩⟩
         rw [if_pos c24] at H
         have c24b0:decide (x13_4 < a0_0) = true:=decide_eq_true c24
         clear c24
         by_cases c25:0 ≤ x9_3
         rotate_left
         ·rw [if_neg c25] at H
          exact absurd H (by simp)
         rw [if_pos c25] at H
         have c25b0:decide (0 ≤ x9_3) = true:=decide_eq_true c25
         clear c25
         by_cases c26:x9_3 < (x4_1.length:Int)
         rotate_left
         ·rw [if_neg c26] at H
          exact absurd H (by simp)
         rw [if_pos c26] at H
         have c26b0:decide (x9_3 < (x4_1.length:Int)) = true:=decide_eq_true c26
         (try simp only [hl171_1] at c26b0)
         (try simp only [hl181_0] at c26b0)
         (try simp only [hl183_0] at c26b0)
         (try simp only [hl185_0] at c26b0)
         clear c26
         by_cases c27:0 ≤ x13_4
         rotate_left
         ·rw [if_neg c27] at H
          exact absurd H (by simp)
         rw [if_pos c27] at H
         have c27b0:decide (0 ≤ x13_4) = true:=decide_eq_true c27
         clear c27
         by_cases c28:x13_4 < ((rd_L5 x4_1 x9_3).length:Int)
         rotate_left
         ·rw [if_neg c28] at H
          exact absurd H (by simp)
         rw [if_pos c28] at H
         have c28b0:decide (x13_4 < ((rd_L5 x4_1 x9_3).length:Int)) = true:=decide_eq_true c28
         (try simp only [hl171_1] at c28b0)
         (try simp only [hl181_0] at c28b0)
         (try simp only [hl183_0] at c28b0)
         (try simp only [hl185_0] at c28b0)
         clear c28
         have HC29:=mk0 H
         clear H
         have hcz30_0:wr.cell? ⟨gb164,0,none⟩ = some (.int .i64 a0_0):=(blk_cell BK164.out 0).trans rfl
         have hcz30_1:wr.cell? ⟨gb164,1,none⟩ = some (.slice A0_1 l0_1.length c0_1):=(blk_cell BK164.out 1).trans rfl
         have hcz30_2:wr.cell? ⟨gb164,2,none⟩ = some (.slice A0_2 l0_2.length c0_2):=(blk_cell BK164.out 2).trans rfl
         have hfz30_0:=blk_frozen BK164.out 0
         have hfz30_1:=blk_frozen BK164.out 1
         have hfz30_2:=blk_frozen BK164.out 2
         have p183:0 ≤ (x9_3:Int):=of_decide_eq_true (by first|(with_reducible assumption)|assumption)
         have q183:x9_3 < (x4_1.length:Int):=of_decide_eq_true (by first|(with_reducible assumption)|assumption)
         obtain⟨ad183,A183_0,c183_0,e183,hx183_0,hl183_0,hi183_0⟩:=at_L5 (Kd.S_reads' HO_4.out).2.2 x9_3 p183 q183
         obtain rfl:ad181 = ad183:=(by injection e183)
         obtain⟨ce183,hce183,hMe183,hcc183⟩:=Kd.S_get HO_4.out [] x9_3 p183 (by first|exact q183|exact of_decide_eq_true (by first|(with_reducible assumption)|assumption)|(have e_:=(Kd.S_reads' HO_4.out).1;omega))
         obtain⟨ve183_0,rfl,ge183_0⟩:=hMe183
         have hv183_0:=hcc183 0 _ rfl
         rw [Nat.add_zero,show ((Kd.slice 3 (Kd.int .i64))).sz = 1 from rfl,Nat.mul_one] at hv183_0
         replace hv183_0:=Option.some.inj (hv183_0.symm.trans hx183_0)
         rw [hv183_0] at ge183_0
         have HL183_0:=mk0 (show Kd.R (Kd.int .i64) 3 _ _ _ _ (rd_L5 x4_1 x9_3) from ge183_0)
         clear hv183_0 ge183_0
         clear hcc183 hce183
         have HR183_0:=mk0 hi183_0
         have HC183_0:=mk0 hl183_0
         clear hi183_0 hl183_0
         replace p183:=eq_true p183
         replace q183:=eq_true q183
         have p184:0 ≤ (x13_4:Int):=of_decide_eq_true (by first|(with_reducible assumption)|assumption)
         have q184:x13_4 < ((rd_L5 x4_1 x9_3).length:Int):=of_decide_eq_true (by first|(with_reducible assumption)|assumption)
         obtain⟨ad184,e184,hx184_0⟩:=Kd.at_int (by repeat (first|(with_reducible exact HR183_0.out)|(with_reducible first|apply aC|apply nC|apply dC)|exact HR183_0.out)) x13_4 p184 q184
         cases e184
         replace p184:=eq_true p184
         replace q184:=eq_true q184
         go_upto_if 60 with (fail)
         go_cut [12] (fun v12 wc=>∃ (kq:Nat) (x12_28:Int),v12 = .int .i64 x12_28 ∧ Aside0 (spec_l07List.j4 kq x3_2 x4_1 x6_2 x7_3 x8_3 x9_3 (rd (rd_L5 x4_1 x9_3) x7_3) x11_4 x12_28 x13_4 a0_0 l0_1 l0_2 = some r) ∧ Aside0 (kq ≤ k4) ∧ Aside0 (Kd.R (Kd.int .i64) 3 wc w.heap.size (fun _=>True) u3 x3_2) ∧ Aside0 (Kd.S (Kd.slice 3 (Kd.int .i64)) 22 wc w.heap.size (fun k_=>some k_ ≠ (u3:Value).ownBlock) (.slice (some ad181) x4_1.length co23) x4_1) ∧ Aside0 (wc.heap[gb164]? = some (.cells #[.int .i64 a0_0,(.slice A0_1 l0_1.length c0_1),(.slice A0_2 l0_2.length c0_2)] 30 (0,0))) ∧ Aside0 (Kd.C (Kd.int .i64) wc (some ad182) (rd_L5 x4_1 x9_3).length (rd_L5 x4_1 x9_3)) ∧ Aside0 (Kd.C (Kd.int .i64) wc (some ad184) (rd_L5 x4_1 x9_3).length (rd_L5 x4_1 x9_3)) ∧ Aside0 (Below w.heap.size w wc))
         case first =>
          have H:=HC29.out
          clear HC29
          by_cases c31:(rd (rd_L5 x4_1 x9_3) x13_4) = 0
          rotate_left
          ·rw [if_neg c31] at H
           have c31b0:((rd (rd_L5 x4_1 x9_3) x13_4) == 0) = false:=beq_eq_false_iff_ne.mpr c31
           have c31b1:((rd (rd_L5 x4_1 x9_3) x13_4) != 0) = true:=bne_iff_ne.mpr c31
           (first|rw [c31b0]|(simp only [i64_w,i32_w];rw [c31b0])|skip)
           have H':=mk0 H
           clear H
           go_wp2
           go_meet
           case rel=>exact⟨_,(x12_4),(by first|rfl|(simp;done)|(simp [*];done)),H',⟨by have:=HK1.out;have:=HK2.out;have:=HK3.out;have:=HK4.out;first|omega|exact Nat.le_refl _⟩,⟨by (with_reducible repeat (first|apply aR|apply nR|apply dR));exact HO_3.out⟩,⟨by (with_reducible repeat (first|apply aS|apply nS|apply dS));exact HO_4.out⟩,⟨by (with_reducible repeat (first|apply nB|apply dB|apply aB));exact BK164.out⟩,⟨by repeat (first|(with_reducible exact HR181_0.out)|(with_reducible first|apply aC|apply nC|apply dC)|exact HR181_0.out)⟩,⟨by repeat (first|(with_reducible exact HR183_0.out)|(with_reducible first|apply aC|apply nC|apply dC)|exact HR183_0.out)⟩,⟨by repeat (first|(with_reducible first|exact HB.out|apply aZ|apply nZ|apply dZ|refine sZ ?_ GE164.out)|exact HB.out)⟩⟩
          rw [if_pos c31] at H
          have c31b0:((rd (rd_L5 x4_1 x9_3) x13_4) == 0) = true:=beq_iff_eq.mpr c31
          have c31b1:((rd (rd_L5 x4_1 x9_3) x13_4) != 0) = false:=bne_eq_false_iff_eq.mpr c31
          clear c31
          (first|rw [c31b0]|(simp only [i64_w,i32_w];rw [c31b0])|skip)
          have H':=mk0 H
          clear H
          go_wp2
          go_meet
          case rel=>exact⟨_,(wrap64 (x12_4 + 1)),(by first|rfl|(simp;done)|(simp [*];done)),H',⟨by have:=HK1.out;have:=HK2.out;have:=HK3.out;have:=HK4.out;first|omega|exact Nat.le_refl _⟩,⟨by (with_reducible repeat (first|apply aR|apply nR|apply dR));exact HO_3.out⟩,⟨by (with_reducible repeat (first|apply aS|apply nS|apply dS));exact HO_4.out⟩,⟨by (with_reducible repeat (first|apply nB|apply dB|apply aB));exact BK164.out⟩,⟨by repeat (first|(with_reducible exact HR181_0.out)|(with_reducible first|apply aC|apply nC|apply dC)|exact HR181_0.out)⟩,⟨by repeat (first|(with_reducible exact HR183_0.out)|(with_reducible first|apply aC|apply nC|apply dC)|exact HR183_0.out)⟩,⟨by repeat (first|(with_reducible first|exact HB.out|apply aZ|apply nZ|apply dZ|refine sZ ?_ GE164.out)|exact HB.out)⟩⟩
         case rest =>
          clear HC29
          try clear c1
          try clear p1
          try clear q1
          try clear hx1
          try clear c2
          try clear p2
          try clear c3
          try clear c6
          try clear p6
          try clear c7
          try clear c7b0
          try clear c8
          try clear c8b0
          try clear c9
          try clear c9b0
          try clear c11
          try clear c16
          try clear c16b0
          try clear c17
          try clear p17
          try clear q17
          try clear hx17
          try clear c18
          try clear c18b0
          try clear p18
          try clear q18
          try clear hx18
          try clear c19
          try clear c19b0
          try clear c20
          try clear c20b0
          try clear c21
          try clear c21b0
          try clear c22
          try clear c22b0
          try clear c24
          try clear c24b0
          try clear c25
          try clear c25b0
          try clear c26
          try clear c26b0
          try clear c27
          try clear c27b0
          try clear c28
          try clear c28b0
          try clear c31
          try clear c31b0
          try clear c31b1
          try clear hcz12_0
          try clear hcz12_1
          try clear hcz12_2
          try clear hcz17_0
          try clear hcz17_1
          try clear hcz17_2
          try clear hcz30_0
          try clear hcz30_1
          try clear hcz30_2
          try clear hfz12_0
          try clear hfz12_1
          try clear hfz12_2
          try clear hfz17_0
          try clear hfz17_1
          try clear hfz17_2
          try clear hfz30_0
          try clear hfz30_1
          try clear hfz30_2
          try clear hx171_0
          try clear hx171_1
          try clear hx181_0
          try clear hx182_0
          try clear hx183_0
          try clear hx184_0
          try clear p1
          try clear p17
          try clear p171
          try clear p18
          try clear p181
          try clear p182
          try clear p183
          try clear p184
          try clear p2
          try clear p6
          try clear q1
          try clear q17
          try clear q171
          try clear q18
          try clear q181
          try clear q182
          try clear q183
          try clear q184
          obtain⟨kq,x12_28,rfl,HA,HJ28,HO_3,HO_4,BK164,HR181_0,HR183_0,HB⟩:=hcut
          cases kq with
          | zero=>exact absurd HA.out (by simp [spec_l07List.j4])
          | succ kj28 =>
           have H:=HA.out
           clear HA
           simp only [spec_l07List.j4] at H
           by_cases c32:x13_4 < x7_3
           rotate_left
           ·rw [if_neg c32] at H
            have c32b0:decide (x13_4 < x7_3) = false:=decide_eq_false c32
            clear c32
            have H':=mk0 H
            clear H
            go_wp2
            go_roundg kj28
            case measure=>have:=HK1.out;have:=HK2.out;have:=HK3.out;have:=HK4.out;have:=HJ28.out;omega
            case rel=>exact⟨(x11_4),(x12_28),(wrap64 (x13_4 + 1)),(by first|rfl|(simp;done)|(simp [*];done)),(by first|rfl|(simp;done)|(simp [*];done)),(by first|rfl|(simp;done)|(simp [*];done)),H',⟨by have:=HK1.out;have:=HK2.out;have:=HK3.out;have:=HK4.out;have:=HJ28.out;omega⟩,⟨by (with_reducible repeat (first|apply aR|apply nR|apply dR));exact HO_3.out⟩,⟨by (with_reducible repeat (first|apply aS|apply nS|apply dS));exact HO_4.out⟩,⟨by (with_reducible repeat (first|apply nB|apply dB|apply aB));exact BK164.out⟩,⟨by repeat (first|(with_reducible exact HR181_0.out)|(with_reducible first|apply aC|apply nC|apply dC)|exact HR181_0.out)⟩,⟨by repeat (first|(with_reducible first|exact HB.out|apply aZ|apply nZ|apply dZ|refine sZ ?_ GE164.out)|exact HB.out)⟩⟩
           rw [if_pos c32] at H
           have c32b0:decide (x13_4 < x7_3) = true:=decide_eq_true c32
           clear c32
           by_cases c33:0 ≤ x9_3
           rotate_left
           ·rw [if_neg c33] at H
            exact absurd H (by simp)
           rw [if_pos c33] at H
           have c33b0:decide (0 ≤ x9_3) = true:=decide_eq_true c33
           clear c33
           by_cases c34:x9_3 < (x4_1.length:Int)
           rotate_left
           ·rw [if_neg c34] at H
            exact absurd H (by simp)
           rw [if_pos c34] at H
           have c34b0:decide (x9_3 < (x4_1.length:Int)) = true:=decide_eq_true c34
           (try simp only [hl171_1] at c34b0)
           (try simp only [hl181_0] at c34b0)
           (try simp only [hl183_0] at c34b0)
           (try simp only [hl185_0] at c34b0)
           clear c34
           by_cases c35:0 ≤ x13_4
           rotate_left
           ·rw [if_neg c35] at H
            exact absurd H (by simp)
           rw [if_pos c35] at H
           have c35b0:decide (0 ≤ x13_4) = true:=decide_eq_true c35
           clear c35
           by_cases c36:x13_4 < ((rd_L5 x4_1 x9_3).length:Int)
           rotate_left
           ·rw [if_neg c36] at H
            exact absurd H (by simp)
           rw [if_pos c36] at H
           have c36b0:decide (x13_4 < ((rd_L5 x4_1 x9_3).length:Int)) = true:=decide_eq_true c36
           (try simp only [hl171_1] at c36b0)
           (try simp only [hl181_0] at c36b0)
           (try simp only [hl183_0] at c36b0)
           (try simp only [hl185_0] at c36b0)
           clear c36
           by_cases c37:(rd (rd_L5 x4_1 x9_3) x13_4) = (rd (rd_L5 x4_1 x9_3) x7_3)
           rotate_left
           ·rw [if_neg c37] at H
            have c37b0:((rd (rd_L5 x4_1 x9_3) x13_4) == (rd (rd_L5 x4_1 x9_3) x7_3)) = false:=beq_eq_false_iff_ne.mpr c37
            have c37b1:((rd (rd_L5 x4_1 x9_3) x13_4) != (rd (rd_L5 x4_1 x9_3) x7_3)) = true:=bne_iff_ne.mpr c37
            have H':=mk0 H
            clear H
            have p185:0 ≤ (x9_3:Int):=of_decide_eq_true (by first|(with_reducible assumption)|assumption)
            have q185:x9_3 < (x4_1.length:Int):=of_decide_eq_true (by first|(with_reducible assumption)|assumption)
            obtain⟨ad185,A185_0,c185_0,e185,hx185_0,hl185_0,hi185_0⟩:=at_L5 (Kd.S_reads' HO_4.out).2.2 x9_3 p185 q185
            obtain rfl:ad181 = ad185:=(by injection e185)
            obtain⟨ce185,hce185,hMe185,hcc185⟩:=Kd.S_get HO_4.out [] x9_3 p185 (by first|exact q185|exact of_decide_eq_true (by first|(with_reducible assumption)|assumption)|(have e_:=(Kd.S_reads' HO_4.out).1;omega))
            obtain⟨ve185_0,rfl,ge185_0⟩:=hMe185
            have hv185_0:=hcc185 0 _ rfl
            rw [Nat.add_zero,show ((Kd.slice 3 (Kd.int .i64))).sz = 1 from rfl,Nat.mul_one] at hv185_0
            replace hv185_0:=Option.some.inj (hv185_0.symm.trans hx185_0)
            rw [hv185_0] at ge185_0
            have HL185_0:=mk0 (show Kd.R (Kd.int .i64) 3 _ _ _ _ (rd_L5 x4_1 x9_3) from ge185_0)
            clear hv185_0 ge185_0
            clear hcc185 hce185
            have HR185_0:=mk0 hi185_0
            have HC185_0:=mk0 hl185_0
            clear hi185_0 hl185_0
            replace p185:=eq_true p185
            replace q185:=eq_true q185
            have p186:0 ≤ (x13_4:Int):=of_decide_eq_true (by first|(with_reducible assumption)|assumption)
            have q186:x13_4 < ((rd_L5 x4_1 x9_3).length:Int):=of_decide_eq_true (by first|(with_reducible assumption)|assumption)
            obtain⟨ad186,e186,hx186_0⟩:=Kd.at_int (by repeat (first|(with_reducible exact HR185_0.out)|(with_reducible first|apply aC|apply nC|apply dC)|exact HR185_0.out)) x13_4 p186 q186
            cases e186
            replace p186:=eq_true p186
            replace q186:=eq_true q186
            go_wp2
            go_roundg kj28
            case measure=>have:=HK1.out;have:=HK2.out;have:=HK3.out;have:=HK4.out;have:=HJ28.out;omega
            case rel=>exact⟨(x11_4),(x12_28),(wrap64 (x13_4 + 1)),(by first|rfl|(simp;done)|(simp [*];done)),(by first|rfl|(simp;done)|(simp [*];done)),(by first|rfl|(simp;done)|(simp [*];done)),H',⟨by have:=HK1.out;have:=HK2.out;have:=HK3.out;have:=HK4.out;have:=HJ28.out;omega⟩,⟨by (with_reducible repeat (first|apply aR|apply nR|apply dR));exact HO_3.out⟩,⟨by (with_reducible repeat (first|apply aS|apply nS|apply dS));exact HO_4.out⟩,⟨by (with_reducible repeat (first|apply nB|apply dB|apply aB));exact BK164.out⟩,⟨by repeat (first|(with_reducible exact HR181_0.out)|(with_reducible first|apply aC|apply nC|apply dC)|exact HR181_0.out)⟩,⟨by repeat (first|(with_reducible first|exact HB.out|apply aZ|apply nZ|apply dZ|refine sZ ?_ GE164.out)|exact HB.out)⟩⟩
           rw [if_pos c37] at H
           have c37b0:((rd (rd_L5 x4_1 x9_3) x13_4) == (rd (rd_L5 x4_1 x9_3) x7_3)) = true:=beq_iff_eq.mpr c37
           have c37b1:((rd (rd_L5 x4_1 x9_3) x13_4) != (rd (rd_L5 x4_1 x9_3) x7_3)) = false:=bne_eq_false_iff_eq.mpr c37
           clear c37
           have H':=mk0 H
           clear H
           have p185:0 ≤ (x9_3:Int):=of_decide_eq_true (by first|(with_reducible assumption)|assumption)
           have q185:x9_3 < (x4_1.length:Int):=of_decide_eq_true (by first|(with_reducible assumption)|assumption)
           obtain⟨ad185,A185_0,c185_0,e185,hx185_0,hl185_0,hi185_0⟩:=at_L5 (Kd.S_reads' HO_4.out).2.2 x9_3 p185 q185
           obtain rfl:ad181 = ad185:=(by injection e185)
           obtain⟨ce185,hce185,hMe185,hcc185⟩:=Kd.S_get HO_4.out [] x9_3 p185 (by first|exact q185|exact of_decide_eq_true (by first|(with_reducible assumption)|assumption)|(have e_:=(Kd.S_reads' HO_4.out).1;omega))
           obtain⟨ve185_0,rfl,ge185_0⟩:=hMe185
           have hv185_0:=hcc185 0 _ rfl
           rw [Nat.add_zero,show ((Kd.slice 3 (Kd.int .i64))).sz = 1 from rfl,Nat.mul_one] at hv185_0
           replace hv185_0:=Option.some.inj (hv185_0.symm.trans hx185_0)
           rw [hv185_0] at ge185_0
           have HL185_0:=mk0 (show Kd.R (Kd.int .i64) 3 _ _ _ _ (rd_L5 x4_1 x9_3) from ge185_0)
           clear hv185_0 ge185_0
           clear hcc185 hce185
           have HR185_0:=mk0 hi185_0
           have HC185_0:=mk0 hl185_0
           clear hi185_0 hl185_0
           replace p185:=eq_true p185
           replace q185:=eq_true q185
           have p186:0 ≤ (x13_4:Int):=of_decide_eq_true (by first|(with_reducible assumption)|assumption)
           have q186:x13_4 < ((rd_L5 x4_1 x9_3).length:Int):=of_decide_eq_true (by first|(with_reducible assumption)|assumption)
           obtain⟨ad186,e186,hx186_0⟩:=Kd.at_int (by repeat (first|(with_reducible exact HR185_0.out)|(with_reducible first|apply aC|apply nC|apply dC)|exact HR185_0.out)) x13_4 p186 q186
           cases e186
           replace p186:=eq_true p186
           replace q186:=eq_true q186
           go_wp2
           go_roundg kj28
           case measure=>have:=HK1.out;have:=HK2.out;have:=HK3.out;have:=HK4.out;have:=HJ28.out;omega
           case rel=>exact⟨(wrap64 (x11_4 + 1)),(x12_28),(wrap64 (x13_4 + 1)),(by first|rfl|(simp;done)|(simp [*];done)),(by first|rfl|(simp;done)|(simp [*];done)),(by first|rfl|(simp;done)|(simp [*];done)),H',⟨by have:=HK1.out;have:=HK2.out;have:=HK3.out;have:=HK4.out;have:=HJ28.out;omega⟩,⟨by (with_reducible repeat (first|apply aR|apply nR|apply dR));exact HO_3.out⟩,⟨by (with_reducible repeat (first|apply aS|apply nS|apply dS));exact HO_4.out⟩,⟨by (with_reducible repeat (first|apply nB|apply dB|apply aB));exact BK164.out⟩,⟨by repeat (first|(with_reducible exact HR181_0.out)|(with_reducible first|apply aC|apply nC|apply dC)|exact HR181_0.out)⟩,⟨by repeat (first|(with_reducible first|exact HB.out|apply aZ|apply nZ|apply dZ|refine sZ ?_ GE164.out)|exact HB.out)⟩⟩
/-! ### spec_l01Power: function 69 -/
def spec_l01Power.l0 : Nat → Int → Int → Option (Int)
 | 0, _, _ => none
 | k + 1, x0, x3 => if x0 > 0 then (spec_l01Power.l0 k (wrap64 (x0 - 1)) (IntKind.u64.wrap (2 * x3))) else (some x3)
def spec_l01Power.f (k : Nat) (a0 : Int) : Option (Int) := spec_l01Power.l0 k a0 1
theorem spec_l01Power.mono_l : ∀ k, (∀ y0 y1, LeO (spec_l01Power.l0 k y0 y1) (spec_l01Power.l0 (k + 1) y0 y1))
 | 0 => fun _ _ r h => by simp [spec_l01Power.l0] at h
 | k + 1 => by
  have ih0 := spec_l01Power.mono_l k
  ·intro y0 y1
   unfold spec_l01Power.l0
   repeat' first|(with_reducible first|exact ih0 _ _|exact LeO.refl _|exact LeO.none _|refine LeO.ite ?_ ?_|refine LeO.bind ?_ (fun _ => ?_))|exact LeO.none _|refine LeO.ite ?_ ?_|refine LeO.bind ?_ (fun _ => ?_)
theorem spec_l01Power.mono : ∀ a0 k, LeO (spec_l01Power.f k a0) (spec_l01Power.f (k + 1) a0) := by
 intro a0 k
 have ih0 := spec_l01Power.mono_l k
 unfold spec_l01Power.f
 repeat' first|(with_reducible first|exact ih0 _ _|exact LeO.refl _|exact LeO.none _|refine LeO.ite ?_ ?_|refine LeO.bind ?_ (fun _ => ?_))|exact LeO.none _|refine LeO.ite ?_ ?_|refine LeO.bind ?_ (fun _ => ?_)
set_option maxHeartbeats 8000000 in
set_option maxRecDepth 100000 in
theorem spec_l01Power.calls (k : Nat) (a0 : Int) (r : Int) (w : World) (h : spec_l01Power.f k a0 = some r) :
  Calls Try.prog 69 #[.int .i64 a0] w fun e w' => e = .returned (.int .u64 r) ∧ Drawn0 w w' := by
 have H:(spec_l01Power.l0 k a0 1) = some r:=h
 clear h
 have H':=mk0 H
 clear H
 go_enter Try.func69,Try.ntmps69
 go_wp2
 go_loopg [0,3] k (fun kq v0 v3 w'=>∃ (x0_1:Int) (x3_1:Int),v0 = .int .i64 x0_1 ∧ v3 = .int .u64 x3_1 ∧ Aside0 (spec_l01Power.l0 kq x0_1 x3_1 = some r) ∧ Aside0 (kq ≤ k) ∧ Drawn0 w w')
 case atStart=>exact⟨(a0),(1),(by first|rfl|(simp;done)|(simp [*];done)),(by first|rfl|(simp;done)|(simp [*];done)),H',⟨Nat.le_refl _⟩,by repeat (first|exact Drawn0.refl _|apply Drawn0.step)⟩
 case round =>
  clear H'
  obtain⟨x0_1,x3_1,rfl,rfl,HA,HK1,⟨m1,rfl⟩⟩:=hrel
  cases gk with
  | zero=>exact absurd HA.out (by simp [spec_l01Power.l0])
  | succ k1 =>
   have H:=HA.out
   clear HA
   simp only [spec_l01Power.l0] at H
   by_cases c2:x0_1 > 0
   ·rw [if_pos c2] at H
    have c2b0:decide (0 < x0_1) = true:=decide_eq_true c2
    clear c2
    have H':=mk0 H
    clear H
    go_wp2
    go_roundg k1
    case measure=>have:=HK1.out;omega
    case rel=>exact⟨(wrap64 (x0_1 - 1)),(IntKind.u64.wrap (2 * x3_1)),(by first|rfl|(simp;done)|(simp [*];done)),(by first|rfl|(simp;done)|(simp [*];done)),H',⟨by have:=HK1.out;omega⟩,by repeat (first|exact Drawn0.refl _|apply Drawn0.step)⟩
   ·rw [if_neg c2] at H
    have c2b0:decide (0 < x0_1) = false:=decide_eq_false c2
    clear c2
    obtain rfl:=Option.some.inj H
    go_wp2
    go_ret
    exact⟨by first|rfl|(simp;done)|(simp [*];done),by repeat (first|exact Drawn0.refl _|apply Drawn0.step)⟩

end Go.Proofs.Ytamdhfjnalglfaa.QFnExactWaveLess
