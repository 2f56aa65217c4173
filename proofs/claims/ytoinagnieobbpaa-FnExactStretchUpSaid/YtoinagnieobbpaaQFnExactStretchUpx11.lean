-- A walk, made by walk.py, a program of this session's.
import Derived.Test.YtoinagnieobbpaaQFnExactStretchUpx0
import Derived.Test.YtoinagnieobbpaaQFnExactStretchUpx1
import Derived.Test.YtoinagnieobbpaaQFnExactStretchUpx9
import Derived.Test.YtoinagnieobbpaaQFnExactStretchUpx10
namespace Go.Proofs.Ytoinagnieobbpaa.QFnExactStretchUp
open Go.RowKit Go.Proofs.YtoinagnieobbpaaW.PrintWords Go.Proofs.YtoinagnieobbpaaW.PrintLast Go.Proofs.YtoinagnieobbpaaW.PrintMore
attribute [local go_sem] max2_int min2_int max_two min_two max_three min_three max_four min_four   -- for this text's walks alone
set_option linter.unusedVariables false
set_option linter.unusedSimpArgs false

attribute [local go_sem high] eqA27
/-! ### impl_up: function 55 -/
mutual
def impl_up.l0 : Nat → Bool → List (S27) → Int → Int → Int → Int → Int → Int → Int → Int → Option (Int × Int × Int × Bool)
 | 0, _, _, _, _, _, _, _, _, _, _ => none
 | k + 1, x7, x10, x11, x12, x294000, x294001, x294002, x296000, x296001, x296002 => if x12 < x11 then (if 0 ≤ x12 then (if x12 < (x10.length : Int) then (if (!(((rd_T27 x10 x12).f0) == x294000) || (!(((rd_T27 x10 x12).f1) == x294001) || (!(((rd_T27 x10 x12).f2) == x294002)))) = true then (if ((rd_T27 x10 x12).f0) ≤ x294000 then (if x294001 ≤ ((rd_T27 x10 x12).f1) then (if x7 = true then (impl_up.j1 k x7 x10 x11 x12 (decide ((wrap64 (((rd_T27 x10 x12).f1) - ((rd_T27 x10 x12).f0))) < (wrap64 (x296001 - x296000)))) x294000 x294001 x294002 x296000 x296001 x296002 ((rd_T27 x10 x12).f0) ((rd_T27 x10 x12).f1) ((rd_T27 x10 x12).f2)) else (impl_up.j1 k x7 x10 x11 x12 true x294000 x294001 x294002 x296000 x296001 x296002 ((rd_T27 x10 x12).f0) ((rd_T27 x10 x12).f1) ((rd_T27 x10 x12).f2))) else (impl_up.j1 k x7 x10 x11 x12 false x294000 x294001 x294002 x296000 x296001 x296002 ((rd_T27 x10 x12).f0) ((rd_T27 x10 x12).f1) ((rd_T27 x10 x12).f2))) else (impl_up.j1 k x7 x10 x11 x12 false x294000 x294001 x294002 x296000 x296001 x296002 ((rd_T27 x10 x12).f0) ((rd_T27 x10 x12).f1) ((rd_T27 x10 x12).f2))) else (impl_up.j1 k x7 x10 x11 x12 false x294000 x294001 x294002 x296000 x296001 x296002 ((rd_T27 x10 x12).f0) ((rd_T27 x10 x12).f1) ((rd_T27 x10 x12).f2))) else (none)) else (none)) else (some (x296000, x296001, x296002, x7))
def impl_up.j1 : Nat → Bool → List (S27) → Int → Int → Bool → Int → Int → Int → Int → Int → Int → Int → Int → Int → Option (Int × Int × Int × Bool)
 | 0, _, _, _, _, _, _, _, _, _, _, _, _, _, _ => none
 | k + 1, x7, x10, x11, x12, x49, x294000, x294001, x294002, x296000, x296001, x296002, x298000, x298001, x298002 => if x49 = true then (impl_up.l0 k true x10 x11 (wrap64 (x12 + 1)) x294000 x294001 x294002 x298000 x298001 x298002) else (impl_up.l0 k x7 x10 x11 (wrap64 (x12 + 1)) x294000 x294001 x294002 x296000 x296001 x296002)
end
def impl_up.f (k : Nat) (l0 : List (S27)) (a1_0 : Int) (a1_1 : Int) (a1_2 : Int) : Option (Int × Int × Int × Bool) := impl_up.l0 k false l0 (l0.length : Int) 0 a1_0 a1_1 a1_2 0 0 0
theorem impl_up.mono_l : ∀ k, (∀ y0 y1 y2 y3 y4 y5 y6 y7 y8 y9, LeO (impl_up.l0 k y0 y1 y2 y3 y4 y5 y6 y7 y8 y9) (impl_up.l0 (k + 1) y0 y1 y2 y3 y4 y5 y6 y7 y8 y9)) ∧ (∀ y0 y1 y2 y3 y4 y5 y6 y7 y8 y9 y10 y11 y12 y13, LeO (impl_up.j1 k y0 y1 y2 y3 y4 y5 y6 y7 y8 y9 y10 y11 y12 y13) (impl_up.j1 (k + 1) y0 y1 y2 y3 y4 y5 y6 y7 y8 y9 y10 y11 y12 y13))
 | 0 => ⟨fun _ _ _ _ _ _ _ _ _ _ r h => by simp [impl_up.l0] at h, fun _ _ _ _ _ _ _ _ _ _ _ _ _ _ r h => by simp [impl_up.j1] at h⟩
 | k + 1 => by
  obtain ⟨ih0, ih1⟩ := impl_up.mono_l k
  refine ⟨?_, ?_⟩
  ·intro y0 y1 y2 y3 y4 y5 y6 y7 y8 y9
   unfold impl_up.l0
   repeat' first|(with_reducible first|exact ih0 _ _ _ _ _ _ _ _ _ _|exact ih1 _ _ _ _ _ _ _ _ _ _ _ _ _ _|exact LeO.refl _|exact LeO.none _|refine LeO.ite ?_ ?_|refine LeO.bind ?_ (fun _ => ?_))|exact LeO.none _|refine LeO.ite ?_ ?_|refine LeO.bind ?_ (fun _ => ?_)
  ·intro y0 y1 y2 y3 y4 y5 y6 y7 y8 y9 y10 y11 y12 y13
   unfold impl_up.j1
   repeat' first|(with_reducible first|exact ih0 _ _ _ _ _ _ _ _ _ _|exact ih1 _ _ _ _ _ _ _ _ _ _ _ _ _ _|exact LeO.refl _|exact LeO.none _|refine LeO.ite ?_ ?_|refine LeO.bind ?_ (fun _ => ?_))|exact LeO.none _|refine LeO.ite ?_ ?_|refine LeO.bind ?_ (fun _ => ?_)
theorem impl_up.mono : ∀ a0 a1 a2 a3 k, LeO (impl_up.f k a0 a1 a2 a3) (impl_up.f (k + 1) a0 a1 a2 a3) := by
 intro a0 a1 a2 a3 k
 obtain ⟨ih0, ih1⟩ := impl_up.mono_l k
 unfold impl_up.f
 repeat' first|(with_reducible first|exact ih0 _ _ _ _ _ _ _ _ _ _|exact ih1 _ _ _ _ _ _ _ _ _ _ _ _ _ _|exact LeO.refl _|exact LeO.none _|refine LeO.ite ?_ ?_|refine LeO.bind ?_ (fun _ => ?_))|exact LeO.none _|refine LeO.ite ?_ ?_|refine LeO.bind ?_ (fun _ => ?_)
set_option maxHeartbeats 8000000 in
set_option maxRecDepth 100000 in
theorem impl_up.calls (k : Nat) (A0 : Option Addr) (c0 : Nat) (l0 : List (S27)) (a1_0 : Int) (a1_1 : Int) (a1_2 : Int) (r1 : Int) (r2 : Int) (r3 : Int) (r4 : Bool) (w : World) (hr0 : Kd.C k27 w A0 l0.length l0) (hc0 : l0.length ≤ c0) (h : impl_up.f k l0 a1_0 a1_1 a1_2 = some (r1, r2, r3, r4)) :
  Calls Try.prog 55 #[.slice A0 l0.length c0, .agg #[.int .i64 a1_0, .int .i64 a1_1, .int .i64 a1_2]] w fun e w' => e = .returned (.tuple #[.agg #[.int .i64 r1, .int .i64 r2, .int .i64 r3], .bool r4]) ∧ Below w.heap.size w w' := by
 have hu27:=Try.underlying27
 have HR0:=mk0 hr0
 have HC0:=mk0 hc0
 clear hr0 hc0
 have HB:=mk0 (Below.refl w.heap.size w)
 have H:(impl_up.l0 k false l0 (l0.length:Int) 0 a1_0 a1_1 a1_2 0 0 0) = some (r1,r2,r3,r4):=h
 clear h
 have H':=mk0 H
 clear H
 go_enter Try.func55,Try.ntmps55
 go_wp2_with (first|((with_reducible refine gate_dst (N:=3) rfl ?_);refine box_event ?hg (N:=3) ?hd (cs:=#[.int .i64 a1_0,.int .i64 a1_1,.int .i64 a1_2]) (t:=27) ?hr ?_;(case hd=>rfl);(case hg=>rfl);(case hr=>first|(go_simp;done)|(go_simp;rfl));intro gb293 hg w3 hbox hb;have BK293:=mk0 (hbox);have GW293:=mk0 ((by rw [hg];exact (kZ HB.out):w.heap.size ≤ gb293));have GE293:=mk0 ((by rw [hg];exact (kZ HB.out):w.heap.size ≤ gb293));replace HB:=mk0 (kS HB.out hb);clear hb hbox hg)|((with_reducible refine gate_dst (N:=4) rfl ?_);refine box_event ?hg (N:=4) ?hd (cs:=#[.int .i64 0,.int .i64 0,.int .i64 0]) (t:=27) ?hr ?_;(case hd=>rfl);(case hg=>rfl);(case hr=>first|(go_simp;done)|(go_simp;rfl));intro gb294 hg w4 hbox hb;have BK294:=mk0 (hbox);have GW294:=mk0 ((by rw [hg];exact (kZ HB.out):w.heap.size ≤ gb294));have GE294:=mk0 ((by rw [hg];exact (kZ HB.out):w.heap.size ≤ gb294));replace HB:=mk0 (kS HB.out hb);have NB293_294:=mk0 ((by rw [hg];exact Nat.ne_of_lt (kL BK293.out):gb293 ≠ gb294));have NB294_293:=mk0 ((by rw [hg];exact Nat.ne_of_gt (kL BK293.out):gb294 ≠ gb293));replace BK293:=mk0 (kK BK293.out hb);clear hb hbox hg)|((with_reducible refine gate_dst (N:=6) rfl ?_);refine box_event ?hg (N:=6) ?hd (cs:=#[.int .i64 0,.int .i64 0,.int .i64 0]) (t:=27) ?hr ?_;(case hd=>rfl);(case hg=>rfl);(case hr=>first|(go_simp;done)|(go_simp;rfl));intro gb295 hg w5 hbox hb;have BK295:=mk0 (hbox);have GW295:=mk0 ((by rw [hg];exact (kZ HB.out):w.heap.size ≤ gb295));have GE295:=mk0 ((by rw [hg];exact (kZ HB.out):w.heap.size ≤ gb295));replace HB:=mk0 (kS HB.out hb);have NB293_295:=mk0 ((by rw [hg];exact Nat.ne_of_lt (kL BK293.out):gb293 ≠ gb295));have NB295_293:=mk0 ((by rw [hg];exact Nat.ne_of_gt (kL BK293.out):gb295 ≠ gb293));replace BK293:=mk0 (kK BK293.out hb);have NB294_295:=mk0 ((by rw [hg];exact Nat.ne_of_lt (kL BK294.out):gb294 ≠ gb295));have NB295_294:=mk0 ((by rw [hg];exact Nat.ne_of_gt (kL BK294.out):gb295 ≠ gb294));replace BK294:=mk0 (kK BK294.out hb);clear hb hbox hg))
 go_loopg [7,12] k (fun kq v7 v12 w'=>∃ (x7_1:Bool) (x12_1:Int) (x296000_1:Int) (x296001_1:Int) (x296002_1:Int),v7 = .bool x7_1 ∧ v12 = .int .i64 x12_1 ∧ Aside0 (impl_up.l0 kq x7_1 l0 (l0.length:Int) x12_1 a1_0 a1_1 a1_2 x296000_1 x296001_1 x296002_1 = some (r1,r2,r3,r4)) ∧ Aside0 (kq ≤ k) ∧ Aside0 (w'.heap[gb293]? = some (.cells #[.int .i64 a1_0,.int .i64 a1_1,.int .i64 a1_2] 27 (0,0))) ∧ Aside0 (w'.heap[gb294]? = some (.cells #[.int .i64 0,.int .i64 0,.int .i64 0] 27 (0,0))) ∧ Aside0 (w'.heap[gb295]? = some (.cells #[.int .i64 x296000_1,.int .i64 x296001_1,.int .i64 x296002_1] 27 (0,0))) ∧ Aside0 (Below w.heap.size w w'))
 case atStart=>exact⟨(false),(0),(0),(0),(0),(by first|rfl|(simp;done)|(simp [*];done)),(by first|rfl|(simp;done)|(simp [*];done)),H',⟨Nat.le_refl _⟩,⟨kN BK293.out⟩,⟨kN BK294.out⟩,⟨kN BK295.out⟩,⟨kB HB.out⟩⟩
 case round =>
  clear H'
  try clear p2
  try clear c5
  obtain⟨x7_1,x12_1,x296000_1,x296001_1,x296002_1,rfl,rfl,HA,HK1,BK293,BK294,BK295,HB⟩:=hrel
  cases gk with
  | zero=>exact absurd HA.out (by simp [impl_up.l0])
  | succ k1 =>
   have H:=HA.out
   clear HA
   simp only [impl_up.l0] at H
   by_cases c6:x12_1 < (l0.length:Int)
   rotate_left
   ·rw [if_neg c6] at H
    have c6b0:decide (x12_1 < (l0.length:Int)) = false:=decide_eq_false c6
    clear c6
    simp only [Option.some.injEq,Prod.mk.injEq] at H
    obtain⟨rfl,rfl,rfl,rfl⟩:=H
    have hnb64:=NB295_293.out
    have hnc64:=NB293_295.out
    have hnb65:=NB295_294.out
    have hnc65:=NB294_295.out
    obtain⟨hcz66_0,hcz66_1,hcz66_2,hfz66_0,hfz66_1,hfz66_2⟩:=cz3 BK295.out
    have hnb67:=NB294_293.out
    have hnc67:=NB293_294.out
    obtain⟨hcz68_0,hcz68_1,hcz68_2,hfz68_0,hfz68_1,hfz68_2⟩:=cz3 BK294.out
    go_wp2
    refine bodyPost_ret (results_ct rfl _ _ gb294 27 #[.int .i64 x296000_1,.int .i64 x296001_1,.int .i64 x296002_1] (0,0) _ rfl (by (with_reducible repeat (first|apply nB|apply dB|apply aB));refine blk_put (cs:=#[.int .i64 x296000_1,.int .i64 x296001_1,.int .i64 0]) ?_ 2 _ rfl;(with_reducible repeat (first|apply nB|apply dB|apply aB));refine blk_put (cs:=#[.int .i64 x296000_1,.int .i64 0,.int .i64 0]) ?_ 1 _ rfl;(with_reducible repeat (first|apply nB|apply dB|apply aB));refine blk_put (cs:=#[.int .i64 0,.int .i64 0,.int .i64 0]) ?_ 0 _ rfl;(with_reducible repeat (first|apply nB|apply dB|apply aB));exact BK294.out) Try.underlying27 rfl (by kernel_rfl)) rfl ?_
    exact⟨by first|rfl|(simp [errW_none,errW_some] <;> rfl)|(simp [*,errW_none,errW_some] <;> rfl),kB HB.out⟩

   rw [if_pos c6] at H
   have c6b0:decide (x12_1 < (l0.length:Int)) = true:=decide_eq_true c6
   clear c6
   by_cases c7:0 ≤ x12_1
   rotate_left
   ·rw [if_neg c7] at H
    exact absurd H (by simp)
   rw [if_pos c7] at H
   have c7b0:decide (0 ≤ x12_1) = true:=decide_eq_true c7
   clear c7
   by_cases c8:x12_1 < (l0.length:Int)
   rotate_left
   ·rw [if_neg c8] at H
    exact absurd H (by simp)
   rw [if_pos c8] at H
   have c8b0:decide (x12_1 < (l0.length:Int)) = true:=decide_eq_true c8
   clear c8
   have HC9:=mk0 H
   clear H
   have p296:0 ≤ (x12_1:Int):=of_decide_eq_true (by first|(with_reducible assumption)|assumption)
   have q296:x12_1 < (l0.length:Int):=of_decide_eq_true (by first|(with_reducible assumption)|assumption)
   obtain⟨ad296,e296,hx296_0,hx296_1,hx296_2⟩:=at_T27 HR0.out x12_1 p296 q296
   cases e296
   replace hx296_0:=(HB.out.cell (World.block_lt_of_cell? w _ hx296_0)).trans hx296_0
   replace hx296_1:=(HB.out.cell (World.block_lt_of_cell? w _ hx296_1)).trans hx296_1
   replace hx296_2:=(HB.out.cell (World.block_lt_of_cell? w _ hx296_2)).trans hx296_2
   replace p296:=eq_true p296
   replace q296:=eq_true q296
   go_upto_region 6 with (first|((with_reducible refine gate_dst (N:=9) rfl ?_);refine box_event ?hg (N:=9) ?hd (cs:=#[.int .i64 0,.int .i64 0,.int .i64 0]) (t:=27) ?hr ?_;(case hd=>rfl);(case hg=>rfl);(case hr=>first|(go_simp;done)|(go_simp;rfl));intro gb297 hg w10 hbox hb;have BK297:=mk0 (hbox);have GW297:=mk0 ((by rw [hg];exact (kZ HB.out):w.heap.size ≤ gb297));have GE297:=mk0 ((by rw [hg];exact (kZ HB.out):w.heap.size ≤ gb297));replace HB:=mk0 (kS HB.out hb);have NB293_297:=mk0 ((by rw [hg];exact Nat.ne_of_lt (kL BK293.out):gb293 ≠ gb297));have NB297_293:=mk0 ((by rw [hg];exact Nat.ne_of_gt (kL BK293.out):gb297 ≠ gb293));replace BK293:=mk0 (kK BK293.out hb);have NB294_297:=mk0 ((by rw [hg];exact Nat.ne_of_lt (kL BK294.out):gb294 ≠ gb297));have NB297_294:=mk0 ((by rw [hg];exact Nat.ne_of_gt (kL BK294.out):gb297 ≠ gb294));replace BK294:=mk0 (kK BK294.out hb);have NB295_297:=mk0 ((by rw [hg];exact Nat.ne_of_lt (kL BK295.out):gb295 ≠ gb297));have NB297_295:=mk0 ((by rw [hg];exact Nat.ne_of_gt (kL BK295.out):gb297 ≠ gb295));replace BK295:=mk0 (kK BK295.out hb);clear hb hbox hg;have hnb11:=NB297_293.out;have hnc11:=NB293_297.out;have hnb12:=NB297_294.out;have hnc12:=NB294_297.out;have hnb13:=NB297_295.out;have hnc13:=NB295_297.out;obtain⟨hcz14_0,hcz14_1,hcz14_2,hfz14_0,hfz14_1,hfz14_2⟩:=cz3 BK297.out))
   (try simp only [Act.put,sA,sO,sS])
   go_cut [49] (fun v49 wc=>∃ (kq:Nat) (x49_8:Bool),v49 = .bool x49_8 ∧ Aside0 (impl_up.j1 kq x7_1 l0 (l0.length:Int) x12_1 x49_8 a1_0 a1_1 a1_2 x296000_1 x296001_1 x296002_1 ((rd_T27 l0 x12_1).f0) ((rd_T27 l0 x12_1).f1) ((rd_T27 l0 x12_1).f2) = some (r1,r2,r3,r4)) ∧ Aside0 (kq ≤ k1) ∧ Aside0 (wc.heap[gb293]? = some (.cells #[.int .i64 a1_0,.int .i64 a1_1,.int .i64 a1_2] 27 (0,0))) ∧ Aside0 (wc.heap[gb294]? = some (.cells #[.int .i64 0,.int .i64 0,.int .i64 0] 27 (0,0))) ∧ Aside0 (wc.heap[gb295]? = some (.cells #[.int .i64 x296000_1,.int .i64 x296001_1,.int .i64 x296002_1] 27 (0,0))) ∧ Aside0 (wc.heap[gb297]? = some (.cells #[.int .i64 ((rd_T27 l0 x12_1).f0),.int .i64 ((rd_T27 l0 x12_1).f1),.int .i64 ((rd_T27 l0 x12_1).f2)] 27 (0,0))) ∧ Aside0 (Below w.heap.size w wc))
   case first =>
    have H:=HC9.out
    clear HC9
    by_cases c15:(!(((rd_T27 l0 x12_1).f0) == a1_0) || (!(((rd_T27 l0 x12_1).f1) == a1_1) || (!(((rd_T27 l0 x12_1).f2) == a1_2)))) = true
    rotate_left
    ·rw [if_neg c15] at H
     have c15b0:(!(((rd_T27 l0 x12_1).f0) == a1_0) || (!(((rd_T27 l0 x12_1).f1) == a1_1) || (!(((rd_T27 l0 x12_1).f2) == a1_2)))) = false:=by simpa using c15
     clear c15
     (first|rw [c15b0]|(simp only [i64_w,i32_w];rw [c15b0])|skip)
     have H':=mk0 H
     clear H
     have hnb49:=NB297_293.out
     have hnc49:=NB293_297.out
     have hnb50:=NB297_294.out
     have hnc50:=NB294_297.out
     have hnb51:=NB297_295.out
     have hnc51:=NB295_297.out
     obtain⟨hcz52_0,hcz52_1,hcz52_2,hfz52_0,hfz52_1,hfz52_2⟩:=cz3 BK297.out
     have hnb53:=NB293_294.out
     have hnc53:=NB294_293.out
     have hnb54:=NB293_295.out
     have hnc54:=NB295_293.out
     obtain⟨hcz55_0,hcz55_1,hcz55_2,hfz55_0,hfz55_1,hfz55_2⟩:=cz3 BK293.out
     go_wp2
     go_meet
     case rel=>exact⟨_,(false),(by first|rfl|(simp;done)|(simp [*];done)),H',⟨by have:=HK1.out;first|omega|exact Nat.le_refl _⟩,⟨by (with_reducible repeat (first|apply nB|apply dB|apply aB));refine blk_far ?_ NB293_297.out _;(with_reducible repeat (first|apply nB|apply dB|apply aB));refine blk_far ?_ NB293_297.out _;(with_reducible repeat (first|apply nB|apply dB|apply aB));refine blk_far ?_ NB293_297.out _;(with_reducible repeat (first|apply nB|apply dB|apply aB));exact BK293.out⟩,⟨by (with_reducible repeat (first|apply nB|apply dB|apply aB));refine blk_far ?_ NB294_297.out _;(with_reducible repeat (first|apply nB|apply dB|apply aB));refine blk_far ?_ NB294_297.out _;(with_reducible repeat (first|apply nB|apply dB|apply aB));refine blk_far ?_ NB294_297.out _;(with_reducible repeat (first|apply nB|apply dB|apply aB));exact BK294.out⟩,⟨by (with_reducible repeat (first|apply nB|apply dB|apply aB));refine blk_far ?_ NB295_297.out _;(with_reducible repeat (first|apply nB|apply dB|apply aB));refine blk_far ?_ NB295_297.out _;(with_reducible repeat (first|apply nB|apply dB|apply aB));refine blk_far ?_ NB295_297.out _;(with_reducible repeat (first|apply nB|apply dB|apply aB));exact BK295.out⟩,⟨by (with_reducible repeat (first|apply nB|apply dB|apply aB));refine blk_put (cs:=#[.int .i64 ((rd_T27 l0 x12_1).f0),.int .i64 ((rd_T27 l0 x12_1).f1),.int .i64 0]) ?_ 2 _ rfl;(with_reducible repeat (first|apply nB|apply dB|apply aB));refine blk_put (cs:=#[.int .i64 ((rd_T27 l0 x12_1).f0),.int .i64 0,.int .i64 0]) ?_ 1 _ rfl;(with_reducible repeat (first|apply nB|apply dB|apply aB));refine blk_put (cs:=#[.int .i64 0,.int .i64 0,.int .i64 0]) ?_ 0 _ rfl;(with_reducible repeat (first|apply nB|apply dB|apply aB));exact BK297.out⟩,⟨kB HB.out⟩⟩
    rw [if_pos c15] at H
    have c15b0:(!(((rd_T27 l0 x12_1).f0) == a1_0) || (!(((rd_T27 l0 x12_1).f1) == a1_1) || (!(((rd_T27 l0 x12_1).f2) == a1_2)))) = true:=c15
    clear c15
    (first|rw [c15b0]|(simp only [i64_w,i32_w];rw [c15b0])|skip)
    by_cases c16:((rd_T27 l0 x12_1).f0) ≤ a1_0
    rotate_left
    ·rw [if_neg c16] at H
     have c16b0:decide (((rd_T27 l0 x12_1).f0) ≤ a1_0) = false:=decide_eq_false c16
     clear c16
     have H':=mk0 H
     clear H
     have hnb42:=NB297_293.out
     have hnc42:=NB293_297.out
     have hnb43:=NB297_294.out
     have hnc43:=NB294_297.out
     have hnb44:=NB297_295.out
     have hnc44:=NB295_297.out
     obtain⟨hcz45_0,hcz45_1,hcz45_2,hfz45_0,hfz45_1,hfz45_2⟩:=cz3 BK297.out
     have hnb46:=NB293_294.out
     have hnc46:=NB294_293.out
     have hnb47:=NB293_295.out
     have hnc47:=NB295_293.out
     obtain⟨hcz48_0,hcz48_1,hcz48_2,hfz48_0,hfz48_1,hfz48_2⟩:=cz3 BK293.out
     go_wp2
     go_meet
     case rel=>exact⟨_,(false),(by first|rfl|(simp;done)|(simp [*];done)),H',⟨by have:=HK1.out;first|omega|exact Nat.le_refl _⟩,⟨by (with_reducible repeat (first|apply nB|apply dB|apply aB));refine blk_far ?_ NB293_297.out _;(with_reducible repeat (first|apply nB|apply dB|apply aB));refine blk_far ?_ NB293_297.out _;(with_reducible repeat (first|apply nB|apply dB|apply aB));refine blk_far ?_ NB293_297.out _;(with_reducible repeat (first|apply nB|apply dB|apply aB));exact BK293.out⟩,⟨by (with_reducible repeat (first|apply nB|apply dB|apply aB));refine blk_far ?_ NB294_297.out _;(with_reducible repeat (first|apply nB|apply dB|apply aB));refine blk_far ?_ NB294_297.out _;(with_reducible repeat (first|apply nB|apply dB|apply aB));refine blk_far ?_ NB294_297.out _;(with_reducible repeat (first|apply nB|apply dB|apply aB));exact BK294.out⟩,⟨by (with_reducible repeat (first|apply nB|apply dB|apply aB));refine blk_far ?_ NB295_297.out _;(with_reducible repeat (first|apply nB|apply dB|apply aB));refine blk_far ?_ NB295_297.out _;(with_reducible repeat (first|apply nB|apply dB|apply aB));refine blk_far ?_ NB295_297.out _;(with_reducible repeat (first|apply nB|apply dB|apply aB));exact BK295.out⟩,⟨by (with_reducible repeat (first|apply nB|apply dB|apply aB));refine blk_put (cs:=#[.int .i64 ((rd_T27 l0 x12_1).f0),.int .i64 ((rd_T27 l0 x12_1).f1),.int .i64 0]) ?_ 2 _ rfl;(with_reducible repeat (first|apply nB|apply dB|apply aB));refine blk_put (cs:=#[.int .i64 ((rd_T27 l0 x12_1).f0),.int .i64 0,.int .i64 0]) ?_ 1 _ rfl;(with_reducible repeat (first|apply nB|apply dB|apply aB));refine blk_put (cs:=#[.int .i64 0,.int .i64 0,.int .i64 0]) ?_ 0 _ rfl;(with_reducible repeat (first|apply nB|apply dB|apply aB));exact BK297.out⟩,⟨kB HB.out⟩⟩
    rw [if_pos c16] at H
    have c16b0:decide (((rd_T27 l0 x12_1).f0) ≤ a1_0) = true:=decide_eq_true c16
    clear c16
    by_cases c17:a1_1 ≤ ((rd_T27 l0 x12_1).f1)
    rotate_left
    ·rw [if_neg c17] at H
     have c17b0:decide (a1_1 ≤ ((rd_T27 l0 x12_1).f1)) = false:=decide_eq_false c17
     clear c17
     have H':=mk0 H
     clear H
     have hnb35:=NB297_293.out
     have hnc35:=NB293_297.out
     have hnb36:=NB297_294.out
     have hnc36:=NB294_297.out
     have hnb37:=NB297_295.out
     have hnc37:=NB295_297.out
     obtain⟨hcz38_0,hcz38_1,hcz38_2,hfz38_0,hfz38_1,hfz38_2⟩:=cz3 BK297.out
     have hnb39:=NB293_294.out
     have hnc39:=NB294_293.out
     have hnb40:=NB293_295.out
     have hnc40:=NB295_293.out
     obtain⟨hcz41_0,hcz41_1,hcz41_2,hfz41_0,hfz41_1,hfz41_2⟩:=cz3 BK293.out
     go_wp2
     go_meet
     case rel=>exact⟨_,(false),(by first|rfl|(simp;done)|(simp [*];done)),H',⟨by have:=HK1.out;first|omega|exact Nat.le_refl _⟩,⟨by (with_reducible repeat (first|apply nB|apply dB|apply aB));refine blk_far ?_ NB293_297.out _;(with_reducible repeat (first|apply nB|apply dB|apply aB));refine blk_far ?_ NB293_297.out _;(with_reducible repeat (first|apply nB|apply dB|apply aB));refine blk_far ?_ NB293_297.out _;(with_reducible repeat (first|apply nB|apply dB|apply aB));exact BK293.out⟩,⟨by (with_reducible repeat (first|apply nB|apply dB|apply aB));refine blk_far ?_ NB294_297.out _;(with_reducible repeat (first|apply nB|apply dB|apply aB));refine blk_far ?_ NB294_297.out _;(with_reducible repeat (first|apply nB|apply dB|apply aB));refine blk_far ?_ NB294_297.out _;(with_reducible repeat (first|apply nB|apply dB|apply aB));exact BK294.out⟩,⟨by (with_reducible repeat (first|apply nB|apply dB|apply aB));refine blk_far ?_ NB295_297.out _;(with_reducible repeat (first|apply nB|apply dB|apply aB));refine blk_far ?_ NB295_297.out _;(with_reducible repeat (first|apply nB|apply dB|apply aB));refine blk_far ?_ NB295_297.out _;(with_reducible repeat (first|apply nB|apply dB|apply aB));exact BK295.out⟩,⟨by (with_reducible repeat (first|apply nB|apply dB|apply aB));refine blk_put (cs:=#[.int .i64 ((rd_T27 l0 x12_1).f0),.int .i64 ((rd_T27 l0 x12_1).f1),.int .i64 0]) ?_ 2 _ rfl;(with_reducible repeat (first|apply nB|apply dB|apply aB));refine blk_put (cs:=#[.int .i64 ((rd_T27 l0 x12_1).f0),.int .i64 0,.int .i64 0]) ?_ 1 _ rfl;(with_reducible repeat (first|apply nB|apply dB|apply aB));refine blk_put (cs:=#[.int .i64 0,.int .i64 0,.int .i64 0]) ?_ 0 _ rfl;(with_reducible repeat (first|apply nB|apply dB|apply aB));exact BK297.out⟩,⟨kB HB.out⟩⟩
    rw [if_pos c17] at H
    have c17b0:decide (a1_1 ≤ ((rd_T27 l0 x12_1).f1)) = true:=decide_eq_true c17
    clear c17
    by_cases c18:x7_1 = true
    rotate_left
    ·replace c18:=Bool.eq_false_iff.mpr c18
     subst c18
     have H1:(impl_up.j1 k1 false l0 (l0.length:Int) x12_1 true a1_0 a1_1 a1_2 x296000_1 x296001_1 x296002_1 ((rd_T27 l0 x12_1).f0) ((rd_T27 l0 x12_1).f1) ((rd_T27 l0 x12_1).f2)) = some (r1,r2,r3,r4):=by rw [if_neg (show ¬ (false = true) by decide)] at H;exact H
     clear H
     have H:=H1
     clear H1
     have H':=mk0 H
     clear H
     have hnb28:=NB297_293.out
     have hnc28:=NB293_297.out
     have hnb29:=NB297_294.out
     have hnc29:=NB294_297.out
     have hnb30:=NB297_295.out
     have hnc30:=NB295_297.out
     obtain⟨hcz31_0,hcz31_1,hcz31_2,hfz31_0,hfz31_1,hfz31_2⟩:=cz3 BK297.out
     have hnb32:=NB293_294.out
     have hnc32:=NB294_293.out
     have hnb33:=NB293_295.out
     have hnc33:=NB295_293.out
     obtain⟨hcz34_0,hcz34_1,hcz34_2,hfz34_0,hfz34_1,hfz34_2⟩:=cz3 BK293.out
     go_wp2
     go_meet
     case rel=>exact⟨_,(true),(by first|rfl|(simp;done)|(simp [*];done)),H',⟨by have:=HK1.out;first|omega|exact Nat.le_refl _⟩,⟨by (with_reducible repeat (first|apply nB|apply dB|apply aB));refine blk_far ?_ NB293_297.out _;(with_reducible repeat (first|apply nB|apply dB|apply aB));refine blk_far ?_ NB293_297.out _;(with_reducible repeat (first|apply nB|apply dB|apply aB));refine blk_far ?_ NB293_297.out _;(with_reducible repeat (first|apply nB|apply dB|apply aB));exact BK293.out⟩,⟨by (with_reducible repeat (first|apply nB|apply dB|apply aB));refine blk_far ?_ NB294_297.out _;(with_reducible repeat (first|apply nB|apply dB|apply aB));refine blk_far ?_ NB294_297.out _;(with_reducible repeat (first|apply nB|apply dB|apply aB));refine blk_far ?_ NB294_297.out _;(with_reducible repeat (first|apply nB|apply dB|apply aB));exact BK294.out⟩,⟨by (with_reducible repeat (first|apply nB|apply dB|apply aB));refine blk_far ?_ NB295_297.out _;(with_reducible repeat (first|apply nB|apply dB|apply aB));refine blk_far ?_ NB295_297.out _;(with_reducible repeat (first|apply nB|apply dB|apply aB));refine blk_far ?_ NB295_297.out _;(with_reducible repeat (first|apply nB|apply dB|apply aB));exact BK295.out⟩,⟨by (with_reducible repeat (first|apply nB|apply dB|apply aB));refine blk_put (cs:=#[.int .i64 ((rd_T27 l0 x12_1).f0),.int .i64 ((rd_T27 l0 x12_1).f1),.int .i64 0]) ?_ 2 _ rfl;(with_reducible repeat (first|apply nB|apply dB|apply aB));refine blk_put (cs:=#[.int .i64 ((rd_T27 l0 x12_1).f0),.int .i64 0,.int .i64 0]) ?_ 1 _ rfl;(with_reducible repeat (first|apply nB|apply dB|apply aB));refine blk_put (cs:=#[.int .i64 0,.int .i64 0,.int .i64 0]) ?_ 0 _ rfl;(with_reducible repeat (first|apply nB|apply dB|apply aB));exact BK297.out⟩,⟨kB HB.out⟩⟩
    subst c18
    have H1:(impl_up.j1 k1 true l0 (l0.length:Int) x12_1 (decide ((wrap64 (((rd_T27 l0 x12_1).f1) - ((rd_T27 l0 x12_1).f0))) < (wrap64 (x296001_1 - x296000_1)))) a1_0 a1_1 a1_2 x296000_1 x296001_1 x296002_1 ((rd_T27 l0 x12_1).f0) ((rd_T27 l0 x12_1).f1) ((rd_T27 l0 x12_1).f2)) = some (r1,r2,r3,r4):=by rw [if_pos rfl] at H;exact H
    clear H
    have H:=H1
    clear H1
    have H':=mk0 H
    clear H
    have hnb19:=NB297_293.out
    have hnc19:=NB293_297.out
    have hnb20:=NB297_294.out
    have hnc20:=NB294_297.out
    have hnb21:=NB297_295.out
    have hnc21:=NB295_297.out
    obtain⟨hcz22_0,hcz22_1,hcz22_2,hfz22_0,hfz22_1,hfz22_2⟩:=cz3 BK297.out
    have hnb23:=NB293_294.out
    have hnc23:=NB294_293.out
    have hnb24:=NB293_295.out
    have hnc24:=NB295_293.out
    obtain⟨hcz25_0,hcz25_1,hcz25_2,hfz25_0,hfz25_1,hfz25_2⟩:=cz3 BK293.out
    have hnb26:=NB295_294.out
    have hnc26:=NB294_295.out
    obtain⟨hcz27_0,hcz27_1,hcz27_2,hfz27_0,hfz27_1,hfz27_2⟩:=cz3 BK295.out
    go_wp2
    go_meet
    case rel=>exact⟨_,(decide ((wrap64 (((rd_T27 l0 x12_1).f1) - ((rd_T27 l0 x12_1).f0))) < (wrap64 (x296001_1 - x296000_1)))),(by first|rfl|(simp;done)|(simp [*];done)),H',⟨by have:=HK1.out;first|omega|exact Nat.le_refl _⟩,⟨by (with_reducible repeat (first|apply nB|apply dB|apply aB));refine blk_far ?_ NB293_297.out _;(with_reducible repeat (first|apply nB|apply dB|apply aB));refine blk_far ?_ NB293_297.out _;(with_reducible repeat (first|apply nB|apply dB|apply aB));refine blk_far ?_ NB293_297.out _;(with_reducible repeat (first|apply nB|apply dB|apply aB));exact BK293.out⟩,⟨by (with_reducible repeat (first|apply nB|apply dB|apply aB));refine blk_far ?_ NB294_297.out _;(with_reducible repeat (first|apply nB|apply dB|apply aB));refine blk_far ?_ NB294_297.out _;(with_reducible repeat (first|apply nB|apply dB|apply aB));refine blk_far ?_ NB294_297.out _;(with_reducible repeat (first|apply nB|apply dB|apply aB));exact BK294.out⟩,⟨by (with_reducible repeat (first|apply nB|apply dB|apply aB));refine blk_far ?_ NB295_297.out _;(with_reducible repeat (first|apply nB|apply dB|apply aB));refine blk_far ?_ NB295_297.out _;(with_reducible repeat (first|apply nB|apply dB|apply aB));refine blk_far ?_ NB295_297.out _;(with_reducible repeat (first|apply nB|apply dB|apply aB));exact BK295.out⟩,⟨by (with_reducible repeat (first|apply nB|apply dB|apply aB));refine blk_put (cs:=#[.int .i64 ((rd_T27 l0 x12_1).f0),.int .i64 ((rd_T27 l0 x12_1).f1),.int .i64 0]) ?_ 2 _ rfl;(with_reducible repeat (first|apply nB|apply dB|apply aB));refine blk_put (cs:=#[.int .i64 ((rd_T27 l0 x12_1).f0),.int .i64 0,.int .i64 0]) ?_ 1 _ rfl;(with_reducible repeat (first|apply nB|apply dB|apply aB));refine blk_put (cs:=#[.int .i64 0,.int .i64 0,.int .i64 0]) ?_ 0 _ rfl;(with_reducible repeat (first|apply nB|apply dB|apply aB));exact BK297.out⟩,⟨kB HB.out⟩⟩
   case rest =>
    clear HC9
    try clear c1
    try clear c2
    try clear p2
    try clear q2
    try clear hx2
    try clear c3
    try clear c4
    try clear c5
    try clear c6
    try clear c6b0
    try clear p6
    try clear c7
    try clear c7b0
    try clear c8
    try clear c8b0
    try clear c11
    try clear c12
    try clear c13
    try clear c15
    try clear c15b0
    try clear c16
    try clear c16b0
    try clear c17
    try clear c17b0
    try clear c18
    try clear c19
    try clear c20
    try clear c21
    try clear c23
    try clear c24
    try clear c26
    try clear c28
    try clear c29
    try clear p29
    try clear q29
    try clear hx29
    try clear c30
    try clear c32
    try clear c33
    try clear c35
    try clear c36
    try clear c37
    try clear c39
    try clear c40
    try clear c42
    try clear c43
    try clear c44
    try clear c46
    try clear c47
    try clear c49
    try clear c50
    try clear c51
    try clear c53
    try clear c54
    try clear c55
    try clear hcz14_0
    try clear hcz14_1
    try clear hcz14_2
    try clear hcz22_0
    try clear hcz22_1
    try clear hcz22_2
    try clear hcz25_0
    try clear hcz25_1
    try clear hcz25_2
    try clear hcz27_0
    try clear hcz27_1
    try clear hcz27_2
    try clear hcz31_0
    try clear hcz31_1
    try clear hcz31_2
    try clear hcz34_0
    try clear hcz34_1
    try clear hcz34_2
    try clear hcz38_0
    try clear hcz38_1
    try clear hcz38_2
    try clear hcz41_0
    try clear hcz41_1
    try clear hcz41_2
    try clear hcz45_0
    try clear hcz45_1
    try clear hcz45_2
    try clear hcz48_0
    try clear hcz48_1
    try clear hcz48_2
    try clear hcz52_0
    try clear hcz52_1
    try clear hcz52_2
    try clear hcz55_0
    try clear hcz55_1
    try clear hcz55_2
    try clear hfz14_0
    try clear hfz14_1
    try clear hfz14_2
    try clear hfz22_0
    try clear hfz22_1
    try clear hfz22_2
    try clear hfz25_0
    try clear hfz25_1
    try clear hfz25_2
    try clear hfz27_0
    try clear hfz27_1
    try clear hfz27_2
    try clear hfz31_0
    try clear hfz31_1
    try clear hfz31_2
    try clear hfz34_0
    try clear hfz34_1
    try clear hfz34_2
    try clear hfz38_0
    try clear hfz38_1
    try clear hfz38_2
    try clear hfz41_0
    try clear hfz41_1
    try clear hfz41_2
    try clear hfz45_0
    try clear hfz45_1
    try clear hfz45_2
    try clear hfz48_0
    try clear hfz48_1
    try clear hfz48_2
    try clear hfz52_0
    try clear hfz52_1
    try clear hfz52_2
    try clear hfz55_0
    try clear hfz55_1
    try clear hfz55_2
    try clear hx296_0
    try clear hx296_1
    try clear hx296_2
    try clear p2
    try clear p296
    try clear q296
    obtain⟨kq,x49_8,rfl,HA,HJ8,BK293,BK294,BK295,BK297,HB⟩:=hcut
    cases kq with
    | zero=>exact absurd HA.out (by simp [impl_up.j1])
    | succ kj8 =>
     have H:=HA.out
     clear HA
     simp only [impl_up.j1] at H
     by_cases c56:x49_8 = true
     rotate_left
     ·replace c56:=Bool.eq_false_iff.mpr c56
      subst c56
      have H1:(impl_up.l0 kj8 x7_1 l0 (l0.length:Int) (wrap64 (x12_1 + 1)) a1_0 a1_1 a1_2 x296000_1 x296001_1 x296002_1) = some (r1,r2,r3,r4):=by rw [if_neg (show ¬ (false = true) by decide)] at H;exact H
      clear H
      have H:=H1
      clear H1
      have H':=mk0 H
      clear H
      go_wp2
      go_roundg kj8
      case measure=>have:=HK1.out;have:=HJ8.out;omega
      case rel=>exact⟨(x7_1),(wrap64 (x12_1 + 1)),(x296000_1),(x296001_1),(x296002_1),(by first|rfl|(simp;done)|(simp [*];done)),(by first|rfl|(simp;done)|(simp [*];done)),H',⟨by have:=HK1.out;have:=HJ8.out;omega⟩,⟨kN BK293.out⟩,⟨kN BK294.out⟩,⟨kN BK295.out⟩,⟨kB HB.out⟩⟩
     subst c56
     have H1:(impl_up.l0 kj8 true l0 (l0.length:Int) (wrap64 (x12_1 + 1)) a1_0 a1_1 a1_2 ((rd_T27 l0 x12_1).f0) ((rd_T27 l0 x12_1).f1) ((rd_T27 l0 x12_1).f2)) = some (r1,r2,r3,r4):=by rw [if_pos rfl] at H;exact H
     clear H
     have H:=H1
     clear H1
     have H':=mk0 H
     clear H
     have hnb57:=NB297_293.out
     have hnc57:=NB293_297.out
     have hnb58:=NB297_294.out
     have hnc58:=NB294_297.out
     have hnb59:=NB297_295.out
     have hnc59:=NB295_297.out
     obtain⟨hcz60_0,hcz60_1,hcz60_2,hfz60_0,hfz60_1,hfz60_2⟩:=cz3 BK297.out
     have hnb61:=NB295_293.out
     have hnc61:=NB293_295.out
     have hnb62:=NB295_294.out
     have hnc62:=NB294_295.out
     obtain⟨hcz63_0,hcz63_1,hcz63_2,hfz63_0,hfz63_1,hfz63_2⟩:=cz3 BK295.out
     go_wp2
     go_roundg kj8
     case measure=>have:=HK1.out;have:=HJ8.out;omega
     case rel=>exact⟨(true),(wrap64 (x12_1 + 1)),(((rd_T27 l0 x12_1).f0)),(((rd_T27 l0 x12_1).f1)),(((rd_T27 l0 x12_1).f2)),(by first|rfl|(simp;done)|(simp [*];done)),(by first|rfl|(simp;done)|(simp [*];done)),H',⟨by have:=HK1.out;have:=HJ8.out;omega⟩,⟨by (with_reducible repeat (first|apply nB|apply dB|apply aB));refine blk_far ?_ NB293_295.out _;(with_reducible repeat (first|apply nB|apply dB|apply aB));refine blk_far ?_ NB293_295.out _;(with_reducible repeat (first|apply nB|apply dB|apply aB));refine blk_far ?_ NB293_295.out _;(with_reducible repeat (first|apply nB|apply dB|apply aB));exact BK293.out⟩,⟨by (with_reducible repeat (first|apply nB|apply dB|apply aB));refine blk_far ?_ NB294_295.out _;(with_reducible repeat (first|apply nB|apply dB|apply aB));refine blk_far ?_ NB294_295.out _;(with_reducible repeat (first|apply nB|apply dB|apply aB));refine blk_far ?_ NB294_295.out _;(with_reducible repeat (first|apply nB|apply dB|apply aB));exact BK294.out⟩,⟨by (with_reducible repeat (first|apply nB|apply dB|apply aB));refine blk_put (cs:=#[.int .i64 ((rd_T27 l0 x12_1).f0),.int .i64 ((rd_T27 l0 x12_1).f1),.int .i64 x296002_1]) ?_ 2 _ rfl;(with_reducible repeat (first|apply nB|apply dB|apply aB));refine blk_put (cs:=#[.int .i64 ((rd_T27 l0 x12_1).f0),.int .i64 x296001_1,.int .i64 x296002_1]) ?_ 1 _ rfl;(with_reducible repeat (first|apply nB|apply dB|apply aB));refine blk_put (cs:=#[.int .i64 x296000_1,.int .i64 x296001_1,.int .i64 x296002_1]) ?_ 0 _ rfl;(with_reducible repeat (first|apply nB|apply dB|apply aB));exact BK295.out⟩,⟨kB HB.out⟩⟩
/-! ### impl_StretchUp: function 31 -/
def impl_StretchUp.f (k : Nat) (l0 : List Int) (a1_0 : Int) (a1_1 : Int) (a1_2 : Int) : Option (Int × Int × Int × Bool) := (impl_StretchOk.f k l0 a1_0 a1_1 a1_2).bind fun t300 => (if t300 = true then ((impl_stretches.f k l0).bind fun t301 => ((impl_up.f k t301 a1_0 a1_1 a1_2).bind fun bt304 => (some (bt304.1, bt304.2.1, bt304.2.2.1, bt304.2.2.2)))) else (some (0, 0, 0, false)))
theorem impl_StretchUp.mono : ∀ a0 a1 a2 a3 k, LeO (impl_StretchUp.f k a0 a1 a2 a3) (impl_StretchUp.f (k + 1) a0 a1 a2 a3) := by
 intro a0 a1 a2 a3 k
 unfold impl_StretchUp.f
 repeat' first|(with_reducible first|exact impl_StretchOk.mono _ _ _ _ _|exact impl_stretches.mono _ _|exact impl_up.mono _ _ _ _ _|exact LeO.refl _|exact LeO.none _|refine LeO.ite ?_ ?_|refine LeO.bind ?_ (fun _ => ?_))|exact LeO.none _|refine LeO.ite ?_ ?_|refine LeO.bind ?_ (fun _ => ?_)
def impl_StretchUp.T3 : Bool × List (List Nat × List Nat) := (true, [([], []), ([0], [0]), ([], []), ([1, 2, 1], [1, 2]), ([3], [3]), ([3], [3]), ([4, 3, 0, 1, 2, 3, 4, 5], [4]), ([5, 6, 0, 1, 2, 3, 4, 5, 6], [5])])
def impl_StretchUp.B3 : List Nat := [0, 1, 0, 7, 15, 15, 63, 127]
theorem impl_StretchUp.tab3 : rtab .any (opsOf Try.f31 3) = impl_StretchUp.T3 := by kernel_rfl
theorem impl_StretchUp.bits3 : waitsOk impl_StretchUp.T3.2 impl_StretchUp.B3 = true := by kernel_rfl
abbrev impl_StretchUp.m0 : Array Bool := #[F,F,F,F,F,F,F,F]
abbrev impl_StretchUp.m1 : Array Bool := #[T,F,F,F,F,F,F,F]
abbrev impl_StretchUp.m2 : Array Bool := #[T,F,T,F,F,F,F,F]
abbrev impl_StretchUp.m3 : Array Bool := #[T,T,T,F,F,F,F,F]
abbrev impl_StretchUp.m4 : Array Bool := #[T,T,T,T,F,F,F,F]
abbrev impl_StretchUp.m5 : Array Bool := #[T,T,T,T,T,F,F,F]
set_option maxHeartbeats 8000000 in
set_option maxRecDepth 100000 in
theorem impl_StretchUp.calls (k : Nat) (A0 : Option Addr) (c0 : Nat) (l0 : List Int) (a1_0 : Int) (a1_1 : Int) (a1_2 : Int) (r1 : Int) (r2 : Int) (r3 : Int) (r4 : Bool) (w : World) (hr0 : Kd.C (Kd.int .u8) w A0 l0.length l0) (hc0 : l0.length ≤ c0) (h : impl_StretchUp.f k l0 a1_0 a1_1 a1_2 = some (r1, r2, r3, r4)) :
  Calls Try.prog 31 #[.slice A0 l0.length c0, .agg #[.int .i64 a1_0, .int .i64 a1_1, .int .i64 a1_2]] w fun e w' => e = .returned (.tuple #[.agg #[.int .i64 r1, .int .i64 r2, .int .i64 r3], .bool r4]) ∧ Below w.heap.size w w' := by
 have hu27:=Try.underlying27
 have HR0:=mk0 hr0
 have HC0:=mk0 hc0
 clear hr0 hc0
 have HB:=mk0 (Below.refl w.heap.size w)
 have H:((impl_StretchOk.f k l0 a1_0 a1_1 a1_2).bind fun t300=>(if t300 = true then ((impl_stretches.f k l0).bind fun t301=>((impl_up.f k t301 a1_0 a1_1 a1_2).bind fun bt304=>(some (bt304.1,bt304.2.1,bt304.2.2.1,bt304.2.2.2)))) else (some (0,0,0,false)))) = some (r1,r2,r3,r4):=h
 clear h
 replace H:=Option.bind_eq_some_iff.mp H
 obtain⟨t300,A30,H⟩:=H
 replace H:(if t300 = true then ((impl_stretches.f k l0).bind fun t301=>((impl_up.f k t301 a1_0 a1_1 a1_2).bind fun bt304=>(some (bt304.1,bt304.2.1,bt304.2.2.1,bt304.2.2.2)))) else (some (0,0,0,false))) = some (r1,r2,r3,r4):=H
 have A3:=mk0 A30
 clear A30
 by_cases c4:t300 = true
 rotate_left
 ·replace c4:=Bool.eq_false_iff.mpr c4
  subst c4
  have H1:(some (0,0,0,false)) = some (r1,r2,r3,r4):=by rw [if_neg (show ¬ (false = true) by decide)] at H;exact H
  clear H
  have H:=H1
  clear H1
  simp only [Option.some.injEq,Prod.mk.injEq] at H
  obtain⟨rfl,rfl,rfl,rfl⟩:=H
  go_enter Try.func31,Try.ntmps31
  go_wp2_with (first|((with_reducible refine gate_dst (N:=3) rfl ?_);refine box_event ?hg (N:=3) ?hd (cs:=#[.int .i64 a1_0,.int .i64 a1_1,.int .i64 a1_2]) (t:=27) ?hr ?_;(case hd=>rfl);(case hg=>rfl);(case hr=>first|(go_simp;done)|(go_simp;rfl));intro gb298 hg w19 hbox hb;have BK298:=mk0 (hbox);have GW298:=mk0 ((by rw [hg];exact (kZ HB.out):w.heap.size ≤ gb298));have GE298:=mk0 ((by rw [hg];exact (kZ HB.out):w.heap.size ≤ gb298));replace HB:=mk0 (kS HB.out hb);clear hb hbox hg)|((with_reducible refine gate_dst (N:=4) rfl ?_);refine box_event ?hg (N:=4) ?hd (cs:=#[.int .i64 0,.int .i64 0,.int .i64 0]) (t:=27) ?hr ?_;(case hd=>rfl);(case hg=>rfl);(case hr=>first|(go_simp;done)|(go_simp;rfl));intro gb299 hg w20 hbox hb;have BK299:=mk0 (hbox);have GW299:=mk0 ((by rw [hg];exact (kZ HB.out):w.heap.size ≤ gb299));have GE299:=mk0 ((by rw [hg];exact (kZ HB.out):w.heap.size ≤ gb299));replace HB:=mk0 (kS HB.out hb);have NB298_299:=mk0 ((by rw [hg];exact Nat.ne_of_lt (kL BK298.out):gb298 ≠ gb299));have NB299_298:=mk0 ((by rw [hg];exact Nat.ne_of_gt (kL BK298.out):gb299 ≠ gb298));replace BK298:=mk0 (kK BK298.out hb);clear hb hbox hg;have hnb21:=NB298_299.out;have hnc21:=NB299_298.out;obtain⟨hcz22_0,hcz22_1,hcz22_2,hfz22_0,hfz22_1,hfz22_2⟩:=cz3 BK298.out)|((with_reducible refine gate_callee (f:=14) rfl ?_);refine goesL_ (some 8) rfl rfl Try.func14 (by kernel_rfl) rfl #[.slice A0 l0.length c0,.agg #[.int .i64 a1_0,.int .i64 a1_1,.int .i64 a1_2]] rfl (by (try simp only [mA,mC,mN]);first|done|rfl|(simp only [List.length_drop,List.length_take];done)|(simp only [List.length_drop,List.length_take];rfl)) ?_;(with_reducible refine (impl_StretchOk.calls k _ _ l0 a1_0 a1_1 a1_2 false _ ?side1 ?side2 A3.out).mono ?_);(case side1=>exact kC (Kd.C_below HR0.out HB.out));(case side2=>exact HC0.out);rintro e w23 ⟨rfl,hb⟩;refine⟨_,rfl,?_⟩;replace BK298:=mk0 (kK BK298.out hb);replace BK299:=mk0 (kK BK299.out hb);replace HB:=mk0 (kS HB.out hb);(try clear hb);obtain⟨hcz24_0,hcz24_1,hcz24_2,hfz24_0,hfz24_1,hfz24_2⟩:=cz3 BK299.out))
  refine bodyPost_ret (results_ct rfl _ _ gb299 27 #[.int .i64 0,.int .i64 0,.int .i64 0] (0,0) _ rfl (by (with_reducible repeat (first|apply nB|apply dB|apply aB));refine blk_put (cs:=#[.int .i64 0,.int .i64 0,.int .i64 0]) ?_ 2 _ rfl;(with_reducible repeat (first|apply nB|apply dB|apply aB));refine blk_put (cs:=#[.int .i64 0,.int .i64 0,.int .i64 0]) ?_ 1 _ rfl;(with_reducible repeat (first|apply nB|apply dB|apply aB));refine blk_put (cs:=#[.int .i64 0,.int .i64 0,.int .i64 0]) ?_ 0 _ rfl;(with_reducible repeat (first|apply nB|apply dB|apply aB));exact BK299.out) Try.underlying27 rfl (by kernel_rfl)) rfl ?_
  exact⟨by first|rfl|(simp [errW_none,errW_some] <;> rfl)|(simp [*,errW_none,errW_some] <;> rfl),kB HB.out⟩

 subst c4
 have H1:((impl_stretches.f k l0).bind fun t301=>((impl_up.f k t301 a1_0 a1_1 a1_2).bind fun bt304=>(some (bt304.1,bt304.2.1,bt304.2.2.1,bt304.2.2.2)))) = some (r1,r2,r3,r4):=by rw [if_pos rfl] at H;exact H
 clear H
 have H:=H1
 clear H1
 replace H:=Option.bind_eq_some_iff.mp H
 obtain⟨t301,A50,H⟩:=H
 replace H:((impl_up.f k t301 a1_0 a1_1 a1_2).bind fun bt304=>(some (bt304.1,bt304.2.1,bt304.2.2.1,bt304.2.2.2))) = some (r1,r2,r3,r4):=H
 have A5:=mk0 A50
 clear A50
 replace H:=Option.bind_eq_some_iff.mp H
 obtain⟨⟨t304,t305,t306,t307⟩,A60,H⟩:=H
 replace H:(some (t304,t305,t306,t307)) = some (r1,r2,r3,r4):=H
 have A6:=mk0 A60
 clear A60
 simp only [Option.some.injEq,Prod.mk.injEq] at H
 obtain⟨rfl,rfl,rfl,rfl⟩:=H
 go_enter Try.func31,Try.ntmps31
 try go_wp2_with (first|((with_reducible refine gate_dst (N:=3) rfl ?_);refine box_event ?hg (N:=3) ?hd (cs:=#[.int .i64 a1_0,.int .i64 a1_1,.int .i64 a1_2]) (t:=27) ?hr ?_;(case hd=>rfl);(case hg=>rfl);(case hr=>first|(go_simp;done)|(go_simp;rfl));intro gb298 hg w7 hbox hb;have BK298:=mk0 (hbox);have GW298:=mk0 ((by rw [hg];exact (kZ HB.out):w.heap.size ≤ gb298));have GE298:=mk0 ((by rw [hg];exact (kZ HB.out):w.heap.size ≤ gb298));replace HB:=mk0 (kS HB.out hb);clear hb hbox hg)|((with_reducible refine gate_dst (N:=4) rfl ?_);refine box_event ?hg (N:=4) ?hd (cs:=#[.int .i64 0,.int .i64 0,.int .i64 0]) (t:=27) ?hr ?_;(case hd=>rfl);(case hg=>rfl);(case hr=>first|(go_simp;done)|(go_simp;rfl));intro gb299 hg w8 hbox hb;have BK299:=mk0 (hbox);have GW299:=mk0 ((by rw [hg];exact (kZ HB.out):w.heap.size ≤ gb299));have GE299:=mk0 ((by rw [hg];exact (kZ HB.out):w.heap.size ≤ gb299));replace HB:=mk0 (kS HB.out hb);have NB298_299:=mk0 ((by rw [hg];exact Nat.ne_of_lt (kL BK298.out):gb298 ≠ gb299));have NB299_298:=mk0 ((by rw [hg];exact Nat.ne_of_gt (kL BK298.out):gb299 ≠ gb298));replace BK298:=mk0 (kK BK298.out hb);clear hb hbox hg;have hnb9:=NB298_299.out;have hnc9:=NB299_298.out;obtain⟨hcz10_0,hcz10_1,hcz10_2,hfz10_0,hfz10_1,hfz10_2⟩:=cz3 BK298.out)|((with_reducible refine gate_callee (f:=14) rfl ?_);refine goesL_ (some 8) rfl rfl Try.func14 (by kernel_rfl) rfl #[.slice A0 l0.length c0,.agg #[.int .i64 a1_0,.int .i64 a1_1,.int .i64 a1_2]] rfl (by (try simp only [mA,mC,mN]);first|done|rfl|(simp only [List.length_drop,List.length_take];done)|(simp only [List.length_drop,List.length_take];rfl)) ?_;(with_reducible refine (impl_StretchOk.calls k _ _ l0 a1_0 a1_1 a1_2 true _ ?side1 ?side2 A3.out).mono ?_);(case side1=>exact kC (Kd.C_below HR0.out HB.out));(case side2=>exact HC0.out);rintro e w11 ⟨rfl,hb⟩;refine⟨_,rfl,?_⟩;replace BK298:=mk0 (kK BK298.out hb);replace BK299:=mk0 (kK BK299.out hb);replace HB:=mk0 (kS HB.out hb);(try clear hb)))
 replace BK298:=mk0 (dB BK298.out)
 replace BK299:=mk0 (dB BK299.out)
 replace HB:=mk0 (dZ HB.out)
 refine start_ (n:=8) (S:=fun w'=>w'.cell? ⟨gb298,0,none⟩ = some (.int .i64 a1_0) ∧ w'.cell? ⟨gb298,1,none⟩ = some (.int .i64 a1_1) ∧ w'.cell? ⟨gb298,2,none⟩ = some (.int .i64 a1_2)) (ds:=[]) impl_StretchUp.m0 (by kernel_rfl) rfl rfl (ck3 BK298.out) (fun hHeld=>?_);refine with_tabW impl_StretchUp.tab3 impl_StretchUp.bits3 (fun HT_ HW_=>?_)
 generalize w11.drew = w12 at BK298 BK299 HB hHeld ⊢
 refine pure_ (i:=0) (N:=some 11) (v:=?_) (a':=?_) impl_StretchUp.m1 rfl rfl (any_of HT_.out (by kernel_rfl)) (fun _ _ _ h=>h) (Or.inl ⟨by rfl,?_⟩) ?_ ?_
 rotate_left
 ·intro w'
  go_simp
  with_reducible rfl
 rotate_left
 ·simp only [Act.put,sA,sO,sS,i64_w,i32_w]
  rfl
 refine take_ (i:=2) (N:=some 13) (v:=?_) (a':=?_) impl_StretchUp.m2 rfl rfl (take_ofW HT_.out HW_.out (by kernel_rfl)) (fun _ _ _ h=>h) (Or.inl ⟨by rfl,?_⟩) hHeld ?_ ?_
 rotate_left
 ·rintro w' ⟨s0,s1,s2⟩
  go_simp
  with_reducible rfl
 rotate_left
 ·simp only [Act.put,sA,sO,sS,i64_w,i32_w]
  rfl
 refine one_ (i:=1) (N:=some 12) impl_StretchUp.m3 rfl rfl (one_of HT_.out (by kernel_rfl)) (by decide) (fun K hK=>?_)
 refine goes_ Try.func53 (by kernel_rfl) rfl #[.slice A0 l0.length c0] (by rfl) rfl rfl (by (try simp only [mA,mC,mN]);first|done|rfl|(simp only [List.length_drop,List.length_take];done)|(simp only [List.length_drop,List.length_take];rfl)) ?_
 with_reducible refine (impl_stretches.calls k _ _ l0 t301 _ ?side1 ?side2 A5.out).mono ?_
 (case side1=>exact kC (Kd.C_below HR0.out HB.out))
 (case side2=>exact HC0.out)
 rintro e w13 ⟨v302,rfl,ho0,hb⟩
 refine⟨_,rfl,?_⟩
 have HO303:=mk0 (Kd.R_lower (Kd.R_newB (Kd.R_newB ho0 (g:=gb298) (o:=.cells #[.int .i64 a1_0,.int .i64 a1_1,.int .i64 a1_2] 27 (0,0)) (kN BK298.out)) (g:=gb299) (o:=.cells #[.int .i64 0,.int .i64 0,.int .i64 0] 27 (0,0)) (kN BK299.out)) (kZ HB.out))
 replace BK298:=mk0 (kK BK298.out hb)
 replace BK299:=mk0 (kK BK299.out hb)
 replace HB:=mk0 (kS HB.out hb)
 (try clear hb)
 (try clear ho0)
 obtain⟨Ao14,co14,eo14⟩:=Kd.R_slice HO303.out
 (first|subst eo14|(injection eo14 with f1_ f2_ f3_;have f4_:=f1_.symm;have f5_:=f3_.symm;clear f1_ f2_ f3_;subst f4_;subst f5_))
 refine hK.out _ _ (ck3 BK298.out) (fun hHeld=>?_)
 clear hK K
 refine norm_ (a':=?_) ?_ ?_
 rotate_left
 ·show Act.put _ (some 12) _ = _
  simp only [Act.put,sA,sO,sS,i64_w,i32_w]
  rfl
 refine one_ (i:=3) (N:=some 14) impl_StretchUp.m4 rfl rfl (one_of HT_.out (by kernel_rfl)) (by decide) (fun K hK=>?_)
 refine goes_ Try.func55 (by kernel_rfl) rfl #[.slice Ao14 t301.length co14,.agg #[.int .i64 a1_0,.int .i64 a1_1,.int .i64 a1_2]] (by rfl) rfl rfl (by (try simp only [mA,mC,mN]);first|done|rfl|(simp only [List.length_drop,List.length_take];done)|(simp only [List.length_drop,List.length_take];rfl)) ?_
 with_reducible refine (impl_up.calls k _ _ t301 a1_0 a1_1 a1_2 t304 t305 t306 t307 _ ?side1 ?side2 A6.out).mono ?_
 (case side1=>exact kC (Kd.R_reads' HO303.out).2.2)
 (case side2=>exact (Kd.R_reads' HO303.out).2.1)
 rintro e w15 ⟨rfl,hb⟩
 refine⟨_,rfl,?_⟩
 replace HO303:=mk0 (bR HO303.out hb)
 replace BK298:=mk0 (kK BK298.out hb)
 replace BK299:=mk0 (kK BK299.out hb)
 replace HB:=mk0 (kS HB.out hb)
 (try clear hb)
 refine hK.out _ _ (ck3 BK298.out) (fun hHeld=>?_)
 clear hK K
 refine norm_ (a':=?_) ?_ ?_
 rotate_left
 ·show Act.put _ (some 14) _ = _
  simp only [Act.put,sA,sO,sS,i64_w,i32_w]
  rfl
 refine pure_ (i:=4) (N:=some 15) (v:=?_) (a':=?_) impl_StretchUp.m5 rfl rfl (any_of HT_.out (by kernel_rfl)) (fun _ _ _ h=>h) (Or.inl ⟨by rfl,?_⟩) ?_ ?_
 rotate_left
 ·intro w'
  go_simp
  with_reducible rfl
 rotate_left
 ·simp only [Act.put,sA,sO,sS,i64_w,i32_w]
  rfl
 refine pure_ (i:=5) (N:=some 16) (v:=?_) (a':=?_) #[true,true,true,true,true,true,false,false] rfl rfl (any_of HT_.out (by kernel_rfl)) (fun _ _ _ h=>h) (Or.inl ⟨by rfl,?_⟩) ?_ ?_
 rotate_left
 ·intro w'
  go_simp
  with_reducible rfl
 rotate_left
 ·simp only [Act.put,sA,sO,sS,i64_w,i32_w]
  rfl
 refine one_ (i:=6) (N:=none) #[true,true,true,true,true,true,true,false] rfl rfl (one_of HT_.out (by kernel_rfl)) (by decide) (fun K hK=>?_)
 have hs16:w15.cell? ⟨gb299,0,none⟩ = some (.int .i64 0):=(blk_cell BK299.out 0).trans rfl
 have hfs16:=blk_frozen BK299.out 0
 have hns16_0:=NB298_299.out
 have hms16_0:=NB299_298.out
 have hs17:w15.cell? ⟨gb299,1,none⟩ = some (.int .i64 0):=(blk_cell BK299.out 1).trans rfl
 have hfs17:=blk_frozen BK299.out 1
 have hns17_0:=NB298_299.out
 have hms17_0:=NB299_298.out
 have hs18:w15.cell? ⟨gb299,2,none⟩ = some (.int .i64 0):=(blk_cell BK299.out 2).trans rfl
 have hfs18:=blk_frozen BK299.out 2
 have hns18_0:=NB298_299.out
 have hms18_0:=NB299_298.out
 refine skip_ (w1:=?_) (by rfl) rfl ?_ ?_
 rotate_left
 ·go_simp
  rfl
 refine hK.out _ _ ⟨((cell_far (p:=⟨gb299,_,none⟩) NB298_299.out _).trans (((cell_far (p:=⟨gb299,_,none⟩) NB298_299.out _).trans (((cell_far (p:=⟨gb299,_,none⟩) NB298_299.out _).trans (hHeld.1)))))),((cell_far (p:=⟨gb299,_,none⟩) NB298_299.out _).trans (((cell_far (p:=⟨gb299,_,none⟩) NB298_299.out _).trans (((cell_far (p:=⟨gb299,_,none⟩) NB298_299.out _).trans (hHeld.2.1)))))),((cell_far (p:=⟨gb299,_,none⟩) NB298_299.out _).trans (((cell_far (p:=⟨gb299,_,none⟩) NB298_299.out _).trans (((cell_far (p:=⟨gb299,_,none⟩) NB298_299.out _).trans (hHeld.2.2))))))⟩ (fun hHeld=>?_)
 clear hK K
 refine pure_ (i:=7) (N:=some 5) (v:=?_) (a':=?_) #[true,true,true,true,true,true,true,true] rfl rfl (any_of HT_.out (by kernel_rfl)) (fun _ _ _ h=>h) (Or.inl ⟨by rfl,?_⟩) ?_ ?_
 rotate_left
 ·intro w'
  go_simp
  with_reducible rfl
 rotate_left
 ·simp only [Act.put,sA,sO,sS,i64_w,i32_w]
  rfl
 refine done_ (done_of HT_.out (by kernel_rfl)) ?_
 try go_wp2
 refine bodyPost_ret (results_ct rfl _ _ gb299 27 #[.int .i64 t304,.int .i64 t305,.int .i64 t306] (0,0) _ rfl (by (with_reducible repeat (first|apply nB|apply dB|apply aB));refine blk_put (cs:=#[.int .i64 t304,.int .i64 t305,.int .i64 0]) ?_ 2 _ rfl;(with_reducible repeat (first|apply nB|apply dB|apply aB));refine blk_put (cs:=#[.int .i64 t304,.int .i64 0,.int .i64 0]) ?_ 1 _ rfl;(with_reducible repeat (first|apply nB|apply dB|apply aB));refine blk_put (cs:=#[.int .i64 0,.int .i64 0,.int .i64 0]) ?_ 0 _ rfl;(with_reducible repeat (first|apply nB|apply dB|apply aB));exact BK299.out) Try.underlying27 rfl (by kernel_rfl)) rfl ?_
 exact⟨by first|rfl|(simp [errW_none,errW_some] <;> rfl)|(simp [*,errW_none,errW_some] <;> rfl),kB HB.out⟩
end Go.Proofs.Ytoinagnieobbpaa.QFnExactStretchUp
