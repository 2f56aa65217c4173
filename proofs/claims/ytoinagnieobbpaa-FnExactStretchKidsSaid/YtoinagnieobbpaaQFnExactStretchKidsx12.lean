-- A walk, made by walk.py, a program of this session's.
import Derived.Test.YtoinagnieobbpaaQFnExactStretchKidsx0
import Derived.Test.YtoinagnieobbpaaQFnExactStretchKidsx1
import Derived.Test.YtoinagnieobbpaaQFnExactStretchKidsx10
import Derived.Test.YtoinagnieobbpaaQFnExactStretchKidsx11
namespace Go.Proofs.Ytoinagnieobbpaa.QFnExactStretchKids
open Go.RowKit Go.Proofs.YtoinagnieobbpaaW.PrintWords Go.Proofs.YtoinagnieobbpaaW.PrintLast Go.Proofs.YtoinagnieobbpaaW.PrintMore
attribute [local go_sem] max2_int min2_int max_two min_two max_three min_three max_four min_four   -- for this text's walks alone
set_option linter.unusedVariables false
set_option linter.unusedSimpArgs false

attribute [local go_sem high] eqA27
/-! ### impl_up: function 55 -/
mutual
def impl_up.l0 : Nat → Bool → List (S27) → Int → Int → Int → Int → Int → Int → Int → Int → Option (Int × Int × Int × Bool)
 | 0, _, _, _, _, _, _, _, _, _, _ => none
 | k + 1, x7, x10, x11, x12, x312000, x312001, x312002, x314000, x314001, x314002 => if x12 < x11 then (if 0 ≤ x12 then (if x12 < (x10.length : Int) then (if (!(((rd_T27 x10 x12).f0) == x312000) || (!(((rd_T27 x10 x12).f1) == x312001) || (!(((rd_T27 x10 x12).f2) == x312002)))) = true then (if ((rd_T27 x10 x12).f0) ≤ x312000 then (if x312001 ≤ ((rd_T27 x10 x12).f1) then (if x7 = true then (impl_up.j1 k x7 x10 x11 x12 (decide ((wrap64 (((rd_T27 x10 x12).f1) - ((rd_T27 x10 x12).f0))) < (wrap64 (x314001 - x314000)))) x312000 x312001 x312002 x314000 x314001 x314002 ((rd_T27 x10 x12).f0) ((rd_T27 x10 x12).f1) ((rd_T27 x10 x12).f2)) else (impl_up.j1 k x7 x10 x11 x12 true x312000 x312001 x312002 x314000 x314001 x314002 ((rd_T27 x10 x12).f0) ((rd_T27 x10 x12).f1) ((rd_T27 x10 x12).f2))) else (impl_up.j1 k x7 x10 x11 x12 false x312000 x312001 x312002 x314000 x314001 x314002 ((rd_T27 x10 x12).f0) ((rd_T27 x10 x12).f1) ((rd_T27 x10 x12).f2))) else (impl_up.j1 k x7 x10 x11 x12 false x312000 x312001 x312002 x314000 x314001 x314002 ((rd_T27 x10 x12).f0) ((rd_T27 x10 x12).f1) ((rd_T27 x10 x12).f2))) else (impl_up.j1 k x7 x10 x11 x12 false x312000 x312001 x312002 x314000 x314001 x314002 ((rd_T27 x10 x12).f0) ((rd_T27 x10 x12).f1) ((rd_T27 x10 x12).f2))) else (none)) else (none)) else (some (x314000, x314001, x314002, x7))
def impl_up.j1 : Nat → Bool → List (S27) → Int → Int → Bool → Int → Int → Int → Int → Int → Int → Int → Int → Int → Option (Int × Int × Int × Bool)
 | 0, _, _, _, _, _, _, _, _, _, _, _, _, _, _ => none
 | k + 1, x7, x10, x11, x12, x49, x312000, x312001, x312002, x314000, x314001, x314002, x316000, x316001, x316002 => if x49 = true then (impl_up.l0 k true x10 x11 (wrap64 (x12 + 1)) x312000 x312001 x312002 x316000 x316001 x316002) else (impl_up.l0 k x7 x10 x11 (wrap64 (x12 + 1)) x312000 x312001 x312002 x314000 x314001 x314002)
end
def impl_up.f (k : Nat) (l0 : List (S27)) (a1_0 : Int) (a1_1 : Int) (a1_2 : Int) : Option (Int × Int × Int × Bool) := impl_up.l0 k false l0 (l0.length : Int) 0 a1_0 a1_1 a1_2 0 0 0
theorem impl_up.mono_l : ∀ k, (∀ y0 y1 y2 y3 y4 y5 y6 y7 y8 y9, LeO (impl_up.l0 k y0 y1 y2 y3 y4 y5 y6 y7 y8 y9) (impl_up.l0 (k + 1) y0 y1 y2 y3 y4 y5 y6 y7 y8 y9)) ∧ (∀ y0 y1 y2 y3 y4 y5 y6 y7 y8 y9 y10 y11 y12 y13, LeO (impl_up.j1 k y0 y1 y2 y3 y4 y5 y6 y7 y8 y9 y10 y11 y12 y13) (impl_up.j1 (k + 1) y0 y1 y2 y3 y4 y5 y6 y7 y8 y9 y10 y11 y12 y13))
 | 0 => ⟨fun _ _ _ _ _ _ _ _ _ _ r h => by simp [impl_up.l0] at h, fun _ _ _ _ _ _ _ _ _ _ _ _ _ _ r h => by simp [impl_up.j1] at h⟩
 | k + 1 => by
  obtain ⟨ih0, ih1⟩ := impl_up.mono_l k
  refine ⟨?_, ?_⟩
  ·intro y0 y1 y2 y3 y4 y5 y6 y7 y8 y9
   unfold impl_up.l0
   repeat' first|(with_reducible first|exact ih0 _ _ _ _ _ _ _ _ _ _|exact ih1 _ _ _ _ _ _ _ _ _ _ _ _ _ _|exact LeO.refl _|exact LeO.none _|refine LeO.ite ?_ ?_|refine LeO.bind ?_ (fun _ => ?_))|exact LeO.none _|refine LeO.ite ?_ ?_|refine LeO.bind ?_ (fun _ => ?_)
  ·intro y0 y1 y2 y3 y4 y5 y6 y7 y8 y9 y10 y11 y12 y13
   unfold impl_up.j1
   repeat' first|(with_reducible first|exact ih0 _ _ _ _ _ _ _ _ _ _|exact ih1 _ _ _ _ _ _ _ _ _ _ _ _ _ _|exact LeO.refl _|exact LeO.none _|refine LeO.ite ?_ ?_|refine LeO.bind ?_ (fun _ => ?_))|exact LeO.none _|refine LeO.ite ?_ ?_|refine LeO.bind ?_ (fun _ => ?_)
theorem impl_up.mono : ∀ a0 a1 a2 a3 k, LeO (impl_up.f k a0 a1 a2 a3) (impl_up.f (k + 1) a0 a1 a2 a3) := by
 intro a0 a1 a2 a3 k
 obtain ⟨ih0, ih1⟩ := impl_up.mono_l k
 unfold impl_up.f
 repeat' first|(with_reducible first|exact ih0 _ _ _ _ _ _ _ _ _ _|exact ih1 _ _ _ _ _ _ _ _ _ _ _ _ _ _|exact LeO.refl _|exact LeO.none _|refine LeO.ite ?_ ?_|refine LeO.bind ?_ (fun _ => ?_))|exact LeO.none _|refine LeO.ite ?_ ?_|refine LeO.bind ?_ (fun _ => ?_)
set_option maxHeartbeats 8000000 in
set_option maxRecDepth 100000 in
theorem impl_up.calls (k : Nat) (A0 : Option Addr) (c0 : Nat) (l0 : List (S27)) (a1_0 : Int) (a1_1 : Int) (a1_2 : Int) (r1 : Int) (r2 : Int) (r3 : Int) (r4 : Bool) (w : World) (hr0 : Kd.C k27 w A0 l0.length l0) (hc0 : l0.length ≤ c0) (h : impl_up.f k l0 a1_0 a1_1 a1_2 = some (r1, r2, r3, r4)) :
  Calls Try.prog 55 #[.slice A0 l0.length c0, .agg #[.int .i64 a1_0, .int .i64 a1_1, .int .i64 a1_2]] w fun e w' => e = .returned (.tuple #[.agg #[.int .i64 r1, .int .i64 r2, .int .i64 r3], .bool r4]) ∧ Below w.heap.size w w' := by
 have hu27:=Try.underlying27
 have HR0:=mk0 hr0
 have HC0:=mk0 hc0
 clear hr0 hc0
 have HB:=mk0 (Below.refl w.heap.size w)
 have H:(impl_up.l0 k false l0 (l0.length:Int) 0 a1_0 a1_1 a1_2 0 0 0) = some (r1,r2,r3,r4):=h
 clear h
 have H':=mk0 H
 clear H
 go_enter Try.func55,Try.ntmps55
 go_wp2_with (first|((with_reducible refine gate_dst (N:=3) rfl ?_);refine box_event ?hg (N:=3) ?hd (cs:=#[.int .i64 a1_0,.int .i64 a1_1,.int .i64 a1_2]) (t:=27) ?hr ?_;(case hd=>rfl);(case hg=>rfl);(case hr=>first|(go_simp;done)|(go_simp;rfl));intro gb311 hg w3 hbox hb;have BK311:=mk0 (hbox);have GW311:=mk0 ((by rw [hg];exact (kZ HB.out):w.heap.size ≤ gb311));have GE311:=mk0 ((by rw [hg];exact (kZ HB.out):w.heap.size ≤ gb311));replace HB:=mk0 (kS HB.out hb);clear hb hbox hg)|((with_reducible refine gate_dst (N:=4) rfl ?_);refine box_event ?hg (N:=4) ?hd (cs:=#[.int .i64 0,.int .i64 0,.int .i64 0]) (t:=27) ?hr ?_;(case hd=>rfl);(case hg=>rfl);(case hr=>first|(go_simp;done)|(go_simp;rfl));intro gb312 hg w4 hbox hb;have BK312:=mk0 (hbox);have GW312:=mk0 ((by rw [hg];exact (kZ HB.out):w.heap.size ≤ gb312));have GE312:=mk0 ((by rw [hg];exact (kZ HB.out):w.heap.size ≤ gb312));replace HB:=mk0 (kS HB.out hb);have NB311_312:=mk0 ((by rw [hg];exact Nat.ne_of_lt (kL BK311.out):gb311 ≠ gb312));have NB312_311:=mk0 ((by rw [hg];exact Nat.ne_of_gt (kL BK311.out):gb312 ≠ gb311));replace BK311:=mk0 (kK BK311.out hb);clear hb hbox hg)|((with_reducible refine gate_dst (N:=6) rfl ?_);refine box_event ?hg (N:=6) ?hd (cs:=#[.int .i64 0,.int .i64 0,.int .i64 0]) (t:=27) ?hr ?_;(case hd=>rfl);(case hg=>rfl);(case hr=>first|(go_simp;done)|(go_simp;rfl));intro gb313 hg w5 hbox hb;have BK313:=mk0 (hbox);have GW313:=mk0 ((by rw [hg];exact (kZ HB.out):w.heap.size ≤ gb313));have GE313:=mk0 ((by rw [hg];exact (kZ HB.out):w.heap.size ≤ gb313));replace HB:=mk0 (kS HB.out hb);have NB311_313:=mk0 ((by rw [hg];exact Nat.ne_of_lt (kL BK311.out):gb311 ≠ gb313));have NB313_311:=mk0 ((by rw [hg];exact Nat.ne_of_gt (kL BK311.out):gb313 ≠ gb311));replace BK311:=mk0 (kK BK311.out hb);have NB312_313:=mk0 ((by rw [hg];exact Nat.ne_of_lt (kL BK312.out):gb312 ≠ gb313));have NB313_312:=mk0 ((by rw [hg];exact Nat.ne_of_gt (kL BK312.out):gb313 ≠ gb312));replace BK312:=mk0 (kK BK312.out hb);clear hb hbox hg))
 go_loopg [7,12] k (fun kq v7 v12 w'=>∃ (x7_1:Bool) (x12_1:Int) (x314000_1:Int) (x314001_1:Int) (x314002_1:Int),v7 = .bool x7_1 ∧ v12 = .int .i64 x12_1 ∧ Aside0 (impl_up.l0 kq x7_1 l0 (l0.length:Int) x12_1 a1_0 a1_1 a1_2 x314000_1 x314001_1 x314002_1 = some (r1,r2,r3,r4)) ∧ Aside0 (kq ≤ k) ∧ Aside0 (w'.heap[gb311]? = some (.cells #[.int .i64 a1_0,.int .i64 a1_1,.int .i64 a1_2] 27 (0,0))) ∧ Aside0 (w'.heap[gb312]? = some (.cells #[.int .i64 0,.int .i64 0,.int .i64 0] 27 (0,0))) ∧ Aside0 (w'.heap[gb313]? = some (.cells #[.int .i64 x314000_1,.int .i64 x314001_1,.int .i64 x314002_1] 27 (0,0))) ∧ Aside0 (Below w.heap.size w w'))
 case atStart=>exact⟨(false),(0),(0),(0),(0),(by first|rfl|(simp;done)|(simp [*];done)),(by first|rfl|(simp;done)|(simp [*];done)),H',⟨Nat.le_refl _⟩,⟨kN BK311.out⟩,⟨kN BK312.out⟩,⟨kN BK313.out⟩,⟨kB HB.out⟩⟩
 case round =>
  clear H'
  try clear p2
  try clear c5
  obtain⟨x7_1,x12_1,x314000_1,x314001_1,x314002_1,rfl,rfl,HA,HK1,BK311,BK312,BK313,HB⟩:=hrel
  cases gk with
  | zero=>exact absurd HA.out (by simp [impl_up.l0])
  | succ k1 =>
   have H:=HA.out
   clear HA
   simp only [impl_up.l0] at H
   by_cases c6:x12_1 < (l0.length:Int)
   rotate_left
   ·rw [if_neg c6] at H
    have c6b0:decide (x12_1 < (l0.length:Int)) = false:=decide_eq_false c6
    clear c6
    simp only [Option.some.injEq,Prod.mk.injEq] at H
    obtain⟨rfl,rfl,rfl,rfl⟩:=H
    have hnb64:=NB313_311.out
    have hnc64:=NB311_313.out
    have hnb65:=NB313_312.out
    have hnc65:=NB312_313.out
    obtain⟨hcz66_0,hcz66_1,hcz66_2,hfz66_0,hfz66_1,hfz66_2⟩:=cz3 BK313.out
    have hnb67:=NB312_311.out
    have hnc67:=NB311_312.out
    obtain⟨hcz68_0,hcz68_1,hcz68_2,hfz68_0,hfz68_1,hfz68_2⟩:=cz3 BK312.out
    go_wp2
    refine bodyPost_ret (results_ct rfl _ _ gb312 27 #[.int .i64 x314000_1,.int .i64 x314001_1,.int .i64 x314002_1] (0,0) _ rfl (by (with_reducible repeat (first|apply nB|apply dB|apply aB));refine blk_put (cs:=#[.int .i64 x314000_1,.int .i64 x314001_1,.int .i64 0]) ?_ 2 _ rfl;(with_reducible repeat (first|apply nB|apply dB|apply aB));refine blk_put (cs:=#[.int .i64 x314000_1,.int .i64 0,.int .i64 0]) ?_ 1 _ rfl;(with_reducible repeat (first|apply nB|apply dB|apply aB));refine blk_put (cs:=#[.int .i64 0,.int .i64 0,.int .i64 0]) ?_ 0 _ rfl;(with_reducible repeat (first|apply nB|apply dB|apply aB));exact BK312.out) Try.underlying27 rfl (by kernel_rfl)) rfl ?_
    exact⟨by first|rfl|(simp [errW_none,errW_some] <;> rfl)|(simp [*,errW_none,errW_some] <;> rfl),kB HB.out⟩

   rw [if_pos c6] at H
   have c6b0:decide (x12_1 < (l0.length:Int)) = true:=decide_eq_true c6
   clear c6
   by_cases c7:0 ≤ x12_1
   rotate_left
   ·rw [if_neg c7] at H
    exact absurd H (by simp)
   rw [if_pos c7] at H
   have c7b0:decide (0 ≤ x12_1) = true:=decide_eq_true c7
   clear c7
   by_cases c8:x12_1 < (l0.length:Int)
   rotate_left
   ·rw [if_neg c8] at H
    exact absurd H (by simp)
   rw [if_pos c8] at H
   have c8b0:decide (x12_1 < (l0.length:Int)) = true:=decide_eq_true c8
   clear c8
   have HC9:=mk0 H
   clear H
   have p314:0 ≤ (x12_1:Int):=of_decide_eq_true (by first|(with_reducible assumption)|assumption)
   have q314:x12_1 < (l0.length:Int):=of_decide_eq_true (by first|(with_reducible assumption)|assumption)
   obtain⟨ad314,e314,hx314_0,hx314_1,hx314_2⟩:=at_T27 HR0.out x12_1 p314 q314
   cases e314
   replace hx314_0:=(HB.out.cell (World.block_lt_of_cell? w _ hx314_0)).trans hx314_0
   replace hx314_1:=(HB.out.cell (World.block_lt_of_cell? w _ hx314_1)).trans hx314_1
   replace hx314_2:=(HB.out.cell (World.block_lt_of_cell? w _ hx314_2)).trans hx314_2
   replace p314:=eq_true p314
   replace q314:=eq_true q314
   go_upto_region 6 with (first|((with_reducible refine gate_dst (N:=9) rfl ?_);refine box_event ?hg (N:=9) ?hd (cs:=#[.int .i64 0,.int .i64 0,.int .i64 0]) (t:=27) ?hr ?_;(case hd=>rfl);(case hg=>rfl);(case hr=>first|(go_simp;done)|(go_simp;rfl));intro gb315 hg w10 hbox hb;have BK315:=mk0 (hbox);have GW315:=mk0 ((by rw [hg];exact (kZ HB.out):w.heap.size ≤ gb315));have GE315:=mk0 ((by rw [hg];exact (kZ HB.out):w.heap.size ≤ gb315));replace HB:=mk0 (kS HB.out hb);have NB311_315:=mk0 ((by rw [hg];exact Nat.ne_of_lt (kL BK311.out):gb311 ≠ gb315));have NB315_311:=mk0 ((by rw [hg];exact Nat.ne_of_gt (kL BK311.out):gb315 ≠ gb311));replace BK311:=mk0 (kK BK311.out hb);have NB312_315:=mk0 ((by rw [hg];exact Nat.ne_of_lt (kL BK312.out):gb312 ≠ gb315));have NB315_312:=mk0 ((by rw [hg];exact Nat.ne_of_gt (kL BK312.out):gb315 ≠ gb312));replace BK312:=mk0 (kK BK312.out hb);have NB313_315:=mk0 ((by rw [hg];exact Nat.ne_of_lt (kL BK313.out):gb313 ≠ gb315));have NB315_313:=mk0 ((by rw [hg];exact Nat.ne_of_gt (kL BK313.out):gb315 ≠ gb313));replace BK313:=mk0 (kK BK313.out hb);clear hb hbox hg;have hnb11:=NB315_311.out;have hnc11:=NB311_315.out;have hnb12:=NB315_312.out;have hnc12:=NB312_315.out;have hnb13:=NB315_313.out;have hnc13:=NB313_315.out;obtain⟨hcz14_0,hcz14_1,hcz14_2,hfz14_0,hfz14_1,hfz14_2⟩:=cz3 BK315.out))
   (try simp only [Act.put,sA,sO,sS])
   go_cut [49] (fun v49 wc=>∃ (kq:Nat) (x49_8:Bool),v49 = .bool x49_8 ∧ Aside0 (impl_up.j1 kq x7_1 l0 (l0.length:Int) x12_1 x49_8 a1_0 a1_1 a1_2 x314000_1 x314001_1 x314002_1 ((rd_T27 l0 x12_1).f0) ((rd_T27 l0 x12_1).f1) ((rd_T27 l0 x12_1).f2) = some (r1,r2,r3,r4)) ∧ Aside0 (kq ≤ k1) ∧ Aside0 (wc.heap[gb311]? = some (.cells #[.int .i64 a1_0,.int .i64 a1_1,.int .i64 a1_2] 27 (0,0))) ∧ Aside0 (wc.heap[gb312]? = some (.cells #[.int .i64 0,.int .i64 0,.int .i64 0] 27 (0,0))) ∧ Aside0 (wc.heap[gb313]? = some (.cells #[.int .i64 x314000_1,.int .i64 x314001_1,.int .i64 x314002_1] 27 (0,0))) ∧ Aside0 (wc.heap[gb315]? = some (.cells #[.int .i64 ((rd_T27 l0 x12_1).f0),.int .i64 ((rd_T27 l0 x12_1).f1),.int .i64 ((rd_T27 l0 x12_1).f2)] 27 (0,0))) ∧ Aside0 (Below w.heap.size w wc))
   case first =>
    have H:=HC9.out
    clear HC9
    by_cases c15:(!(((rd_T27 l0 x12_1).f0) == a1_0) || (!(((rd_T27 l0 x12_1).f1) == a1_1) || (!(((rd_T27 l0 x12_1).f2) == a1_2)))) = true
    rotate_left
    ·rw [if_neg c15] at H
     have c15b0:(!(((rd_T27 l0 x12_1).f0) == a1_0) || (!(((rd_T27 l0 x12_1).f1) == a1_1) || (!(((rd_T27 l0 x12_1).f2) == a1_2)))) = false:=by simpa using c15
     clear c15
     (first|rw [c15b0]|(simp only [i64_w,i32_w];rw [c15b0])|skip)
     have H':=mk0 H
     clear H
     have hnb49:=NB315_311.out
     have hnc49:=NB311_315.out
     have hnb50:=NB315_312.out
     have hnc50:=NB312_315.out
     have hnb51:=NB315_313.out
     have hnc51:=NB313_315.out
     obtain⟨hcz52_0,hcz52_1,hcz52_2,hfz52_0,hfz52_1,hfz52_2⟩:=cz3 BK315.out
     have hnb53:=NB311_312.out
     have hnc53:=NB312_311.out
     have hnb54:=NB311_313.out
     have hnc54:=NB313_311.out
     obtain⟨hcz55_0,hcz55_1,hcz55_2,hfz55_0,hfz55_1,hfz55_2⟩:=cz3 BK311.out
     go_wp2
     go_meet
     case rel=>exact⟨_,(false),(by first|rfl|(simp;done)|(simp [*];done)),H',⟨by have:=HK1.out;first|omega|exact Nat.le_refl _⟩,⟨by (with_reducible repeat (first|apply nB|apply dB|apply aB));refine blk_far ?_ NB311_315.out _;(with_reducible repeat (first|apply nB|apply dB|apply aB));refine blk_far ?_ NB311_315.out _;(with_reducible repeat (first|apply nB|apply dB|apply aB));refine blk_far ?_ NB311_315.out _;(with_reducible repeat (first|apply nB|apply dB|apply aB));exact BK311.out⟩,⟨by (with_reducible repeat (first|apply nB|apply dB|apply aB));refine blk_far ?_ NB312_315.out _;(with_reducible repeat (first|apply nB|apply dB|apply aB));refine blk_far ?_ NB312_315.out _;(with_reducible repeat (first|apply nB|apply dB|apply aB));refine blk_far ?_ NB312_315.out _;(with_reducible repeat (first|apply nB|apply dB|apply aB));exact BK312.out⟩,⟨by (with_reducible repeat (first|apply nB|apply dB|apply aB));refine blk_far ?_ NB313_315.out _;(with_reducible repeat (first|apply nB|apply dB|apply aB));refine blk_far ?_ NB313_315.out _;(with_reducible repeat (first|apply nB|apply dB|apply aB));refine blk_far ?_ NB313_315.out _;(with_reducible repeat (first|apply nB|apply dB|apply aB));exact BK313.out⟩,⟨by (with_reducible repeat (first|apply nB|apply dB|apply aB));refine blk_put (cs:=#[.int .i64 ((rd_T27 l0 x12_1).f0),.int .i64 ((rd_T27 l0 x12_1).f1),.int .i64 0]) ?_ 2 _ rfl;(with_reducible repeat (first|apply nB|apply dB|apply aB));refine blk_put (cs:=#[.int .i64 ((rd_T27 l0 x12_1).f0),.int .i64 0,.int .i64 0]) ?_ 1 _ rfl;(with_reducible repeat (first|apply nB|apply dB|apply aB));refine blk_put (cs:=#[.int .i64 0,.int .i64 0,.int .i64 0]) ?_ 0 _ rfl;(with_reducible repeat (first|apply nB|apply dB|apply aB));exact BK315.out⟩,⟨kB HB.out⟩⟩
    rw [if_pos c15] at H
    have c15b0:(!(((rd_T27 l0 x12_1).f0) == a1_0) || (!(((rd_T27 l0 x12_1).f1) == a1_1) || (!(((rd_T27 l0 x12_1).f2) == a1_2)))) = true:=c15
    clear c15
    (first|rw [c15b0]|(simp only [i64_w,i32_w];rw [c15b0])|skip)
    by_cases c16:((rd_T27 l0 x12_1).f0) ≤ a1_0
    rotate_left
    ·rw [if_neg c16] at H
     have c16b0:decide (((rd_T27 l0 x12_1).f0) ≤ a1_0) = false:=decide_eq_false c16
     clear c16
     have H':=mk0 H
     clear H
     have hnb42:=NB315_311.out
     have hnc42:=NB311_315.out
     have hnb43:=NB315_312.out
     have hnc43:=NB312_315.out
     have hnb44:=NB315_313.out
     have hnc44:=NB313_315.out
     obtain⟨hcz45_0,hcz45_1,hcz45_2,hfz45_0,hfz45_1,hfz45_2⟩:=cz3 BK315.out
     have hnb46:=NB311_312.out
     have hnc46:=NB312_311.out
     have hnb47:=NB311_313.out
     have hnc47:=NB313_311.out
     obtain⟨hcz48_0,hcz48_1,hcz48_2,hfz48_0,hfz48_1,hfz48_2⟩:=cz3 BK311.out
     go_wp2
     go_meet
     case rel=>exact⟨_,(false),(by first|rfl|(simp;done)|(simp [*];done)),H',⟨by have:=HK1.out;first|omega|exact Nat.le_refl _⟩,⟨by (with_reducible repeat (first|apply nB|apply dB|apply aB));refine blk_far ?_ NB311_315.out _;(with_reducible repeat (first|apply nB|apply dB|apply aB));refine blk_far ?_ NB311_315.out _;(with_reducible repeat (first|apply nB|apply dB|apply aB));refine blk_far ?_ NB311_315.out _;(with_reducible repeat (first|apply nB|apply dB|apply aB));exact BK311.out⟩,⟨by (with_reducible repeat (first|apply nB|apply dB|apply aB));refine blk_far ?_ NB312_315.out _;(with_reducible repeat (first|apply nB|apply dB|apply aB));refine blk_far ?_ NB312_315.out _;(with_reducible repeat (first|apply nB|apply dB|apply aB));refine blk_far ?_ NB312_315.out _;(with_reducible repeat (first|apply nB|apply dB|apply aB));exact BK312.out⟩,⟨by (with_reducible repeat (first|apply nB|apply dB|apply aB));refine blk_far ?_ NB313_315.out _;(with_reducible repeat (first|apply nB|apply dB|apply aB));refine blk_far ?_ NB313_315.out _;(with_reducible repeat (first|apply nB|apply dB|apply aB));refine blk_far ?_ NB313_315.out _;(with_reducible repeat (first|apply nB|apply dB|apply aB));exact BK313.out⟩,⟨by (with_reducible repeat (first|apply nB|apply dB|apply aB));refine blk_put (cs:=#[.int .i64 ((rd_T27 l0 x12_1).f0),.int .i64 ((rd_T27 l0 x12_1).f1),.int .i64 0]) ?_ 2 _ rfl;(with_reducible repeat (first|apply nB|apply dB|apply aB));refine blk_put (cs:=#[.int .i64 ((rd_T27 l0 x12_1).f0),.int .i64 0,.int .i64 0]) ?_ 1 _ rfl;(with_reducible repeat (first|apply nB|apply dB|apply aB));refine blk_put (cs:=#[.int .i64 0,.int .i64 0,.int .i64 0]) ?_ 0 _ rfl;(with_reducible repeat (first|apply nB|apply dB|apply aB));exact BK315.out⟩,⟨kB HB.out⟩⟩
    rw [if_pos c16] at H
    have c16b0:decide (((rd_T27 l0 x12_1).f0) ≤ a1_0) = true:=decide_eq_true c16
    clear c16
    by_cases c17:a1_1 ≤ ((rd_T27 l0 x12_1).f1)
    rotate_left
    ·rw [if_neg c17] at H
     have c17b0:decide (a1_1 ≤ ((rd_T27 l0 x12_1).f1)) = false:=decide_eq_false c17
     clear c17
     have H':=mk0 H
     clear H
     have hnb35:=NB315_311.out
     have hnc35:=NB311_315.out
     have hnb36:=NB315_312.out
     have hnc36:=NB312_315.out
     have hnb37:=NB315_313.out
     have hnc37:=NB313_315.out
     obtain⟨hcz38_0,hcz38_1,hcz38_2,hfz38_0,hfz38_1,hfz38_2⟩:=cz3 BK315.out
     have hnb39:=NB311_312.out
     have hnc39:=NB312_311.out
     have hnb40:=NB311_313.out
     have hnc40:=NB313_311.out
     obtain⟨hcz41_0,hcz41_1,hcz41_2,hfz41_0,hfz41_1,hfz41_2⟩:=cz3 BK311.out
     go_wp2
     go_meet
     case rel=>exact⟨_,(false),(by first|rfl|(simp;done)|(simp [*];done)),H',⟨by have:=HK1.out;first|omega|exact Nat.le_refl _⟩,⟨by (with_reducible repeat (first|apply nB|apply dB|apply aB));refine blk_far ?_ NB311_315.out _;(with_reducible repeat (first|apply nB|apply dB|apply aB));refine blk_far ?_ NB311_315.out _;(with_reducible repeat (first|apply nB|apply dB|apply aB));refine blk_far ?_ NB311_315.out _;(with_reducible repeat (first|apply nB|apply dB|apply aB));exact BK311.out⟩,⟨by (with_reducible repeat (first|apply nB|apply dB|apply aB));refine blk_far ?_ NB312_315.out _;(with_reducible repeat (first|apply nB|apply dB|apply aB));refine blk_far ?_ NB312_315.out _;(with_reducible repeat (first|apply nB|apply dB|apply aB));refine blk_far ?_ NB312_315.out _;(with_reducible repeat (first|apply nB|apply dB|apply aB));exact BK312.out⟩,⟨by (with_reducible repeat (first|apply nB|apply dB|apply aB));refine blk_far ?_ NB313_315.out _;(with_reducible repeat (first|apply nB|apply dB|apply aB));refine blk_far ?_ NB313_315.out _;(with_reducible repeat (first|apply nB|apply dB|apply aB));refine blk_far ?_ NB313_315.out _;(with_reducible repeat (first|apply nB|apply dB|apply aB));exact BK313.out⟩,⟨by (with_reducible repeat (first|apply nB|apply dB|apply aB));refine blk_put (cs:=#[.int .i64 ((rd_T27 l0 x12_1).f0),.int .i64 ((rd_T27 l0 x12_1).f1),.int .i64 0]) ?_ 2 _ rfl;(with_reducible repeat (first|apply nB|apply dB|apply aB));refine blk_put (cs:=#[.int .i64 ((rd_T27 l0 x12_1).f0),.int .i64 0,.int .i64 0]) ?_ 1 _ rfl;(with_reducible repeat (first|apply nB|apply dB|apply aB));refine blk_put (cs:=#[.int .i64 0,.int .i64 0,.int .i64 0]) ?_ 0 _ rfl;(with_reducible repeat (first|apply nB|apply dB|apply aB));exact BK315.out⟩,⟨kB HB.out⟩⟩
    rw [if_pos c17] at H
    have c17b0:decide (a1_1 ≤ ((rd_T27 l0 x12_1).f1)) = true:=decide_eq_true c17
    clear c17
    by_cases c18:x7_1 = true
    rotate_left
    ·replace c18:=Bool.eq_false_iff.mpr c18
     subst c18
     have H1:(impl_up.j1 k1 false l0 (l0.length:Int) x12_1 true a1_0 a1_1 a1_2 x314000_1 x314001_1 x314002_1 ((rd_T27 l0 x12_1).f0) ((rd_T27 l0 x12_1).f1) ((rd_T27 l0 x12_1).f2)) = some (r1,r2,r3,r4):=by rw [if_neg (show ¬ (false = true) by decide)] at H;exact H
     clear H
     have H:=H1
     clear H1
     have H':=mk0 H
     clear H
     have hnb28:=NB315_311.out
     have hnc28:=NB311_315.out
     have hnb29:=NB315_312.out
     have hnc29:=NB312_315.out
     have hnb30:=NB315_313.out
     have hnc30:=NB313_315.out
     obtain⟨hcz31_0,hcz31_1,hcz31_2,hfz31_0,hfz31_1,hfz31_2⟩:=cz3 BK315.out
     have hnb32:=NB311_312.out
     have hnc32:=NB312_311.out
     have hnb33:=NB311_313.out
     have hnc33:=NB313_311.out
     obtain⟨hcz34_0,hcz34_1,hcz34_2,hfz34_0,hfz34_1,hfz34_2⟩:=cz3 BK311.out
     go_wp2
     go_meet
     case rel=>exact⟨_,(true),(by first|rfl|(simp;done)|(simp [*];done)),H',⟨by have:=HK1.out;first|omega|exact Nat.le_refl _⟩,⟨by (with_reducible repeat (first|apply nB|apply dB|apply aB));refine blk_far ?_ NB311_315.out _;(with_reducible repeat (first|apply nB|apply dB|apply aB));refine blk_far ?_ NB311_315.out _;(with_reducible repeat (first|apply nB|apply dB|apply aB));refine blk_far ?_ NB311_315.out _;(with_reducible repeat (first|apply nB|apply dB|apply aB));exact BK311.out⟩,⟨by (with_reducible repeat (first|apply nB|apply dB|apply aB));refine blk_far ?_ NB312_315.out _;(with_reducible repeat (first|apply nB|apply dB|apply aB));refine blk_far ?_ NB312_315.out _;(with_reducible repeat (first|apply nB|apply dB|apply aB));refine blk_far ?_ NB312_315.out _;(with_reducible repeat (first|apply nB|apply dB|apply aB));exact BK312.out⟩,⟨by (with_reducible repeat (first|apply nB|apply dB|apply aB));refine blk_far ?_ NB313_315.out _;(with_reducible repeat (first|apply nB|apply dB|apply aB));refine blk_far ?_ NB313_315.out _;(with_reducible repeat (first|apply nB|apply dB|apply aB));refine blk_far ?_ NB313_315.out _;(with_reducible repeat (first|apply nB|apply dB|apply aB));exact BK313.out⟩,⟨by (with_reducible repeat (first|apply nB|apply dB|apply aB));refine blk_put (cs:=#[.int .i64 ((rd_T27 l0 x12_1).f0),.int .i64 ((rd_T27 l0 x12_1).f1),.int .i64 0]) ?_ 2 _ rfl;(with_reducible repeat (first|apply nB|apply dB|apply aB));refine blk_put (cs:=#[.int .i64 ((rd_T27 l0 x12_1).f0),.int .i64 0,.int .i64 0]) ?_ 1 _ rfl;(with_reducible repeat (first|apply nB|apply dB|apply aB));refine blk_put (cs:=#[.int .i64 0,.int .i64 0,.int .i64 0]) ?_ 0 _ rfl;(with_reducible repeat (first|apply nB|apply dB|apply aB));exact BK315.out⟩,⟨kB HB.out⟩⟩
    subst c18
    have H1:(impl_up.j1 k1 true l0 (l0.length:Int) x12_1 (decide ((wrap64 (((rd_T27 l0 x12_1).f1) - ((rd_T27 l0 x12_1).f0))) < (wrap64 (x314001_1 - x314000_1)))) a1_0 a1_1 a1_2 x314000_1 x314001_1 x314002_1 ((rd_T27 l0 x12_1).f0) ((rd_T27 l0 x12_1).f1) ((rd_T27 l0 x12_1).f2)) = some (r1,r2,r3,r4):=by rw [if_pos rfl] at H;exact H
    clear H
    have H:=H1
    clear H1
    have H':=mk0 H
    clear H
    have hnb19:=NB315_311.out
    have hnc19:=NB311_315.out
    have hnb20:=NB315_312.out
    have hnc20:=NB312_315.out
    have hnb21:=NB315_313.out
    have hnc21:=NB313_315.out
    obtain⟨hcz22_0,hcz22_1,hcz22_2,hfz22_0,hfz22_1,hfz22_2⟩:=cz3 BK315.out
    have hnb23:=NB311_312.out
    have hnc23:=NB312_311.out
    have hnb24:=NB311_313.out
    have hnc24:=NB313_311.out
    obtain⟨hcz25_0,hcz25_1,hcz25_2,hfz25_0,hfz25_1,hfz25_2⟩:=cz3 BK311.out
    have hnb26:=NB313_312.out
    have hnc26:=NB312_313.out
    obtain⟨hcz27_0,hcz27_1,hcz27_2,hfz27_0,hfz27_1,hfz27_2⟩:=cz3 BK313.out
    go_wp2
    go_meet
    case rel=>exact⟨_,(decide ((wrap64 (((rd_T27 l0 x12_1).f1) - ((rd_T27 l0 x12_1).f0))) < (wrap64 (x314001_1 - x314000_1)))),(by first|rfl|(simp;done)|(simp [*];done)),H',⟨by have:=HK1.out;first|omega|exact Nat.le_refl _⟩,⟨by (with_reducible repeat (first|apply nB|apply dB|apply aB));refine blk_far ?_ NB311_315.out _;(with_reducible repeat (first|apply nB|apply dB|apply aB));refine blk_far ?_ NB311_315.out _;(with_reducible repeat (first|apply nB|apply dB|apply aB));refine blk_far ?_ NB311_315.out _;(with_reducible repeat (first|apply nB|apply dB|apply aB));exact BK311.out⟩,⟨by (with_reducible repeat (first|apply nB|apply dB|apply aB));refine blk_far ?_ NB312_315.out _;(with_reducible repeat (first|apply nB|apply dB|apply aB));refine blk_far ?_ NB312_315.out _;(with_reducible repeat (first|apply nB|apply dB|apply aB));refine blk_far ?_ NB312_315.out _;(with_reducible repeat (first|apply nB|apply dB|apply aB));exact BK312.out⟩,⟨by (with_reducible repeat (first|apply nB|apply dB|apply aB));refine blk_far ?_ NB313_315.out _;(with_reducible repeat (first|apply nB|apply dB|apply aB));refine blk_far ?_ NB313_315.out _;(with_reducible repeat (first|apply nB|apply dB|apply aB));refine blk_far ?_ NB313_315.out _;(with_reducible repeat (first|apply nB|apply dB|apply aB));exact BK313.out⟩,⟨by (with_reducible repeat (first|apply nB|apply dB|apply aB));refine blk_put (cs:=#[.int .i64 ((rd_T27 l0 x12_1).f0),.int .i64 ((rd_T27 l0 x12_1).f1),.int .i64 0]) ?_ 2 _ rfl;(with_reducible repeat (first|apply nB|apply dB|apply aB));refine blk_put (cs:=#[.int .i64 ((rd_T27 l0 x12_1).f0),.int .i64 0,.int .i64 0]) ?_ 1 _ rfl;(with_reducible repeat (first|apply nB|apply dB|apply aB));refine blk_put (cs:=#[.int .i64 0,.int .i64 0,.int .i64 0]) ?_ 0 _ rfl;(with_reducible repeat (first|apply nB|apply dB|apply aB));exact BK315.out⟩,⟨kB HB.out⟩⟩
   case rest =>
    clear HC9
    try clear c1
    try clear c2
    try clear p2
    try clear c3
    try clear p3
    try clear q3
    try clear hx3
    try clear c4
    try clear c5
    try clear c6
    try clear c6b0
    try clear p6
    try clear c7
    try clear c7b0
    try clear c8
    try clear c8b0
    try clear c11
    try clear c12
    try clear c13
    try clear c15
    try clear c15b0
    try clear c16
    try clear c16b0
    try clear c17
    try clear c17b0
    try clear c18
    try clear c19
    try clear c20
    try clear c21
    try clear c23
    try clear c24
    try clear c26
    try clear c28
    try clear c29
    try clear c30
    try clear p31
    try clear q31
    try clear hx31
    try clear c32
    try clear c33
    try clear c35
    try clear c36
    try clear c37
    try clear c39
    try clear c40
    try clear c42
    try clear c43
    try clear c44
    try clear c46
    try clear c47
    try clear c49
    try clear c50
    try clear c51
    try clear c53
    try clear c54
    try clear c55
    try clear hcz14_0
    try clear hcz14_1
    try clear hcz14_2
    try clear hcz22_0
    try clear hcz22_1
    try clear hcz22_2
    try clear hcz25_0
    try clear hcz25_1
    try clear hcz25_2
    try clear hcz27_0
    try clear hcz27_1
    try clear hcz27_2
    try clear hcz31_0
    try clear hcz31_1
    try clear hcz31_2
    try clear hcz34_0
    try clear hcz34_1
    try clear hcz34_2
    try clear hcz38_0
    try clear hcz38_1
    try clear hcz38_2
    try clear hcz41_0
    try clear hcz41_1
    try clear hcz41_2
    try clear hcz45_0
    try clear hcz45_1
    try clear hcz45_2
    try clear hcz48_0
    try clear hcz48_1
    try clear hcz48_2
    try clear hcz52_0
    try clear hcz52_1
    try clear hcz52_2
    try clear hcz55_0
    try clear hcz55_1
    try clear hcz55_2
    try clear hfz14_0
    try clear hfz14_1
    try clear hfz14_2
    try clear hfz22_0
    try clear hfz22_1
    try clear hfz22_2
    try clear hfz25_0
    try clear hfz25_1
    try clear hfz25_2
    try clear hfz27_0
    try clear hfz27_1
    try clear hfz27_2
    try clear hfz31_0
    try clear hfz31_1
    try clear hfz31_2
    try clear hfz34_0
    try clear hfz34_1
    try clear hfz34_2
    try clear hfz38_0
    try clear hfz38_1
    try clear hfz38_2
    try clear hfz41_0
    try clear hfz41_1
    try clear hfz41_2
    try clear hfz45_0
    try clear hfz45_1
    try clear hfz45_2
    try clear hfz48_0
    try clear hfz48_1
    try clear hfz48_2
    try clear hfz52_0
    try clear hfz52_1
    try clear hfz52_2
    try clear hfz55_0
    try clear hfz55_1
    try clear hfz55_2
    try clear hx314_0
    try clear hx314_1
    try clear hx314_2
    try clear p2
    try clear p314
    try clear q314
    obtain⟨kq,x49_8,rfl,HA,HJ8,BK311,BK312,BK313,BK315,HB⟩:=hcut
    cases kq with
    | zero=>exact absurd HA.out (by simp [impl_up.j1])
    | succ kj8 =>
     have H:=HA.out
     clear HA
     simp only [impl_up.j1] at H
     by_cases c56:x49_8 = true
     rotate_left
     ·replace c56:=Bool.eq_false_iff.mpr c56
      subst c56
      have H1:(impl_up.l0 kj8 x7_1 l0 (l0.length:Int) (wrap64 (x12_1 + 1)) a1_0 a1_1 a1_2 x314000_1 x314001_1 x314002_1) = some (r1,r2,r3,r4):=by rw [if_neg (show ¬ (false = true) by decide)] at H;exact H
      clear H
      have H:=H1
      clear H1
      have H':=mk0 H
      clear H
      go_wp2
      go_roundg kj8
      case measure=>have:=HK1.out;have:=HJ8.out;omega
      case rel=>exact⟨(x7_1),(wrap64 (x12_1 + 1)),(x314000_1),(x314001_1),(x314002_1),(by first|rfl|(simp;done)|(simp [*];done)),(by first|rfl|(simp;done)|(simp [*];done)),H',⟨by have:=HK1.out;have:=HJ8.out;omega⟩,⟨kN BK311.out⟩,⟨kN BK312.out⟩,⟨kN BK313.out⟩,⟨kB HB.out⟩⟩
     subst c56
     have H1:(impl_up.l0 kj8 true l0 (l0.length:Int) (wrap64 (x12_1 + 1)) a1_0 a1_1 a1_2 ((rd_T27 l0 x12_1).f0) ((rd_T27 l0 x12_1).f1) ((rd_T27 l0 x12_1).f2)) = some (r1,r2,r3,r4):=by rw [if_pos rfl] at H;exact H
     clear H
     have H:=H1
     clear H1
     have H':=mk0 H
     clear H
     have hnb57:=NB315_311.out
     have hnc57:=NB311_315.out
     have hnb58:=NB315_312.out
     have hnc58:=NB312_315.out
     have hnb59:=NB315_313.out
     have hnc59:=NB313_315.out
     obtain⟨hcz60_0,hcz60_1,hcz60_2,hfz60_0,hfz60_1,hfz60_2⟩:=cz3 BK315.out
     have hnb61:=NB313_311.out
     have hnc61:=NB311_313.out
     have hnb62:=NB313_312.out
     have hnc62:=NB312_313.out
     obtain⟨hcz63_0,hcz63_1,hcz63_2,hfz63_0,hfz63_1,hfz63_2⟩:=cz3 BK313.out
     go_wp2
     go_roundg kj8
     case measure=>have:=HK1.out;have:=HJ8.out;omega
     case rel=>exact⟨(true),(wrap64 (x12_1 + 1)),(((rd_T27 l0 x12_1).f0)),(((rd_T27 l0 x12_1).f1)),(((rd_T27 l0 x12_1).f2)),(by first|rfl|(simp;done)|(simp [*];done)),(by first|rfl|(simp;done)|(simp [*];done)),H',⟨by have:=HK1.out;have:=HJ8.out;omega⟩,⟨by (with_reducible repeat (first|apply nB|apply dB|apply aB));refine blk_far ?_ NB311_313.out _;(with_reducible repeat (first|apply nB|apply dB|apply aB));refine blk_far ?_ NB311_313.out _;(with_reducible repeat (first|apply nB|apply dB|apply aB));refine blk_far ?_ NB311_313.out _;(with_reducible repeat (first|apply nB|apply dB|apply aB));exact BK311.out⟩,⟨by (with_reducible repeat (first|apply nB|apply dB|apply aB));refine blk_far ?_ NB312_313.out _;(with_reducible repeat (first|apply nB|apply dB|apply aB));refine blk_far ?_ NB312_313.out _;(with_reducible repeat (first|apply nB|apply dB|apply aB));refine blk_far ?_ NB312_313.out _;(with_reducible repeat (first|apply nB|apply dB|apply aB));exact BK312.out⟩,⟨by (with_reducible repeat (first|apply nB|apply dB|apply aB));refine blk_put (cs:=#[.int .i64 ((rd_T27 l0 x12_1).f0),.int .i64 ((rd_T27 l0 x12_1).f1),.int .i64 x314002_1]) ?_ 2 _ rfl;(with_reducible repeat (first|apply nB|apply dB|apply aB));refine blk_put (cs:=#[.int .i64 ((rd_T27 l0 x12_1).f0),.int .i64 x314001_1,.int .i64 x314002_1]) ?_ 1 _ rfl;(with_reducible repeat (first|apply nB|apply dB|apply aB));refine blk_put (cs:=#[.int .i64 x314000_1,.int .i64 x314001_1,.int .i64 x314002_1]) ?_ 0 _ rfl;(with_reducible repeat (first|apply nB|apply dB|apply aB));exact BK313.out⟩,⟨kB HB.out⟩⟩
-- NOT PRINTED: function 74 (impl_Stretch_74)

-- NOT PRINTED: function 56 (impl_Stretch_56)


/-! ### impl_Stretch_57: function 57 (by hand) -/
def impl_Stretch_57.f (l0 : List S27) : Option (List S27) := if l0.length < 5864062014805 then some l0 else none
theorem impl_Stretch_57.info : (Try.prog.info? 27).map (fun i => (i.zero, i.size, i.bytes)) = some (some (.agg #[(.int .i64 0), (.int .i64 0), (.int .i64 0)]), 3, 24) := by kernel_rfl
set_option maxHeartbeats 8000000 in
set_option maxRecDepth 100000 in
theorem impl_Stretch_57.calls (A0 : Option Addr) (c0 : Nat) (l0 : List S27) (r : List S27) (w : World) (hr0 : Kd.C k27 w A0 l0.length l0) (hc0 : l0.length ≤ c0) (h : impl_Stretch_57.f l0 = some r) :
    Calls Try.prog 57 #[.slice A0 l0.length c0] w fun e w' => ∃ v0_ : Value, e = .returned (v0_) ∧ Kd.R k27 27 w' w.heap.size (fun _ => True) v0_ r ∧ Below w.heap.size w w' := by
  unfold impl_Stretch_57.f at h
  by_cases hm : l0.length < 5864062014805
  · rw [if_pos hm] at h
    obtain rfl := Option.some.inj h
    clear h
    have HB := Aside0.mk (Below.refl w.heap.size w)
    cases A0 with
    | none =>
      have hl : l0 = [] := by
        rcases Nat.eq_zero_or_pos l0.length with h0 | h0
        · exact List.length_eq_zero_iff.1 h0
        · obtain ⟨ad, e, _⟩ := hr0.2.2 h0
          cases e
      subst hl
      clear hr0 hc0 hm
      have he_ : ∀ w_ : World, (binOp .eql 39 (.slice none 0 c0) (.slice none 0 0)).run Try.prog w_ = .ok (.bool true) w_ := fun w_ => _root_.Go.Lib.run_eql_slice_nil w_ 39 27 none 0 c0 0 0 Try.underlying39
      go_enter Try.func57, Try.ntmps57
      go_wp2
      go_ret
      exact ⟨_, by first | rfl | (simp; done), Kd.R_nil _ _ _ _ _, HB.out⟩
    | some ad =>
      have HR0 := Aside0.mk hr0
      have HC0 := Aside0.mk hc0
      have LM := Aside0.mk hm
      clear hr0 hc0 hm
      have he_ : ∀ w_ : World, (binOp .eql 39 (.slice (some ad) l0.length c0) (.slice none 0 0)).run Try.prog w_ = .ok (.bool false) w_ := fun w_ => _root_.Go.Lib.run_eql_slice_nil w_ 39 27 (some ad) l0.length c0 0 0 Try.underlying39
      go_enter Try.func57, Try.ntmps57
      go_wp2_with (first | ((with_reducible refine gate_dst (N := 5) rfl ?_); refine Kd.R_lit k27 _ 27 ?hg (N := 5) ?hd (xs := ([] : List S27)) (inner := []) (ok := fun _ => True) (okp := fun _ => True) ?hr ?hp (fun _ hk => hk) trivial (Below.refl _ _) (Nat.le_refl _) (by simp) ?_; (case hd => rfl); (case hg => rfl); (case hr => first | (go_simp; done) | (go_simp; rfl)); (case hp => exact (Reps.none _ _)); intro v138 w18 ho19 hb hg_ hnew_; clear hg_ hnew_; have n0_ := Aside0.mk (Kd.R_lower ho19 (below_size (by repeat (first | (with_reducible first | exact HB.out | apply below_alloc | apply pw_below_drewN | apply below_drew1) | exact HB.out)))); have n2_ := Aside0.mk (below_step (by repeat (first | (with_reducible first | exact HB.out | apply below_alloc | apply pw_below_drewN | apply below_drew1) | exact HB.out)) hb); clear HB; have HO139 := n0_; have HB := n2_; clear n0_ n2_; clear hb ho19) | ((with_reducible refine gate_builtin (b := .append) (xs := #[.tmp 5, .tmp 6]) rfl ?_); at_builtin; refine Kd.R_append_rows k27 (w0 := w) w.heap.size rfl (.tmp 5) (.tmp 6) 39 27 (.agg #[(.int .i64 0), (.int .i64 0), (.int .i64 0)]) 24 rfl Try.underlying39 impl_Stretch_57.info rfl (by decide) (by omega) v138 ([] : List S27) l0 _ _ _ (fun _ => True) (fun _ => False) rfl rfl ?aO ?aR (fun _ _ h => h) (fun _ h => h.elim) ?aF ?aB ?aS ?aL ?_; (case aR => repeat (first | exact (Kd.C_below HR0.out HB.out) | (with_reducible refine Kd.C_alloc ?_ _) | (with_reducible refine Kd.C_drewN ?_ _) | (with_reducible refine Kd.C_drew ?_))); (case aB => exact (by repeat (first | (with_reducible first | exact HB.out | apply below_alloc | apply pw_below_drewN | apply below_drew1) | exact HB.out))); (case aF => exact (fun _ _ => trivial)); (case aO => exact (by (with_reducible repeat (first | apply Kd.R_alloc | apply Kd.R_drewN | apply Kd.R_drew)); exact HO139.out)); (case aS => exact (below_size (by repeat (first | (with_reducible first | exact HB.out | apply below_alloc | apply pw_below_drewN | apply below_drew1) | exact HB.out)))); (case aL => have := LM.out; simp only [List.length_nil, Nat.zero_add]; omega); intro v142 w22 ho hb hg hat; rw [List.nil_append] at ho; have n1_ := Aside0.mk (hb); have n2_ := Aside0.mk (ho); clear HB; clear HO139; have HB := n1_; have HO143 := n2_; clear n1_ n2_; clear ho hb hg hat))
      go_ret
      exact ⟨_, by first | rfl | (simp; done), by (with_reducible repeat (first | apply Kd.R_alloc | apply Kd.R_drewN | apply Kd.R_drew)); exact HO143.out, by repeat (first | (with_reducible first | exact HB.out | apply below_alloc | apply pw_below_drewN | apply below_drew1) | exact HB.out)⟩
  · rw [if_neg hm] at h
    exact absurd h (by simp)


/-! ### impl_StretchKids: function 33 (by hand) -/
def impl_StretchKids.p (k : Nat) (all : List S27) (s x : Int × Int × Int) : Bool := match impl_up.f k all x.1 x.2.1 x.2.2 with
  | some u => !u.2.2.2 || !decide ((u.1, u.2.1, u.2.2.1) = s)
  | none => true
def impl_StretchKids.f (k : Nat) (l0 : List Int) (a1_0 : Int) (a1_1 : Int) (a1_2 : Int) : Option (List S27) := (impl_StretchOk.f k l0 a1_0 a1_1 a1_2).bind fun t1 => if t1 = true then ((impl_stretches.f k l0).bind fun t2 => if (decide (t2.length < 5864062014805) && t2.all fun x => (impl_up.f k t2 x.f0 x.f1 x.f2).isSome) = true then some (((t2.map fun x : S27 => (x.f0, x.f1, x.f2)).filter fun x => !impl_StretchKids.p k t2 (a1_0, a1_1, a1_2) x).map fun t : Int × Int × Int => (⟨t.1, t.2.1, t.2.2⟩ : S27)) else none) else some []
theorem impl_StretchKids.mono : ∀ a0 a1 a2 a3 k, LeO (impl_StretchKids.f k a0 a1 a2 a3) (impl_StretchKids.f (k + 1) a0 a1 a2 a3) := by
  intro a0 a1 a2 a3 k r h
  unfold impl_StretchKids.f at h ⊢
  obtain ⟨t1, h1, h⟩ := Option.bind_eq_some_iff.mp h
  rw [impl_StretchOk.mono _ _ _ _ _ _ h1, Option.bind_some]
  cases t1 with
  | false =>
    rw [if_neg (by decide)] at h ⊢
    exact h
  | true =>
    rw [if_pos rfl] at h ⊢
    obtain ⟨t2, h2, h⟩ := Option.bind_eq_some_iff.mp h
    rw [impl_stretches.mono _ _ _ h2, Option.bind_some]
    split at h
    · rename_i hc
      rw [Bool.and_eq_true, List.all_eq_true] at hc
      have hu : ∀ x ∈ t2, ∃ u, impl_up.f k t2 x.f0 x.f1 x.f2 = some u ∧ impl_up.f (k + 1) t2 x.f0 x.f1 x.f2 = some u := fun x hx => by
        obtain ⟨u, hu⟩ := Option.isSome_iff_exists.1 (hc.2 x hx)
        exact ⟨u, hu, impl_up.mono _ _ _ _ _ _ hu⟩
      rw [if_pos (by rw [Bool.and_eq_true, List.all_eq_true]; exact ⟨hc.1, fun x hx => by obtain ⟨u, _, e⟩ := hu x hx; rw [e]; rfl⟩)]
      have hf : ((t2.map fun x : S27 => (x.f0, x.f1, x.f2)).filter fun x => !impl_StretchKids.p (k + 1) t2 (a1, a2, a3) x) = ((t2.map fun x : S27 => (x.f0, x.f1, x.f2)).filter fun x => !impl_StretchKids.p k t2 (a1, a2, a3) x) := by
        refine List.filter_congr fun x hx => ?_
        obtain ⟨y, hy, rfl⟩ := List.mem_map.1 hx
        obtain ⟨u, e1, e2⟩ := hu y hy
        unfold impl_StretchKids.p
        rw [e1, e2]
      rw [hf]
      exact h
    · cases h
theorem impl_StretchKids.tells (k : Nat) (t2 : List S27) (s : Int × Int × Int) (A : Option Addr) (c base : Nat) (ok : Nat → Prop) (w5 w6 : World) (gS : Nat) (hc : ∀ x ∈ t2, (impl_up.f k t2 x.f0 x.f1 x.f2).isSome = true) (ho : Kd.R k27 27 w5 base ok (.slice A t2.length c) t2)
    (hb6 : Below (w5.alloc (.cells #[.slice A t2.length c] 39)).heap.size (w5.alloc (.cells #[.slice A t2.length c] 39)) w6) (h5 : w5.heap[gS]? = some (.cells #[.int .i64 s.1, .int .i64 s.2.1, .int .i64 s.2.2] 27 (0, 0))) (b : Nat) (hb : (w5.alloc (.cells #[.slice A t2.length c] 39)).heap.size ≤ b) :
    Str.Tells3 58 #[.pointer (some ⟨w5.heap.size, 0, none⟩), .pointer (some ⟨gS, 0, none⟩)] (impl_StretchKids.p k t2 s) (t2.map fun x : S27 => (x.f0, x.f1, x.f2)) w6 b := by
  intro W x hx hgr
  obtain ⟨y, hy, rfl⟩ := List.mem_map.1 hx
  obtain ⟨u, hu⟩ := Option.isSome_iff_exists.1 (hc y hy)
  have hV : (w5.alloc (.cells #[.slice A t2.length c] 39)).heap.size = w5.heap.size + 1 := by show (w5.heap.push _).size = _; simp
  have hsz := hb6.size
  have hlS : gS < w5.heap.size := (Array.getElem?_eq_some_iff.1 h5).1
  have st : ∀ j, j < w5.heap.size → W.heap[j]? = w5.heap[j]? := fun j hj =>
    (hgr.block j (by omega) (fun e => by injection e with e; omega)).trans ((hb6.block j (by omega)).trans (Below.heap_alloc w5 _ j hj))
  have eA : W.heap[w5.heap.size]? = some (.cells #[.slice A t2.length c] 39 (0, 0)) := (hgr.block _ (by omega) (fun e => by injection e with e; omega)).trans (Str.after_new hb6)
  have eS := (st gS hlS).trans h5
  have hszW := hgr.size
  have e := Str.kidCl w5.heap.size gS A t2.length c s (y.f0, y.f1, y.f2) (u.1, u.2.1, u.2.2.1) u.2.2.2 W eA eS (fun W' hb' => impl_up.calls k A c t2 y.f0 y.f1 y.f2 u.1 u.2.1 u.2.2.1 u.2.2.2 W'
    (Str.c_block k27 (fun x : S27 => (x.f0, x.f1, x.f2)) rfl (fun _ _ _ _ _ h => k27_openM h) (fun w b ok x => k27_mkM w b ok x) ho (fun j hj => by
      have hlt := Kd.R_lt ho j hj
      exact (hb'.block j (by omega)).trans (st j hlt))) (Kd.R_reads' ho).2.1 hu)
  have ep : impl_StretchKids.p k t2 s (y.f0, y.f1, y.f2) = (!u.2.2.2 || !decide ((u.1, u.2.1, u.2.2.1) = s)) := by
    unfold impl_StretchKids.p
    rw [hu]
  rw [ep]
  exact e
set_option maxHeartbeats 8000000 in
set_option maxRecDepth 1000000 in
theorem impl_StretchKids.calls (k : Nat) (A0 : Option Addr) (c0 : Nat) (l0 : List Int) (a1_0 : Int) (a1_1 : Int) (a1_2 : Int) (r : List S27) (w : World) (hr0 : Kd.C (Kd.int .u8) w A0 l0.length l0) (hc0 : l0.length ≤ c0) (h : impl_StretchKids.f k l0 a1_0 a1_1 a1_2 = some r) :
    Calls Try.prog 33 #[.slice A0 l0.length c0, .agg #[.int .i64 a1_0, .int .i64 a1_1, .int .i64 a1_2]] w fun e w' => ∃ v0_ : Value, e = .returned (v0_) ∧ Kd.R k27 27 w' w.heap.size (fun _ => True) v0_ r ∧ Below w.heap.size w w' := by
  have hu27 := Try.underlying27
  unfold impl_StretchKids.f at h
  obtain ⟨t1, h1, h⟩ := Option.bind_eq_some_iff.mp h
  have HR0 := Aside0.mk hr0
  have HC0 := Aside0.mk hc0
  have A1 := Aside0.mk h1
  clear hr0 hc0 h1
  cases t1 with
  | false =>
    obtain rfl := Option.some.inj h
    clear h
    go_enter Try.func33, Try.ntmps33
    go_wp2_with (go_at_call 14; refine (impl_StretchOk.calls k A0 c0 l0 a1_0 a1_1 a1_2 false _ (Kd.C_alloc HR0.out _) HC0.out A1.out).mono ?_; rintro e w4 ⟨rfl, hb⟩; have HB := Aside0.mk (Str.below_next ((Below.refl _ _).alloc (Nat.le_refl _) _) hb); clear hb)
    go_ret
    exact ⟨_, rfl, Kd.R_nil _ _ _ _ _, HB.out⟩
  | true =>
    rw [if_pos rfl] at h
    obtain ⟨t2, h2, h⟩ := Option.bind_eq_some_iff.mp h
    split at h
    case isFalse => cases h
    rename_i hc
    rw [Bool.and_eq_true, List.all_eq_true, decide_eq_true_eq] at hc
    obtain rfl := Option.some.inj h
    clear h
    have A2 := Aside0.mk h2
    have HC := Aside0.mk hc
    clear h2 hc
    have HCL := Aside0.mk (show impl_Stretch_57.f t2 = some t2 by unfold impl_Stretch_57.f; rw [if_pos HC.out.1])
    go_enter Try.func33, Try.ntmps33
    go_wp2_with (first
      | (go_at_call 14; refine (impl_StretchOk.calls k A0 c0 l0 a1_0 a1_1 a1_2 true _ (Kd.C_alloc HR0.out _) HC0.out A1.out).mono ?_; rintro e w4 ⟨rfl, hb⟩; have HB := Aside0.mk (Str.below_next ((Below.refl _ _).alloc (Nat.le_refl _) _) hb); have S4 := Aside0.mk (Str.after_new hb); clear hb)
      | (go_at_call 53; refine (impl_stretches.calls k A0 c0 l0 t2 _ (Kd.C_below HR0.out HB.out) HC0.out A2.out).mono ?_; rintro e w5 ⟨v5, rfl, ho5, hb⟩; have HB5 := Aside0.mk (Str.below_next HB.out hb); have S5 := Aside0.mk ((hb.block _ (Array.getElem?_eq_some_iff.1 S4.out).1).trans S4.out); obtain ⟨Aall, call, rfl⟩ := Kd.R_slice ho5; have HO5 := Aside0.mk ho5; clear hb ho5)
      | (go_at_call 57; refine (impl_Stretch_57.calls Aall call t2 t2 _ (Kd.R_reads' (Kd.R_alloc HO5.out _)).2.2 (Kd.R_reads' HO5.out).2.1 HCL.out).mono ?_; rintro e w6 ⟨v6, rfl, ho6, hb⟩; have HB6 := Aside0.mk hb; have HO6 := Aside0.mk ho6; clear hb ho6)
      | (go_at_call 56; refine (Str.deleteStr k27 (fun x : S27 => (x.f0, x.f1, x.f2)) (fun t => ⟨t.1, t.2.1, t.2.2⟩) (fun _ => rfl) rfl (fun _ _ _ _ _ h => k27_openM h) (fun w b ok x => k27_mkM w b ok x) 58 _ (impl_StretchKids.p k t2 (a1_0, a1_1, a1_2)) (enters_of Try.func58 (by kernel_rfl) rfl) (fun k_ => (w5.alloc (.cells #[.slice Aall t2.length call] 39)).heap.size ≤ k_) v6 t2 _ _ HB6.out (Kd.R_mono (Kd.R_bound HO6.out) (fun k_ hk => hk.2.1)) (by have := HC.out.1; omega) (fun b hb _ => impl_StretchKids.tells k t2 (a1_0, a1_1, a1_2) Aall call _ _ w5 w6 w.heap.size HC.out.2 HO5.out HB6.out S5.out b hb)).mono ?_; rintro e w7 ⟨v7, rfl, ho7, hb7, _⟩; have HB7 := Aside0.mk hb7; have HO7 := Aside0.mk ho7; clear hb7 ho7))
    go_ret
    have hBV : Below w.heap.size w (w5.alloc (.cells #[.slice Aall t2.length call] 39)) := HB5.out.alloc HB5.out.size _
    exact ⟨_, rfl, Kd.R_mono (Kd.R_lower HO7.out hBV.size) (fun _ _ => trivial), Str.below_next hBV HB7.out⟩

end Go.Proofs.Ytoinagnieobbpaa.QFnExactStretchKids
