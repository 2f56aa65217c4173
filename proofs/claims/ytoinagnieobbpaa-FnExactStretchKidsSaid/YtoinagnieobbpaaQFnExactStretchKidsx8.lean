-- A walk, made by walk.py, a program of this session's.
import Derived.Test.YtoinagnieobbpaaQFnExactStretchKidsx0
import Derived.Test.YtoinagnieobbpaaQFnExactStretchKidsx1
import Derived.Test.YtoinagnieobbpaaQFnExactStretchKidsx6
import Derived.Test.YtoinagnieobbpaaQFnExactStretchKidsx7
namespace Go.Proofs.Ytoinagnieobbpaa.QFnExactStretchKids
open Go.RowKit Go.Proofs.YtoinagnieobbpaaW.PrintWords Go.Proofs.YtoinagnieobbpaaW.PrintLast Go.Proofs.YtoinagnieobbpaaW.PrintMore
attribute [local go_sem] max2_int min2_int max_two min_two max_three min_three max_four min_four   -- for this text's walks alone
set_option linter.unusedVariables false
set_option linter.unusedSimpArgs false

attribute [local go_sem high] eqA27
/-! ### spec_l11Up: function 54 -/
mutual
def spec_l11Up.l0 : Nat → List (S27) → Int → Int → Int → Int → Int → Int → Int → Option (Int × Int × Int × Bool)
 | 0, _, _, _, _, _, _, _, _ => none
 | k + 1, x0, x7, x227000, x227001, x227002, x229000, x229001, x229002 => if x7 < (x0.length : Int) then (if 0 ≤ x7 then (if (!(((rd_T27 x0 x7).f0) == x227000) || (!(((rd_T27 x0 x7).f1) == x227001) || (!(((rd_T27 x0 x7).f2) == x227002)))) = true then (if ((rd_T27 x0 x7).f0) ≤ x227000 then (if ((rd_T27 x0 x7).f1) ≥ x227001 then (if x229001 = 0 then (spec_l11Up.j1 k x0 x7 true x227000 x227001 x227002 x229000 x229001 x229002 ((rd_T27 x0 x7).f0) ((rd_T27 x0 x7).f1) ((rd_T27 x0 x7).f2)) else (spec_l11Up.j1 k x0 x7 (decide ((wrap64 (((rd_T27 x0 x7).f1) - ((rd_T27 x0 x7).f0))) < (wrap64 (x229001 - x229000)))) x227000 x227001 x227002 x229000 x229001 x229002 ((rd_T27 x0 x7).f0) ((rd_T27 x0 x7).f1) ((rd_T27 x0 x7).f2))) else (spec_l11Up.j1 k x0 x7 false x227000 x227001 x227002 x229000 x229001 x229002 ((rd_T27 x0 x7).f0) ((rd_T27 x0 x7).f1) ((rd_T27 x0 x7).f2))) else (spec_l11Up.j1 k x0 x7 false x227000 x227001 x227002 x229000 x229001 x229002 ((rd_T27 x0 x7).f0) ((rd_T27 x0 x7).f1) ((rd_T27 x0 x7).f2))) else (spec_l11Up.j1 k x0 x7 false x227000 x227001 x227002 x229000 x229001 x229002 ((rd_T27 x0 x7).f0) ((rd_T27 x0 x7).f1) ((rd_T27 x0 x7).f2))) else (none)) else (some (x229000, x229001, x229002, decide (x229001 > 0)))
def spec_l11Up.j1 : Nat → List (S27) → Int → Bool → Int → Int → Int → Int → Int → Int → Int → Int → Int → Option (Int × Int × Int × Bool)
 | 0, _, _, _, _, _, _, _, _, _, _, _, _ => none
 | k + 1, x0, x7, x54, x227000, x227001, x227002, x229000, x229001, x229002, x231000, x231001, x231002 => if x54 = true then (spec_l11Up.l0 k x0 (wrap64 (x7 + 1)) x227000 x227001 x227002 x231000 x231001 x231002) else (spec_l11Up.l0 k x0 (wrap64 (x7 + 1)) x227000 x227001 x227002 x229000 x229001 x229002)
end
def spec_l11Up.f (k : Nat) (l0 : List (S27)) (a1_0 : Int) (a1_1 : Int) (a1_2 : Int) : Option (Int × Int × Int × Bool) := spec_l11Up.l0 k l0 0 a1_0 a1_1 a1_2 0 0 0
theorem spec_l11Up.mono_l : ∀ k, (∀ y0 y1 y2 y3 y4 y5 y6 y7, LeO (spec_l11Up.l0 k y0 y1 y2 y3 y4 y5 y6 y7) (spec_l11Up.l0 (k + 1) y0 y1 y2 y3 y4 y5 y6 y7)) ∧ (∀ y0 y1 y2 y3 y4 y5 y6 y7 y8 y9 y10 y11, LeO (spec_l11Up.j1 k y0 y1 y2 y3 y4 y5 y6 y7 y8 y9 y10 y11) (spec_l11Up.j1 (k + 1) y0 y1 y2 y3 y4 y5 y6 y7 y8 y9 y10 y11))
 | 0 => ⟨fun _ _ _ _ _ _ _ _ r h => by simp [spec_l11Up.l0] at h, fun _ _ _ _ _ _ _ _ _ _ _ _ r h => by simp [spec_l11Up.j1] at h⟩
 | k + 1 => by
  obtain ⟨ih0, ih1⟩ := spec_l11Up.mono_l k
  refine ⟨?_, ?_⟩
  ·intro y0 y1 y2 y3 y4 y5 y6 y7
   unfold spec_l11Up.l0
   repeat' first|(with_reducible first|exact ih0 _ _ _ _ _ _ _ _|exact ih1 _ _ _ _ _ _ _ _ _ _ _ _|exact LeO.refl _|exact LeO.none _|refine LeO.ite ?_ ?_|refine LeO.bind ?_ (fun _ => ?_))|exact LeO.none _|refine LeO.ite ?_ ?_|refine LeO.bind ?_ (fun _ => ?_)
  ·intro y0 y1 y2 y3 y4 y5 y6 y7 y8 y9 y10 y11
   unfold spec_l11Up.j1
   repeat' first|(with_reducible first|exact ih0 _ _ _ _ _ _ _ _|exact ih1 _ _ _ _ _ _ _ _ _ _ _ _|exact LeO.refl _|exact LeO.none _|refine LeO.ite ?_ ?_|refine LeO.bind ?_ (fun _ => ?_))|exact LeO.none _|refine LeO.ite ?_ ?_|refine LeO.bind ?_ (fun _ => ?_)
theorem spec_l11Up.mono : ∀ a0 a1 a2 a3 k, LeO (spec_l11Up.f k a0 a1 a2 a3) (spec_l11Up.f (k + 1) a0 a1 a2 a3) := by
 intro a0 a1 a2 a3 k
 obtain ⟨ih0, ih1⟩ := spec_l11Up.mono_l k
 unfold spec_l11Up.f
 repeat' first|(with_reducible first|exact ih0 _ _ _ _ _ _ _ _|exact ih1 _ _ _ _ _ _ _ _ _ _ _ _|exact LeO.refl _|exact LeO.none _|refine LeO.ite ?_ ?_|refine LeO.bind ?_ (fun _ => ?_))|exact LeO.none _|refine LeO.ite ?_ ?_|refine LeO.bind ?_ (fun _ => ?_)
set_option maxHeartbeats 8000000 in
set_option maxRecDepth 100000 in
theorem spec_l11Up.calls (k : Nat) (A0 : Option Addr) (c0 : Nat) (l0 : List (S27)) (a1_0 : Int) (a1_1 : Int) (a1_2 : Int) (r1 : Int) (r2 : Int) (r3 : Int) (r4 : Bool) (w : World) (hr0 : Kd.C k27 w A0 l0.length l0) (hc0 : l0.length ≤ c0) (h : spec_l11Up.f k l0 a1_0 a1_1 a1_2 = some (r1, r2, r3, r4)) :
  Calls Try.prog 54 #[.slice A0 l0.length c0, .agg #[.int .i64 a1_0, .int .i64 a1_1, .int .i64 a1_2]] w fun e w' => e = .returned (.tuple #[.agg #[.int .i64 r1, .int .i64 r2, .int .i64 r3], .bool r4]) ∧ Below w.heap.size w w' := by
 have hu27:=Try.underlying27
 have HR0:=mk0 hr0
 have HC0:=mk0 hc0
 clear hr0 hc0
 have HB:=mk0 (Below.refl w.heap.size w)
 have H:(spec_l11Up.l0 k l0 0 a1_0 a1_1 a1_2 0 0 0) = some (r1,r2,r3,r4):=h
 clear h
 have H':=mk0 H
 clear H
 go_enter Try.func54,Try.ntmps54
 go_wp2_with (first|((with_reducible refine gate_dst (N:=3) rfl ?_);refine box_event ?hg (N:=3) ?hd (cs:=#[.int .i64 a1_0,.int .i64 a1_1,.int .i64 a1_2]) (t:=27) ?hr ?_;(case hd=>rfl);(case hg=>rfl);(case hr=>first|(go_simp;done)|(go_simp;rfl));intro gb226 hg w3 hbox hb;have BK226:=mk0 (hbox);have GW226:=mk0 ((by rw [hg];exact (kZ HB.out):w.heap.size ≤ gb226));have GE226:=mk0 ((by rw [hg];exact (kZ HB.out):w.heap.size ≤ gb226));replace HB:=mk0 (kS HB.out hb);clear hb hbox hg)|((with_reducible refine gate_dst (N:=4) rfl ?_);refine box_event ?hg (N:=4) ?hd (cs:=#[.int .i64 0,.int .i64 0,.int .i64 0]) (t:=27) ?hr ?_;(case hd=>rfl);(case hg=>rfl);(case hr=>first|(go_simp;done)|(go_simp;rfl));intro gb227 hg w4 hbox hb;have BK227:=mk0 (hbox);have GW227:=mk0 ((by rw [hg];exact (kZ HB.out):w.heap.size ≤ gb227));have GE227:=mk0 ((by rw [hg];exact (kZ HB.out):w.heap.size ≤ gb227));replace HB:=mk0 (kS HB.out hb);have NB226_227:=mk0 ((by rw [hg];exact Nat.ne_of_lt (kL BK226.out):gb226 ≠ gb227));have NB227_226:=mk0 ((by rw [hg];exact Nat.ne_of_gt (kL BK226.out):gb227 ≠ gb226));replace BK226:=mk0 (kK BK226.out hb);clear hb hbox hg)|((with_reducible refine gate_dst (N:=6) rfl ?_);refine box_event ?hg (N:=6) ?hd (cs:=#[.int .i64 0,.int .i64 0,.int .i64 0]) (t:=27) ?hr ?_;(case hd=>rfl);(case hg=>rfl);(case hr=>first|(go_simp;done)|(go_simp;rfl));intro gb228 hg w5 hbox hb;have BK228:=mk0 (hbox);have GW228:=mk0 ((by rw [hg];exact (kZ HB.out):w.heap.size ≤ gb228));have GE228:=mk0 ((by rw [hg];exact (kZ HB.out):w.heap.size ≤ gb228));replace HB:=mk0 (kS HB.out hb);have NB226_228:=mk0 ((by rw [hg];exact Nat.ne_of_lt (kL BK226.out):gb226 ≠ gb228));have NB228_226:=mk0 ((by rw [hg];exact Nat.ne_of_gt (kL BK226.out):gb228 ≠ gb226));replace BK226:=mk0 (kK BK226.out hb);have NB227_228:=mk0 ((by rw [hg];exact Nat.ne_of_lt (kL BK227.out):gb227 ≠ gb228));have NB228_227:=mk0 ((by rw [hg];exact Nat.ne_of_gt (kL BK227.out):gb228 ≠ gb227));replace BK227:=mk0 (kK BK227.out hb);clear hb hbox hg;have hnb6:=NB228_226.out;have hnc6:=NB226_228.out;have hnb7:=NB228_227.out;have hnc7:=NB227_228.out;obtain⟨hcz8_0,hcz8_1,hcz8_2,hfz8_0,hfz8_1,hfz8_2⟩:=cz3 BK228.out))
 go_loopg [7] k (fun kq v7 w'=>∃ (x7_1:Int) (x229000_1:Int) (x229001_1:Int) (x229002_1:Int),v7 = .int .i64 x7_1 ∧ Aside0 (spec_l11Up.l0 kq l0 x7_1 a1_0 a1_1 a1_2 x229000_1 x229001_1 x229002_1 = some (r1,r2,r3,r4)) ∧ Aside0 (kq ≤ k) ∧ Aside0 (w'.heap[gb226]? = some (.cells #[.int .i64 a1_0,.int .i64 a1_1,.int .i64 a1_2] 27 (0,0))) ∧ Aside0 (w'.heap[gb227]? = some (.cells #[.int .i64 0,.int .i64 0,.int .i64 0] 27 (0,0))) ∧ Aside0 (w'.heap[gb228]? = some (.cells #[.int .i64 x229000_1,.int .i64 x229001_1,.int .i64 x229002_1] 27 (0,0))) ∧ Aside0 (Below w.heap.size w w'))
 case atStart=>exact⟨(0),(0),(0),(0),(by first|rfl|(simp;done)|(simp [*];done)),H',⟨Nat.le_refl _⟩,⟨by (with_reducible repeat (first|apply nB|apply dB|apply aB));refine blk_far ?_ NB226_228.out _;(with_reducible repeat (first|apply nB|apply dB|apply aB));refine blk_far ?_ NB226_228.out _;(with_reducible repeat (first|apply nB|apply dB|apply aB));refine blk_far ?_ NB226_228.out _;(with_reducible repeat (first|apply nB|apply dB|apply aB));exact BK226.out⟩,⟨by (with_reducible repeat (first|apply nB|apply dB|apply aB));refine blk_far ?_ NB227_228.out _;(with_reducible repeat (first|apply nB|apply dB|apply aB));refine blk_far ?_ NB227_228.out _;(with_reducible repeat (first|apply nB|apply dB|apply aB));refine blk_far ?_ NB227_228.out _;(with_reducible repeat (first|apply nB|apply dB|apply aB));exact BK227.out⟩,⟨by (with_reducible repeat (first|apply nB|apply dB|apply aB));refine blk_put (cs:=#[.int .i64 0,.int .i64 0,.int .i64 0]) ?_ 2 _ rfl;(with_reducible repeat (first|apply nB|apply dB|apply aB));refine blk_put (cs:=#[.int .i64 0,.int .i64 0,.int .i64 0]) ?_ 1 _ rfl;(with_reducible repeat (first|apply nB|apply dB|apply aB));refine blk_put (cs:=#[.int .i64 0,.int .i64 0,.int .i64 0]) ?_ 0 _ rfl;(with_reducible repeat (first|apply nB|apply dB|apply aB));exact BK228.out⟩,⟨kB HB.out⟩⟩
 case round =>
  clear H'
  try clear p2
  try clear c5
  try clear c6
  try clear c7
  try clear hcz8_0
  try clear hcz8_1
  try clear hcz8_2
  try clear hfz8_0
  try clear hfz8_1
  try clear hfz8_2
  obtain⟨x7_1,x229000_1,x229001_1,x229002_1,rfl,HA,HK1,BK226,BK227,BK228,HB⟩:=hrel
  cases gk with
  | zero=>exact absurd HA.out (by simp [spec_l11Up.l0])
  | succ k1 =>
   have H:=HA.out
   clear HA
   simp only [spec_l11Up.l0] at H
   by_cases c9:x7_1 < (l0.length:Int)
   rotate_left
   ·rw [if_neg c9] at H
    have c9b0:decide (x7_1 < (l0.length:Int)) = false:=decide_eq_false c9
    clear c9
    simp only [Option.some.injEq,Prod.mk.injEq] at H
    obtain⟨rfl,rfl,rfl,rfl⟩:=H
    try go_wp2
    replace BK226:=mk0 (dB BK226.out)
    replace BK227:=mk0 (dB BK227.out)
    replace BK228:=mk0 (dB BK228.out)
    replace HB:=mk0 (dZ HB.out)
    refine start_ (n:=6) (S:=fun w'=>w'.cell? ⟨gb228,0,none⟩ = some (.int .i64 x229000_1) ∧ w'.cell? ⟨gb228,1,none⟩ = some (.int .i64 x229001_1) ∧ w'.cell? ⟨gb228,2,none⟩ = some (.int .i64 x229002_1)) (ds:=[]) #[false,false,false,false,false,false] (by kernel_rfl) rfl rfl (ck3 BK228.out) (fun hHeld=>?_)
    generalize wr.drew = w68 at BK226 BK227 BK228 HB hHeld ⊢
    refine pure_ (i:=1) (N:=some 57) (v:=?_) (a':=?_) #[false,true,false,false,false,false] rfl rfl (by kernel_rfl) (fun _ _ _ h=>h) (Or.inl ⟨by rfl,?_⟩) ?_ ?_
    rotate_left
    ·intro w'
     go_simp
     with_reducible rfl
    rotate_left
    ·simp only [Act.put,sA,sO,sS,i64_w,i32_w]
     rfl
    refine take_ (i:=0) (N:=some 56) (v:=?_) (a':=?_) #[true,true,false,false,false,false] rfl rfl (by kernel_rfl) (fun _ _ _ h=>h) (Or.inl ⟨by rfl,?_⟩) hHeld ?_ ?_
    rotate_left
    ·rintro w' ⟨s0,s1,s2⟩
     go_simp
     with_reducible rfl
    rotate_left
    ·simp only [Act.put,sA,sO,sS,i64_w,i32_w]
     rfl
    refine take_ (i:=2) (N:=some 58) (v:=?_) (a':=?_) #[true,true,true,false,false,false] rfl rfl (by kernel_rfl) (fun _ _ _ h=>h) (Or.inl ⟨by rfl,?_⟩) hHeld ?_ ?_
    rotate_left
    ·rintro w' ⟨s0,s1,s2⟩
     go_simp
     with_reducible rfl
    rotate_left
    ·simp only [Act.put,sA,sO,sS,i64_w,i32_w]
     rfl
    refine pure_ (i:=3) (N:=some 59) (v:=?_) (a':=?_) #[true,true,true,true,false,false] rfl rfl (by kernel_rfl) (fun _ _ _ h=>h) (Or.inl ⟨by rfl,?_⟩) ?_ ?_
    rotate_left
    ·intro w'
     go_simp
     with_reducible rfl
    rotate_left
    ·simp only [Act.put,sA,sO,sS,i64_w,i32_w]
     rfl
    refine one_ (i:=4) (N:=none) #[true,true,true,true,true,false] rfl rfl (by kernel_rfl) (by decide) (fun K hK=>?_)
    have hs69:w68.cell? ⟨gb227,0,none⟩ = some (.int .i64 0):=(blk_cell BK227.out 0).trans rfl
    have hfs69:=blk_frozen BK227.out 0
    have hns69_0:=NB226_227.out
    have hns69_2:=NB228_227.out
    have hms69_0:=NB227_226.out
    have hms69_2:=NB227_228.out
    have hs70:w68.cell? ⟨gb227,1,none⟩ = some (.int .i64 0):=(blk_cell BK227.out 1).trans rfl
    have hfs70:=blk_frozen BK227.out 1
    have hns70_0:=NB226_227.out
    have hns70_2:=NB228_227.out
    have hms70_0:=NB227_226.out
    have hms70_2:=NB227_228.out
    have hs71:w68.cell? ⟨gb227,2,none⟩ = some (.int .i64 0):=(blk_cell BK227.out 2).trans rfl
    have hfs71:=blk_frozen BK227.out 2
    have hns71_0:=NB226_227.out
    have hns71_2:=NB228_227.out
    have hms71_0:=NB227_226.out
    have hms71_2:=NB227_228.out
    refine skip_ (w1:=?_) (by rfl) rfl ?_ ?_
    rotate_left
    ·go_simp
     rfl
    refine hK.out _ _ ⟨((cell_far (p:=⟨gb227,_,none⟩) NB228_227.out _).trans (((cell_far (p:=⟨gb227,_,none⟩) NB228_227.out _).trans (((cell_far (p:=⟨gb227,_,none⟩) NB228_227.out _).trans (hHeld.1)))))),((cell_far (p:=⟨gb227,_,none⟩) NB228_227.out _).trans (((cell_far (p:=⟨gb227,_,none⟩) NB228_227.out _).trans (((cell_far (p:=⟨gb227,_,none⟩) NB228_227.out _).trans (hHeld.2.1)))))),((cell_far (p:=⟨gb227,_,none⟩) NB228_227.out _).trans (((cell_far (p:=⟨gb227,_,none⟩) NB228_227.out _).trans (((cell_far (p:=⟨gb227,_,none⟩) NB228_227.out _).trans (hHeld.2.2))))))⟩ (fun hHeld=>?_)
    clear hK K
    refine pure_ (i:=5) (N:=some 5) (v:=?_) (a':=?_) #[true,true,true,true,true,true] rfl rfl (by kernel_rfl) (fun _ _ _ h=>h) (Or.inl ⟨by rfl,?_⟩) ?_ ?_
    rotate_left
    ·intro w'
     go_simp
     with_reducible rfl
    rotate_left
    ·simp only [Act.put,sA,sO,sS,i64_w,i32_w]
     rfl
    refine done_ (by kernel_rfl) ?_
    try go_wp2
    refine bodyPost_ret (results_ct rfl _ _ gb227 27 #[.int .i64 x229000_1,.int .i64 x229001_1,.int .i64 x229002_1] (0,0) _ rfl (by (with_reducible repeat (first|apply nB|apply dB|apply aB));refine blk_put (cs:=#[.int .i64 x229000_1,.int .i64 x229001_1,.int .i64 0]) ?_ 2 _ rfl;(with_reducible repeat (first|apply nB|apply dB|apply aB));refine blk_put (cs:=#[.int .i64 x229000_1,.int .i64 0,.int .i64 0]) ?_ 1 _ rfl;(with_reducible repeat (first|apply nB|apply dB|apply aB));refine blk_put (cs:=#[.int .i64 0,.int .i64 0,.int .i64 0]) ?_ 0 _ rfl;(with_reducible repeat (first|apply nB|apply dB|apply aB));exact BK227.out) Try.underlying27 rfl (by kernel_rfl)) rfl ?_
    exact⟨by first|rfl|(simp [errW_none,errW_some] <;> rfl)|(simp [*,errW_none,errW_some] <;> rfl),kB HB.out⟩

   rw [if_pos c9] at H
   have c9b0:decide (x7_1 < (l0.length:Int)) = true:=decide_eq_true c9
   clear c9
   by_cases c10:0 ≤ x7_1
   rotate_left
   ·rw [if_neg c10] at H
    exact absurd H (by simp)
   rw [if_pos c10] at H
   have c10b0:decide (0 ≤ x7_1) = true:=decide_eq_true c10
   clear c10
   have HC11:=mk0 H
   clear H
   have p229:0 ≤ (x7_1:Int):=of_decide_eq_true (by first|(with_reducible assumption)|assumption)
   have q229:x7_1 < (l0.length:Int):=of_decide_eq_true (by first|(with_reducible assumption)|assumption)
   obtain⟨ad229,e229,hx229_0,hx229_1,hx229_2⟩:=at_T27 HR0.out x7_1 p229 q229
   cases e229
   replace hx229_0:=(HB.out.cell (World.block_lt_of_cell? w _ hx229_0)).trans hx229_0
   replace hx229_1:=(HB.out.cell (World.block_lt_of_cell? w _ hx229_1)).trans hx229_1
   replace hx229_2:=(HB.out.cell (World.block_lt_of_cell? w _ hx229_2)).trans hx229_2
   replace p229:=eq_true p229
   replace q229:=eq_true q229
   go_upto_region 6 with (first|((with_reducible refine gate_dst (N:=8) rfl ?_);refine box_event ?hg (N:=8) ?hd (cs:=#[.int .i64 0,.int .i64 0,.int .i64 0]) (t:=27) ?hr ?_;(case hd=>rfl);(case hg=>rfl);(case hr=>first|(go_simp;done)|(go_simp;rfl));intro gb230 hg w12 hbox hb;have BK230:=mk0 (hbox);have GW230:=mk0 ((by rw [hg];exact (kZ HB.out):w.heap.size ≤ gb230));have GE230:=mk0 ((by rw [hg];exact (kZ HB.out):w.heap.size ≤ gb230));replace HB:=mk0 (kS HB.out hb);have NB226_230:=mk0 ((by rw [hg];exact Nat.ne_of_lt (kL BK226.out):gb226 ≠ gb230));have NB230_226:=mk0 ((by rw [hg];exact Nat.ne_of_gt (kL BK226.out):gb230 ≠ gb226));replace BK226:=mk0 (kK BK226.out hb);have NB227_230:=mk0 ((by rw [hg];exact Nat.ne_of_lt (kL BK227.out):gb227 ≠ gb230));have NB230_227:=mk0 ((by rw [hg];exact Nat.ne_of_gt (kL BK227.out):gb230 ≠ gb227));replace BK227:=mk0 (kK BK227.out hb);have NB228_230:=mk0 ((by rw [hg];exact Nat.ne_of_lt (kL BK228.out):gb228 ≠ gb230));have NB230_228:=mk0 ((by rw [hg];exact Nat.ne_of_gt (kL BK228.out):gb230 ≠ gb228));replace BK228:=mk0 (kK BK228.out hb);clear hb hbox hg;have hnb13:=NB230_226.out;have hnc13:=NB226_230.out;have hnb14:=NB230_227.out;have hnc14:=NB227_230.out;have hnb15:=NB230_228.out;have hnc15:=NB228_230.out;obtain⟨hcz16_0,hcz16_1,hcz16_2,hfz16_0,hfz16_1,hfz16_2⟩:=cz3 BK230.out))
   (try simp only [Act.put,sA,sO,sS])
   go_cut [54] (fun v54 wc=>∃ (kq:Nat) (x54_10:Bool),v54 = .bool x54_10 ∧ Aside0 (spec_l11Up.j1 kq l0 x7_1 x54_10 a1_0 a1_1 a1_2 x229000_1 x229001_1 x229002_1 ((rd_T27 l0 x7_1).f0) ((rd_T27 l0 x7_1).f1) ((rd_T27 l0 x7_1).f2) = some (r1,r2,r3,r4)) ∧ Aside0 (kq ≤ k1) ∧ Aside0 (wc.heap[gb226]? = some (.cells #[.int .i64 a1_0,.int .i64 a1_1,.int .i64 a1_2] 27 (0,0))) ∧ Aside0 (wc.heap[gb227]? = some (.cells #[.int .i64 0,.int .i64 0,.int .i64 0] 27 (0,0))) ∧ Aside0 (wc.heap[gb228]? = some (.cells #[.int .i64 x229000_1,.int .i64 x229001_1,.int .i64 x229002_1] 27 (0,0))) ∧ Aside0 (wc.heap[gb230]? = some (.cells #[.int .i64 ((rd_T27 l0 x7_1).f0),.int .i64 ((rd_T27 l0 x7_1).f1),.int .i64 ((rd_T27 l0 x7_1).f2)] 27 (0,0))) ∧ Aside0 (Below w.heap.size w wc))
   case first =>
    have H:=HC11.out
    clear HC11
    by_cases c17:(!(((rd_T27 l0 x7_1).f0) == a1_0) || (!(((rd_T27 l0 x7_1).f1) == a1_1) || (!(((rd_T27 l0 x7_1).f2) == a1_2)))) = true
    rotate_left
    ·rw [if_neg c17] at H
     have c17b0:(!(((rd_T27 l0 x7_1).f0) == a1_0) || (!(((rd_T27 l0 x7_1).f1) == a1_1) || (!(((rd_T27 l0 x7_1).f2) == a1_2)))) = false:=by simpa using c17
     clear c17
     (first|rw [c17b0]|(simp only [i64_w,i32_w];rw [c17b0])|skip)
     have H':=mk0 H
     clear H
     have hnb53:=NB230_226.out
     have hnc53:=NB226_230.out
     have hnb54:=NB230_227.out
     have hnc54:=NB227_230.out
     have hnb55:=NB230_228.out
     have hnc55:=NB228_230.out
     obtain⟨hcz56_0,hcz56_1,hcz56_2,hfz56_0,hfz56_1,hfz56_2⟩:=cz3 BK230.out
     have hnb57:=NB226_227.out
     have hnc57:=NB227_226.out
     have hnb58:=NB226_228.out
     have hnc58:=NB228_226.out
     obtain⟨hcz59_0,hcz59_1,hcz59_2,hfz59_0,hfz59_1,hfz59_2⟩:=cz3 BK226.out
     go_wp2
     go_meet
     case rel=>exact⟨_,(false),(by first|rfl|(simp;done)|(simp [*];done)),H',⟨by have:=HK1.out;first|omega|exact Nat.le_refl _⟩,⟨by (with_reducible repeat (first|apply nB|apply dB|apply aB));refine blk_far ?_ NB226_230.out _;(with_reducible repeat (first|apply nB|apply dB|apply aB));refine blk_far ?_ NB226_230.out _;(with_reducible repeat (first|apply nB|apply dB|apply aB));refine blk_far ?_ NB226_230.out _;(with_reducible repeat (first|apply nB|apply dB|apply aB));exact BK226.out⟩,⟨by (with_reducible repeat (first|apply nB|apply dB|apply aB));refine blk_far ?_ NB227_230.out _;(with_reducible repeat (first|apply nB|apply dB|apply aB));refine blk_far ?_ NB227_230.out _;(with_reducible repeat (first|apply nB|apply dB|apply aB));refine blk_far ?_ NB227_230.out _;(with_reducible repeat (first|apply nB|apply dB|apply aB));exact BK227.out⟩,⟨by (with_reducible repeat (first|apply nB|apply dB|apply aB));refine blk_far ?_ NB228_230.out _;(with_reducible repeat (first|apply nB|apply dB|apply aB));refine blk_far ?_ NB228_230.out _;(with_reducible repeat (first|apply nB|apply dB|apply aB));refine blk_far ?_ NB228_230.out _;(with_reducible repeat (first|apply nB|apply dB|apply aB));exact BK228.out⟩,⟨by (with_reducible repeat (first|apply nB|apply dB|apply aB));refine blk_put (cs:=#[.int .i64 ((rd_T27 l0 x7_1).f0),.int .i64 ((rd_T27 l0 x7_1).f1),.int .i64 0]) ?_ 2 _ rfl;(with_reducible repeat (first|apply nB|apply dB|apply aB));refine blk_put (cs:=#[.int .i64 ((rd_T27 l0 x7_1).f0),.int .i64 0,.int .i64 0]) ?_ 1 _ rfl;(with_reducible repeat (first|apply nB|apply dB|apply aB));refine blk_put (cs:=#[.int .i64 0,.int .i64 0,.int .i64 0]) ?_ 0 _ rfl;(with_reducible repeat (first|apply nB|apply dB|apply aB));exact BK230.out⟩,⟨kB HB.out⟩⟩
    rw [if_pos c17] at H
    have c17b0:(!(((rd_T27 l0 x7_1).f0) == a1_0) || (!(((rd_T27 l0 x7_1).f1) == a1_1) || (!(((rd_T27 l0 x7_1).f2) == a1_2)))) = true:=c17
    clear c17
    (first|rw [c17b0]|(simp only [i64_w,i32_w];rw [c17b0])|skip)
    by_cases c18:((rd_T27 l0 x7_1).f0) ≤ a1_0
    rotate_left
    ·rw [if_neg c18] at H
     have c18b0:decide (((rd_T27 l0 x7_1).f0) ≤ a1_0) = false:=decide_eq_false c18
     clear c18
     have H':=mk0 H
     clear H
     have hnb46:=NB230_226.out
     have hnc46:=NB226_230.out
     have hnb47:=NB230_227.out
     have hnc47:=NB227_230.out
     have hnb48:=NB230_228.out
     have hnc48:=NB228_230.out
     obtain⟨hcz49_0,hcz49_1,hcz49_2,hfz49_0,hfz49_1,hfz49_2⟩:=cz3 BK230.out
     have hnb50:=NB226_227.out
     have hnc50:=NB227_226.out
     have hnb51:=NB226_228.out
     have hnc51:=NB228_226.out
     obtain⟨hcz52_0,hcz52_1,hcz52_2,hfz52_0,hfz52_1,hfz52_2⟩:=cz3 BK226.out
     go_wp2
     go_meet
     case rel=>exact⟨_,(false),(by first|rfl|(simp;done)|(simp [*];done)),H',⟨by have:=HK1.out;first|omega|exact Nat.le_refl _⟩,⟨by (with_reducible repeat (first|apply nB|apply dB|apply aB));refine blk_far ?_ NB226_230.out _;(with_reducible repeat (first|apply nB|apply dB|apply aB));refine blk_far ?_ NB226_230.out _;(with_reducible repeat (first|apply nB|apply dB|apply aB));refine blk_far ?_ NB226_230.out _;(with_reducible repeat (first|apply nB|apply dB|apply aB));exact BK226.out⟩,⟨by (with_reducible repeat (first|apply nB|apply dB|apply aB));refine blk_far ?_ NB227_230.out _;(with_reducible repeat (first|apply nB|apply dB|apply aB));refine blk_far ?_ NB227_230.out _;(with_reducible repeat (first|apply nB|apply dB|apply aB));refine blk_far ?_ NB227_230.out _;(with_reducible repeat (first|apply nB|apply dB|apply aB));exact BK227.out⟩,⟨by (with_reducible repeat (first|apply nB|apply dB|apply aB));refine blk_far ?_ NB228_230.out _;(with_reducible repeat (first|apply nB|apply dB|apply aB));refine blk_far ?_ NB228_230.out _;(with_reducible repeat (first|apply nB|apply dB|apply aB));refine blk_far ?_ NB228_230.out _;(with_reducible repeat (first|apply nB|apply dB|apply aB));exact BK228.out⟩,⟨by (with_reducible repeat (first|apply nB|apply dB|apply aB));refine blk_put (cs:=#[.int .i64 ((rd_T27 l0 x7_1).f0),.int .i64 ((rd_T27 l0 x7_1).f1),.int .i64 0]) ?_ 2 _ rfl;(with_reducible repeat (first|apply nB|apply dB|apply aB));refine blk_put (cs:=#[.int .i64 ((rd_T27 l0 x7_1).f0),.int .i64 0,.int .i64 0]) ?_ 1 _ rfl;(with_reducible repeat (first|apply nB|apply dB|apply aB));refine blk_put (cs:=#[.int .i64 0,.int .i64 0,.int .i64 0]) ?_ 0 _ rfl;(with_reducible repeat (first|apply nB|apply dB|apply aB));exact BK230.out⟩,⟨kB HB.out⟩⟩
    rw [if_pos c18] at H
    have c18b0:decide (((rd_T27 l0 x7_1).f0) ≤ a1_0) = true:=decide_eq_true c18
    clear c18
    by_cases c19:((rd_T27 l0 x7_1).f1) ≥ a1_1
    rotate_left
    ·rw [if_neg c19] at H
     have c19b0:decide (a1_1 ≤ ((rd_T27 l0 x7_1).f1)) = false:=decide_eq_false c19
     clear c19
     have H':=mk0 H
     clear H
     have hnb39:=NB230_226.out
     have hnc39:=NB226_230.out
     have hnb40:=NB230_227.out
     have hnc40:=NB227_230.out
     have hnb41:=NB230_228.out
     have hnc41:=NB228_230.out
     obtain⟨hcz42_0,hcz42_1,hcz42_2,hfz42_0,hfz42_1,hfz42_2⟩:=cz3 BK230.out
     have hnb43:=NB226_227.out
     have hnc43:=NB227_226.out
     have hnb44:=NB226_228.out
     have hnc44:=NB228_226.out
     obtain⟨hcz45_0,hcz45_1,hcz45_2,hfz45_0,hfz45_1,hfz45_2⟩:=cz3 BK226.out
     go_wp2
     go_meet
     case rel=>exact⟨_,(false),(by first|rfl|(simp;done)|(simp [*];done)),H',⟨by have:=HK1.out;first|omega|exact Nat.le_refl _⟩,⟨by (with_reducible repeat (first|apply nB|apply dB|apply aB));refine blk_far ?_ NB226_230.out _;(with_reducible repeat (first|apply nB|apply dB|apply aB));refine blk_far ?_ NB226_230.out _;(with_reducible repeat (first|apply nB|apply dB|apply aB));refine blk_far ?_ NB226_230.out _;(with_reducible repeat (first|apply nB|apply dB|apply aB));exact BK226.out⟩,⟨by (with_reducible repeat (first|apply nB|apply dB|apply aB));refine blk_far ?_ NB227_230.out _;(with_reducible repeat (first|apply nB|apply dB|apply aB));refine blk_far ?_ NB227_230.out _;(with_reducible repeat (first|apply nB|apply dB|apply aB));refine blk_far ?_ NB227_230.out _;(with_reducible repeat (first|apply nB|apply dB|apply aB));exact BK227.out⟩,⟨by (with_reducible repeat (first|apply nB|apply dB|apply aB));refine blk_far ?_ NB228_230.out _;(with_reducible repeat (first|apply nB|apply dB|apply aB));refine blk_far ?_ NB228_230.out _;(with_reducible repeat (first|apply nB|apply dB|apply aB));refine blk_far ?_ NB228_230.out _;(with_reducible repeat (first|apply nB|apply dB|apply aB));exact BK228.out⟩,⟨by (with_reducible repeat (first|apply nB|apply dB|apply aB));refine blk_put (cs:=#[.int .i64 ((rd_T27 l0 x7_1).f0),.int .i64 ((rd_T27 l0 x7_1).f1),.int .i64 0]) ?_ 2 _ rfl;(with_reducible repeat (first|apply nB|apply dB|apply aB));refine blk_put (cs:=#[.int .i64 ((rd_T27 l0 x7_1).f0),.int .i64 0,.int .i64 0]) ?_ 1 _ rfl;(with_reducible repeat (first|apply nB|apply dB|apply aB));refine blk_put (cs:=#[.int .i64 0,.int .i64 0,.int .i64 0]) ?_ 0 _ rfl;(with_reducible repeat (first|apply nB|apply dB|apply aB));exact BK230.out⟩,⟨kB HB.out⟩⟩
    rw [if_pos c19] at H
    have c19b0:decide (a1_1 ≤ ((rd_T27 l0 x7_1).f1)) = true:=decide_eq_true c19
    clear c19
    by_cases c20:x229001_1 = 0
    ·rw [if_pos c20] at H
     have c20b0:(x229001_1 == 0) = true:=beq_iff_eq.mpr c20
     have c20b1:(x229001_1 != 0) = false:=bne_eq_false_iff_eq.mpr c20
     clear c20
     have H':=mk0 H
     clear H
     have hnb21:=NB230_226.out
     have hnc21:=NB226_230.out
     have hnb22:=NB230_227.out
     have hnc22:=NB227_230.out
     have hnb23:=NB230_228.out
     have hnc23:=NB228_230.out
     obtain⟨hcz24_0,hcz24_1,hcz24_2,hfz24_0,hfz24_1,hfz24_2⟩:=cz3 BK230.out
     have hnb25:=NB226_227.out
     have hnc25:=NB227_226.out
     have hnb26:=NB226_228.out
     have hnc26:=NB228_226.out
     obtain⟨hcz27_0,hcz27_1,hcz27_2,hfz27_0,hfz27_1,hfz27_2⟩:=cz3 BK226.out
     have hnb28:=NB228_227.out
     have hnc28:=NB227_228.out
     obtain⟨hcz29_0,hcz29_1,hcz29_2,hfz29_0,hfz29_1,hfz29_2⟩:=cz3 BK228.out
     go_wp2
     go_meet
     case rel=>exact⟨_,(true),(by first|rfl|(simp;done)|(simp [*];done)),H',⟨by have:=HK1.out;first|omega|exact Nat.le_refl _⟩,⟨by (with_reducible repeat (first|apply nB|apply dB|apply aB));refine blk_far ?_ NB226_230.out _;(with_reducible repeat (first|apply nB|apply dB|apply aB));refine blk_far ?_ NB226_230.out _;(with_reducible repeat (first|apply nB|apply dB|apply aB));refine blk_far ?_ NB226_230.out _;(with_reducible repeat (first|apply nB|apply dB|apply aB));exact BK226.out⟩,⟨by (with_reducible repeat (first|apply nB|apply dB|apply aB));refine blk_far ?_ NB227_230.out _;(with_reducible repeat (first|apply nB|apply dB|apply aB));refine blk_far ?_ NB227_230.out _;(with_reducible repeat (first|apply nB|apply dB|apply aB));refine blk_far ?_ NB227_230.out _;(with_reducible repeat (first|apply nB|apply dB|apply aB));exact BK227.out⟩,⟨by (with_reducible repeat (first|apply nB|apply dB|apply aB));refine blk_far ?_ NB228_230.out _;(with_reducible repeat (first|apply nB|apply dB|apply aB));refine blk_far ?_ NB228_230.out _;(with_reducible repeat (first|apply nB|apply dB|apply aB));refine blk_far ?_ NB228_230.out _;(with_reducible repeat (first|apply nB|apply dB|apply aB));exact BK228.out⟩,⟨by (with_reducible repeat (first|apply nB|apply dB|apply aB));refine blk_put (cs:=#[.int .i64 ((rd_T27 l0 x7_1).f0),.int .i64 ((rd_T27 l0 x7_1).f1),.int .i64 0]) ?_ 2 _ rfl;(with_reducible repeat (first|apply nB|apply dB|apply aB));refine blk_put (cs:=#[.int .i64 ((rd_T27 l0 x7_1).f0),.int .i64 0,.int .i64 0]) ?_ 1 _ rfl;(with_reducible repeat (first|apply nB|apply dB|apply aB));refine blk_put (cs:=#[.int .i64 0,.int .i64 0,.int .i64 0]) ?_ 0 _ rfl;(with_reducible repeat (first|apply nB|apply dB|apply aB));exact BK230.out⟩,⟨kB HB.out⟩⟩
    rw [if_neg c20] at H
    have c20b0:(x229001_1 == 0) = false:=beq_eq_false_iff_ne.mpr c20
    have c20b1:(x229001_1 != 0) = true:=bne_iff_ne.mpr c20
    have H':=mk0 H
    clear H
    have hnb30:=NB230_226.out
    have hnc30:=NB226_230.out
    have hnb31:=NB230_227.out
    have hnc31:=NB227_230.out
    have hnb32:=NB230_228.out
    have hnc32:=NB228_230.out
    obtain⟨hcz33_0,hcz33_1,hcz33_2,hfz33_0,hfz33_1,hfz33_2⟩:=cz3 BK230.out
    have hnb34:=NB226_227.out
    have hnc34:=NB227_226.out
    have hnb35:=NB226_228.out
    have hnc35:=NB228_226.out
    obtain⟨hcz36_0,hcz36_1,hcz36_2,hfz36_0,hfz36_1,hfz36_2⟩:=cz3 BK226.out
    have hnb37:=NB228_227.out
    have hnc37:=NB227_228.out
    obtain⟨hcz38_0,hcz38_1,hcz38_2,hfz38_0,hfz38_1,hfz38_2⟩:=cz3 BK228.out
    go_wp2
    go_meet
    case rel=>exact⟨_,(decide ((wrap64 (((rd_T27 l0 x7_1).f1) - ((rd_T27 l0 x7_1).f0))) < (wrap64 (x229001_1 - x229000_1)))),(by first|rfl|(simp;done)|(simp [*];done)),H',⟨by have:=HK1.out;first|omega|exact Nat.le_refl _⟩,⟨by (with_reducible repeat (first|apply nB|apply dB|apply aB));refine blk_far ?_ NB226_230.out _;(with_reducible repeat (first|apply nB|apply dB|apply aB));refine blk_far ?_ NB226_230.out _;(with_reducible repeat (first|apply nB|apply dB|apply aB));refine blk_far ?_ NB226_230.out _;(with_reducible repeat (first|apply nB|apply dB|apply aB));exact BK226.out⟩,⟨by (with_reducible repeat (first|apply nB|apply dB|apply aB));refine blk_far ?_ NB227_230.out _;(with_reducible repeat (first|apply nB|apply dB|apply aB));refine blk_far ?_ NB227_230.out _;(with_reducible repeat (first|apply nB|apply dB|apply aB));refine blk_far ?_ NB227_230.out _;(with_reducible repeat (first|apply nB|apply dB|apply aB));exact BK227.out⟩,⟨by (with_reducible repeat (first|apply nB|apply dB|apply aB));refine blk_far ?_ NB228_230.out _;(with_reducible repeat (first|apply nB|apply dB|apply aB));refine blk_far ?_ NB228_230.out _;(with_reducible repeat (first|apply nB|apply dB|apply aB));refine blk_far ?_ NB228_230.out _;(with_reducible repeat (first|apply nB|apply dB|apply aB));exact BK228.out⟩,⟨by (with_reducible repeat (first|apply nB|apply dB|apply aB));refine blk_put (cs:=#[.int .i64 ((rd_T27 l0 x7_1).f0),.int .i64 ((rd_T27 l0 x7_1).f1),.int .i64 0]) ?_ 2 _ rfl;(with_reducible repeat (first|apply nB|apply dB|apply aB));refine blk_put (cs:=#[.int .i64 ((rd_T27 l0 x7_1).f0),.int .i64 0,.int .i64 0]) ?_ 1 _ rfl;(with_reducible repeat (first|apply nB|apply dB|apply aB));refine blk_put (cs:=#[.int .i64 0,.int .i64 0,.int .i64 0]) ?_ 0 _ rfl;(with_reducible repeat (first|apply nB|apply dB|apply aB));exact BK230.out⟩,⟨kB HB.out⟩⟩
   case rest =>
    clear HC11
    try clear c1
    try clear c2
    try clear p2
    try clear q2
    try clear hx2
    try clear c3
    try clear c4
    try clear c5
    try clear c6
    try clear p6
    try clear c7
    try clear c9
    try clear c9b0
    try clear c10
    try clear c10b0
    try clear c13
    try clear c14
    try clear c15
    try clear c17
    try clear c17b0
    try clear c18
    try clear c18b0
    try clear c19
    try clear c19b0
    try clear c20
    try clear c20b0
    try clear c20b1
    try clear c21
    try clear c22
    try clear p22
    try clear q22
    try clear hx22
    try clear c23
    try clear c25
    try clear c26
    try clear c28
    try clear c30
    try clear c31
    try clear c32
    try clear c34
    try clear c35
    try clear c37
    try clear c39
    try clear c40
    try clear c41
    try clear c43
    try clear c44
    try clear c46
    try clear c47
    try clear c48
    try clear c50
    try clear c51
    try clear c53
    try clear c54
    try clear c55
    try clear c57
    try clear c58
    try clear hcz16_0
    try clear hcz16_1
    try clear hcz16_2
    try clear hcz24_0
    try clear hcz24_1
    try clear hcz24_2
    try clear hcz27_0
    try clear hcz27_1
    try clear hcz27_2
    try clear hcz29_0
    try clear hcz29_1
    try clear hcz29_2
    try clear hcz33_0
    try clear hcz33_1
    try clear hcz33_2
    try clear hcz36_0
    try clear hcz36_1
    try clear hcz36_2
    try clear hcz38_0
    try clear hcz38_1
    try clear hcz38_2
    try clear hcz42_0
    try clear hcz42_1
    try clear hcz42_2
    try clear hcz45_0
    try clear hcz45_1
    try clear hcz45_2
    try clear hcz49_0
    try clear hcz49_1
    try clear hcz49_2
    try clear hcz52_0
    try clear hcz52_1
    try clear hcz52_2
    try clear hcz56_0
    try clear hcz56_1
    try clear hcz56_2
    try clear hcz59_0
    try clear hcz59_1
    try clear hcz59_2
    try clear hcz8_0
    try clear hcz8_1
    try clear hcz8_2
    try clear hfz16_0
    try clear hfz16_1
    try clear hfz16_2
    try clear hfz24_0
    try clear hfz24_1
    try clear hfz24_2
    try clear hfz27_0
    try clear hfz27_1
    try clear hfz27_2
    try clear hfz29_0
    try clear hfz29_1
    try clear hfz29_2
    try clear hfz33_0
    try clear hfz33_1
    try clear hfz33_2
    try clear hfz36_0
    try clear hfz36_1
    try clear hfz36_2
    try clear hfz38_0
    try clear hfz38_1
    try clear hfz38_2
    try clear hfz42_0
    try clear hfz42_1
    try clear hfz42_2
    try clear hfz45_0
    try clear hfz45_1
    try clear hfz45_2
    try clear hfz49_0
    try clear hfz49_1
    try clear hfz49_2
    try clear hfz52_0
    try clear hfz52_1
    try clear hfz52_2
    try clear hfz56_0
    try clear hfz56_1
    try clear hfz56_2
    try clear hfz59_0
    try clear hfz59_1
    try clear hfz59_2
    try clear hfz8_0
    try clear hfz8_1
    try clear hfz8_2
    try clear hx229_0
    try clear hx229_1
    try clear hx229_2
    try clear p2
    try clear p229
    try clear q229
    obtain⟨kq,x54_10,rfl,HA,HJ10,BK226,BK227,BK228,BK230,HB⟩:=hcut
    cases kq with
    | zero=>exact absurd HA.out (by simp [spec_l11Up.j1])
    | succ kj10 =>
     have H:=HA.out
     clear HA
     simp only [spec_l11Up.j1] at H
     by_cases c60:x54_10 = true
     rotate_left
     ·replace c60:=Bool.eq_false_iff.mpr c60
      subst c60
      have H1:(spec_l11Up.l0 kj10 l0 (wrap64 (x7_1 + 1)) a1_0 a1_1 a1_2 x229000_1 x229001_1 x229002_1) = some (r1,r2,r3,r4):=by rw [if_neg (show ¬ (false = true) by decide)] at H;exact H
      clear H
      have H:=H1
      clear H1
      have H':=mk0 H
      clear H
      go_wp2
      go_roundg kj10
      case measure=>have:=HK1.out;have:=HJ10.out;omega
      case rel=>exact⟨(wrap64 (x7_1 + 1)),(x229000_1),(x229001_1),(x229002_1),(by first|rfl|(simp;done)|(simp [*];done)),H',⟨by have:=HK1.out;have:=HJ10.out;omega⟩,⟨kN BK226.out⟩,⟨kN BK227.out⟩,⟨kN BK228.out⟩,⟨kB HB.out⟩⟩
     subst c60
     have H1:(spec_l11Up.l0 kj10 l0 (wrap64 (x7_1 + 1)) a1_0 a1_1 a1_2 ((rd_T27 l0 x7_1).f0) ((rd_T27 l0 x7_1).f1) ((rd_T27 l0 x7_1).f2)) = some (r1,r2,r3,r4):=by rw [if_pos rfl] at H;exact H
     clear H
     have H:=H1
     clear H1
     have H':=mk0 H
     clear H
     have hnb61:=NB230_226.out
     have hnc61:=NB226_230.out
     have hnb62:=NB230_227.out
     have hnc62:=NB227_230.out
     have hnb63:=NB230_228.out
     have hnc63:=NB228_230.out
     obtain⟨hcz64_0,hcz64_1,hcz64_2,hfz64_0,hfz64_1,hfz64_2⟩:=cz3 BK230.out
     have hnb65:=NB228_226.out
     have hnc65:=NB226_228.out
     have hnb66:=NB228_227.out
     have hnc66:=NB227_228.out
     obtain⟨hcz67_0,hcz67_1,hcz67_2,hfz67_0,hfz67_1,hfz67_2⟩:=cz3 BK228.out
     go_wp2
     go_roundg kj10
     case measure=>have:=HK1.out;have:=HJ10.out;omega
     case rel=>exact⟨(wrap64 (x7_1 + 1)),(((rd_T27 l0 x7_1).f0)),(((rd_T27 l0 x7_1).f1)),(((rd_T27 l0 x7_1).f2)),(by first|rfl|(simp;done)|(simp [*];done)),H',⟨by have:=HK1.out;have:=HJ10.out;omega⟩,⟨by (with_reducible repeat (first|apply nB|apply dB|apply aB));refine blk_far ?_ NB226_228.out _;(with_reducible repeat (first|apply nB|apply dB|apply aB));refine blk_far ?_ NB226_228.out _;(with_reducible repeat (first|apply nB|apply dB|apply aB));refine blk_far ?_ NB226_228.out _;(with_reducible repeat (first|apply nB|apply dB|apply aB));exact BK226.out⟩,⟨by (with_reducible repeat (first|apply nB|apply dB|apply aB));refine blk_far ?_ NB227_228.out _;(with_reducible repeat (first|apply nB|apply dB|apply aB));refine blk_far ?_ NB227_228.out _;(with_reducible repeat (first|apply nB|apply dB|apply aB));refine blk_far ?_ NB227_228.out _;(with_reducible repeat (first|apply nB|apply dB|apply aB));exact BK227.out⟩,⟨by (with_reducible repeat (first|apply nB|apply dB|apply aB));refine blk_put (cs:=#[.int .i64 ((rd_T27 l0 x7_1).f0),.int .i64 ((rd_T27 l0 x7_1).f1),.int .i64 x229002_1]) ?_ 2 _ rfl;(with_reducible repeat (first|apply nB|apply dB|apply aB));refine blk_put (cs:=#[.int .i64 ((rd_T27 l0 x7_1).f0),.int .i64 x229001_1,.int .i64 x229002_1]) ?_ 1 _ rfl;(with_reducible repeat (first|apply nB|apply dB|apply aB));refine blk_put (cs:=#[.int .i64 x229000_1,.int .i64 x229001_1,.int .i64 x229002_1]) ?_ 0 _ rfl;(with_reducible repeat (first|apply nB|apply dB|apply aB));exact BK228.out⟩,⟨kB HB.out⟩⟩
/-! ### spec_StretchKids: function 32 -/
def spec_StretchKids.l0 : Nat → List (S27) → Int → List (S27) → Int → Int → Int → Option ((List (S27)))
 | 0, _, _, _, _, _, _ => none
 | k + 1, x5, x7, x16, x232000, x232001, x232002 => if x7 < (x16.length : Int) then (if 0 ≤ x7 then ((spec_l11Up.f k x16 ((rd_T27 x16 x7).f0) ((rd_T27 x16 x7).f1) ((rd_T27 x16 x7).f2)).bind fun bt240 => (if bt240.2.2.2 = true then (if (bt240.1 == x232000 && (bt240.2.1 == x232001 && (bt240.2.2.1 == x232002))) = true then (if x5.length < 5864062014805 then (spec_StretchKids.l0 k (x5 ++ [(⟨(rd_T27 x16 x7).f0, (rd_T27 x16 x7).f1, (rd_T27 x16 x7).f2⟩ : S27)]) (wrap64 (x7 + 1)) x16 x232000 x232001 x232002) else (none)) else (spec_StretchKids.l0 k x5 (wrap64 (x7 + 1)) x16 x232000 x232001 x232002)) else (spec_StretchKids.l0 k x5 (wrap64 (x7 + 1)) x16 x232000 x232001 x232002))) else (none)) else (some x5)
def spec_StretchKids.f (k : Nat) (l0 : List Int) (a1_0 : Int) (a1_1 : Int) (a1_2 : Int) : Option ((List (S27))) := (spec_StretchOk.f k l0 a1_0 a1_1 a1_2).bind fun t232 => (if t232 = true then ((spec_StretchAll.f k l0).bind fun t236 => (spec_StretchKids.l0 k (([] : List (S27))) 0 t236 a1_0 a1_1 a1_2)) else (some ([] : List (S27))))
theorem spec_StretchKids.mono_l : ∀ k, (∀ y0 y1 y2 y3 y4 y5, LeO (spec_StretchKids.l0 k y0 y1 y2 y3 y4 y5) (spec_StretchKids.l0 (k + 1) y0 y1 y2 y3 y4 y5))
 | 0 => fun _ _ _ _ _ _ r h => by simp [spec_StretchKids.l0] at h
 | k + 1 => by
  have ih0 := spec_StretchKids.mono_l k
  ·intro y0 y1 y2 y3 y4 y5
   unfold spec_StretchKids.l0
   repeat' first|(with_reducible first|exact ih0 _ _ _ _ _ _|exact spec_StretchAll.mono _ _|exact spec_StretchOk.mono _ _ _ _ _|exact spec_l11Up.mono _ _ _ _ _|exact LeO.refl _|exact LeO.none _|refine LeO.ite ?_ ?_|refine LeO.bind ?_ (fun _ => ?_))|exact LeO.none _|refine LeO.ite ?_ ?_|refine LeO.bind ?_ (fun _ => ?_)
theorem spec_StretchKids.mono : ∀ a0 a1 a2 a3 k, LeO (spec_StretchKids.f k a0 a1 a2 a3) (spec_StretchKids.f (k + 1) a0 a1 a2 a3) := by
 intro a0 a1 a2 a3 k
 have ih0 := spec_StretchKids.mono_l k
 unfold spec_StretchKids.f
 repeat' first|(with_reducible first|exact ih0 _ _ _ _ _ _|exact spec_StretchAll.mono _ _|exact spec_StretchOk.mono _ _ _ _ _|exact spec_l11Up.mono _ _ _ _ _|exact LeO.refl _|exact LeO.none _|refine LeO.ite ?_ ?_|refine LeO.bind ?_ (fun _ => ?_))|exact LeO.none _|refine LeO.ite ?_ ?_|refine LeO.bind ?_ (fun _ => ?_)
set_option maxHeartbeats 8000000 in
set_option maxRecDepth 100000 in
theorem spec_StretchKids.calls (k : Nat) (A0 : Option Addr) (c0 : Nat) (l0 : List Int) (a1_0 : Int) (a1_1 : Int) (a1_2 : Int) (r : List (S27)) (w : World) (hr0 : Kd.C (Kd.int .u8) w A0 l0.length l0) (hc0 : l0.length ≤ c0) (h : spec_StretchKids.f k l0 a1_0 a1_1 a1_2 = some r) :
  Calls Try.prog 32 #[.slice A0 l0.length c0, .agg #[.int .i64 a1_0, .int .i64 a1_1, .int .i64 a1_2]] w fun e w' => ∃ v0_ : Value, e = .returned (v0_) ∧ Kd.R k27 27 w' w.heap.size (fun _ => True) v0_ r ∧ Below w.heap.size w w' := by
 have hu27:=Try.underlying27
 have HR0:=mk0 hr0
 have HC0:=mk0 hc0
 clear hr0 hc0
 have HB:=mk0 (Below.refl w.heap.size w)
 have H:((spec_StretchOk.f k l0 a1_0 a1_1 a1_2).bind fun t232=>(if t232 = true then ((spec_StretchAll.f k l0).bind fun t236=>(spec_StretchKids.l0 k (([]:List (S27))) 0 t236 a1_0 a1_1 a1_2)) else (some ([]:List (S27))))) = some r:=h
 clear h
 replace H:=Option.bind_eq_some_iff.mp H
 obtain⟨t232,A30,H⟩:=H
 replace H:(if t232 = true then ((spec_StretchAll.f k l0).bind fun t236=>(spec_StretchKids.l0 k (([]:List (S27))) 0 t236 a1_0 a1_1 a1_2)) else (some ([]:List (S27)))) = some r:=H
 have A3:=mk0 A30
 clear A30
 by_cases c4:t232 = true
 rotate_left
 ·replace c4:=Bool.eq_false_iff.mpr c4
  subst c4
  have H1:(some ([]:List (S27))) = some r:=by rw [if_neg (show ¬ (false = true) by decide)] at H;exact H
  clear H
  have H:=H1
  clear H1
  obtain rfl:=Option.some.inj H
  go_enter Try.func32,Try.ntmps32
  go_wp2_with (first|((with_reducible refine gate_dst (N:=3) rfl ?_);refine box_event ?hg (N:=3) ?hd (cs:=#[.int .i64 a1_0,.int .i64 a1_1,.int .i64 a1_2]) (t:=27) ?hr ?_;(case hd=>rfl);(case hg=>rfl);(case hr=>first|(go_simp;done)|(go_simp;rfl));intro gb231 hg w37 hbox hb;have BK231:=mk0 (hbox);have GW231:=mk0 ((by rw [hg];exact (kZ HB.out):w.heap.size ≤ gb231));have GE231:=mk0 ((by rw [hg];exact (kZ HB.out):w.heap.size ≤ gb231));replace HB:=mk0 (kS HB.out hb);clear hb hbox hg;obtain⟨hcz38_0,hcz38_1,hcz38_2,hfz38_0,hfz38_1,hfz38_2⟩:=cz3 BK231.out)|((with_reducible refine gate_callee (f:=11) rfl ?_);refine goesL_ (some 12) rfl rfl Try.func11 (by kernel_rfl) rfl #[.slice A0 l0.length c0,.agg #[.int .i64 a1_0,.int .i64 a1_1,.int .i64 a1_2]] rfl (by (try simp only [mA,mC,mN]);first|done|rfl|(simp only [List.length_drop,List.length_take];done)|(simp only [List.length_drop,List.length_take];rfl)) ?_;(with_reducible refine (spec_StretchOk.calls k _ _ l0 a1_0 a1_1 a1_2 false _ ?side1 ?side2 A3.out).mono ?_);(case side1=>exact kC (Kd.C_below HR0.out HB.out));(case side2=>exact HC0.out);rintro e w39 ⟨rfl,hb⟩;refine⟨_,rfl,?_⟩;replace BK231:=mk0 (kK BK231.out hb);replace HB:=mk0 (kS HB.out hb);(try clear hb)))
  go_ret
  exact⟨_,by first|rfl|(simp [errW_none,errW_some] <;> rfl)|(simp [*,errW_none,errW_some] <;> rfl),by first|exact Kd.R_nil _ _ _ _ _|exact Kd.N_nil _ _ _ _ _|exact Kd.V_nil _ _ _ _ _|exact Kd.Q_nil _ _ _ _ _|exact Kd.S_nil _ _ _ _ _,kB HB.out⟩

 subst c4
 have H1:((spec_StretchAll.f k l0).bind fun t236=>(spec_StretchKids.l0 k (([]:List (S27))) 0 t236 a1_0 a1_1 a1_2)) = some r:=by rw [if_pos rfl] at H;exact H
 clear H
 have H:=H1
 clear H1
 obtain⟨y233,hy233⟩:∃ y_:List (S27),y_ = (([]:List (S27))):=⟨_,rfl⟩
 replace H:((spec_StretchAll.f k l0).bind fun t236=>(spec_StretchKids.l0 k y233 0 t236 a1_0 a1_1 a1_2)) = some r:=by first|(rw [hy233];with_reducible exact H)|(have H2_:=(Option.bind_some _ _).symm.trans H;rw [hy233];with_reducible exact H2_)|(have H2_:=(Option.bind_some _ _).symm.trans H;with_reducible exact H2_)|with_reducible exact H|(rw [hy233];exact H)|exact H
 have Ny233:=mk0 hy233
 clear hy233
 replace H:=Option.bind_eq_some_iff.mp H
 obtain⟨t236,A50,H⟩:=H
 replace H:(spec_StretchKids.l0 k y233 0 t236 a1_0 a1_1 a1_2) = some r:=H
 have A5:=mk0 A50
 clear A50
 have H':=mk0 H
 clear H
 go_enter Try.func32,Try.ntmps32
 go_wp2_with (first|((with_reducible refine gate_dst (N:=3) rfl ?_);refine box_event ?hg (N:=3) ?hd (cs:=#[.int .i64 a1_0,.int .i64 a1_1,.int .i64 a1_2]) (t:=27) ?hr ?_;(case hd=>rfl);(case hg=>rfl);(case hr=>first|(go_simp;done)|(go_simp;rfl));intro gb231 hg w6 hbox hb;have BK231:=mk0 (hbox);have GW231:=mk0 ((by rw [hg];exact (kZ HB.out):w.heap.size ≤ gb231));have GE231:=mk0 ((by rw [hg];exact (kZ HB.out):w.heap.size ≤ gb231));replace HB:=mk0 (kS HB.out hb);clear hb hbox hg;obtain⟨hcz7_0,hcz7_1,hcz7_2,hfz7_0,hfz7_1,hfz7_2⟩:=cz3 BK231.out)|((with_reducible refine gate_callee (f:=11) rfl ?_);refine goesL_ (some 12) rfl rfl Try.func11 (by kernel_rfl) rfl #[.slice A0 l0.length c0,.agg #[.int .i64 a1_0,.int .i64 a1_1,.int .i64 a1_2]] rfl (by (try simp only [mA,mC,mN]);first|done|rfl|(simp only [List.length_drop,List.length_take];done)|(simp only [List.length_drop,List.length_take];rfl)) ?_;(with_reducible refine (spec_StretchOk.calls k _ _ l0 a1_0 a1_1 a1_2 true _ ?side1 ?side2 A3.out).mono ?_);(case side1=>exact kC (Kd.C_below HR0.out HB.out));(case side2=>exact HC0.out);rintro e w8 ⟨rfl,hb⟩;refine⟨_,rfl,?_⟩;replace BK231:=mk0 (kK BK231.out hb);replace HB:=mk0 (kS HB.out hb);(try clear hb))|((with_reducible refine gate_dst (N:=14) rfl ?_);refine Kd.R_lit k27 _ 27 ?hg (N:=14) ?hd (xs:=([]:List (S27))) (inner:=[]) (ok:=fun _=>True) (okp:=fun _=>True) ?hr ?hp (fun _ hk=>hk) trivial (Below.refl _ _) (Nat.le_refl _) (by simp) ?_;(case hd=>rfl);(case hg=>rfl);(case hr=>first|(go_simp;done)|(go_simp;rfl));(case hp=>exact (Reps.none _ _));intro v234 w9 ho10 hb hg_ hnew_;clear hg_ hnew_;(first|rw [← Ny233.out] at ho10|(simp only [Int.reduceToNat] at ho10;rw [← Ny233.out] at ho10));have HO235:=mk0 (Kd.R_lower (Kd.R_newB ho10 (g:=gb231) (o:=.cells #[.int .i64 a1_0,.int .i64 a1_1,.int .i64 a1_2] 27 (0,0)) (kN BK231.out)) (kZ HB.out));replace BK231:=mk0 (kK BK231.out hb);replace HB:=mk0 (kS HB.out hb);clear hb ho10)|((with_reducible refine gate_callee (f:=25) rfl ?_);refine goesL_ (some 16) rfl rfl Try.func25 (by kernel_rfl) rfl #[.slice A0 l0.length c0] rfl (by (try simp only [mA,mC,mN]);first|done|rfl|(simp only [List.length_drop,List.length_take];done)|(simp only [List.length_drop,List.length_take];rfl)) ?_;(with_reducible refine (spec_StretchAll.calls k _ _ l0 t236 _ ?side1 ?side2 A5.out).mono ?_);(case side1=>exact kC (Kd.C_below HR0.out HB.out));(case side2=>exact HC0.out);rintro e w11 ⟨v237,rfl,ho0,hb⟩;refine⟨_,rfl,?_⟩;have HO238:=mk0 (Kd.R_lower (Kd.R_newB (Kd.R_new' ho0 (Kd.R_lt (rR HO235.out))) (g:=gb231) (o:=.cells #[.int .i64 a1_0,.int .i64 a1_1,.int .i64 a1_2] 27 (0,0)) (kN BK231.out)) (kZ HB.out));replace HO235:=mk0 (Kd.R_elder' (rR HO235.out) (Kd.R_base ho0) hb);replace BK231:=mk0 (kK BK231.out hb);replace HB:=mk0 (kS HB.out hb);(try clear hb);(try clear ho0)))
 go_loopg [5,7] k (fun kq v5 v7 w'=>∃ (x5_1:List (S27)) (x7_1:Int),v7 = .int .i64 x7_1 ∧ Aside0 (spec_StretchKids.l0 kq x5_1 x7_1 t236 a1_0 a1_1 a1_2 = some r) ∧ Aside0 (kq ≤ k) ∧ Aside0 (Kd.R k27 27 w' w.heap.size (fun k_=>some k_ ≠ (v237:Value).ownBlock ∧ k_ ≠ gb231) v5 x5_1) ∧ Aside0 (Kd.R k27 27 w' w.heap.size (fun k_=>some k_ ≠ (v5:Value).ownBlock ∧ k_ ≠ gb231) v237 t236) ∧ Aside0 (w'.heap[gb231]? = some (.cells #[.int .i64 a1_0,.int .i64 a1_1,.int .i64 a1_2] 27 (0,0))) ∧ Aside0 (Below w.heap.size w w'))
 case atStart=>exact⟨(y233),(0),(by first|rfl|(simp;done)|(simp [*];done)),H',⟨Nat.le_refl _⟩,⟨rR (Kd.R_mono HO235.out (fun _ hk=>⟨hk.2,hk.1.2⟩))⟩,⟨rR (Kd.R_mono HO238.out (fun _ hk=>⟨hk.1.2,hk.2⟩))⟩,⟨kN BK231.out⟩,⟨kB HB.out⟩⟩
 case round =>
  clear H'
  try clear c1
  try clear c2
  try clear p2
  try clear c3
  try clear c4
  try clear c11
  try clear hcz7_0
  try clear hcz7_1
  try clear hcz7_2
  try clear hfz7_0
  try clear hfz7_1
  try clear hfz7_2
  obtain⟨x5_1,x7_1,rfl,HA,HK1,HO_5,HO_16,BK231,HB⟩:=hrel
  cases gk with
  | zero=>exact absurd HA.out (by simp [spec_StretchKids.l0])
  | succ k1 =>
   have H:=HA.out
   clear HA
   simp only [spec_StretchKids.l0] at H
   by_cases c12:x7_1 < (t236.length:Int)
   rotate_left
   ·rw [if_neg c12] at H
    have c12b0:decide (x7_1 < (t236.length:Int)) = false:=decide_eq_false c12
    clear c12
    obtain rfl:=Option.some.inj H
    obtain⟨Ao36,co36,eo36⟩:=Kd.R_slice HO_16.out
    subst eo36
    go_wp2
    go_ret
    exact⟨_,by first|rfl|(simp [errW_none,errW_some] <;> rfl)|(simp [*,errW_none,errW_some] <;> rfl),rR (Kd.R_mono HO_5.out (fun _ hk=>trivial)),kB HB.out⟩
   rw [if_pos c12] at H
   have c12b0:decide (x7_1 < (t236.length:Int)) = true:=decide_eq_true c12
   clear c12
   by_cases c13:0 ≤ x7_1
   rotate_left
   ·rw [if_neg c13] at H
    exact absurd H (by simp)
   rw [if_pos c13] at H
   have c13b0:decide (0 ≤ x7_1) = true:=decide_eq_true c13
   clear c13
   replace H:=Option.bind_eq_some_iff.mp H
   obtain⟨⟨t240,t241,t242,t243⟩,A140,H⟩:=H
   replace H:(if t243 = true then (if (t240 == a1_0 && (t241 == a1_1 && (t242 == a1_2))) = true then (if x5_1.length < 5864062014805 then (spec_StretchKids.l0 k1 (x5_1 ++ [(⟨(rd_T27 t236 x7_1).f0,(rd_T27 t236 x7_1).f1,(rd_T27 t236 x7_1).f2⟩:S27)]) (wrap64 (x7_1 + 1)) t236 a1_0 a1_1 a1_2) else (none)) else (spec_StretchKids.l0 k1 x5_1 (wrap64 (x7_1 + 1)) t236 a1_0 a1_1 a1_2)) else (spec_StretchKids.l0 k1 x5_1 (wrap64 (x7_1 + 1)) t236 a1_0 a1_1 a1_2)) = some r:=H
   have A14:=mk0 A140
   clear A140
   by_cases c15:t243 = true
   rotate_left
   ·replace c15:=Bool.eq_false_iff.mpr c15
    subst c15
    have H1:(spec_StretchKids.l0 k1 x5_1 (wrap64 (x7_1 + 1)) t236 a1_0 a1_1 a1_2) = some r:=by rw [if_neg (show ¬ (false = true) by decide)] at H;exact H
    clear H
    have H:=H1
    clear H1
    have H':=mk0 H
    clear H
    obtain⟨Ao31,co31,eo31⟩:=Kd.R_slice HO_16.out
    subst eo31
    have p239:0 ≤ (x7_1:Int):=of_decide_eq_true (by first|(with_reducible assumption)|assumption)
    have q239:x7_1 < (t236.length:Int):=of_decide_eq_true (by first|(with_reducible assumption)|assumption)
    obtain⟨ad239,e239,hx239_0,hx239_1,hx239_2⟩:=at_T27 (Kd.R_reads' HO_16.out).2.2 x7_1 p239 q239
    cases e239
    replace p239:=eq_true p239
    replace q239:=eq_true q239
    go_wp2_with (first|((with_reducible refine gate_callee (f:=54) rfl ?_);refine goesL_ (some 29) rfl rfl Try.func54 (by kernel_rfl) rfl #[.slice (some ad239) t236.length co31,.agg #[.int .i64 ((rd_T27 t236 x7_1).f0),.int .i64 ((rd_T27 t236 x7_1).f1),.int .i64 ((rd_T27 t236 x7_1).f2)]] rfl (by (try simp only [mA,mC,mN]);first|done|rfl|(simp only [List.length_drop,List.length_take];done)|(simp only [List.length_drop,List.length_take];rfl)) ?_;(with_reducible refine (spec_l11Up.calls k1 _ _ t236 ((rd_T27 t236 x7_1).f0) ((rd_T27 t236 x7_1).f1) ((rd_T27 t236 x7_1).f2) t240 t241 t242 false _ ?side1 ?side2 A14.out).mono ?_);(case side1=>exact kC (Kd.R_reads' HO_16.out).2.2);(case side2=>exact (Kd.R_reads' HO_16.out).2.1);rintro e w32 ⟨rfl,hb⟩;refine⟨_,rfl,?_⟩;replace HO_5:=mk0 (bR HO_5.out hb);replace HO_16:=mk0 (bR HO_16.out hb);replace BK231:=mk0 (kK BK231.out hb);replace HB:=mk0 (kS HB.out hb);(try clear hb);have hrl_:∀ o_,(w32.alloc o_).cell? (ad239.add (x7_1.toNat * 3)) = some (.int .i64 (rd_T27 t236 x7_1).f0) ∧ (w32.alloc o_).cell? ⟨(ad239.add (x7_1.toNat * 3)).block,(ad239.add (x7_1.toNat * 3)).off + 1,none⟩ = some (.int .i64 (rd_T27 t236 x7_1).f1) ∧ (w32.alloc o_).cell? ⟨(ad239.add (x7_1.toNat * 3)).block,(ad239.add (x7_1.toNat * 3)).off + 2,none⟩ = some (.int .i64 (rd_T27 t236 x7_1).f2):=fun o_=>(by obtain⟨ad_,e_,h0_,h1_,h2_⟩:=at_T27 (Kd.C_alloc (Kd.R_reads' HO_16.out).2.2 o_) x7_1 (of_eq_true p239) (of_eq_true q239);cases e_;exact⟨h0_,h1_,h2_⟩);have hrl0_:=fun o_=>(hrl_ o_).1;have hrl1_:=fun o_=>(hrl_ o_).2.1;have hrl2_:=fun o_=>(hrl_ o_).2.2;clear hrl_;have hal0_:∀ o_,(w32.alloc o_).cell? ⟨gb231,0,none⟩ = some (.int .i64 a1_0):=fun o_=>(blk_cell (by (with_reducible apply aB);exact BK231.out) 0).trans rfl;have hal1_:∀ o_,(w32.alloc o_).cell? ⟨gb231,1,none⟩ = some (.int .i64 a1_1):=fun o_=>(blk_cell (by (with_reducible apply aB);exact BK231.out) 1).trans rfl;have hal2_:∀ o_,(w32.alloc o_).cell? ⟨gb231,2,none⟩ = some (.int .i64 a1_2):=fun o_=>(blk_cell (by (with_reducible apply aB);exact BK231.out) 2).trans rfl)|((with_reducible refine gate_dst (N:=8) rfl ?_);refine box_event ?hg (N:=8) ?hd (cs:=#[.int .i64 0,.int .i64 0,.int .i64 0]) (t:=27) ?hr ?_;(case hd=>rfl);(case hg=>rfl);(case hr=>first|(go_simp;done)|(go_simp;rfl));intro gb244 hg w33 hbox hb;replace HO_5:=mk0 (Kd.R_below (Kd.R_elderB (rR HO_5.out) gb244 (Nat.le_of_eq hg.symm)) hb);replace HO_16:=mk0 (Kd.R_below (Kd.R_elderB (rR HO_16.out) gb244 (Nat.le_of_eq hg.symm)) hb);have BK244:=mk0 (hbox);have GW244:=mk0 ((by rw [hg];exact (kZ HB.out):w.heap.size ≤ gb244));have GE244:=mk0 ((by rw [hg];exact (kZ HB.out):w.heap.size ≤ gb244));replace HB:=mk0 (kS HB.out hb);have NB231_244:=mk0 ((by rw [hg];exact Nat.ne_of_lt (kL BK231.out):gb231 ≠ gb244));have NB244_231:=mk0 ((by rw [hg];exact Nat.ne_of_gt (kL BK231.out):gb244 ≠ gb231));replace BK231:=mk0 (kK BK231.out hb);clear hb hbox hg;have hnb34:=NB244_231.out;have hnc34:=NB231_244.out;obtain⟨hcz35_0,hcz35_1,hcz35_2,hfz35_0,hfz35_1,hfz35_2⟩:=cz3 BK244.out))
    go_roundg k1
    case measure=>have:=HK1.out;omega
    case rel=>exact⟨(x5_1),(wrap64 (x7_1 + 1)),(by first|rfl|(simp;done)|(simp [*];done)),H',⟨by have:=HK1.out;omega⟩,⟨by (with_reducible repeat (first|apply aR|apply nR|apply dR));exact Kd.R_mono (Kd.R_far (p:=⟨gb244,2,none⟩) (Kd.R_far (p:=⟨gb244,1,none⟩) (Kd.R_far (p:=⟨gb244,0,none⟩) (Kd.R_mono HO_5.out (fun k_ hk=>(⟨hk,hk.2⟩:_ ∧ k_ ≠ gb244))) (fun _ hk=>hk.2) (.int .i64 t240)) (fun _ hk=>hk.2) (.int .i64 t241)) (fun _ hk=>hk.2) (.int .i64 t242)) (fun _ hk=>⟨hk.1.1.1,hk.1.1.2⟩)⟩,⟨by (with_reducible repeat (first|apply aR|apply nR|apply dR));exact Kd.R_mono (Kd.R_far (p:=⟨gb244,2,none⟩) (Kd.R_far (p:=⟨gb244,1,none⟩) (Kd.R_far (p:=⟨gb244,0,none⟩) (Kd.R_mono HO_16.out (fun k_ hk=>(⟨hk,hk.2⟩:_ ∧ k_ ≠ gb244))) (fun _ hk=>hk.2) (.int .i64 t240)) (fun _ hk=>hk.2) (.int .i64 t241)) (fun _ hk=>hk.2) (.int .i64 t242)) (fun _ hk=>⟨hk.1.1.1,hk.1.1.2⟩)⟩,⟨by (with_reducible repeat (first|apply nB|apply dB|apply aB));refine blk_far ?_ NB231_244.out _;(with_reducible repeat (first|apply nB|apply dB|apply aB));refine blk_far ?_ NB231_244.out _;(with_reducible repeat (first|apply nB|apply dB|apply aB));refine blk_far ?_ NB231_244.out _;(with_reducible repeat (first|apply nB|apply dB|apply aB));exact BK231.out⟩,⟨kB HB.out⟩⟩
   subst c15
   have H1:(if (t240 == a1_0 && (t241 == a1_1 && (t242 == a1_2))) = true then (if x5_1.length < 5864062014805 then (spec_StretchKids.l0 k1 (x5_1 ++ [(⟨(rd_T27 t236 x7_1).f0,(rd_T27 t236 x7_1).f1,(rd_T27 t236 x7_1).f2⟩:S27)]) (wrap64 (x7_1 + 1)) t236 a1_0 a1_1 a1_2) else (none)) else (spec_StretchKids.l0 k1 x5_1 (wrap64 (x7_1 + 1)) t236 a1_0 a1_1 a1_2)) = some r:=by rw [if_pos rfl] at H;exact H
   clear H
   have H:=H1
   clear H1
   by_cases c16:(t240 == a1_0 && (t241 == a1_1 && (t242 == a1_2))) = true
   rotate_left
   ·rw [if_neg c16] at H
    have c16b0:(t240 == a1_0 && (t241 == a1_1 && (t242 == a1_2))) = false:=by simpa using c16
    (try (have c16b1:decide (t240 = a1_0 && (t241 == a1_1 && (t242 == a1_2))) = false:=by simpa using c16))
    (try (have c16b2:(t240 == a1_0 && (t241 == a1_1 && (t242 == a1_2))) = false:=by simpa using c16))
    (try (have c16b3:¬ (t240 = a1_0 && (t241 == a1_1 && (t242 == a1_2))):=by simpa using c16))
    clear c16
    have H':=mk0 H
    clear H
    obtain⟨Ao25,co25,eo25⟩:=Kd.R_slice HO_16.out
    subst eo25
    have p239:0 ≤ (x7_1:Int):=of_decide_eq_true (by first|(with_reducible assumption)|assumption)
    have q239:x7_1 < (t236.length:Int):=of_decide_eq_true (by first|(with_reducible assumption)|assumption)
    obtain⟨ad239,e239,hx239_0,hx239_1,hx239_2⟩:=at_T27 (Kd.R_reads' HO_16.out).2.2 x7_1 p239 q239
    cases e239
    replace p239:=eq_true p239
    replace q239:=eq_true q239
    go_wp2_with (first|((with_reducible refine gate_callee (f:=54) rfl ?_);refine goesL_ (some 29) rfl rfl Try.func54 (by kernel_rfl) rfl #[.slice (some ad239) t236.length co25,.agg #[.int .i64 ((rd_T27 t236 x7_1).f0),.int .i64 ((rd_T27 t236 x7_1).f1),.int .i64 ((rd_T27 t236 x7_1).f2)]] rfl (by (try simp only [mA,mC,mN]);first|done|rfl|(simp only [List.length_drop,List.length_take];done)|(simp only [List.length_drop,List.length_take];rfl)) ?_;(with_reducible refine (spec_l11Up.calls k1 _ _ t236 ((rd_T27 t236 x7_1).f0) ((rd_T27 t236 x7_1).f1) ((rd_T27 t236 x7_1).f2) t240 t241 t242 true _ ?side1 ?side2 A14.out).mono ?_);(case side1=>exact kC (Kd.R_reads' HO_16.out).2.2);(case side2=>exact (Kd.R_reads' HO_16.out).2.1);rintro e w26 ⟨rfl,hb⟩;refine⟨_,rfl,?_⟩;replace HO_5:=mk0 (bR HO_5.out hb);replace HO_16:=mk0 (bR HO_16.out hb);replace BK231:=mk0 (kK BK231.out hb);replace HB:=mk0 (kS HB.out hb);(try clear hb);have hrl_:∀ o_,(w26.alloc o_).cell? (ad239.add (x7_1.toNat * 3)) = some (.int .i64 (rd_T27 t236 x7_1).f0) ∧ (w26.alloc o_).cell? ⟨(ad239.add (x7_1.toNat * 3)).block,(ad239.add (x7_1.toNat * 3)).off + 1,none⟩ = some (.int .i64 (rd_T27 t236 x7_1).f1) ∧ (w26.alloc o_).cell? ⟨(ad239.add (x7_1.toNat * 3)).block,(ad239.add (x7_1.toNat * 3)).off + 2,none⟩ = some (.int .i64 (rd_T27 t236 x7_1).f2):=fun o_=>(by obtain⟨ad_,e_,h0_,h1_,h2_⟩:=at_T27 (Kd.C_alloc (Kd.R_reads' HO_16.out).2.2 o_) x7_1 (of_eq_true p239) (of_eq_true q239);cases e_;exact⟨h0_,h1_,h2_⟩);have hrl0_:=fun o_=>(hrl_ o_).1;have hrl1_:=fun o_=>(hrl_ o_).2.1;have hrl2_:=fun o_=>(hrl_ o_).2.2;clear hrl_;have hal0_:∀ o_,(w26.alloc o_).cell? ⟨gb231,0,none⟩ = some (.int .i64 a1_0):=fun o_=>(blk_cell (by (with_reducible apply aB);exact BK231.out) 0).trans rfl;have hal1_:∀ o_,(w26.alloc o_).cell? ⟨gb231,1,none⟩ = some (.int .i64 a1_1):=fun o_=>(blk_cell (by (with_reducible apply aB);exact BK231.out) 1).trans rfl;have hal2_:∀ o_,(w26.alloc o_).cell? ⟨gb231,2,none⟩ = some (.int .i64 a1_2):=fun o_=>(blk_cell (by (with_reducible apply aB);exact BK231.out) 2).trans rfl)|((with_reducible refine gate_dst (N:=8) rfl ?_);refine box_event ?hg (N:=8) ?hd (cs:=#[.int .i64 0,.int .i64 0,.int .i64 0]) (t:=27) ?hr ?_;(case hd=>rfl);(case hg=>rfl);(case hr=>first|(go_simp;done)|(go_simp;rfl));intro gb244 hg w27 hbox hb;replace HO_5:=mk0 (Kd.R_below (Kd.R_elderB (rR HO_5.out) gb244 (Nat.le_of_eq hg.symm)) hb);replace HO_16:=mk0 (Kd.R_below (Kd.R_elderB (rR HO_16.out) gb244 (Nat.le_of_eq hg.symm)) hb);have BK244:=mk0 (hbox);have GW244:=mk0 ((by rw [hg];exact (kZ HB.out):w.heap.size ≤ gb244));have GE244:=mk0 ((by rw [hg];exact (kZ HB.out):w.heap.size ≤ gb244));replace HB:=mk0 (kS HB.out hb);have NB231_244:=mk0 ((by rw [hg];exact Nat.ne_of_lt (kL BK231.out):gb231 ≠ gb244));have NB244_231:=mk0 ((by rw [hg];exact Nat.ne_of_gt (kL BK231.out):gb244 ≠ gb231));replace BK231:=mk0 (kK BK231.out hb);clear hb hbox hg;have hnb28:=NB244_231.out;have hnc28:=NB231_244.out;obtain⟨hcz29_0,hcz29_1,hcz29_2,hfz29_0,hfz29_1,hfz29_2⟩:=cz3 BK244.out;obtain⟨hcz30_0,hcz30_1,hcz30_2,hfz30_0,hfz30_1,hfz30_2⟩:=cz3 BK231.out))
    go_roundg k1
    case measure=>have:=HK1.out;omega
    case rel=>exact⟨(x5_1),(wrap64 (x7_1 + 1)),(by first|rfl|(simp;done)|(simp [*];done)),H',⟨by have:=HK1.out;omega⟩,⟨by (with_reducible repeat (first|apply aR|apply nR|apply dR));exact Kd.R_mono (Kd.R_far (p:=⟨gb244,2,none⟩) (Kd.R_far (p:=⟨gb244,1,none⟩) (Kd.R_far (p:=⟨gb244,0,none⟩) (Kd.R_mono HO_5.out (fun k_ hk=>(⟨hk,hk.2⟩:_ ∧ k_ ≠ gb244))) (fun _ hk=>hk.2) (.int .i64 t240)) (fun _ hk=>hk.2) (.int .i64 t241)) (fun _ hk=>hk.2) (.int .i64 t242)) (fun _ hk=>⟨hk.1.1.1,hk.1.1.2⟩)⟩,⟨by (with_reducible repeat (first|apply aR|apply nR|apply dR));exact Kd.R_mono (Kd.R_far (p:=⟨gb244,2,none⟩) (Kd.R_far (p:=⟨gb244,1,none⟩) (Kd.R_far (p:=⟨gb244,0,none⟩) (Kd.R_mono HO_16.out (fun k_ hk=>(⟨hk,hk.2⟩:_ ∧ k_ ≠ gb244))) (fun _ hk=>hk.2) (.int .i64 t240)) (fun _ hk=>hk.2) (.int .i64 t241)) (fun _ hk=>hk.2) (.int .i64 t242)) (fun _ hk=>⟨hk.1.1.1,hk.1.1.2⟩)⟩,⟨by (with_reducible repeat (first|apply nB|apply dB|apply aB));refine blk_far ?_ NB231_244.out _;(with_reducible repeat (first|apply nB|apply dB|apply aB));refine blk_far ?_ NB231_244.out _;(with_reducible repeat (first|apply nB|apply dB|apply aB));refine blk_far ?_ NB231_244.out _;(with_reducible repeat (first|apply nB|apply dB|apply aB));exact BK231.out⟩,⟨kB HB.out⟩⟩
   rw [if_pos c16] at H
   have c16b0:(t240 == a1_0 && (t241 == a1_1 && (t242 == a1_2))) = true:=c16
   (try (have c16b1:decide (t240 = a1_0 && (t241 == a1_1 && (t242 == a1_2))) = true:=by simpa using c16))
   (try (have c16b2:(t240 == a1_0 && (t241 == a1_1 && (t242 == a1_2))) = true:=by simpa using c16))
   clear c16
   by_cases c17:x5_1.length < 5864062014805
   rotate_left
   ·rw [if_neg c17] at H
    exact absurd H (by simp)
   rw [if_pos c17] at H
   have LMc17:=mk0 c17
   clear c17
   obtain⟨y246,hy246⟩:∃ y_:List (S27),y_ = (x5_1 ++ [(⟨(rd_T27 t236 x7_1).f0,(rd_T27 t236 x7_1).f1,(rd_T27 t236 x7_1).f2⟩:S27)]):=⟨_,rfl⟩
   replace H:(spec_StretchKids.l0 k1 y246 (wrap64 (x7_1 + 1)) t236 a1_0 a1_1 a1_2) = some r:=by first|(rw [hy246];with_reducible exact H)|(have H2_:=(Option.bind_some _ _).symm.trans H;rw [hy246];with_reducible exact H2_)|(have H2_:=(Option.bind_some _ _).symm.trans H;with_reducible exact H2_)|with_reducible exact H|(rw [hy246];exact H)|exact H
   have Ny246:=mk0 hy246
   clear hy246
   have H':=mk0 H
   clear H
   obtain⟨Ao18,co18,eo18⟩:=Kd.R_slice HO_16.out
   subst eo18
   have p239:0 ≤ (x7_1:Int):=of_decide_eq_true (by first|(with_reducible assumption)|assumption)
   have q239:x7_1 < (t236.length:Int):=of_decide_eq_true (by first|(with_reducible assumption)|assumption)
   obtain⟨ad239,e239,hx239_0,hx239_1,hx239_2⟩:=at_T27 (Kd.R_reads' HO_16.out).2.2 x7_1 p239 q239
   cases e239
   replace p239:=eq_true p239
   replace q239:=eq_true q239
   go_wp2_with (first|((with_reducible refine gate_callee (f:=54) rfl ?_);refine goesL_ (some 29) rfl rfl Try.func54 (by kernel_rfl) rfl #[.slice (some ad239) t236.length co18,.agg #[.int .i64 ((rd_T27 t236 x7_1).f0),.int .i64 ((rd_T27 t236 x7_1).f1),.int .i64 ((rd_T27 t236 x7_1).f2)]] rfl (by (try simp only [mA,mC,mN]);first|done|rfl|(simp only [List.length_drop,List.length_take];done)|(simp only [List.length_drop,List.length_take];rfl)) ?_;(with_reducible refine (spec_l11Up.calls k1 _ _ t236 ((rd_T27 t236 x7_1).f0) ((rd_T27 t236 x7_1).f1) ((rd_T27 t236 x7_1).f2) t240 t241 t242 true _ ?side1 ?side2 A14.out).mono ?_);(case side1=>exact kC (Kd.R_reads' HO_16.out).2.2);(case side2=>exact (Kd.R_reads' HO_16.out).2.1);rintro e w19 ⟨rfl,hb⟩;refine⟨_,rfl,?_⟩;replace HO_5:=mk0 (bR HO_5.out hb);replace HO_16:=mk0 (bR HO_16.out hb);replace BK231:=mk0 (kK BK231.out hb);replace HB:=mk0 (kS HB.out hb);(try clear hb);have hrl_:∀ o_,(w19.alloc o_).cell? (ad239.add (x7_1.toNat * 3)) = some (.int .i64 (rd_T27 t236 x7_1).f0) ∧ (w19.alloc o_).cell? ⟨(ad239.add (x7_1.toNat * 3)).block,(ad239.add (x7_1.toNat * 3)).off + 1,none⟩ = some (.int .i64 (rd_T27 t236 x7_1).f1) ∧ (w19.alloc o_).cell? ⟨(ad239.add (x7_1.toNat * 3)).block,(ad239.add (x7_1.toNat * 3)).off + 2,none⟩ = some (.int .i64 (rd_T27 t236 x7_1).f2):=fun o_=>(by obtain⟨ad_,e_,h0_,h1_,h2_⟩:=at_T27 (Kd.C_alloc (Kd.R_reads' HO_16.out).2.2 o_) x7_1 (of_eq_true p239) (of_eq_true q239);cases e_;exact⟨h0_,h1_,h2_⟩);have hrl0_:=fun o_=>(hrl_ o_).1;have hrl1_:=fun o_=>(hrl_ o_).2.1;have hrl2_:=fun o_=>(hrl_ o_).2.2;clear hrl_;have hal0_:∀ o_,(w19.alloc o_).cell? ⟨gb231,0,none⟩ = some (.int .i64 a1_0):=fun o_=>(blk_cell (by (with_reducible apply aB);exact BK231.out) 0).trans rfl;have hal1_:∀ o_,(w19.alloc o_).cell? ⟨gb231,1,none⟩ = some (.int .i64 a1_1):=fun o_=>(blk_cell (by (with_reducible apply aB);exact BK231.out) 1).trans rfl;have hal2_:∀ o_,(w19.alloc o_).cell? ⟨gb231,2,none⟩ = some (.int .i64 a1_2):=fun o_=>(blk_cell (by (with_reducible apply aB);exact BK231.out) 2).trans rfl)|((with_reducible refine gate_dst (N:=8) rfl ?_);refine box_event ?hg (N:=8) ?hd (cs:=#[.int .i64 0,.int .i64 0,.int .i64 0]) (t:=27) ?hr ?_;(case hd=>rfl);(case hg=>rfl);(case hr=>first|(go_simp;done)|(go_simp;rfl));intro gb244 hg w20 hbox hb;replace HO_5:=mk0 (Kd.R_below (Kd.R_elderB (rR HO_5.out) gb244 (Nat.le_of_eq hg.symm)) hb);replace HO_16:=mk0 (Kd.R_below (Kd.R_elderB (rR HO_16.out) gb244 (Nat.le_of_eq hg.symm)) hb);have BK244:=mk0 (hbox);have GW244:=mk0 ((by rw [hg];exact (kZ HB.out):w.heap.size ≤ gb244));have GE244:=mk0 ((by rw [hg];exact (kZ HB.out):w.heap.size ≤ gb244));replace HB:=mk0 (kS HB.out hb);have NB231_244:=mk0 ((by rw [hg];exact Nat.ne_of_lt (kL BK231.out):gb231 ≠ gb244));have NB244_231:=mk0 ((by rw [hg];exact Nat.ne_of_gt (kL BK231.out):gb244 ≠ gb231));replace BK231:=mk0 (kK BK231.out hb);clear hb hbox hg;have hnb21:=NB244_231.out;have hnc21:=NB231_244.out;obtain⟨hcz22_0,hcz22_1,hcz22_2,hfz22_0,hfz22_1,hfz22_2⟩:=cz3 BK244.out;obtain⟨hcz23_0,hcz23_1,hcz23_2,hfz23_0,hfz23_1,hfz23_2⟩:=cz3 BK231.out;have p245:0 ≤ (x7_1:Int):=of_decide_eq_true (by first|(with_reducible assumption)|assumption);have q245:x7_1 < (t236.length:Int):=of_decide_eq_true (by first|(with_reducible assumption)|assumption);obtain⟨ad245,e245,hx245_0,hx245_1,hx245_2⟩:=at_T27 (Kd.R_reads' HO_16.out).2.2 x7_1 p245 q245;obtain rfl:ad239 = ad245:=(by injection e245);have hn245_0:ad239.block ≠ gb244:=Kd.own_blk (by first|exact Kd.R_ne HO_16.out BK244.out (by decide)|exact Kd.R_away HO_16.out (fun _ hk=>hk.2));have hn245_1:ad239.block ≠ gb244:=Kd.own_blk (by first|exact Kd.R_ne HO_16.out BK244.out (by decide)|exact Kd.R_away HO_16.out (fun _ hk=>hk.2));have hn245_2:ad239.block ≠ gb244:=Kd.own_blk (by first|exact Kd.R_ne HO_16.out BK244.out (by decide)|exact Kd.R_away HO_16.out (fun _ hk=>hk.2));replace hx245_0:=(cell_far (p:=⟨gb244,0,none⟩) (by first|(rw [add_block];exact hn245_0)|(show (Addr.add _ _).block ≠ _;rw [add_block];exact hn245_0)|exact hn245_0) (.int .i64 t240)).trans hx245_0;replace hx245_1:=(cell_far (p:=⟨gb244,0,none⟩) (by first|(rw [add_block];exact hn245_0)|(show (Addr.add _ _).block ≠ _;rw [add_block];exact hn245_0)|exact hn245_0) (.int .i64 t240)).trans hx245_1;replace hx245_2:=(cell_far (p:=⟨gb244,0,none⟩) (by first|(rw [add_block];exact hn245_0)|(show (Addr.add _ _).block ≠ _;rw [add_block];exact hn245_0)|exact hn245_0) (.int .i64 t240)).trans hx245_2;replace hx245_0:=(cell_far (p:=⟨gb244,1,none⟩) (by first|(rw [add_block];exact hn245_1)|(show (Addr.add _ _).block ≠ _;rw [add_block];exact hn245_1)|exact hn245_1) (.int .i64 t241)).trans hx245_0;replace hx245_1:=(cell_far (p:=⟨gb244,1,none⟩) (by first|(rw [add_block];exact hn245_1)|(show (Addr.add _ _).block ≠ _;rw [add_block];exact hn245_1)|exact hn245_1) (.int .i64 t241)).trans hx245_1;replace hx245_2:=(cell_far (p:=⟨gb244,1,none⟩) (by first|(rw [add_block];exact hn245_1)|(show (Addr.add _ _).block ≠ _;rw [add_block];exact hn245_1)|exact hn245_1) (.int .i64 t241)).trans hx245_2;replace hx245_0:=(cell_far (p:=⟨gb244,2,none⟩) (by first|(rw [add_block];exact hn245_2)|(show (Addr.add _ _).block ≠ _;rw [add_block];exact hn245_2)|exact hn245_2) (.int .i64 t242)).trans hx245_0;replace hx245_1:=(cell_far (p:=⟨gb244,2,none⟩) (by first|(rw [add_block];exact hn245_2)|(show (Addr.add _ _).block ≠ _;rw [add_block];exact hn245_2)|exact hn245_2) (.int .i64 t242)).trans hx245_1;replace hx245_2:=(cell_far (p:=⟨gb244,2,none⟩) (by first|(rw [add_block];exact hn245_2)|(show (Addr.add _ _).block ≠ _;rw [add_block];exact hn245_2)|exact hn245_2) (.int .i64 t242)).trans hx245_2;clear hn245_0 hn245_1 hn245_2;replace p245:=eq_true p245;replace q245:=eq_true q245)|((with_reducible refine gate_builtin (b:=.append) (xs:=#[.tmp 38,.tmp 43]) rfl ?_);at_builtin;refine Kd.R_append k27 (w0:=w) w.heap.size rfl (.tmp 38) (.tmp 43) 39 27 (.agg #[(.int .i64 0),(.int .i64 0),(.int .i64 0)]) 24 rfl Try.underlying39 info27 rfl (by decide) (by omega) u5 x5_1 (⟨(rd_T27 t236 x7_1).f0,(rd_T27 t236 x7_1).f1,(rd_T27 t236 x7_1).f2⟩:S27) [.int .i64 ((rd_T27 t236 x7_1).f0),.int .i64 ((rd_T27 t236 x7_1).f1),.int .i64 ((rd_T27 t236 x7_1).f2)] (fun k_=>some k_ ≠ (.slice (some ad239) t236.length co18:Value).ownBlock ∧ k_ ≠ gb231 ∧ k_ ≠ gb244) (fun _=>False) rfl (by first|(go_simp;done)|(go_simp;rfl)) ?aP (fun _ hk=>hk.elim) ?aF ?aO ?aB ?aS ?aL ?_;(case aP=>exact k27_mkM _ _ _ (⟨(rd_T27 t236 x7_1).f0,(rd_T27 t236 x7_1).f1,(rd_T27 t236 x7_1).f2⟩:S27));(case aB=>exact (kB HB.out));(case aF=>exact (fun k_ hk=>⟨Kd.fresh' (Kd.R_lt (by (with_reducible repeat (first|apply aR|apply nR|apply dR));exact (Kd.R_mono (Kd.R_far (p:=⟨gb244,2,none⟩) (Kd.R_far (p:=⟨gb244,1,none⟩) (Kd.R_far (p:=⟨gb244,0,none⟩) (Kd.R_mono HO_16.out (fun k_ hk=>(⟨hk,hk.2⟩:_ ∧ k_ ≠ gb244))) (fun _ hk=>hk.2) (.int .i64 t240)) (fun _ hk=>hk.2) (.int .i64 t241)) (fun _ hk=>hk.2) (.int .i64 t242)) (fun _ h_=>h_.1)))) k_ hk,Kd.freshB (g:=gb231) (o:=.cells #[.int .i64 a1_0,.int .i64 a1_1,.int .i64 a1_2] 27 (0,0)) (by (with_reducible repeat (first|apply nB|apply dB|apply aB));refine blk_far ?_ NB231_244.out _;(with_reducible repeat (first|apply nB|apply dB|apply aB));refine blk_far ?_ NB231_244.out _;(with_reducible repeat (first|apply nB|apply dB|apply aB));refine blk_far ?_ NB231_244.out _;(with_reducible repeat (first|apply nB|apply dB|apply aB));exact BK231.out) k_ hk,Kd.freshB (g:=gb244) (o:=.cells #[.int .i64 t240,.int .i64 t241,.int .i64 t242] 27 (0,0)) (by (with_reducible repeat (first|apply nB|apply dB|apply aB));refine blk_put (cs:=#[.int .i64 t240,.int .i64 t241,.int .i64 0]) ?_ 2 _ rfl;(with_reducible repeat (first|apply nB|apply dB|apply aB));refine blk_put (cs:=#[.int .i64 t240,.int .i64 0,.int .i64 0]) ?_ 1 _ rfl;(with_reducible repeat (first|apply nB|apply dB|apply aB));refine blk_put (cs:=#[.int .i64 0,.int .i64 0,.int .i64 0]) ?_ 0 _ rfl;(with_reducible repeat (first|apply nB|apply dB|apply aB));exact BK244.out) k_ hk⟩));(case aO=>exact (by (with_reducible repeat (first|apply aR|apply nR|apply dR));exact Kd.R_mono (Kd.R_far (p:=⟨gb244,2,none⟩) (Kd.R_far (p:=⟨gb244,1,none⟩) (Kd.R_far (p:=⟨gb244,0,none⟩) (Kd.R_mono HO_5.out (fun k_ hk=>(⟨hk,hk.2⟩:_ ∧ k_ ≠ gb244))) (fun _ hk=>hk.2) (.int .i64 t240)) (fun _ hk=>hk.2) (.int .i64 t241)) (fun _ hk=>hk.2) (.int .i64 t242)) (fun _ hk=>⟨hk.1.1.1,⟨hk.1.1.2,hk.1.2⟩⟩)));(case aS=>exact (kZ HB.out));(case aL=>have:=LMc17.out;omega);intro v247 w24 ho hb hg hat;rw [← Ny246.out] at ho;replace HO_16:=mk0 (Kd.R_after (ok:=(fun k_=>k_ ≠ gb231 ∧ k_ ≠ gb244)) (by (with_reducible repeat (first|apply aR|apply nR|apply dR));exact Kd.R_mono (Kd.R_far (p:=⟨gb244,2,none⟩) (Kd.R_far (p:=⟨gb244,1,none⟩) (Kd.R_far (p:=⟨gb244,0,none⟩) (Kd.R_mono HO_16.out (fun k_ hk=>(⟨hk,hk.2⟩:_ ∧ k_ ≠ gb244))) (fun _ hk=>hk.2) (.int .i64 t240)) (fun _ hk=>hk.2) (.int .i64 t241)) (fun _ hk=>hk.2) (.int .i64 t242)) (fun _ hk=>⟨⟨hk.1.1.2,hk.1.2⟩,hk.1.1.1⟩)) hg hat);replace BK231:=mk0 (blk_grown (g:=gb231) (o:=.cells #[.int .i64 a1_0,.int .i64 a1_1,.int .i64 a1_2] 27 (0,0)) (by (with_reducible repeat (first|apply nB|apply dB|apply aB));refine blk_far ?_ NB231_244.out _;(with_reducible repeat (first|apply nB|apply dB|apply aB));refine blk_far ?_ NB231_244.out _;(with_reducible repeat (first|apply nB|apply dB|apply aB));refine blk_far ?_ NB231_244.out _;(with_reducible repeat (first|apply nB|apply dB|apply aB));exact BK231.out) hg (Kd.R_away HO_5.out (fun _ hk=>hk.1.2)));replace BK244:=mk0 (blk_grown (g:=gb244) (o:=.cells #[.int .i64 t240,.int .i64 t241,.int .i64 t242] 27 (0,0)) (by (with_reducible repeat (first|apply nB|apply dB|apply aB));refine blk_put (cs:=#[.int .i64 t240,.int .i64 t241,.int .i64 0]) ?_ 2 _ rfl;(with_reducible repeat (first|apply nB|apply dB|apply aB));refine blk_put (cs:=#[.int .i64 t240,.int .i64 0,.int .i64 0]) ?_ 1 _ rfl;(with_reducible repeat (first|apply nB|apply dB|apply aB));refine blk_put (cs:=#[.int .i64 0,.int .i64 0,.int .i64 0]) ?_ 0 _ rfl;(with_reducible repeat (first|apply nB|apply dB|apply aB));exact BK244.out) hg (Kd.R_away HO_5.out (fun _ hk=>hk.2)));replace HB:=mk0 (hb);have HO248:=mk0 (ho);clear HO_5 ho hb hg hat))
   go_roundg k1
   case measure=>have:=HK1.out;omega
   case rel=>exact⟨(y246),(wrap64 (x7_1 + 1)),(by first|rfl|(simp;done)|(simp [*];done)),H',⟨by have:=HK1.out;omega⟩,⟨rR (Kd.R_mono HO248.out (fun _ hk=>⟨hk.1,hk.2.1⟩))⟩,⟨rR (Kd.R_mono HO_16.out (fun _ hk=>⟨hk.2,hk.1.1⟩))⟩,⟨kN BK231.out⟩,⟨kB HB.out⟩⟩
/-! ### impl_TextOk: function 39 -/
def impl_TextOk.f (l0 : List Int) : Option (Bool) := some (decide ((l0.length : Int) ≤ 300))
set_option maxHeartbeats 8000000 in
set_option maxRecDepth 100000 in
theorem impl_TextOk.calls (A0 : Option Addr) (c0 : Nat) (l0 : List Int) (r : Bool) (w : World) (hr0 : Kd.C (Kd.int .u8) w A0 l0.length l0) (hc0 : l0.length ≤ c0) (h : impl_TextOk.f l0 = some r) :
  Calls Try.prog 39 #[.slice A0 l0.length c0] w fun e w' => e = .returned (.bool r) ∧ Drawn0 w w' := by
 have HR0:=mk0 hr0
 have HC0:=mk0 hc0
 clear hr0 hc0
 have H:(some (decide ((l0.length:Int) ≤ 300))) = some r:=h
 clear h
 obtain rfl:=Option.some.inj H
 go_enter Try.func39,Try.ntmps39
 go_wp2
 go_ret
 exact⟨by first|rfl|(simp;done)|(simp [*];done),by repeat (first|exact Drawn0.refl _|apply Drawn0.step)⟩

/-! ### slices_Min_int_int: function 48 -/
def slices_Min_int_int.l0 : Nat → List Int → Int → Int → Option (Int)
 | 0, _, _, _ => none
 | k + 1, x0, x3, x4 => if x4 < (x0.length : Int) then (if 0 ≤ x4 then (slices_Min_int_int.l0 k x0 (mn x3 (rd x0 x4)) (wrap64 (x4 + 1))) else (none)) else (some x3)
def slices_Min_int_int.f (k : Nat) (l0 : List Int) : Option (Int) := if (l0.length : Int) < 1 then (none) else (if 0 < (l0.length : Int) then (slices_Min_int_int.l0 k l0 (rd l0 0) 1) else (none))
theorem slices_Min_int_int.mono_l : ∀ k, (∀ y0 y1 y2, LeO (slices_Min_int_int.l0 k y0 y1 y2) (slices_Min_int_int.l0 (k + 1) y0 y1 y2))
 | 0 => fun _ _ _ r h => by simp [slices_Min_int_int.l0] at h
 | k + 1 => by
  have ih0 := slices_Min_int_int.mono_l k
  ·intro y0 y1 y2
   unfold slices_Min_int_int.l0
   repeat' first|(with_reducible first|exact ih0 _ _ _|exact LeO.refl _|exact LeO.none _|refine LeO.ite ?_ ?_|refine LeO.bind ?_ (fun _ => ?_))|exact LeO.none _|refine LeO.ite ?_ ?_|refine LeO.bind ?_ (fun _ => ?_)
theorem slices_Min_int_int.mono : ∀ a0 k, LeO (slices_Min_int_int.f k a0) (slices_Min_int_int.f (k + 1) a0) := by
 intro a0 k
 have ih0 := slices_Min_int_int.mono_l k
 unfold slices_Min_int_int.f
 repeat' first|(with_reducible first|exact ih0 _ _ _|exact LeO.refl _|exact LeO.none _|refine LeO.ite ?_ ?_|refine LeO.bind ?_ (fun _ => ?_))|exact LeO.none _|refine LeO.ite ?_ ?_|refine LeO.bind ?_ (fun _ => ?_)
set_option maxHeartbeats 8000000 in
set_option maxRecDepth 100000 in
theorem slices_Min_int_int.calls (k : Nat) (A0 : Option Addr) (c0 : Nat) (l0 : List Int) (r : Int) (w : World) (hr0 : Kd.C (Kd.int .i64) w A0 l0.length l0) (hc0 : l0.length ≤ c0) (h : slices_Min_int_int.f k l0 = some r) :
  Calls Try.prog 48 #[.slice A0 l0.length c0] w fun e w' => e = .returned (.int .i64 r) ∧ Below w.heap.size w w' := by
 have HR0:=mk0 hr0
 have HC0:=mk0 hc0
 clear hr0 hc0
 have HB:=mk0 (Below.refl w.heap.size w)
 have H:(if (l0.length:Int) < 1 then (none) else (if 0 < (l0.length:Int) then (slices_Min_int_int.l0 k l0 (rd l0 0) 1) else (none))) = some r:=h
 clear h
 by_cases c2:(l0.length:Int) < 1
 ·rw [if_pos c2] at H
  exact absurd H (by simp)
 ·rw [if_neg c2] at H
  have c2b0:decide ((l0.length:Int) < 1) = false:=decide_eq_false c2
  have c2b1:decide (l0.length < 1) = false:=decide_eq_false (by omega)
  clear c2
  by_cases c3:0 < (l0.length:Int)
  ·rw [if_pos c3] at H
   have c3b0:decide (0 < (l0.length:Int)) = true:=decide_eq_true c3
   have c3b1:decide (0 < l0.length) = true:=decide_eq_true (by omega)
   clear c3
   have H':=mk0 H
   clear H
   have p249:0 ≤ (0:Int):=(by omega)
   have q249:0 < (l0.length:Int):=of_decide_eq_true (by first|(with_reducible assumption)|assumption)
   obtain⟨ad249,e249,hx249_0⟩:=Kd.at_int HR0.out 0 p249 q249
   cases e249
   have qi249:(0 < l0.length) = True:=eq_true (by omega)
   (try rw [show ((0:Int)).toNat = 0 from rfl] at hx249_0)
   (try rw [Addr.add_zero'] at hx249_0)
   replace p249:=eq_true p249
   replace q249:=eq_true q249
   go_enter Try.func48,Try.ntmps48
   go_wp2
   go_loopg [3,4] k (fun kq v3 v4 w'=>∃ (x3_1:Int) (x4_1:Int),v3 = .int .i64 x3_1 ∧ v4 = .int .i64 x4_1 ∧ Aside0 (slices_Min_int_int.l0 kq l0 x3_1 x4_1 = some r) ∧ Aside0 (kq ≤ k) ∧ Aside0 (Below w.heap.size w w'))
   case atStart=>exact⟨(rd l0 0),(1),(by first|rfl|(simp;done)|(simp [*];done)),(by first|rfl|(simp;done)|(simp [*];done)),H',⟨Nat.le_refl _⟩,⟨kB HB.out⟩⟩
   case round =>
    clear H'
    try clear c2
    try clear c2b0
    try clear c2b1
    try clear p2
    try clear q2
    try clear hx2
    try clear qi2
    try clear c3
    try clear c3b0
    try clear c3b1
    try clear hx249_0
    try clear p249
    try clear q249
    obtain⟨x3_1,x4_1,rfl,rfl,HA,HK1,HB⟩:=hrel
    cases gk with
    | zero=>exact absurd HA.out (by simp [slices_Min_int_int.l0])
    | succ k1 =>
     have H:=HA.out
     clear HA
     simp only [slices_Min_int_int.l0] at H
     by_cases c4:x4_1 < (l0.length:Int)
     ·rw [if_pos c4] at H
      have c4b0:decide (x4_1 < (l0.length:Int)) = true:=decide_eq_true c4
      clear c4
      by_cases c5:0 ≤ x4_1
      ·rw [if_pos c5] at H
       have c5b0:decide (0 ≤ x4_1) = true:=decide_eq_true c5
       clear c5
       obtain⟨ji6,hji6⟩:∃ j_:Int,(mn x3_1 (rd l0 x4_1)) = j_:=⟨_,rfl⟩
       replace H:(slices_Min_int_int.l0 k1 l0 ji6 (wrap64 (x4_1 + 1))) = some r:=by first|(rw [hji6] at H;exact H)|(simp only [hji6] at H ⊢;exact H)
       have hji6_:(if (rd l0 x4_1) < x3_1 then (rd l0 x4_1) else x3_1) = ji6:=hji6
       have H':=mk0 H
       clear H
       have p250:0 ≤ (x4_1:Int):=of_decide_eq_true (by first|(with_reducible assumption)|assumption)
       have q250:x4_1 < (l0.length:Int):=of_decide_eq_true (by first|(with_reducible assumption)|assumption)
       obtain⟨ad250,e250,hx250_0⟩:=Kd.at_int HR0.out x4_1 p250 q250
       obtain rfl:ad249 = ad250:=(by injection e250)
       replace hx250_0:=(HB.out.cell (World.block_lt_of_cell? w _ hx250_0)).trans hx250_0
       replace p250:=eq_true p250
       replace q250:=eq_true q250
       go_wp2
       go_roundg k1
       case measure=>have:=HK1.out;omega
       case rel=>exact⟨(ji6),(wrap64 (x4_1 + 1)),(by first|rfl|(simp;done)|(simp only [← hji6] <;> (first|rfl|simp))|(simp [*];done)),(by first|rfl|(simp;done)|(simp [*];done)),H',⟨by have:=HK1.out;omega⟩,⟨kB HB.out⟩⟩
      ·rw [if_neg c5] at H
       exact absurd H (by simp)
     ·rw [if_neg c4] at H
      have c4b0:decide (x4_1 < (l0.length:Int)) = false:=decide_eq_false c4
      clear c4
      obtain rfl:=Option.some.inj H
      go_wp2
      go_ret
      exact⟨by first|rfl|(simp [errW_none,errW_some] <;> rfl)|(simp [*,errW_none,errW_some] <;> rfl),kB HB.out⟩
  ·rw [if_neg c3] at H
   exact absurd H (by simp)

/-! ### impl_isRange: function 62 -/
def impl_isRange.f (a0 : Int) (a1 : Int) (a2 : Int) : Option (Bool) := if 0 ≤ a0 then (if a0 ≤ a1 then (some (decide (a1 ≤ a2))) else (some false)) else (some false)
set_option maxHeartbeats 8000000 in
set_option maxRecDepth 100000 in
theorem impl_isRange.calls (a0 : Int) (a1 : Int) (a2 : Int) (r : Bool) (w : World) (h : impl_isRange.f a0 a1 a2 = some r) :
  Calls Try.prog 62 #[.int .i64 a0, .int .i64 a1, .int .i64 a2] w fun e w' => e = .returned (.bool r) ∧ Drawn0 w w' := by
 have H:(if 0 ≤ a0 then (if a0 ≤ a1 then (some (decide (a1 ≤ a2))) else (some false)) else (some false)) = some r:=h
 clear h
 by_cases c4:0 ≤ a0
 ·rw [if_pos c4] at H
  have c4b0:decide (0 ≤ a0) = true:=decide_eq_true c4
  clear c4
  by_cases c5:a0 ≤ a1
  ·rw [if_pos c5] at H
   have c5b0:decide (a0 ≤ a1) = true:=decide_eq_true c5
   clear c5
   obtain rfl:=Option.some.inj H
   go_enter Try.func62,Try.ntmps62
   go_wp2
   go_ret
   exact⟨by first|rfl|(simp;done)|(simp [*];done),by repeat (first|exact Drawn0.refl _|apply Drawn0.step)⟩
  ·rw [if_neg c5] at H
   have c5b0:decide (a0 ≤ a1) = false:=decide_eq_false c5
   clear c5
   obtain rfl:=Option.some.inj H
   go_enter Try.func62,Try.ntmps62
   go_wp2
   go_ret
   exact⟨by first|rfl|(simp;done)|(simp [*];done),by repeat (first|exact Drawn0.refl _|apply Drawn0.step)⟩
 ·rw [if_neg c4] at H
  have c4b0:decide (0 ≤ a0) = false:=decide_eq_false c4
  clear c4
  obtain rfl:=Option.some.inj H
  go_enter Try.func62,Try.ntmps62
  go_wp2
  go_ret
  exact⟨by first|rfl|(simp;done)|(simp [*];done),by repeat (first|exact Drawn0.refl _|apply Drawn0.step)⟩

end Go.Proofs.Ytoinagnieobbpaa.QFnExactStretchKids
