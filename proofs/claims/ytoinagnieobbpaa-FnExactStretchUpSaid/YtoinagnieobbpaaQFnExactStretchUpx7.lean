-- A walk, made by walk.py, a program of this session's.
import Derived.Test.YtoinagnieobbpaaQFnExactStretchUpx0
import Derived.Test.YtoinagnieobbpaaQFnExactStretchUpx1
import Derived.Test.YtoinagnieobbpaaQFnExactStretchUpx5
import Derived.Test.YtoinagnieobbpaaQFnExactStretchUpx6
namespace Go.Proofs.Ytoinagnieobbpaa.QFnExactStretchUp
open Go.RowKit Go.Proofs.YtoinagnieobbpaaW.PrintWords Go.Proofs.YtoinagnieobbpaaW.PrintLast Go.Proofs.YtoinagnieobbpaaW.PrintMore
attribute [local go_sem] max2_int min2_int max_two min_two max_three min_three max_four min_four   -- for this text's walks alone
set_option linter.unusedVariables false
set_option linter.unusedSimpArgs false

attribute [local go_sem high] eqA27
/-! ### spec_l11Up: function 54 -/
mutual
def spec_l11Up.l0 : Nat → List (S27) → Int → Int → Int → Int → Int → Int → Int → Option (Int × Int × Int × Bool)
 | 0, _, _, _, _, _, _, _, _ => none
 | k + 1, x0, x7, x217000, x217001, x217002, x219000, x219001, x219002 => if x7 < (x0.length : Int) then (if 0 ≤ x7 then (if (!(((rd_T27 x0 x7).f0) == x217000) || (!(((rd_T27 x0 x7).f1) == x217001) || (!(((rd_T27 x0 x7).f2) == x217002)))) = true then (if ((rd_T27 x0 x7).f0) ≤ x217000 then (if ((rd_T27 x0 x7).f1) ≥ x217001 then (if x219001 = 0 then (spec_l11Up.j1 k x0 x7 true x217000 x217001 x217002 x219000 x219001 x219002 ((rd_T27 x0 x7).f0) ((rd_T27 x0 x7).f1) ((rd_T27 x0 x7).f2)) else (spec_l11Up.j1 k x0 x7 (decide ((wrap64 (((rd_T27 x0 x7).f1) - ((rd_T27 x0 x7).f0))) < (wrap64 (x219001 - x219000)))) x217000 x217001 x217002 x219000 x219001 x219002 ((rd_T27 x0 x7).f0) ((rd_T27 x0 x7).f1) ((rd_T27 x0 x7).f2))) else (spec_l11Up.j1 k x0 x7 false x217000 x217001 x217002 x219000 x219001 x219002 ((rd_T27 x0 x7).f0) ((rd_T27 x0 x7).f1) ((rd_T27 x0 x7).f2))) else (spec_l11Up.j1 k x0 x7 false x217000 x217001 x217002 x219000 x219001 x219002 ((rd_T27 x0 x7).f0) ((rd_T27 x0 x7).f1) ((rd_T27 x0 x7).f2))) else (spec_l11Up.j1 k x0 x7 false x217000 x217001 x217002 x219000 x219001 x219002 ((rd_T27 x0 x7).f0) ((rd_T27 x0 x7).f1) ((rd_T27 x0 x7).f2))) else (none)) else (some (x219000, x219001, x219002, decide (x219001 > 0)))
def spec_l11Up.j1 : Nat → List (S27) → Int → Bool → Int → Int → Int → Int → Int → Int → Int → Int → Int → Option (Int × Int × Int × Bool)
 | 0, _, _, _, _, _, _, _, _, _, _, _, _ => none
 | k + 1, x0, x7, x54, x217000, x217001, x217002, x219000, x219001, x219002, x221000, x221001, x221002 => if x54 = true then (spec_l11Up.l0 k x0 (wrap64 (x7 + 1)) x217000 x217001 x217002 x221000 x221001 x221002) else (spec_l11Up.l0 k x0 (wrap64 (x7 + 1)) x217000 x217001 x217002 x219000 x219001 x219002)
end
def spec_l11Up.f (k : Nat) (l0 : List (S27)) (a1_0 : Int) (a1_1 : Int) (a1_2 : Int) : Option (Int × Int × Int × Bool) := spec_l11Up.l0 k l0 0 a1_0 a1_1 a1_2 0 0 0
theorem spec_l11Up.mono_l : ∀ k, (∀ y0 y1 y2 y3 y4 y5 y6 y7, LeO (spec_l11Up.l0 k y0 y1 y2 y3 y4 y5 y6 y7) (spec_l11Up.l0 (k + 1) y0 y1 y2 y3 y4 y5 y6 y7)) ∧ (∀ y0 y1 y2 y3 y4 y5 y6 y7 y8 y9 y10 y11, LeO (spec_l11Up.j1 k y0 y1 y2 y3 y4 y5 y6 y7 y8 y9 y10 y11) (spec_l11Up.j1 (k + 1) y0 y1 y2 y3 y4 y5 y6 y7 y8 y9 y10 y11))
 | 0 => ⟨fun _ _ _ _ _ _ _ _ r h => by simp [spec_l11Up.l0] at h, fun _ _ _ _ _ _ _ _ _ _ _ _ r h => by simp [spec_l11Up.j1] at h⟩
 | k + 1 => by
  obtain ⟨ih0, ih1⟩ := spec_l11Up.mono_l k
  refine ⟨?_, ?_⟩
  ·intro y0 y1 y2 y3 y4 y5 y6 y7
   unfold spec_l11Up.l0
   repeat' first|(with_reducible first|exact ih0 _ _ _ _ _ _ _ _|exact ih1 _ _ _ _ _ _ _ _ _ _ _ _|exact LeO.refl _|exact LeO.none _|refine LeO.ite ?_ ?_|refine LeO.bind ?_ (fun _ => ?_))|exact LeO.none _|refine LeO.ite ?_ ?_|refine LeO.bind ?_ (fun _ => ?_)
  ·intro y0 y1 y2 y3 y4 y5 y6 y7 y8 y9 y10 y11
   unfold spec_l11Up.j1
   repeat' first|(with_reducible first|exact ih0 _ _ _ _ _ _ _ _|exact ih1 _ _ _ _ _ _ _ _ _ _ _ _|exact LeO.refl _|exact LeO.none _|refine LeO.ite ?_ ?_|refine LeO.bind ?_ (fun _ => ?_))|exact LeO.none _|refine LeO.ite ?_ ?_|refine LeO.bind ?_ (fun _ => ?_)
theorem spec_l11Up.mono : ∀ a0 a1 a2 a3 k, LeO (spec_l11Up.f k a0 a1 a2 a3) (spec_l11Up.f (k + 1) a0 a1 a2 a3) := by
 intro a0 a1 a2 a3 k
 obtain ⟨ih0, ih1⟩ := spec_l11Up.mono_l k
 unfold spec_l11Up.f
 repeat' first|(with_reducible first|exact ih0 _ _ _ _ _ _ _ _|exact ih1 _ _ _ _ _ _ _ _ _ _ _ _|exact LeO.refl _|exact LeO.none _|refine LeO.ite ?_ ?_|refine LeO.bind ?_ (fun _ => ?_))|exact LeO.none _|refine LeO.ite ?_ ?_|refine LeO.bind ?_ (fun _ => ?_)
set_option maxHeartbeats 8000000 in
set_option maxRecDepth 100000 in
theorem spec_l11Up.calls (k : Nat) (A0 : Option Addr) (c0 : Nat) (l0 : List (S27)) (a1_0 : Int) (a1_1 : Int) (a1_2 : Int) (r1 : Int) (r2 : Int) (r3 : Int) (r4 : Bool) (w : World) (hr0 : Kd.C k27 w A0 l0.length l0) (hc0 : l0.length ≤ c0) (h : spec_l11Up.f k l0 a1_0 a1_1 a1_2 = some (r1, r2, r3, r4)) :
  Calls Try.prog 54 #[.slice A0 l0.length c0, .agg #[.int .i64 a1_0, .int .i64 a1_1, .int .i64 a1_2]] w fun e w' => e = .returned (.tuple #[.agg #[.int .i64 r1, .int .i64 r2, .int .i64 r3], .bool r4]) ∧ Below w.heap.size w w' := by
 have hu27:=Try.underlying27
 have HR0:=mk0 hr0
 have HC0:=mk0 hc0
 clear hr0 hc0
 have HB:=mk0 (Below.refl w.heap.size w)
 have H:(spec_l11Up.l0 k l0 0 a1_0 a1_1 a1_2 0 0 0) = some (r1,r2,r3,r4):=h
 clear h
 have H':=mk0 H
 clear H
 go_enter Try.func54,Try.ntmps54
 go_wp2_with (first|((with_reducible refine gate_dst (N:=3) rfl ?_);refine box_event ?hg (N:=3) ?hd (cs:=#[.int .i64 a1_0,.int .i64 a1_1,.int .i64 a1_2]) (t:=27) ?hr ?_;(case hd=>rfl);(case hg=>rfl);(case hr=>first|(go_simp;done)|(go_simp;rfl));intro gb216 hg w3 hbox hb;have BK216:=mk0 (hbox);have GW216:=mk0 ((by rw [hg];exact (kZ HB.out):w.heap.size ≤ gb216));have GE216:=mk0 ((by rw [hg];exact (kZ HB.out):w.heap.size ≤ gb216));replace HB:=mk0 (kS HB.out hb);clear hb hbox hg)|((with_reducible refine gate_dst (N:=4) rfl ?_);refine box_event ?hg (N:=4) ?hd (cs:=#[.int .i64 0,.int .i64 0,.int .i64 0]) (t:=27) ?hr ?_;(case hd=>rfl);(case hg=>rfl);(case hr=>first|(go_simp;done)|(go_simp;rfl));intro gb217 hg w4 hbox hb;have BK217:=mk0 (hbox);have GW217:=mk0 ((by rw [hg];exact (kZ HB.out):w.heap.size ≤ gb217));have GE217:=mk0 ((by rw [hg];exact (kZ HB.out):w.heap.size ≤ gb217));replace HB:=mk0 (kS HB.out hb);have NB216_217:=mk0 ((by rw [hg];exact Nat.ne_of_lt (kL BK216.out):gb216 ≠ gb217));have NB217_216:=mk0 ((by rw [hg];exact Nat.ne_of_gt (kL BK216.out):gb217 ≠ gb216));replace BK216:=mk0 (kK BK216.out hb);clear hb hbox hg)|((with_reducible refine gate_dst (N:=6) rfl ?_);refine box_event ?hg (N:=6) ?hd (cs:=#[.int .i64 0,.int .i64 0,.int .i64 0]) (t:=27) ?hr ?_;(case hd=>rfl);(case hg=>rfl);(case hr=>first|(go_simp;done)|(go_simp;rfl));intro gb218 hg w5 hbox hb;have BK218:=mk0 (hbox);have GW218:=mk0 ((by rw [hg];exact (kZ HB.out):w.heap.size ≤ gb218));have GE218:=mk0 ((by rw [hg];exact (kZ HB.out):w.heap.size ≤ gb218));replace HB:=mk0 (kS HB.out hb);have NB216_218:=mk0 ((by rw [hg];exact Nat.ne_of_lt (kL BK216.out):gb216 ≠ gb218));have NB218_216:=mk0 ((by rw [hg];exact Nat.ne_of_gt (kL BK216.out):gb218 ≠ gb216));replace BK216:=mk0 (kK BK216.out hb);have NB217_218:=mk0 ((by rw [hg];exact Nat.ne_of_lt (kL BK217.out):gb217 ≠ gb218));have NB218_217:=mk0 ((by rw [hg];exact Nat.ne_of_gt (kL BK217.out):gb218 ≠ gb217));replace BK217:=mk0 (kK BK217.out hb);clear hb hbox hg;have hnb6:=NB218_216.out;have hnc6:=NB216_218.out;have hnb7:=NB218_217.out;have hnc7:=NB217_218.out;obtain⟨hcz8_0,hcz8_1,hcz8_2,hfz8_0,hfz8_1,hfz8_2⟩:=cz3 BK218.out))
 go_loopg [7] k (fun kq v7 w'=>∃ (x7_1:Int) (x219000_1:Int) (x219001_1:Int) (x219002_1:Int),v7 = .int .i64 x7_1 ∧ Aside0 (spec_l11Up.l0 kq l0 x7_1 a1_0 a1_1 a1_2 x219000_1 x219001_1 x219002_1 = some (r1,r2,r3,r4)) ∧ Aside0 (kq ≤ k) ∧ Aside0 (w'.heap[gb216]? = some (.cells #[.int .i64 a1_0,.int .i64 a1_1,.int .i64 a1_2] 27 (0,0))) ∧ Aside0 (w'.heap[gb217]? = some (.cells #[.int .i64 0,.int .i64 0,.int .i64 0] 27 (0,0))) ∧ Aside0 (w'.heap[gb218]? = some (.cells #[.int .i64 x219000_1,.int .i64 x219001_1,.int .i64 x219002_1] 27 (0,0))) ∧ Aside0 (Below w.heap.size w w'))
 case atStart=>exact⟨(0),(0),(0),(0),(by first|rfl|(simp;done)|(simp [*];done)),H',⟨Nat.le_refl _⟩,⟨by (with_reducible repeat (first|apply nB|apply dB|apply aB));refine blk_far ?_ NB216_218.out _;(with_reducible repeat (first|apply nB|apply dB|apply aB));refine blk_far ?_ NB216_218.out _;(with_reducible repeat (first|apply nB|apply dB|apply aB));refine blk_far ?_ NB216_218.out _;(with_reducible repeat (first|apply nB|apply dB|apply aB));exact BK216.out⟩,⟨by (with_reducible repeat (first|apply nB|apply dB|apply aB));refine blk_far ?_ NB217_218.out _;(with_reducible repeat (first|apply nB|apply dB|apply aB));refine blk_far ?_ NB217_218.out _;(with_reducible repeat (first|apply nB|apply dB|apply aB));refine blk_far ?_ NB217_218.out _;(with_reducible repeat (first|apply nB|apply dB|apply aB));exact BK217.out⟩,⟨by (with_reducible repeat (first|apply nB|apply dB|apply aB));refine blk_put (cs:=#[.int .i64 0,.int .i64 0,.int .i64 0]) ?_ 2 _ rfl;(with_reducible repeat (first|apply nB|apply dB|apply aB));refine blk_put (cs:=#[.int .i64 0,.int .i64 0,.int .i64 0]) ?_ 1 _ rfl;(with_reducible repeat (first|apply nB|apply dB|apply aB));refine blk_put (cs:=#[.int .i64 0,.int .i64 0,.int .i64 0]) ?_ 0 _ rfl;(with_reducible repeat (first|apply nB|apply dB|apply aB));exact BK218.out⟩,⟨kB HB.out⟩⟩
 case round =>
  clear H'
  try clear p2
  try clear c5
  try clear c6
  try clear c7
  try clear hcz8_0
  try clear hcz8_1
  try clear hcz8_2
  try clear hfz8_0
  try clear hfz8_1
  try clear hfz8_2
  obtain⟨x7_1,x219000_1,x219001_1,x219002_1,rfl,HA,HK1,BK216,BK217,BK218,HB⟩:=hrel
  cases gk with
  | zero=>exact absurd HA.out (by simp [spec_l11Up.l0])
  | succ k1 =>
   have H:=HA.out
   clear HA
   simp only [spec_l11Up.l0] at H
   by_cases c9:x7_1 < (l0.length:Int)
   rotate_left
   ·rw [if_neg c9] at H
    have c9b0:decide (x7_1 < (l0.length:Int)) = false:=decide_eq_false c9
    clear c9
    simp only [Option.some.injEq,Prod.mk.injEq] at H
    obtain⟨rfl,rfl,rfl,rfl⟩:=H
    try go_wp2
    replace BK216:=mk0 (dB BK216.out)
    replace BK217:=mk0 (dB BK217.out)
    replace BK218:=mk0 (dB BK218.out)
    replace HB:=mk0 (dZ HB.out)
    refine start_ (n:=6) (S:=fun w'=>w'.cell? ⟨gb218,0,none⟩ = some (.int .i64 x219000_1) ∧ w'.cell? ⟨gb218,1,none⟩ = some (.int .i64 x219001_1) ∧ w'.cell? ⟨gb218,2,none⟩ = some (.int .i64 x219002_1)) (ds:=[]) #[false,false,false,false,false,false] (by kernel_rfl) rfl rfl (ck3 BK218.out) (fun hHeld=>?_)
    generalize wr.drew = w68 at BK216 BK217 BK218 HB hHeld ⊢
    refine pure_ (i:=1) (N:=some 57) (v:=?_) (a':=?_) #[false,true,false,false,false,false] rfl rfl (by kernel_rfl) (fun _ _ _ h=>h) (Or.inl ⟨by rfl,?_⟩) ?_ ?_
    rotate_left
    ·intro w'
     go_simp
     with_reducible rfl
    rotate_left
    ·simp only [Act.put,sA,sO,sS,i64_w,i32_w]
     rfl
    refine take_ (i:=0) (N:=some 56) (v:=?_) (a':=?_) #[true,true,false,false,false,false] rfl rfl (by kernel_rfl) (fun _ _ _ h=>h) (Or.inl ⟨by rfl,?_⟩) hHeld ?_ ?_
    rotate_left
    ·rintro w' ⟨s0,s1,s2⟩
     go_simp
     with_reducible rfl
    rotate_left
    ·simp only [Act.put,sA,sO,sS,i64_w,i32_w]
     rfl
    refine take_ (i:=2) (N:=some 58) (v:=?_) (a':=?_) #[true,true,true,false,false,false] rfl rfl (by kernel_rfl) (fun _ _ _ h=>h) (Or.inl ⟨by rfl,?_⟩) hHeld ?_ ?_
    rotate_left
    ·rintro w' ⟨s0,s1,s2⟩
     go_simp
     with_reducible rfl
    rotate_left
    ·simp only [Act.put,sA,sO,sS,i64_w,i32_w]
     rfl
    refine pure_ (i:=3) (N:=some 59) (v:=?_) (a':=?_) #[true,true,true,true,false,false] rfl rfl (by kernel_rfl) (fun _ _ _ h=>h) (Or.inl ⟨by rfl,?_⟩) ?_ ?_
    rotate_left
    ·intro w'
     go_simp
     with_reducible rfl
    rotate_left
    ·simp only [Act.put,sA,sO,sS,i64_w,i32_w]
     rfl
    refine one_ (i:=4) (N:=none) #[true,true,true,true,true,false] rfl rfl (by kernel_rfl) (by decide) (fun K hK=>?_)
    have hs69:w68.cell? ⟨gb217,0,none⟩ = some (.int .i64 0):=(blk_cell BK217.out 0).trans rfl
    have hfs69:=blk_frozen BK217.out 0
    have hns69_0:=NB216_217.out
    have hns69_2:=NB218_217.out
    have hms69_0:=NB217_216.out
    have hms69_2:=NB217_218.out
    have hs70:w68.cell? ⟨gb217,1,none⟩ = some (.int .i64 0):=(blk_cell BK217.out 1).trans rfl
    have hfs70:=blk_frozen BK217.out 1
    have hns70_0:=NB216_217.out
    have hns70_2:=NB218_217.out
    have hms70_0:=NB217_216.out
    have hms70_2:=NB217_218.out
    have hs71:w68.cell? ⟨gb217,2,none⟩ = some (.int .i64 0):=(blk_cell BK217.out 2).trans rfl
    have hfs71:=blk_frozen BK217.out 2
    have hns71_0:=NB216_217.out
    have hns71_2:=NB218_217.out
    have hms71_0:=NB217_216.out
    have hms71_2:=NB217_218.out
    refine skip_ (w1:=?_) (by rfl) rfl ?_ ?_
    rotate_left
    ·go_simp
     rfl
    refine hK.out _ _ ⟨((cell_far (p:=⟨gb217,_,none⟩) NB218_217.out _).trans (((cell_far (p:=⟨gb217,_,none⟩) NB218_217.out _).trans (((cell_far (p:=⟨gb217,_,none⟩) NB218_217.out _).trans (hHeld.1)))))),((cell_far (p:=⟨gb217,_,none⟩) NB218_217.out _).trans (((cell_far (p:=⟨gb217,_,none⟩) NB218_217.out _).trans (((cell_far (p:=⟨gb217,_,none⟩) NB218_217.out _).trans (hHeld.2.1)))))),((cell_far (p:=⟨gb217,_,none⟩) NB218_217.out _).trans (((cell_far (p:=⟨gb217,_,none⟩) NB218_217.out _).trans (((cell_far (p:=⟨gb217,_,none⟩) NB218_217.out _).trans (hHeld.2.2))))))⟩ (fun hHeld=>?_)
    clear hK K
    refine pure_ (i:=5) (N:=some 5) (v:=?_) (a':=?_) #[true,true,true,true,true,true] rfl rfl (by kernel_rfl) (fun _ _ _ h=>h) (Or.inl ⟨by rfl,?_⟩) ?_ ?_
    rotate_left
    ·intro w'
     go_simp
     with_reducible rfl
    rotate_left
    ·simp only [Act.put,sA,sO,sS,i64_w,i32_w]
     rfl
    refine done_ (by kernel_rfl) ?_
    try go_wp2
    refine bodyPost_ret (results_ct rfl _ _ gb217 27 #[.int .i64 x219000_1,.int .i64 x219001_1,.int .i64 x219002_1] (0,0) _ rfl (by (with_reducible repeat (first|apply nB|apply dB|apply aB));refine blk_put (cs:=#[.int .i64 x219000_1,.int .i64 x219001_1,.int .i64 0]) ?_ 2 _ rfl;(with_reducible repeat (first|apply nB|apply dB|apply aB));refine blk_put (cs:=#[.int .i64 x219000_1,.int .i64 0,.int .i64 0]) ?_ 1 _ rfl;(with_reducible repeat (first|apply nB|apply dB|apply aB));refine blk_put (cs:=#[.int .i64 0,.int .i64 0,.int .i64 0]) ?_ 0 _ rfl;(with_reducible repeat (first|apply nB|apply dB|apply aB));exact BK217.out) Try.underlying27 rfl (by kernel_rfl)) rfl ?_
    exact⟨by first|rfl|(simp [errW_none,errW_some] <;> rfl)|(simp [*,errW_none,errW_some] <;> rfl),kB HB.out⟩

   rw [if_pos c9] at H
   have c9b0:decide (x7_1 < (l0.length:Int)) = true:=decide_eq_true c9
   clear c9
   by_cases c10:0 ≤ x7_1
   rotate_left
   ·rw [if_neg c10] at H
    exact absurd H (by simp)
   rw [if_pos c10] at H
   have c10b0:decide (0 ≤ x7_1) = true:=decide_eq_true c10
   clear c10
   have HC11:=mk0 H
   clear H
   have p219:0 ≤ (x7_1:Int):=of_decide_eq_true (by first|(with_reducible assumption)|assumption)
   have q219:x7_1 < (l0.length:Int):=of_decide_eq_true (by first|(with_reducible assumption)|assumption)
   obtain⟨ad219,e219,hx219_0,hx219_1,hx219_2⟩:=at_T27 HR0.out x7_1 p219 q219
   cases e219
   replace hx219_0:=(HB.out.cell (World.block_lt_of_cell? w _ hx219_0)).trans hx219_0
   replace hx219_1:=(HB.out.cell (World.block_lt_of_cell? w _ hx219_1)).trans hx219_1
   replace hx219_2:=(HB.out.cell (World.block_lt_of_cell? w _ hx219_2)).trans hx219_2
   replace p219:=eq_true p219
   replace q219:=eq_true q219
   go_upto_region 6 with (first|((with_reducible refine gate_dst (N:=8) rfl ?_);refine box_event ?hg (N:=8) ?hd (cs:=#[.int .i64 0,.int .i64 0,.int .i64 0]) (t:=27) ?hr ?_;(case hd=>rfl);(case hg=>rfl);(case hr=>first|(go_simp;done)|(go_simp;rfl));intro gb220 hg w12 hbox hb;have BK220:=mk0 (hbox);have GW220:=mk0 ((by rw [hg];exact (kZ HB.out):w.heap.size ≤ gb220));have GE220:=mk0 ((by rw [hg];exact (kZ HB.out):w.heap.size ≤ gb220));replace HB:=mk0 (kS HB.out hb);have NB216_220:=mk0 ((by rw [hg];exact Nat.ne_of_lt (kL BK216.out):gb216 ≠ gb220));have NB220_216:=mk0 ((by rw [hg];exact Nat.ne_of_gt (kL BK216.out):gb220 ≠ gb216));replace BK216:=mk0 (kK BK216.out hb);have NB217_220:=mk0 ((by rw [hg];exact Nat.ne_of_lt (kL BK217.out):gb217 ≠ gb220));have NB220_217:=mk0 ((by rw [hg];exact Nat.ne_of_gt (kL BK217.out):gb220 ≠ gb217));replace BK217:=mk0 (kK BK217.out hb);have NB218_220:=mk0 ((by rw [hg];exact Nat.ne_of_lt (kL BK218.out):gb218 ≠ gb220));have NB220_218:=mk0 ((by rw [hg];exact Nat.ne_of_gt (kL BK218.out):gb220 ≠ gb218));replace BK218:=mk0 (kK BK218.out hb);clear hb hbox hg;have hnb13:=NB220_216.out;have hnc13:=NB216_220.out;have hnb14:=NB220_217.out;have hnc14:=NB217_220.out;have hnb15:=NB220_218.out;have hnc15:=NB218_220.out;obtain⟨hcz16_0,hcz16_1,hcz16_2,hfz16_0,hfz16_1,hfz16_2⟩:=cz3 BK220.out))
   (try simp only [Act.put,sA,sO,sS])
   go_cut [54] (fun v54 wc=>∃ (kq:Nat) (x54_10:Bool),v54 = .bool x54_10 ∧ Aside0 (spec_l11Up.j1 kq l0 x7_1 x54_10 a1_0 a1_1 a1_2 x219000_1 x219001_1 x219002_1 ((rd_T27 l0 x7_1).f0) ((rd_T27 l0 x7_1).f1) ((rd_T27 l0 x7_1).f2) = some (r1,r2,r3,r4)) ∧ Aside0 (kq ≤ k1) ∧ Aside0 (wc.heap[gb216]? = some (.cells #[.int .i64 a1_0,.int .i64 a1_1,.int .i64 a1_2] 27 (0,0))) ∧ Aside0 (wc.heap[gb217]? = some (.cells #[.int .i64 0,.int .i64 0,.int .i64 0] 27 (0,0))) ∧ Aside0 (wc.heap[gb218]? = some (.cells #[.int .i64 x219000_1,.int .i64 x219001_1,.int .i64 x219002_1] 27 (0,0))) ∧ Aside0 (wc.heap[gb220]? = some (.cells #[.int .i64 ((rd_T27 l0 x7_1).f0),.int .i64 ((rd_T27 l0 x7_1).f1),.int .i64 ((rd_T27 l0 x7_1).f2)] 27 (0,0))) ∧ Aside0 (Below w.heap.size w wc))
   case first =>
    have H:=HC11.out
    clear HC11
    by_cases c17:(!(((rd_T27 l0 x7_1).f0) == a1_0) || (!(((rd_T27 l0 x7_1).f1) == a1_1) || (!(((rd_T27 l0 x7_1).f2) == a1_2)))) = true
    rotate_left
    ·rw [if_neg c17] at H
     have c17b0:(!(((rd_T27 l0 x7_1).f0) == a1_0) || (!(((rd_T27 l0 x7_1).f1) == a1_1) || (!(((rd_T27 l0 x7_1).f2) == a1_2)))) = false:=by simpa using c17
     clear c17
     (first|rw [c17b0]|(simp only [i64_w,i32_w];rw [c17b0])|skip)
     have H':=mk0 H
     clear H
     have hnb53:=NB220_216.out
     have hnc53:=NB216_220.out
     have hnb54:=NB220_217.out
     have hnc54:=NB217_220.out
     have hnb55:=NB220_218.out
     have hnc55:=NB218_220.out
     obtain⟨hcz56_0,hcz56_1,hcz56_2,hfz56_0,hfz56_1,hfz56_2⟩:=cz3 BK220.out
     have hnb57:=NB216_217.out
     have hnc57:=NB217_216.out
     have hnb58:=NB216_218.out
     have hnc58:=NB218_216.out
     obtain⟨hcz59_0,hcz59_1,hcz59_2,hfz59_0,hfz59_1,hfz59_2⟩:=cz3 BK216.out
     go_wp2
     go_meet
     case rel=>exact⟨_,(false),(by first|rfl|(simp;done)|(simp [*];done)),H',⟨by have:=HK1.out;first|omega|exact Nat.le_refl _⟩,⟨by (with_reducible repeat (first|apply nB|apply dB|apply aB));refine blk_far ?_ NB216_220.out _;(with_reducible repeat (first|apply nB|apply dB|apply aB));refine blk_far ?_ NB216_220.out _;(with_reducible repeat (first|apply nB|apply dB|apply aB));refine blk_far ?_ NB216_220.out _;(with_reducible repeat (first|apply nB|apply dB|apply aB));exact BK216.out⟩,⟨by (with_reducible repeat (first|apply nB|apply dB|apply aB));refine blk_far ?_ NB217_220.out _;(with_reducible repeat (first|apply nB|apply dB|apply aB));refine blk_far ?_ NB217_220.out _;(with_reducible repeat (first|apply nB|apply dB|apply aB));refine blk_far ?_ NB217_220.out _;(with_reducible repeat (first|apply nB|apply dB|apply aB));exact BK217.out⟩,⟨by (with_reducible repeat (first|apply nB|apply dB|apply aB));refine blk_far ?_ NB218_220.out _;(with_reducible repeat (first|apply nB|apply dB|apply aB));refine blk_far ?_ NB218_220.out _;(with_reducible repeat (first|apply nB|apply dB|apply aB));refine blk_far ?_ NB218_220.out _;(with_reducible repeat (first|apply nB|apply dB|apply aB));exact BK218.out⟩,⟨by (with_reducible repeat (first|apply nB|apply dB|apply aB));refine blk_put (cs:=#[.int .i64 ((rd_T27 l0 x7_1).f0),.int .i64 ((rd_T27 l0 x7_1).f1),.int .i64 0]) ?_ 2 _ rfl;(with_reducible repeat (first|apply nB|apply dB|apply aB));refine blk_put (cs:=#[.int .i64 ((rd_T27 l0 x7_1).f0),.int .i64 0,.int .i64 0]) ?_ 1 _ rfl;(with_reducible repeat (first|apply nB|apply dB|apply aB));refine blk_put (cs:=#[.int .i64 0,.int .i64 0,.int .i64 0]) ?_ 0 _ rfl;(with_reducible repeat (first|apply nB|apply dB|apply aB));exact BK220.out⟩,⟨kB HB.out⟩⟩
    rw [if_pos c17] at H
    have c17b0:(!(((rd_T27 l0 x7_1).f0) == a1_0) || (!(((rd_T27 l0 x7_1).f1) == a1_1) || (!(((rd_T27 l0 x7_1).f2) == a1_2)))) = true:=c17
    clear c17
    (first|rw [c17b0]|(simp only [i64_w,i32_w];rw [c17b0])|skip)
    by_cases c18:((rd_T27 l0 x7_1).f0) ≤ a1_0
    rotate_left
    ·rw [if_neg c18] at H
     have c18b0:decide (((rd_T27 l0 x7_1).f0) ≤ a1_0) = false:=decide_eq_false c18
     clear c18
     have H':=mk0 H
     clear H
     have hnb46:=NB220_216.out
     have hnc46:=NB216_220.out
     have hnb47:=NB220_217.out
     have hnc47:=NB217_220.out
     have hnb48:=NB220_218.out
     have hnc48:=NB218_220.out
     obtain⟨hcz49_0,hcz49_1,hcz49_2,hfz49_0,hfz49_1,hfz49_2⟩:=cz3 BK220.out
     have hnb50:=NB216_217.out
     have hnc50:=NB217_216.out
     have hnb51:=NB216_218.out
     have hnc51:=NB218_216.out
     obtain⟨hcz52_0,hcz52_1,hcz52_2,hfz52_0,hfz52_1,hfz52_2⟩:=cz3 BK216.out
     go_wp2
     go_meet
     case rel=>exact⟨_,(false),(by first|rfl|(simp;done)|(simp [*];done)),H',⟨by have:=HK1.out;first|omega|exact Nat.le_refl _⟩,⟨by (with_reducible repeat (first|apply nB|apply dB|apply aB));refine blk_far ?_ NB216_220.out _;(with_reducible repeat (first|apply nB|apply dB|apply aB));refine blk_far ?_ NB216_220.out _;(with_reducible repeat (first|apply nB|apply dB|apply aB));refine blk_far ?_ NB216_220.out _;(with_reducible repeat (first|apply nB|apply dB|apply aB));exact BK216.out⟩,⟨by (with_reducible repeat (first|apply nB|apply dB|apply aB));refine blk_far ?_ NB217_220.out _;(with_reducible repeat (first|apply nB|apply dB|apply aB));refine blk_far ?_ NB217_220.out _;(with_reducible repeat (first|apply nB|apply dB|apply aB));refine blk_far ?_ NB217_220.out _;(with_reducible repeat (first|apply nB|apply dB|apply aB));exact BK217.out⟩,⟨by (with_reducible repeat (first|apply nB|apply dB|apply aB));refine blk_far ?_ NB218_220.out _;(with_reducible repeat (first|apply nB|apply dB|apply aB));refine blk_far ?_ NB218_220.out _;(with_reducible repeat (first|apply nB|apply dB|apply aB));refine blk_far ?_ NB218_220.out _;(with_reducible repeat (first|apply nB|apply dB|apply aB));exact BK218.out⟩,⟨by (with_reducible repeat (first|apply nB|apply dB|apply aB));refine blk_put (cs:=#[.int .i64 ((rd_T27 l0 x7_1).f0),.int .i64 ((rd_T27 l0 x7_1).f1),.int .i64 0]) ?_ 2 _ rfl;(with_reducible repeat (first|apply nB|apply dB|apply aB));refine blk_put (cs:=#[.int .i64 ((rd_T27 l0 x7_1).f0),.int .i64 0,.int .i64 0]) ?_ 1 _ rfl;(with_reducible repeat (first|apply nB|apply dB|apply aB));refine blk_put (cs:=#[.int .i64 0,.int .i64 0,.int .i64 0]) ?_ 0 _ rfl;(with_reducible repeat (first|apply nB|apply dB|apply aB));exact BK220.out⟩,⟨kB HB.out⟩⟩
    rw [if_pos c18] at H
    have c18b0:decide (((rd_T27 l0 x7_1).f0) ≤ a1_0) = true:=decide_eq_true c18
    clear c18
    by_cases c19:((rd_T27 l0 x7_1).f1) ≥ a1_1
    rotate_left
    ·rw [if_neg c19] at H
     have c19b0:decide (a1_1 ≤ ((rd_T27 l0 x7_1).f1)) = false:=decide_eq_false c19
     clear c19
     have H':=mk0 H
     clear H
     have hnb39:=NB220_216.out
     have hnc39:=NB216_220.out
     have hnb40:=NB220_217.out
     have hnc40:=NB217_220.out
     have hnb41:=NB220_218.out
     have hnc41:=NB218_220.out
     obtain⟨hcz42_0,hcz42_1,hcz42_2,hfz42_0,hfz42_1,hfz42_2⟩:=cz3 BK220.out
     have hnb43:=NB216_217.out
     have hnc43:=NB217_216.out
     have hnb44:=NB216_218.out
     have hnc44:=NB218_216.out
     obtain⟨hcz45_0,hcz45_1,hcz45_2,hfz45_0,hfz45_1,hfz45_2⟩:=cz3 BK216.out
     go_wp2
     go_meet
     case rel=>exact⟨_,(false),(by first|rfl|(simp;done)|(simp [*];done)),H',⟨by have:=HK1.out;first|omega|exact Nat.le_refl _⟩,⟨by (with_reducible repeat (first|apply nB|apply dB|apply aB));refine blk_far ?_ NB216_220.out _;(with_reducible repeat (first|apply nB|apply dB|apply aB));refine blk_far ?_ NB216_220.out _;(with_reducible repeat (first|apply nB|apply dB|apply aB));refine blk_far ?_ NB216_220.out _;(with_reducible repeat (first|apply nB|apply dB|apply aB));exact BK216.out⟩,⟨by (with_reducible repeat (first|apply nB|apply dB|apply aB));refine blk_far ?_ NB217_220.out _;(with_reducible repeat (first|apply nB|apply dB|apply aB));refine blk_far ?_ NB217_220.out _;(with_reducible repeat (first|apply nB|apply dB|apply aB));refine blk_far ?_ NB217_220.out _;(with_reducible repeat (first|apply nB|apply dB|apply aB));exact BK217.out⟩,⟨by (with_reducible repeat (first|apply nB|apply dB|apply aB));refine blk_far ?_ NB218_220.out _;(with_reducible repeat (first|apply nB|apply dB|apply aB));refine blk_far ?_ NB218_220.out _;(with_reducible repeat (first|apply nB|apply dB|apply aB));refine blk_far ?_ NB218_220.out _;(with_reducible repeat (first|apply nB|apply dB|apply aB));exact BK218.out⟩,⟨by (with_reducible repeat (first|apply nB|apply dB|apply aB));refine blk_put (cs:=#[.int .i64 ((rd_T27 l0 x7_1).f0),.int .i64 ((rd_T27 l0 x7_1).f1),.int .i64 0]) ?_ 2 _ rfl;(with_reducible repeat (first|apply nB|apply dB|apply aB));refine blk_put (cs:=#[.int .i64 ((rd_T27 l0 x7_1).f0),.int .i64 0,.int .i64 0]) ?_ 1 _ rfl;(with_reducible repeat (first|apply nB|apply dB|apply aB));refine blk_put (cs:=#[.int .i64 0,.int .i64 0,.int .i64 0]) ?_ 0 _ rfl;(with_reducible repeat (first|apply nB|apply dB|apply aB));exact BK220.out⟩,⟨kB HB.out⟩⟩
    rw [if_pos c19] at H
    have c19b0:decide (a1_1 ≤ ((rd_T27 l0 x7_1).f1)) = true:=decide_eq_true c19
    clear c19
    by_cases c20:x219001_1 = 0
    ·rw [if_pos c20] at H
     have c20b0:(x219001_1 == 0) = true:=beq_iff_eq.mpr c20
     have c20b1:(x219001_1 != 0) = false:=bne_eq_false_iff_eq.mpr c20
     clear c20
     have H':=mk0 H
     clear H
     have hnb21:=NB220_216.out
     have hnc21:=NB216_220.out
     have hnb22:=NB220_217.out
     have hnc22:=NB217_220.out
     have hnb23:=NB220_218.out
     have hnc23:=NB218_220.out
     obtain⟨hcz24_0,hcz24_1,hcz24_2,hfz24_0,hfz24_1,hfz24_2⟩:=cz3 BK220.out
     have hnb25:=NB216_217.out
     have hnc25:=NB217_216.out
     have hnb26:=NB216_218.out
     have hnc26:=NB218_216.out
     obtain⟨hcz27_0,hcz27_1,hcz27_2,hfz27_0,hfz27_1,hfz27_2⟩:=cz3 BK216.out
     have hnb28:=NB218_217.out
     have hnc28:=NB217_218.out
     obtain⟨hcz29_0,hcz29_1,hcz29_2,hfz29_0,hfz29_1,hfz29_2⟩:=cz3 BK218.out
     go_wp2
     go_meet
     case rel=>exact⟨_,(true),(by first|rfl|(simp;done)|(simp [*];done)),H',⟨by have:=HK1.out;first|omega|exact Nat.le_refl _⟩,⟨by (with_reducible repeat (first|apply nB|apply dB|apply aB));refine blk_far ?_ NB216_220.out _;(with_reducible repeat (first|apply nB|apply dB|apply aB));refine blk_far ?_ NB216_220.out _;(with_reducible repeat (first|apply nB|apply dB|apply aB));refine blk_far ?_ NB216_220.out _;(with_reducible repeat (first|apply nB|apply dB|apply aB));exact BK216.out⟩,⟨by (with_reducible repeat (first|apply nB|apply dB|apply aB));refine blk_far ?_ NB217_220.out _;(with_reducible repeat (first|apply nB|apply dB|apply aB));refine blk_far ?_ NB217_220.out _;(with_reducible repeat (first|apply nB|apply dB|apply aB));refine blk_far ?_ NB217_220.out _;(with_reducible repeat (first|apply nB|apply dB|apply aB));exact BK217.out⟩,⟨by (with_reducible repeat (first|apply nB|apply dB|apply aB));refine blk_far ?_ NB218_220.out _;(with_reducible repeat (first|apply nB|apply dB|apply aB));refine blk_far ?_ NB218_220.out _;(with_reducible repeat (first|apply nB|apply dB|apply aB));refine blk_far ?_ NB218_220.out _;(with_reducible repeat (first|apply nB|apply dB|apply aB));exact BK218.out⟩,⟨by (with_reducible repeat (first|apply nB|apply dB|apply aB));refine blk_put (cs:=#[.int .i64 ((rd_T27 l0 x7_1).f0),.int .i64 ((rd_T27 l0 x7_1).f1),.int .i64 0]) ?_ 2 _ rfl;(with_reducible repeat (first|apply nB|apply dB|apply aB));refine blk_put (cs:=#[.int .i64 ((rd_T27 l0 x7_1).f0),.int .i64 0,.int .i64 0]) ?_ 1 _ rfl;(with_reducible repeat (first|apply nB|apply dB|apply aB));refine blk_put (cs:=#[.int .i64 0,.int .i64 0,.int .i64 0]) ?_ 0 _ rfl;(with_reducible repeat (first|apply nB|apply dB|apply aB));exact BK220.out⟩,⟨kB HB.out⟩⟩
    rw [if_neg c20] at H
    have c20b0:(x219001_1 == 0) = false:=beq_eq_false_iff_ne.mpr c20
    have c20b1:(x219001_1 != 0) = true:=bne_iff_ne.mpr c20
    have H':=mk0 H
    clear H
    have hnb30:=NB220_216.out
    have hnc30:=NB216_220.out
    have hnb31:=NB220_217.out
    have hnc31:=NB217_220.out
    have hnb32:=NB220_218.out
    have hnc32:=NB218_220.out
    obtain⟨hcz33_0,hcz33_1,hcz33_2,hfz33_0,hfz33_1,hfz33_2⟩:=cz3 BK220.out
    have hnb34:=NB216_217.out
    have hnc34:=NB217_216.out
    have hnb35:=NB216_218.out
    have hnc35:=NB218_216.out
    obtain⟨hcz36_0,hcz36_1,hcz36_2,hfz36_0,hfz36_1,hfz36_2⟩:=cz3 BK216.out
    have hnb37:=NB218_217.out
    have hnc37:=NB217_218.out
    obtain⟨hcz38_0,hcz38_1,hcz38_2,hfz38_0,hfz38_1,hfz38_2⟩:=cz3 BK218.out
    go_wp2
    go_meet
    case rel=>exact⟨_,(decide ((wrap64 (((rd_T27 l0 x7_1).f1) - ((rd_T27 l0 x7_1).f0))) < (wrap64 (x219001_1 - x219000_1)))),(by first|rfl|(simp;done)|(simp [*];done)),H',⟨by have:=HK1.out;first|omega|exact Nat.le_refl _⟩,⟨by (with_reducible repeat (first|apply nB|apply dB|apply aB));refine blk_far ?_ NB216_220.out _;(with_reducible repeat (first|apply nB|apply dB|apply aB));refine blk_far ?_ NB216_220.out _;(with_reducible repeat (first|apply nB|apply dB|apply aB));refine blk_far ?_ NB216_220.out _;(with_reducible repeat (first|apply nB|apply dB|apply aB));exact BK216.out⟩,⟨by (with_reducible repeat (first|apply nB|apply dB|apply aB));refine blk_far ?_ NB217_220.out _;(with_reducible repeat (first|apply nB|apply dB|apply aB));refine blk_far ?_ NB217_220.out _;(with_reducible repeat (first|apply nB|apply dB|apply aB));refine blk_far ?_ NB217_220.out _;(with_reducible repeat (first|apply nB|apply dB|apply aB));exact BK217.out⟩,⟨by (with_reducible repeat (first|apply nB|apply dB|apply aB));refine blk_far ?_ NB218_220.out _;(with_reducible repeat (first|apply nB|apply dB|apply aB));refine blk_far ?_ NB218_220.out _;(with_reducible repeat (first|apply nB|apply dB|apply aB));refine blk_far ?_ NB218_220.out _;(with_reducible repeat (first|apply nB|apply dB|apply aB));exact BK218.out⟩,⟨by (with_reducible repeat (first|apply nB|apply dB|apply aB));refine blk_put (cs:=#[.int .i64 ((rd_T27 l0 x7_1).f0),.int .i64 ((rd_T27 l0 x7_1).f1),.int .i64 0]) ?_ 2 _ rfl;(with_reducible repeat (first|apply nB|apply dB|apply aB));refine blk_put (cs:=#[.int .i64 ((rd_T27 l0 x7_1).f0),.int .i64 0,.int .i64 0]) ?_ 1 _ rfl;(with_reducible repeat (first|apply nB|apply dB|apply aB));refine blk_put (cs:=#[.int .i64 0,.int .i64 0,.int .i64 0]) ?_ 0 _ rfl;(with_reducible repeat (first|apply nB|apply dB|apply aB));exact BK220.out⟩,⟨kB HB.out⟩⟩
   case rest =>
    clear HC11
    try clear c1
    try clear c2
    try clear p2
    try clear q2
    try clear hx2
    try clear c3
    try clear c4
    try clear c5
    try clear c6
    try clear p6
    try clear c7
    try clear c9
    try clear c9b0
    try clear c10
    try clear c10b0
    try clear c13
    try clear c14
    try clear c15
    try clear c17
    try clear c17b0
    try clear c18
    try clear c18b0
    try clear c19
    try clear c19b0
    try clear c20
    try clear c20b0
    try clear c20b1
    try clear c21
    try clear p21
    try clear q21
    try clear hx21
    try clear c22
    try clear c23
    try clear c25
    try clear c26
    try clear c28
    try clear c30
    try clear c31
    try clear c32
    try clear c34
    try clear c35
    try clear c37
    try clear c39
    try clear c40
    try clear c41
    try clear c43
    try clear c44
    try clear c46
    try clear c47
    try clear c48
    try clear c50
    try clear c51
    try clear c53
    try clear c54
    try clear c55
    try clear c57
    try clear c58
    try clear hcz16_0
    try clear hcz16_1
    try clear hcz16_2
    try clear hcz24_0
    try clear hcz24_1
    try clear hcz24_2
    try clear hcz27_0
    try clear hcz27_1
    try clear hcz27_2
    try clear hcz29_0
    try clear hcz29_1
    try clear hcz29_2
    try clear hcz33_0
    try clear hcz33_1
    try clear hcz33_2
    try clear hcz36_0
    try clear hcz36_1
    try clear hcz36_2
    try clear hcz38_0
    try clear hcz38_1
    try clear hcz38_2
    try clear hcz42_0
    try clear hcz42_1
    try clear hcz42_2
    try clear hcz45_0
    try clear hcz45_1
    try clear hcz45_2
    try clear hcz49_0
    try clear hcz49_1
    try clear hcz49_2
    try clear hcz52_0
    try clear hcz52_1
    try clear hcz52_2
    try clear hcz56_0
    try clear hcz56_1
    try clear hcz56_2
    try clear hcz59_0
    try clear hcz59_1
    try clear hcz59_2
    try clear hcz8_0
    try clear hcz8_1
    try clear hcz8_2
    try clear hfz16_0
    try clear hfz16_1
    try clear hfz16_2
    try clear hfz24_0
    try clear hfz24_1
    try clear hfz24_2
    try clear hfz27_0
    try clear hfz27_1
    try clear hfz27_2
    try clear hfz29_0
    try clear hfz29_1
    try clear hfz29_2
    try clear hfz33_0
    try clear hfz33_1
    try clear hfz33_2
    try clear hfz36_0
    try clear hfz36_1
    try clear hfz36_2
    try clear hfz38_0
    try clear hfz38_1
    try clear hfz38_2
    try clear hfz42_0
    try clear hfz42_1
    try clear hfz42_2
    try clear hfz45_0
    try clear hfz45_1
    try clear hfz45_2
    try clear hfz49_0
    try clear hfz49_1
    try clear hfz49_2
    try clear hfz52_0
    try clear hfz52_1
    try clear hfz52_2
    try clear hfz56_0
    try clear hfz56_1
    try clear hfz56_2
    try clear hfz59_0
    try clear hfz59_1
    try clear hfz59_2
    try clear hfz8_0
    try clear hfz8_1
    try clear hfz8_2
    try clear hx219_0
    try clear hx219_1
    try clear hx219_2
    try clear p2
    try clear p219
    try clear q219
    obtain⟨kq,x54_10,rfl,HA,HJ10,BK216,BK217,BK218,BK220,HB⟩:=hcut
    cases kq with
    | zero=>exact absurd HA.out (by simp [spec_l11Up.j1])
    | succ kj10 =>
     have H:=HA.out
     clear HA
     simp only [spec_l11Up.j1] at H
     by_cases c60:x54_10 = true
     rotate_left
     ·replace c60:=Bool.eq_false_iff.mpr c60
      subst c60
      have H1:(spec_l11Up.l0 kj10 l0 (wrap64 (x7_1 + 1)) a1_0 a1_1 a1_2 x219000_1 x219001_1 x219002_1) = some (r1,r2,r3,r4):=by rw [if_neg (show ¬ (false = true) by decide)] at H;exact H
      clear H
      have H:=H1
      clear H1
      have H':=mk0 H
      clear H
      go_wp2
      go_roundg kj10
      case measure=>have:=HK1.out;have:=HJ10.out;omega
      case rel=>exact⟨(wrap64 (x7_1 + 1)),(x219000_1),(x219001_1),(x219002_1),(by first|rfl|(simp;done)|(simp [*];done)),H',⟨by have:=HK1.out;have:=HJ10.out;omega⟩,⟨kN BK216.out⟩,⟨kN BK217.out⟩,⟨kN BK218.out⟩,⟨kB HB.out⟩⟩
     subst c60
     have H1:(spec_l11Up.l0 kj10 l0 (wrap64 (x7_1 + 1)) a1_0 a1_1 a1_2 ((rd_T27 l0 x7_1).f0) ((rd_T27 l0 x7_1).f1) ((rd_T27 l0 x7_1).f2)) = some (r1,r2,r3,r4):=by rw [if_pos rfl] at H;exact H
     clear H
     have H:=H1
     clear H1
     have H':=mk0 H
     clear H
     have hnb61:=NB220_216.out
     have hnc61:=NB216_220.out
     have hnb62:=NB220_217.out
     have hnc62:=NB217_220.out
     have hnb63:=NB220_218.out
     have hnc63:=NB218_220.out
     obtain⟨hcz64_0,hcz64_1,hcz64_2,hfz64_0,hfz64_1,hfz64_2⟩:=cz3 BK220.out
     have hnb65:=NB218_216.out
     have hnc65:=NB216_218.out
     have hnb66:=NB218_217.out
     have hnc66:=NB217_218.out
     obtain⟨hcz67_0,hcz67_1,hcz67_2,hfz67_0,hfz67_1,hfz67_2⟩:=cz3 BK218.out
     go_wp2
     go_roundg kj10
     case measure=>have:=HK1.out;have:=HJ10.out;omega
     case rel=>exact⟨(wrap64 (x7_1 + 1)),(((rd_T27 l0 x7_1).f0)),(((rd_T27 l0 x7_1).f1)),(((rd_T27 l0 x7_1).f2)),(by first|rfl|(simp;done)|(simp [*];done)),H',⟨by have:=HK1.out;have:=HJ10.out;omega⟩,⟨by (with_reducible repeat (first|apply nB|apply dB|apply aB));refine blk_far ?_ NB216_218.out _;(with_reducible repeat (first|apply nB|apply dB|apply aB));refine blk_far ?_ NB216_218.out _;(with_reducible repeat (first|apply nB|apply dB|apply aB));refine blk_far ?_ NB216_218.out _;(with_reducible repeat (first|apply nB|apply dB|apply aB));exact BK216.out⟩,⟨by (with_reducible repeat (first|apply nB|apply dB|apply aB));refine blk_far ?_ NB217_218.out _;(with_reducible repeat (first|apply nB|apply dB|apply aB));refine blk_far ?_ NB217_218.out _;(with_reducible repeat (first|apply nB|apply dB|apply aB));refine blk_far ?_ NB217_218.out _;(with_reducible repeat (first|apply nB|apply dB|apply aB));exact BK217.out⟩,⟨by (with_reducible repeat (first|apply nB|apply dB|apply aB));refine blk_put (cs:=#[.int .i64 ((rd_T27 l0 x7_1).f0),.int .i64 ((rd_T27 l0 x7_1).f1),.int .i64 x219002_1]) ?_ 2 _ rfl;(with_reducible repeat (first|apply nB|apply dB|apply aB));refine blk_put (cs:=#[.int .i64 ((rd_T27 l0 x7_1).f0),.int .i64 x219001_1,.int .i64 x219002_1]) ?_ 1 _ rfl;(with_reducible repeat (first|apply nB|apply dB|apply aB));refine blk_put (cs:=#[.int .i64 x219000_1,.int .i64 x219001_1,.int .i64 x219002_1]) ?_ 0 _ rfl;(with_reducible repeat (first|apply nB|apply dB|apply aB));exact BK218.out⟩,⟨kB HB.out⟩⟩
/-! ### spec_StretchUp: function 30 -/
def spec_StretchUp.f (k : Nat) (l0 : List Int) (a1_0 : Int) (a1_1 : Int) (a1_2 : Int) : Option (Int × Int × Int × Bool) := (spec_StretchOk.f k l0 a1_0 a1_1 a1_2).bind fun t223 => (if t223 = true then ((spec_StretchAll.f k l0).bind fun t224 => ((spec_l11Up.f k t224 a1_0 a1_1 a1_2).bind fun bt227 => (some (bt227.1, bt227.2.1, bt227.2.2.1, bt227.2.2.2)))) else (some (0, 0, 0, false)))
theorem spec_StretchUp.mono : ∀ a0 a1 a2 a3 k, LeO (spec_StretchUp.f k a0 a1 a2 a3) (spec_StretchUp.f (k + 1) a0 a1 a2 a3) := by
 intro a0 a1 a2 a3 k
 unfold spec_StretchUp.f
 repeat' first|(with_reducible first|exact spec_StretchAll.mono _ _|exact spec_StretchOk.mono _ _ _ _ _|exact spec_l11Up.mono _ _ _ _ _|exact LeO.refl _|exact LeO.none _|refine LeO.ite ?_ ?_|refine LeO.bind ?_ (fun _ => ?_))|exact LeO.none _|refine LeO.ite ?_ ?_|refine LeO.bind ?_ (fun _ => ?_)
def spec_StretchUp.T3 : Bool × List (List Nat × List Nat) := (true, [([], []), ([0], [0]), ([], []), ([1, 2, 1], [1, 2]), ([3], [3]), ([3], [3]), ([4, 3, 0, 1, 2, 3, 4, 5], [4]), ([5, 6, 0, 1, 2, 3, 4, 5, 6], [5])])
def spec_StretchUp.B3 : List Nat := [0, 1, 0, 7, 15, 15, 63, 127]
theorem spec_StretchUp.tab3 : rtab .any (opsOf Try.f30 3) = spec_StretchUp.T3 := by kernel_rfl
theorem spec_StretchUp.bits3 : waitsOk spec_StretchUp.T3.2 spec_StretchUp.B3 = true := by kernel_rfl
abbrev spec_StretchUp.m0 : Array Bool := #[F,F,F,F,F,F,F,F]
abbrev spec_StretchUp.m1 : Array Bool := #[T,F,F,F,F,F,F,F]
abbrev spec_StretchUp.m2 : Array Bool := #[T,F,T,F,F,F,F,F]
abbrev spec_StretchUp.m3 : Array Bool := #[T,T,T,F,F,F,F,F]
abbrev spec_StretchUp.m4 : Array Bool := #[T,T,T,T,F,F,F,F]
abbrev spec_StretchUp.m5 : Array Bool := #[T,T,T,T,T,F,F,F]
set_option maxHeartbeats 8000000 in
set_option maxRecDepth 100000 in
theorem spec_StretchUp.calls (k : Nat) (A0 : Option Addr) (c0 : Nat) (l0 : List Int) (a1_0 : Int) (a1_1 : Int) (a1_2 : Int) (r1 : Int) (r2 : Int) (r3 : Int) (r4 : Bool) (w : World) (hr0 : Kd.C (Kd.int .u8) w A0 l0.length l0) (hc0 : l0.length ≤ c0) (h : spec_StretchUp.f k l0 a1_0 a1_1 a1_2 = some (r1, r2, r3, r4)) :
  Calls Try.prog 30 #[.slice A0 l0.length c0, .agg #[.int .i64 a1_0, .int .i64 a1_1, .int .i64 a1_2]] w fun e w' => e = .returned (.tuple #[.agg #[.int .i64 r1, .int .i64 r2, .int .i64 r3], .bool r4]) ∧ Below w.heap.size w w' := by
 have hu27:=Try.underlying27
 have HR0:=mk0 hr0
 have HC0:=mk0 hc0
 clear hr0 hc0
 have HB:=mk0 (Below.refl w.heap.size w)
 have H:((spec_StretchOk.f k l0 a1_0 a1_1 a1_2).bind fun t223=>(if t223 = true then ((spec_StretchAll.f k l0).bind fun t224=>((spec_l11Up.f k t224 a1_0 a1_1 a1_2).bind fun bt227=>(some (bt227.1,bt227.2.1,bt227.2.2.1,bt227.2.2.2)))) else (some (0,0,0,false)))) = some (r1,r2,r3,r4):=h
 clear h
 replace H:=Option.bind_eq_some_iff.mp H
 obtain⟨t223,A30,H⟩:=H
 replace H:(if t223 = true then ((spec_StretchAll.f k l0).bind fun t224=>((spec_l11Up.f k t224 a1_0 a1_1 a1_2).bind fun bt227=>(some (bt227.1,bt227.2.1,bt227.2.2.1,bt227.2.2.2)))) else (some (0,0,0,false))) = some (r1,r2,r3,r4):=H
 have A3:=mk0 A30
 clear A30
 by_cases c4:t223 = true
 rotate_left
 ·replace c4:=Bool.eq_false_iff.mpr c4
  subst c4
  have H1:(some (0,0,0,false)) = some (r1,r2,r3,r4):=by rw [if_neg (show ¬ (false = true) by decide)] at H;exact H
  clear H
  have H:=H1
  clear H1
  simp only [Option.some.injEq,Prod.mk.injEq] at H
  obtain⟨rfl,rfl,rfl,rfl⟩:=H
  go_enter Try.func30,Try.ntmps30
  go_wp2_with (first|((with_reducible refine gate_dst (N:=3) rfl ?_);refine box_event ?hg (N:=3) ?hd (cs:=#[.int .i64 a1_0,.int .i64 a1_1,.int .i64 a1_2]) (t:=27) ?hr ?_;(case hd=>rfl);(case hg=>rfl);(case hr=>first|(go_simp;done)|(go_simp;rfl));intro gb221 hg w19 hbox hb;have BK221:=mk0 (hbox);have GW221:=mk0 ((by rw [hg];exact (kZ HB.out):w.heap.size ≤ gb221));have GE221:=mk0 ((by rw [hg];exact (kZ HB.out):w.heap.size ≤ gb221));replace HB:=mk0 (kS HB.out hb);clear hb hbox hg)|((with_reducible refine gate_dst (N:=4) rfl ?_);refine box_event ?hg (N:=4) ?hd (cs:=#[.int .i64 0,.int .i64 0,.int .i64 0]) (t:=27) ?hr ?_;(case hd=>rfl);(case hg=>rfl);(case hr=>first|(go_simp;done)|(go_simp;rfl));intro gb222 hg w20 hbox hb;have BK222:=mk0 (hbox);have GW222:=mk0 ((by rw [hg];exact (kZ HB.out):w.heap.size ≤ gb222));have GE222:=mk0 ((by rw [hg];exact (kZ HB.out):w.heap.size ≤ gb222));replace HB:=mk0 (kS HB.out hb);have NB221_222:=mk0 ((by rw [hg];exact Nat.ne_of_lt (kL BK221.out):gb221 ≠ gb222));have NB222_221:=mk0 ((by rw [hg];exact Nat.ne_of_gt (kL BK221.out):gb222 ≠ gb221));replace BK221:=mk0 (kK BK221.out hb);clear hb hbox hg;have hnb21:=NB221_222.out;have hnc21:=NB222_221.out;obtain⟨hcz22_0,hcz22_1,hcz22_2,hfz22_0,hfz22_1,hfz22_2⟩:=cz3 BK221.out)|((with_reducible refine gate_callee (f:=11) rfl ?_);refine goesL_ (some 8) rfl rfl Try.func11 (by kernel_rfl) rfl #[.slice A0 l0.length c0,.agg #[.int .i64 a1_0,.int .i64 a1_1,.int .i64 a1_2]] rfl (by (try simp only [mA,mC,mN]);first|done|rfl|(simp only [List.length_drop,List.length_take];done)|(simp only [List.length_drop,List.length_take];rfl)) ?_;(with_reducible refine (spec_StretchOk.calls k _ _ l0 a1_0 a1_1 a1_2 false _ ?side1 ?side2 A3.out).mono ?_);(case side1=>exact kC (Kd.C_below HR0.out HB.out));(case side2=>exact HC0.out);rintro e w23 ⟨rfl,hb⟩;refine⟨_,rfl,?_⟩;replace BK221:=mk0 (kK BK221.out hb);replace BK222:=mk0 (kK BK222.out hb);replace HB:=mk0 (kS HB.out hb);(try clear hb);obtain⟨hcz24_0,hcz24_1,hcz24_2,hfz24_0,hfz24_1,hfz24_2⟩:=cz3 BK222.out))
  refine bodyPost_ret (results_ct rfl _ _ gb222 27 #[.int .i64 0,.int .i64 0,.int .i64 0] (0,0) _ rfl (by (with_reducible repeat (first|apply nB|apply dB|apply aB));refine blk_put (cs:=#[.int .i64 0,.int .i64 0,.int .i64 0]) ?_ 2 _ rfl;(with_reducible repeat (first|apply nB|apply dB|apply aB));refine blk_put (cs:=#[.int .i64 0,.int .i64 0,.int .i64 0]) ?_ 1 _ rfl;(with_reducible repeat (first|apply nB|apply dB|apply aB));refine blk_put (cs:=#[.int .i64 0,.int .i64 0,.int .i64 0]) ?_ 0 _ rfl;(with_reducible repeat (first|apply nB|apply dB|apply aB));exact BK222.out) Try.underlying27 rfl (by kernel_rfl)) rfl ?_
  exact⟨by first|rfl|(simp [errW_none,errW_some] <;> rfl)|(simp [*,errW_none,errW_some] <;> rfl),kB HB.out⟩

 subst c4
 have H1:((spec_StretchAll.f k l0).bind fun t224=>((spec_l11Up.f k t224 a1_0 a1_1 a1_2).bind fun bt227=>(some (bt227.1,bt227.2.1,bt227.2.2.1,bt227.2.2.2)))) = some (r1,r2,r3,r4):=by rw [if_pos rfl] at H;exact H
 clear H
 have H:=H1
 clear H1
 replace H:=Option.bind_eq_some_iff.mp H
 obtain⟨t224,A50,H⟩:=H
 replace H:((spec_l11Up.f k t224 a1_0 a1_1 a1_2).bind fun bt227=>(some (bt227.1,bt227.2.1,bt227.2.2.1,bt227.2.2.2))) = some (r1,r2,r3,r4):=H
 have A5:=mk0 A50
 clear A50
 replace H:=Option.bind_eq_some_iff.mp H
 obtain⟨⟨t227,t228,t229,t230⟩,A60,H⟩:=H
 replace H:(some (t227,t228,t229,t230)) = some (r1,r2,r3,r4):=H
 have A6:=mk0 A60
 clear A60
 simp only [Option.some.injEq,Prod.mk.injEq] at H
 obtain⟨rfl,rfl,rfl,rfl⟩:=H
 go_enter Try.func30,Try.ntmps30
 try go_wp2_with (first|((with_reducible refine gate_dst (N:=3) rfl ?_);refine box_event ?hg (N:=3) ?hd (cs:=#[.int .i64 a1_0,.int .i64 a1_1,.int .i64 a1_2]) (t:=27) ?hr ?_;(case hd=>rfl);(case hg=>rfl);(case hr=>first|(go_simp;done)|(go_simp;rfl));intro gb221 hg w7 hbox hb;have BK221:=mk0 (hbox);have GW221:=mk0 ((by rw [hg];exact (kZ HB.out):w.heap.size ≤ gb221));have GE221:=mk0 ((by rw [hg];exact (kZ HB.out):w.heap.size ≤ gb221));replace HB:=mk0 (kS HB.out hb);clear hb hbox hg)|((with_reducible refine gate_dst (N:=4) rfl ?_);refine box_event ?hg (N:=4) ?hd (cs:=#[.int .i64 0,.int .i64 0,.int .i64 0]) (t:=27) ?hr ?_;(case hd=>rfl);(case hg=>rfl);(case hr=>first|(go_simp;done)|(go_simp;rfl));intro gb222 hg w8 hbox hb;have BK222:=mk0 (hbox);have GW222:=mk0 ((by rw [hg];exact (kZ HB.out):w.heap.size ≤ gb222));have GE222:=mk0 ((by rw [hg];exact (kZ HB.out):w.heap.size ≤ gb222));replace HB:=mk0 (kS HB.out hb);have NB221_222:=mk0 ((by rw [hg];exact Nat.ne_of_lt (kL BK221.out):gb221 ≠ gb222));have NB222_221:=mk0 ((by rw [hg];exact Nat.ne_of_gt (kL BK221.out):gb222 ≠ gb221));replace BK221:=mk0 (kK BK221.out hb);clear hb hbox hg;have hnb9:=NB221_222.out;have hnc9:=NB222_221.out;obtain⟨hcz10_0,hcz10_1,hcz10_2,hfz10_0,hfz10_1,hfz10_2⟩:=cz3 BK221.out)|((with_reducible refine gate_callee (f:=11) rfl ?_);refine goesL_ (some 8) rfl rfl Try.func11 (by kernel_rfl) rfl #[.slice A0 l0.length c0,.agg #[.int .i64 a1_0,.int .i64 a1_1,.int .i64 a1_2]] rfl (by (try simp only [mA,mC,mN]);first|done|rfl|(simp only [List.length_drop,List.length_take];done)|(simp only [List.length_drop,List.length_take];rfl)) ?_;(with_reducible refine (spec_StretchOk.calls k _ _ l0 a1_0 a1_1 a1_2 true _ ?side1 ?side2 A3.out).mono ?_);(case side1=>exact kC (Kd.C_below HR0.out HB.out));(case side2=>exact HC0.out);rintro e w11 ⟨rfl,hb⟩;refine⟨_,rfl,?_⟩;replace BK221:=mk0 (kK BK221.out hb);replace BK222:=mk0 (kK BK222.out hb);replace HB:=mk0 (kS HB.out hb);(try clear hb)))
 replace BK221:=mk0 (dB BK221.out)
 replace BK222:=mk0 (dB BK222.out)
 replace HB:=mk0 (dZ HB.out)
 refine start_ (n:=8) (S:=fun w'=>w'.cell? ⟨gb221,0,none⟩ = some (.int .i64 a1_0) ∧ w'.cell? ⟨gb221,1,none⟩ = some (.int .i64 a1_1) ∧ w'.cell? ⟨gb221,2,none⟩ = some (.int .i64 a1_2)) (ds:=[]) spec_StretchUp.m0 (by kernel_rfl) rfl rfl (ck3 BK221.out) (fun hHeld=>?_);refine with_tabW spec_StretchUp.tab3 spec_StretchUp.bits3 (fun HT_ HW_=>?_)
 generalize w11.drew = w12 at BK221 BK222 HB hHeld ⊢
 refine pure_ (i:=0) (N:=some 11) (v:=?_) (a':=?_) spec_StretchUp.m1 rfl rfl (any_of HT_.out (by kernel_rfl)) (fun _ _ _ h=>h) (Or.inl ⟨by rfl,?_⟩) ?_ ?_
 rotate_left
 ·intro w'
  go_simp
  with_reducible rfl
 rotate_left
 ·simp only [Act.put,sA,sO,sS,i64_w,i32_w]
  rfl
 refine take_ (i:=2) (N:=some 13) (v:=?_) (a':=?_) spec_StretchUp.m2 rfl rfl (take_ofW HT_.out HW_.out (by kernel_rfl)) (fun _ _ _ h=>h) (Or.inl ⟨by rfl,?_⟩) hHeld ?_ ?_
 rotate_left
 ·rintro w' ⟨s0,s1,s2⟩
  go_simp
  with_reducible rfl
 rotate_left
 ·simp only [Act.put,sA,sO,sS,i64_w,i32_w]
  rfl
 refine one_ (i:=1) (N:=some 12) spec_StretchUp.m3 rfl rfl (one_of HT_.out (by kernel_rfl)) (by decide) (fun K hK=>?_)
 refine goes_ Try.func25 (by kernel_rfl) rfl #[.slice A0 l0.length c0] (by rfl) rfl rfl (by (try simp only [mA,mC,mN]);first|done|rfl|(simp only [List.length_drop,List.length_take];done)|(simp only [List.length_drop,List.length_take];rfl)) ?_
 with_reducible refine (spec_StretchAll.calls k _ _ l0 t224 _ ?side1 ?side2 A5.out).mono ?_
 (case side1=>exact kC (Kd.C_below HR0.out HB.out))
 (case side2=>exact HC0.out)
 rintro e w13 ⟨v225,rfl,ho0,hb⟩
 refine⟨_,rfl,?_⟩
 have HO226:=mk0 (Kd.R_lower (Kd.R_newB (Kd.R_newB ho0 (g:=gb221) (o:=.cells #[.int .i64 a1_0,.int .i64 a1_1,.int .i64 a1_2] 27 (0,0)) (kN BK221.out)) (g:=gb222) (o:=.cells #[.int .i64 0,.int .i64 0,.int .i64 0] 27 (0,0)) (kN BK222.out)) (kZ HB.out))
 replace BK221:=mk0 (kK BK221.out hb)
 replace BK222:=mk0 (kK BK222.out hb)
 replace HB:=mk0 (kS HB.out hb)
 (try clear hb)
 (try clear ho0)
 obtain⟨Ao14,co14,eo14⟩:=Kd.R_slice HO226.out
 (first|subst eo14|(injection eo14 with f1_ f2_ f3_;have f4_:=f1_.symm;have f5_:=f3_.symm;clear f1_ f2_ f3_;subst f4_;subst f5_))
 refine hK.out _ _ (ck3 BK221.out) (fun hHeld=>?_)
 clear hK K
 refine norm_ (a':=?_) ?_ ?_
 rotate_left
 ·show Act.put _ (some 12) _ = _
  simp only [Act.put,sA,sO,sS,i64_w,i32_w]
  rfl
 refine one_ (i:=3) (N:=some 14) spec_StretchUp.m4 rfl rfl (one_of HT_.out (by kernel_rfl)) (by decide) (fun K hK=>?_)
 refine goes_ Try.func54 (by kernel_rfl) rfl #[.slice Ao14 t224.length co14,.agg #[.int .i64 a1_0,.int .i64 a1_1,.int .i64 a1_2]] (by rfl) rfl rfl (by (try simp only [mA,mC,mN]);first|done|rfl|(simp only [List.length_drop,List.length_take];done)|(simp only [List.length_drop,List.length_take];rfl)) ?_
 with_reducible refine (spec_l11Up.calls k _ _ t224 a1_0 a1_1 a1_2 t227 t228 t229 t230 _ ?side1 ?side2 A6.out).mono ?_
 (case side1=>exact kC (Kd.R_reads' HO226.out).2.2)
 (case side2=>exact (Kd.R_reads' HO226.out).2.1)
 rintro e w15 ⟨rfl,hb⟩
 refine⟨_,rfl,?_⟩
 replace HO226:=mk0 (bR HO226.out hb)
 replace BK221:=mk0 (kK BK221.out hb)
 replace BK222:=mk0 (kK BK222.out hb)
 replace HB:=mk0 (kS HB.out hb)
 (try clear hb)
 refine hK.out _ _ (ck3 BK221.out) (fun hHeld=>?_)
 clear hK K
 refine norm_ (a':=?_) ?_ ?_
 rotate_left
 ·show Act.put _ (some 14) _ = _
  simp only [Act.put,sA,sO,sS,i64_w,i32_w]
  rfl
 refine pure_ (i:=4) (N:=some 15) (v:=?_) (a':=?_) spec_StretchUp.m5 rfl rfl (any_of HT_.out (by kernel_rfl)) (fun _ _ _ h=>h) (Or.inl ⟨by rfl,?_⟩) ?_ ?_
 rotate_left
 ·intro w'
  go_simp
  with_reducible rfl
 rotate_left
 ·simp only [Act.put,sA,sO,sS,i64_w,i32_w]
  rfl
 refine pure_ (i:=5) (N:=some 16) (v:=?_) (a':=?_) #[true,true,true,true,true,true,false,false] rfl rfl (any_of HT_.out (by kernel_rfl)) (fun _ _ _ h=>h) (Or.inl ⟨by rfl,?_⟩) ?_ ?_
 rotate_left
 ·intro w'
  go_simp
  with_reducible rfl
 rotate_left
 ·simp only [Act.put,sA,sO,sS,i64_w,i32_w]
  rfl
 refine one_ (i:=6) (N:=none) #[true,true,true,true,true,true,true,false] rfl rfl (one_of HT_.out (by kernel_rfl)) (by decide) (fun K hK=>?_)
 have hs16:w15.cell? ⟨gb222,0,none⟩ = some (.int .i64 0):=(blk_cell BK222.out 0).trans rfl
 have hfs16:=blk_frozen BK222.out 0
 have hns16_0:=NB221_222.out
 have hms16_0:=NB222_221.out
 have hs17:w15.cell? ⟨gb222,1,none⟩ = some (.int .i64 0):=(blk_cell BK222.out 1).trans rfl
 have hfs17:=blk_frozen BK222.out 1
 have hns17_0:=NB221_222.out
 have hms17_0:=NB222_221.out
 have hs18:w15.cell? ⟨gb222,2,none⟩ = some (.int .i64 0):=(blk_cell BK222.out 2).trans rfl
 have hfs18:=blk_frozen BK222.out 2
 have hns18_0:=NB221_222.out
 have hms18_0:=NB222_221.out
 refine skip_ (w1:=?_) (by rfl) rfl ?_ ?_
 rotate_left
 ·go_simp
  rfl
 refine hK.out _ _ ⟨((cell_far (p:=⟨gb222,_,none⟩) NB221_222.out _).trans (((cell_far (p:=⟨gb222,_,none⟩) NB221_222.out _).trans (((cell_far (p:=⟨gb222,_,none⟩) NB221_222.out _).trans (hHeld.1)))))),((cell_far (p:=⟨gb222,_,none⟩) NB221_222.out _).trans (((cell_far (p:=⟨gb222,_,none⟩) NB221_222.out _).trans (((cell_far (p:=⟨gb222,_,none⟩) NB221_222.out _).trans (hHeld.2.1)))))),((cell_far (p:=⟨gb222,_,none⟩) NB221_222.out _).trans (((cell_far (p:=⟨gb222,_,none⟩) NB221_222.out _).trans (((cell_far (p:=⟨gb222,_,none⟩) NB221_222.out _).trans (hHeld.2.2))))))⟩ (fun hHeld=>?_)
 clear hK K
 refine pure_ (i:=7) (N:=some 5) (v:=?_) (a':=?_) #[true,true,true,true,true,true,true,true] rfl rfl (any_of HT_.out (by kernel_rfl)) (fun _ _ _ h=>h) (Or.inl ⟨by rfl,?_⟩) ?_ ?_
 rotate_left
 ·intro w'
  go_simp
  with_reducible rfl
 rotate_left
 ·simp only [Act.put,sA,sO,sS,i64_w,i32_w]
  rfl
 refine done_ (done_of HT_.out (by kernel_rfl)) ?_
 try go_wp2
 refine bodyPost_ret (results_ct rfl _ _ gb222 27 #[.int .i64 t227,.int .i64 t228,.int .i64 t229] (0,0) _ rfl (by (with_reducible repeat (first|apply nB|apply dB|apply aB));refine blk_put (cs:=#[.int .i64 t227,.int .i64 t228,.int .i64 0]) ?_ 2 _ rfl;(with_reducible repeat (first|apply nB|apply dB|apply aB));refine blk_put (cs:=#[.int .i64 t227,.int .i64 0,.int .i64 0]) ?_ 1 _ rfl;(with_reducible repeat (first|apply nB|apply dB|apply aB));refine blk_put (cs:=#[.int .i64 0,.int .i64 0,.int .i64 0]) ?_ 0 _ rfl;(with_reducible repeat (first|apply nB|apply dB|apply aB));exact BK222.out) Try.underlying27 rfl (by kernel_rfl)) rfl ?_
 exact⟨by first|rfl|(simp [errW_none,errW_some] <;> rfl)|(simp [*,errW_none,errW_some] <;> rfl),kB HB.out⟩
/-! ### impl_TextOk: function 39 -/
def impl_TextOk.f (l0 : List Int) : Option (Bool) := some (decide ((l0.length : Int) ≤ 300))
set_option maxHeartbeats 8000000 in
set_option maxRecDepth 100000 in
theorem impl_TextOk.calls (A0 : Option Addr) (c0 : Nat) (l0 : List Int) (r : Bool) (w : World) (hr0 : Kd.C (Kd.int .u8) w A0 l0.length l0) (hc0 : l0.length ≤ c0) (h : impl_TextOk.f l0 = some r) :
  Calls Try.prog 39 #[.slice A0 l0.length c0] w fun e w' => e = .returned (.bool r) ∧ Drawn0 w w' := by
 have HR0:=mk0 hr0
 have HC0:=mk0 hc0
 clear hr0 hc0
 have H:(some (decide ((l0.length:Int) ≤ 300))) = some r:=h
 clear h
 obtain rfl:=Option.some.inj H
 go_enter Try.func39,Try.ntmps39
 go_wp2
 go_ret
 exact⟨by first|rfl|(simp;done)|(simp [*];done),by repeat (first|exact Drawn0.refl _|apply Drawn0.step)⟩

/-! ### slices_Min_int_int: function 48 -/
def slices_Min_int_int.l0 : Nat → List Int → Int → Int → Option (Int)
 | 0, _, _, _ => none
 | k + 1, x0, x3, x4 => if x4 < (x0.length : Int) then (if 0 ≤ x4 then (slices_Min_int_int.l0 k x0 (mn x3 (rd x0 x4)) (wrap64 (x4 + 1))) else (none)) else (some x3)
def slices_Min_int_int.f (k : Nat) (l0 : List Int) : Option (Int) := if (l0.length : Int) < 1 then (none) else (if 0 < (l0.length : Int) then (slices_Min_int_int.l0 k l0 (rd l0 0) 1) else (none))
theorem slices_Min_int_int.mono_l : ∀ k, (∀ y0 y1 y2, LeO (slices_Min_int_int.l0 k y0 y1 y2) (slices_Min_int_int.l0 (k + 1) y0 y1 y2))
 | 0 => fun _ _ _ r h => by simp [slices_Min_int_int.l0] at h
 | k + 1 => by
  have ih0 := slices_Min_int_int.mono_l k
  ·intro y0 y1 y2
   unfold slices_Min_int_int.l0
   repeat' first|(with_reducible first|exact ih0 _ _ _|exact LeO.refl _|exact LeO.none _|refine LeO.ite ?_ ?_|refine LeO.bind ?_ (fun _ => ?_))|exact LeO.none _|refine LeO.ite ?_ ?_|refine LeO.bind ?_ (fun _ => ?_)
theorem slices_Min_int_int.mono : ∀ a0 k, LeO (slices_Min_int_int.f k a0) (slices_Min_int_int.f (k + 1) a0) := by
 intro a0 k
 have ih0 := slices_Min_int_int.mono_l k
 unfold slices_Min_int_int.f
 repeat' first|(with_reducible first|exact ih0 _ _ _|exact LeO.refl _|exact LeO.none _|refine LeO.ite ?_ ?_|refine LeO.bind ?_ (fun _ => ?_))|exact LeO.none _|refine LeO.ite ?_ ?_|refine LeO.bind ?_ (fun _ => ?_)
set_option maxHeartbeats 8000000 in
set_option maxRecDepth 100000 in
theorem slices_Min_int_int.calls (k : Nat) (A0 : Option Addr) (c0 : Nat) (l0 : List Int) (r : Int) (w : World) (hr0 : Kd.C (Kd.int .i64) w A0 l0.length l0) (hc0 : l0.length ≤ c0) (h : slices_Min_int_int.f k l0 = some r) :
  Calls Try.prog 48 #[.slice A0 l0.length c0] w fun e w' => e = .returned (.int .i64 r) ∧ Below w.heap.size w w' := by
 have HR0:=mk0 hr0
 have HC0:=mk0 hc0
 clear hr0 hc0
 have HB:=mk0 (Below.refl w.heap.size w)
 have H:(if (l0.length:Int) < 1 then (none) else (if 0 < (l0.length:Int) then (slices_Min_int_int.l0 k l0 (rd l0 0) 1) else (none))) = some r:=h
 clear h
 by_cases c2:(l0.length:Int) < 1
 ·rw [if_pos c2] at H
  exact absurd H (by simp)
 ·rw [if_neg c2] at H
  have c2b0:decide ((l0.length:Int) < 1) = false:=decide_eq_false c2
  have c2b1:decide (l0.length < 1) = false:=decide_eq_false (by omega)
  clear c2
  by_cases c3:0 < (l0.length:Int)
  ·rw [if_pos c3] at H
   have c3b0:decide (0 < (l0.length:Int)) = true:=decide_eq_true c3
   have c3b1:decide (0 < l0.length) = true:=decide_eq_true (by omega)
   clear c3
   have H':=mk0 H
   clear H
   have p231:0 ≤ (0:Int):=(by omega)
   have q231:0 < (l0.length:Int):=of_decide_eq_true (by first|(with_reducible assumption)|assumption)
   obtain⟨ad231,e231,hx231_0⟩:=Kd.at_int HR0.out 0 p231 q231
   cases e231
   have qi231:(0 < l0.length) = True:=eq_true (by omega)
   (try rw [show ((0:Int)).toNat = 0 from rfl] at hx231_0)
   (try rw [Addr.add_zero'] at hx231_0)
   replace p231:=eq_true p231
   replace q231:=eq_true q231
   go_enter Try.func48,Try.ntmps48
   go_wp2
   go_loopg [3,4] k (fun kq v3 v4 w'=>∃ (x3_1:Int) (x4_1:Int),v3 = .int .i64 x3_1 ∧ v4 = .int .i64 x4_1 ∧ Aside0 (slices_Min_int_int.l0 kq l0 x3_1 x4_1 = some r) ∧ Aside0 (kq ≤ k) ∧ Aside0 (Below w.heap.size w w'))
   case atStart=>exact⟨(rd l0 0),(1),(by first|rfl|(simp;done)|(simp [*];done)),(by first|rfl|(simp;done)|(simp [*];done)),H',⟨Nat.le_refl _⟩,⟨kB HB.out⟩⟩
   case round =>
    clear H'
    try clear c2
    try clear c2b0
    try clear c2b1
    try clear p2
    try clear q2
    try clear hx2
    try clear qi2
    try clear c3
    try clear c3b0
    try clear c3b1
    try clear hx231_0
    try clear p231
    try clear q231
    obtain⟨x3_1,x4_1,rfl,rfl,HA,HK1,HB⟩:=hrel
    cases gk with
    | zero=>exact absurd HA.out (by simp [slices_Min_int_int.l0])
    | succ k1 =>
     have H:=HA.out
     clear HA
     simp only [slices_Min_int_int.l0] at H
     by_cases c4:x4_1 < (l0.length:Int)
     ·rw [if_pos c4] at H
      have c4b0:decide (x4_1 < (l0.length:Int)) = true:=decide_eq_true c4
      clear c4
      by_cases c5:0 ≤ x4_1
      ·rw [if_pos c5] at H
       have c5b0:decide (0 ≤ x4_1) = true:=decide_eq_true c5
       clear c5
       obtain⟨ji6,hji6⟩:∃ j_:Int,(mn x3_1 (rd l0 x4_1)) = j_:=⟨_,rfl⟩
       replace H:(slices_Min_int_int.l0 k1 l0 ji6 (wrap64 (x4_1 + 1))) = some r:=by first|(rw [hji6] at H;exact H)|(simp only [hji6] at H ⊢;exact H)
       have hji6_:(if (rd l0 x4_1) < x3_1 then (rd l0 x4_1) else x3_1) = ji6:=hji6
       have H':=mk0 H
       clear H
       have p232:0 ≤ (x4_1:Int):=of_decide_eq_true (by first|(with_reducible assumption)|assumption)
       have q232:x4_1 < (l0.length:Int):=of_decide_eq_true (by first|(with_reducible assumption)|assumption)
       obtain⟨ad232,e232,hx232_0⟩:=Kd.at_int HR0.out x4_1 p232 q232
       obtain rfl:ad231 = ad232:=(by injection e232)
       replace hx232_0:=(HB.out.cell (World.block_lt_of_cell? w _ hx232_0)).trans hx232_0
       replace p232:=eq_true p232
       replace q232:=eq_true q232
       go_wp2
       go_roundg k1
       case measure=>have:=HK1.out;omega
       case rel=>exact⟨(ji6),(wrap64 (x4_1 + 1)),(by first|rfl|(simp;done)|(simp only [← hji6] <;> (first|rfl|simp))|(simp [*];done)),(by first|rfl|(simp;done)|(simp [*];done)),H',⟨by have:=HK1.out;omega⟩,⟨kB HB.out⟩⟩
      ·rw [if_neg c5] at H
       exact absurd H (by simp)
     ·rw [if_neg c4] at H
      have c4b0:decide (x4_1 < (l0.length:Int)) = false:=decide_eq_false c4
      clear c4
      obtain rfl:=Option.some.inj H
      go_wp2
      go_ret
      exact⟨by first|rfl|(simp [errW_none,errW_some] <;> rfl)|(simp [*,errW_none,errW_some] <;> rfl),kB HB.out⟩
  ·rw [if_neg c3] at H
   exact absurd H (by simp)

/-! ### impl_isRange: function 62 -/
def impl_isRange.f (a0 : Int) (a1 : Int) (a2 : Int) : Option (Bool) := if 0 ≤ a0 then (if a0 ≤ a1 then (some (decide (a1 ≤ a2))) else (some false)) else (some false)
set_option maxHeartbeats 8000000 in
set_option maxRecDepth 100000 in
theorem impl_isRange.calls (a0 : Int) (a1 : Int) (a2 : Int) (r : Bool) (w : World) (h : impl_isRange.f a0 a1 a2 = some r) :
  Calls Try.prog 62 #[.int .i64 a0, .int .i64 a1, .int .i64 a2] w fun e w' => e = .returned (.bool r) ∧ Drawn0 w w' := by
 have H:(if 0 ≤ a0 then (if a0 ≤ a1 then (some (decide (a1 ≤ a2))) else (some false)) else (some false)) = some r:=h
 clear h
 by_cases c4:0 ≤ a0
 ·rw [if_pos c4] at H
  have c4b0:decide (0 ≤ a0) = true:=decide_eq_true c4
  clear c4
  by_cases c5:a0 ≤ a1
  ·rw [if_pos c5] at H
   have c5b0:decide (a0 ≤ a1) = true:=decide_eq_true c5
   clear c5
   obtain rfl:=Option.some.inj H
   go_enter Try.func62,Try.ntmps62
   go_wp2
   go_ret
   exact⟨by first|rfl|(simp;done)|(simp [*];done),by repeat (first|exact Drawn0.refl _|apply Drawn0.step)⟩
  ·rw [if_neg c5] at H
   have c5b0:decide (a0 ≤ a1) = false:=decide_eq_false c5
   clear c5
   obtain rfl:=Option.some.inj H
   go_enter Try.func62,Try.ntmps62
   go_wp2
   go_ret
   exact⟨by first|rfl|(simp;done)|(simp [*];done),by repeat (first|exact Drawn0.refl _|apply Drawn0.step)⟩
 ·rw [if_neg c4] at H
  have c4b0:decide (0 ≤ a0) = false:=decide_eq_false c4
  clear c4
  obtain rfl:=Option.some.inj H
  go_enter Try.func62,Try.ntmps62
  go_wp2
  go_ret
  exact⟨by first|rfl|(simp;done)|(simp [*];done),by repeat (first|exact Drawn0.refl _|apply Drawn0.step)⟩

end Go.Proofs.Ytoinagnieobbpaa.QFnExactStretchUp
