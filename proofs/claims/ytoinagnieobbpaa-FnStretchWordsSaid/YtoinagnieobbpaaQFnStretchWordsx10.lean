-- A walk, made by walk.py, a program of this session's.
import Derived.Test.YtoinagnieobbpaaQFnStretchWordsx0
import Derived.Test.YtoinagnieobbpaaQFnStretchWordsx1
import Derived.Test.YtoinagnieobbpaaQFnStretchWordsx5
import Derived.Test.YtoinagnieobbpaaQFnStretchWordsx9
namespace Go.Proofs.Ytoinagnieobbpaa.QFnStretchWords
open Go.RowKit Go.Proofs.YtoinagnieobbpaaW.PrintWords Go.Proofs.YtoinagnieobbpaaW.PrintLast Go.Proofs.YtoinagnieobbpaaW.PrintMore
attribute [local go_sem] max2_int min2_int max_two min_two max_three min_three max_four min_four   -- for this text's walks alone
set_option linter.unusedVariables false
set_option linter.unusedSimpArgs false

attribute [local go_sem high] eqA27
/-! ### spec_l11Up: function 54 -/
mutual
def spec_l11Up.l0 : Nat → List (S27) → Int → Int → Int → Int → Int → Int → Int → Option (Int × Int × Int × Bool)
 | 0, _, _, _, _, _, _, _, _ => none
 | k + 1, x0, x7, x270000, x270001, x270002, x272000, x272001, x272002 => if x7 < (x0.length : Int) then (if 0 ≤ x7 then (if (!(((rd_T27 x0 x7).f0) == x270000) || (!(((rd_T27 x0 x7).f1) == x270001) || (!(((rd_T27 x0 x7).f2) == x270002)))) = true then (if ((rd_T27 x0 x7).f0) ≤ x270000 then (if ((rd_T27 x0 x7).f1) ≥ x270001 then (if x272001 = 0 then (spec_l11Up.j1 k x0 x7 true x270000 x270001 x270002 x272000 x272001 x272002 ((rd_T27 x0 x7).f0) ((rd_T27 x0 x7).f1) ((rd_T27 x0 x7).f2)) else (spec_l11Up.j1 k x0 x7 (decide ((wrap64 (((rd_T27 x0 x7).f1) - ((rd_T27 x0 x7).f0))) < (wrap64 (x272001 - x272000)))) x270000 x270001 x270002 x272000 x272001 x272002 ((rd_T27 x0 x7).f0) ((rd_T27 x0 x7).f1) ((rd_T27 x0 x7).f2))) else (spec_l11Up.j1 k x0 x7 false x270000 x270001 x270002 x272000 x272001 x272002 ((rd_T27 x0 x7).f0) ((rd_T27 x0 x7).f1) ((rd_T27 x0 x7).f2))) else (spec_l11Up.j1 k x0 x7 false x270000 x270001 x270002 x272000 x272001 x272002 ((rd_T27 x0 x7).f0) ((rd_T27 x0 x7).f1) ((rd_T27 x0 x7).f2))) else (spec_l11Up.j1 k x0 x7 false x270000 x270001 x270002 x272000 x272001 x272002 ((rd_T27 x0 x7).f0) ((rd_T27 x0 x7).f1) ((rd_T27 x0 x7).f2))) else (none)) else (some (x272000, x272001, x272002, decide (x272001 > 0)))
def spec_l11Up.j1 : Nat → List (S27) → Int → Bool → Int → Int → Int → Int → Int → Int → Int → Int → Int → Option (Int × Int × Int × Bool)
 | 0, _, _, _, _, _, _, _, _, _, _, _, _ => none
 | k + 1, x0, x7, x54, x270000, x270001, x270002, x272000, x272001, x272002, x274000, x274001, x274002 => if x54 = true then (spec_l11Up.l0 k x0 (wrap64 (x7 + 1)) x270000 x270001 x270002 x274000 x274001 x274002) else (spec_l11Up.l0 k x0 (wrap64 (x7 + 1)) x270000 x270001 x270002 x272000 x272001 x272002)
end
def spec_l11Up.f (k : Nat) (l0 : List (S27)) (a1_0 : Int) (a1_1 : Int) (a1_2 : Int) : Option (Int × Int × Int × Bool) := spec_l11Up.l0 k l0 0 a1_0 a1_1 a1_2 0 0 0
theorem spec_l11Up.mono_l : ∀ k, (∀ y0 y1 y2 y3 y4 y5 y6 y7, LeO (spec_l11Up.l0 k y0 y1 y2 y3 y4 y5 y6 y7) (spec_l11Up.l0 (k + 1) y0 y1 y2 y3 y4 y5 y6 y7)) ∧ (∀ y0 y1 y2 y3 y4 y5 y6 y7 y8 y9 y10 y11, LeO (spec_l11Up.j1 k y0 y1 y2 y3 y4 y5 y6 y7 y8 y9 y10 y11) (spec_l11Up.j1 (k + 1) y0 y1 y2 y3 y4 y5 y6 y7 y8 y9 y10 y11))
 | 0 => ⟨fun _ _ _ _ _ _ _ _ r h => by simp [spec_l11Up.l0] at h, fun _ _ _ _ _ _ _ _ _ _ _ _ r h => by simp [spec_l11Up.j1] at h⟩
 | k + 1 => by
  obtain ⟨ih0, ih1⟩ := spec_l11Up.mono_l k
  refine ⟨?_, ?_⟩
  ·intro y0 y1 y2 y3 y4 y5 y6 y7
   unfold spec_l11Up.l0
   repeat' first|(with_reducible first|exact ih0 _ _ _ _ _ _ _ _|exact ih1 _ _ _ _ _ _ _ _ _ _ _ _|exact LeO.refl _|exact LeO.none _|refine LeO.ite ?_ ?_|refine LeO.bind ?_ (fun _ => ?_))|exact LeO.none _|refine LeO.ite ?_ ?_|refine LeO.bind ?_ (fun _ => ?_)
  ·intro y0 y1 y2 y3 y4 y5 y6 y7 y8 y9 y10 y11
   unfold spec_l11Up.j1
   repeat' first|(with_reducible first|exact ih0 _ _ _ _ _ _ _ _|exact ih1 _ _ _ _ _ _ _ _ _ _ _ _|exact LeO.refl _|exact LeO.none _|refine LeO.ite ?_ ?_|refine LeO.bind ?_ (fun _ => ?_))|exact LeO.none _|refine LeO.ite ?_ ?_|refine LeO.bind ?_ (fun _ => ?_)
theorem spec_l11Up.mono : ∀ a0 a1 a2 a3 k, LeO (spec_l11Up.f k a0 a1 a2 a3) (spec_l11Up.f (k + 1) a0 a1 a2 a3) := by
 intro a0 a1 a2 a3 k
 obtain ⟨ih0, ih1⟩ := spec_l11Up.mono_l k
 unfold spec_l11Up.f
 repeat' first|(with_reducible first|exact ih0 _ _ _ _ _ _ _ _|exact ih1 _ _ _ _ _ _ _ _ _ _ _ _|exact LeO.refl _|exact LeO.none _|refine LeO.ite ?_ ?_|refine LeO.bind ?_ (fun _ => ?_))|exact LeO.none _|refine LeO.ite ?_ ?_|refine LeO.bind ?_ (fun _ => ?_)
set_option maxHeartbeats 8000000 in
set_option maxRecDepth 100000 in
theorem spec_l11Up.calls (k : Nat) (A0 : Option Addr) (c0 : Nat) (l0 : List (S27)) (a1_0 : Int) (a1_1 : Int) (a1_2 : Int) (r1 : Int) (r2 : Int) (r3 : Int) (r4 : Bool) (w : World) (hr0 : Kd.C k27 w A0 l0.length l0) (hc0 : l0.length ≤ c0) (h : spec_l11Up.f k l0 a1_0 a1_1 a1_2 = some (r1, r2, r3, r4)) :
  Calls Try.prog 54 #[.slice A0 l0.length c0, .agg #[.int .i64 a1_0, .int .i64 a1_1, .int .i64 a1_2]] w fun e w' => e = .returned (.tuple #[.agg #[.int .i64 r1, .int .i64 r2, .int .i64 r3], .bool r4]) ∧ Below w.heap.size w w' := by
 have hu27:=Try.underlying27
 have HR0:=mk0 hr0
 have HC0:=mk0 hc0
 clear hr0 hc0
 have HB:=mk0 (Below.refl w.heap.size w)
 have H:(spec_l11Up.l0 k l0 0 a1_0 a1_1 a1_2 0 0 0) = some (r1,r2,r3,r4):=h
 clear h
 have H':=mk0 H
 clear H
 go_enter Try.func54,Try.ntmps54
 go_wp2_with (first|((with_reducible refine gate_dst (N:=3) rfl ?_);refine box_event ?hg (N:=3) ?hd (cs:=#[.int .i64 a1_0,.int .i64 a1_1,.int .i64 a1_2]) (t:=27) ?hr ?_;(case hd=>rfl);(case hg=>rfl);(case hr=>first|(go_simp;done)|(go_simp;rfl));intro gb269 hg w3 hbox hb;have BK269:=mk0 (hbox);have GW269:=mk0 ((by rw [hg];exact (kZ HB.out):w.heap.size ≤ gb269));have GE269:=mk0 ((by rw [hg];exact (kZ HB.out):w.heap.size ≤ gb269));replace HB:=mk0 (kS HB.out hb);clear hb hbox hg)|((with_reducible refine gate_dst (N:=4) rfl ?_);refine box_event ?hg (N:=4) ?hd (cs:=#[.int .i64 0,.int .i64 0,.int .i64 0]) (t:=27) ?hr ?_;(case hd=>rfl);(case hg=>rfl);(case hr=>first|(go_simp;done)|(go_simp;rfl));intro gb270 hg w4 hbox hb;have BK270:=mk0 (hbox);have GW270:=mk0 ((by rw [hg];exact (kZ HB.out):w.heap.size ≤ gb270));have GE270:=mk0 ((by rw [hg];exact (kZ HB.out):w.heap.size ≤ gb270));replace HB:=mk0 (kS HB.out hb);have NB269_270:=mk0 ((by rw [hg];exact Nat.ne_of_lt (kL BK269.out):gb269 ≠ gb270));have NB270_269:=mk0 ((by rw [hg];exact Nat.ne_of_gt (kL BK269.out):gb270 ≠ gb269));replace BK269:=mk0 (kK BK269.out hb);clear hb hbox hg)|((with_reducible refine gate_dst (N:=6) rfl ?_);refine box_event ?hg (N:=6) ?hd (cs:=#[.int .i64 0,.int .i64 0,.int .i64 0]) (t:=27) ?hr ?_;(case hd=>rfl);(case hg=>rfl);(case hr=>first|(go_simp;done)|(go_simp;rfl));intro gb271 hg w5 hbox hb;have BK271:=mk0 (hbox);have GW271:=mk0 ((by rw [hg];exact (kZ HB.out):w.heap.size ≤ gb271));have GE271:=mk0 ((by rw [hg];exact (kZ HB.out):w.heap.size ≤ gb271));replace HB:=mk0 (kS HB.out hb);have NB269_271:=mk0 ((by rw [hg];exact Nat.ne_of_lt (kL BK269.out):gb269 ≠ gb271));have NB271_269:=mk0 ((by rw [hg];exact Nat.ne_of_gt (kL BK269.out):gb271 ≠ gb269));replace BK269:=mk0 (kK BK269.out hb);have NB270_271:=mk0 ((by rw [hg];exact Nat.ne_of_lt (kL BK270.out):gb270 ≠ gb271));have NB271_270:=mk0 ((by rw [hg];exact Nat.ne_of_gt (kL BK270.out):gb271 ≠ gb270));replace BK270:=mk0 (kK BK270.out hb);clear hb hbox hg;have hnb6:=NB271_269.out;have hnc6:=NB269_271.out;have hnb7:=NB271_270.out;have hnc7:=NB270_271.out;obtain⟨hcz8_0,hcz8_1,hcz8_2,hfz8_0,hfz8_1,hfz8_2⟩:=cz3 BK271.out))
 go_loopg [7] k (fun kq v7 w'=>∃ (x7_1:Int) (x272000_1:Int) (x272001_1:Int) (x272002_1:Int),v7 = .int .i64 x7_1 ∧ Aside0 (spec_l11Up.l0 kq l0 x7_1 a1_0 a1_1 a1_2 x272000_1 x272001_1 x272002_1 = some (r1,r2,r3,r4)) ∧ Aside0 (kq ≤ k) ∧ Aside0 (w'.heap[gb269]? = some (.cells #[.int .i64 a1_0,.int .i64 a1_1,.int .i64 a1_2] 27 (0,0))) ∧ Aside0 (w'.heap[gb270]? = some (.cells #[.int .i64 0,.int .i64 0,.int .i64 0] 27 (0,0))) ∧ Aside0 (w'.heap[gb271]? = some (.cells #[.int .i64 x272000_1,.int .i64 x272001_1,.int .i64 x272002_1] 27 (0,0))) ∧ Aside0 (Below w.heap.size w w'))
 case atStart=>exact⟨(0),(0),(0),(0),(by first|rfl|(simp;done)|(simp [*];done)),H',⟨Nat.le_refl _⟩,⟨by (with_reducible repeat (first|apply nB|apply dB|apply aB));refine blk_far ?_ NB269_271.out _;(with_reducible repeat (first|apply nB|apply dB|apply aB));refine blk_far ?_ NB269_271.out _;(with_reducible repeat (first|apply nB|apply dB|apply aB));refine blk_far ?_ NB269_271.out _;(with_reducible repeat (first|apply nB|apply dB|apply aB));exact BK269.out⟩,⟨by (with_reducible repeat (first|apply nB|apply dB|apply aB));refine blk_far ?_ NB270_271.out _;(with_reducible repeat (first|apply nB|apply dB|apply aB));refine blk_far ?_ NB270_271.out _;(with_reducible repeat (first|apply nB|apply dB|apply aB));refine blk_far ?_ NB270_271.out _;(with_reducible repeat (first|apply nB|apply dB|apply aB));exact BK270.out⟩,⟨by (with_reducible repeat (first|apply nB|apply dB|apply aB));refine blk_put (cs:=#[.int .i64 0,.int .i64 0,.int .i64 0]) ?_ 2 _ rfl;(with_reducible repeat (first|apply nB|apply dB|apply aB));refine blk_put (cs:=#[.int .i64 0,.int .i64 0,.int .i64 0]) ?_ 1 _ rfl;(with_reducible repeat (first|apply nB|apply dB|apply aB));refine blk_put (cs:=#[.int .i64 0,.int .i64 0,.int .i64 0]) ?_ 0 _ rfl;(with_reducible repeat (first|apply nB|apply dB|apply aB));exact BK271.out⟩,⟨kB HB.out⟩⟩
 case round =>
  clear H'
  try clear p2
  try clear c5
  try clear c6
  try clear c7
  try clear hcz8_0
  try clear hcz8_1
  try clear hcz8_2
  try clear hfz8_0
  try clear hfz8_1
  try clear hfz8_2
  obtain⟨x7_1,x272000_1,x272001_1,x272002_1,rfl,HA,HK1,BK269,BK270,BK271,HB⟩:=hrel
  cases gk with
  | zero=>exact absurd HA.out (by simp [spec_l11Up.l0])
  | succ k1 =>
   have H:=HA.out
   clear HA
   simp only [spec_l11Up.l0] at H
   by_cases c9:x7_1 < (l0.length:Int)
   rotate_left
   ·rw [if_neg c9] at H
    have c9b0:decide (x7_1 < (l0.length:Int)) = false:=decide_eq_false c9
    clear c9
    simp only [Option.some.injEq,Prod.mk.injEq] at H
    obtain⟨rfl,rfl,rfl,rfl⟩:=H
    try go_wp2
    replace BK269:=mk0 (dB BK269.out)
    replace BK270:=mk0 (dB BK270.out)
    replace BK271:=mk0 (dB BK271.out)
    replace HB:=mk0 (dZ HB.out)
    refine start_ (n:=6) (S:=fun w'=>w'.cell? ⟨gb271,0,none⟩ = some (.int .i64 x272000_1) ∧ w'.cell? ⟨gb271,1,none⟩ = some (.int .i64 x272001_1) ∧ w'.cell? ⟨gb271,2,none⟩ = some (.int .i64 x272002_1)) (ds:=[]) #[false,false,false,false,false,false] (by kernel_rfl) rfl rfl (ck3 BK271.out) (fun hHeld=>?_)
    generalize wr.drew = w68 at BK269 BK270 BK271 HB hHeld ⊢
    refine pure_ (i:=1) (N:=some 57) (v:=?_) (a':=?_) #[false,true,false,false,false,false] rfl rfl (by kernel_rfl) (fun _ _ _ h=>h) (Or.inl ⟨by rfl,?_⟩) ?_ ?_
    rotate_left
    ·intro w'
     go_simp
     with_reducible rfl
    rotate_left
    ·simp only [Act.put,sA,sO,sS,i64_w,i32_w]
     rfl
    refine take_ (i:=0) (N:=some 56) (v:=?_) (a':=?_) #[true,true,false,false,false,false] rfl rfl (by kernel_rfl) (fun _ _ _ h=>h) (Or.inl ⟨by rfl,?_⟩) hHeld ?_ ?_
    rotate_left
    ·rintro w' ⟨s0,s1,s2⟩
     go_simp
     with_reducible rfl
    rotate_left
    ·simp only [Act.put,sA,sO,sS,i64_w,i32_w]
     rfl
    refine take_ (i:=2) (N:=some 58) (v:=?_) (a':=?_) #[true,true,true,false,false,false] rfl rfl (by kernel_rfl) (fun _ _ _ h=>h) (Or.inl ⟨by rfl,?_⟩) hHeld ?_ ?_
    rotate_left
    ·rintro w' ⟨s0,s1,s2⟩
     go_simp
     with_reducible rfl
    rotate_left
    ·simp only [Act.put,sA,sO,sS,i64_w,i32_w]
     rfl
    refine pure_ (i:=3) (N:=some 59) (v:=?_) (a':=?_) #[true,true,true,true,false,false] rfl rfl (by kernel_rfl) (fun _ _ _ h=>h) (Or.inl ⟨by rfl,?_⟩) ?_ ?_
    rotate_left
    ·intro w'
     go_simp
     with_reducible rfl
    rotate_left
    ·simp only [Act.put,sA,sO,sS,i64_w,i32_w]
     rfl
    refine one_ (i:=4) (N:=none) #[true,true,true,true,true,false] rfl rfl (by kernel_rfl) (by decide) (fun K hK=>?_)
    have hs69:w68.cell? ⟨gb270,0,none⟩ = some (.int .i64 0):=(blk_cell BK270.out 0).trans rfl
    have hfs69:=blk_frozen BK270.out 0
    have hns69_0:=NB269_270.out
    have hns69_2:=NB271_270.out
    have hms69_0:=NB270_269.out
    have hms69_2:=NB270_271.out
    have hs70:w68.cell? ⟨gb270,1,none⟩ = some (.int .i64 0):=(blk_cell BK270.out 1).trans rfl
    have hfs70:=blk_frozen BK270.out 1
    have hns70_0:=NB269_270.out
    have hns70_2:=NB271_270.out
    have hms70_0:=NB270_269.out
    have hms70_2:=NB270_271.out
    have hs71:w68.cell? ⟨gb270,2,none⟩ = some (.int .i64 0):=(blk_cell BK270.out 2).trans rfl
    have hfs71:=blk_frozen BK270.out 2
    have hns71_0:=NB269_270.out
    have hns71_2:=NB271_270.out
    have hms71_0:=NB270_269.out
    have hms71_2:=NB270_271.out
    refine skip_ (w1:=?_) (by rfl) rfl ?_ ?_
    rotate_left
    ·go_simp
     rfl
    refine hK.out _ _ ⟨((cell_far (p:=⟨gb270,_,none⟩) NB271_270.out _).trans (((cell_far (p:=⟨gb270,_,none⟩) NB271_270.out _).trans (((cell_far (p:=⟨gb270,_,none⟩) NB271_270.out _).trans (hHeld.1)))))),((cell_far (p:=⟨gb270,_,none⟩) NB271_270.out _).trans (((cell_far (p:=⟨gb270,_,none⟩) NB271_270.out _).trans (((cell_far (p:=⟨gb270,_,none⟩) NB271_270.out _).trans (hHeld.2.1)))))),((cell_far (p:=⟨gb270,_,none⟩) NB271_270.out _).trans (((cell_far (p:=⟨gb270,_,none⟩) NB271_270.out _).trans (((cell_far (p:=⟨gb270,_,none⟩) NB271_270.out _).trans (hHeld.2.2))))))⟩ (fun hHeld=>?_)
    clear hK K
    refine pure_ (i:=5) (N:=some 5) (v:=?_) (a':=?_) #[true,true,true,true,true,true] rfl rfl (by kernel_rfl) (fun _ _ _ h=>h) (Or.inl ⟨by rfl,?_⟩) ?_ ?_
    rotate_left
    ·intro w'
     go_simp
     with_reducible rfl
    rotate_left
    ·simp only [Act.put,sA,sO,sS,i64_w,i32_w]
     rfl
    refine done_ (by kernel_rfl) ?_
    try go_wp2
    refine bodyPost_ret (results_ct rfl _ _ gb270 27 #[.int .i64 x272000_1,.int .i64 x272001_1,.int .i64 x272002_1] (0,0) _ rfl (by (with_reducible repeat (first|apply nB|apply dB|apply aB));refine blk_put (cs:=#[.int .i64 x272000_1,.int .i64 x272001_1,.int .i64 0]) ?_ 2 _ rfl;(with_reducible repeat (first|apply nB|apply dB|apply aB));refine blk_put (cs:=#[.int .i64 x272000_1,.int .i64 0,.int .i64 0]) ?_ 1 _ rfl;(with_reducible repeat (first|apply nB|apply dB|apply aB));refine blk_put (cs:=#[.int .i64 0,.int .i64 0,.int .i64 0]) ?_ 0 _ rfl;(with_reducible repeat (first|apply nB|apply dB|apply aB));exact BK270.out) Try.underlying27 rfl (by kernel_rfl)) rfl ?_
    exact⟨by first|rfl|(simp [errW_none,errW_some] <;> rfl)|(simp [*,errW_none,errW_some] <;> rfl),kB HB.out⟩

   rw [if_pos c9] at H
   have c9b0:decide (x7_1 < (l0.length:Int)) = true:=decide_eq_true c9
   clear c9
   by_cases c10:0 ≤ x7_1
   rotate_left
   ·rw [if_neg c10] at H
    exact absurd H (by simp)
   rw [if_pos c10] at H
   have c10b0:decide (0 ≤ x7_1) = true:=decide_eq_true c10
   clear c10
   have HC11:=mk0 H
   clear H
   have p272:0 ≤ (x7_1:Int):=of_decide_eq_true (by first|(with_reducible assumption)|assumption)
   have q272:x7_1 < (l0.length:Int):=of_decide_eq_true (by first|(with_reducible assumption)|assumption)
   obtain⟨ad272,e272,hx272_0,hx272_1,hx272_2⟩:=at_T27 HR0.out x7_1 p272 q272
   cases e272
   replace hx272_0:=(HB.out.cell (World.block_lt_of_cell? w _ hx272_0)).trans hx272_0
   replace hx272_1:=(HB.out.cell (World.block_lt_of_cell? w _ hx272_1)).trans hx272_1
   replace hx272_2:=(HB.out.cell (World.block_lt_of_cell? w _ hx272_2)).trans hx272_2
   replace p272:=eq_true p272
   replace q272:=eq_true q272
   go_upto_region 6 with (first|((with_reducible refine gate_dst (N:=8) rfl ?_);refine box_event ?hg (N:=8) ?hd (cs:=#[.int .i64 0,.int .i64 0,.int .i64 0]) (t:=27) ?hr ?_;(case hd=>rfl);(case hg=>rfl);(case hr=>first|(go_simp;done)|(go_simp;rfl));intro gb273 hg w12 hbox hb;have BK273:=mk0 (hbox);have GW273:=mk0 ((by rw [hg];exact (kZ HB.out):w.heap.size ≤ gb273));have GE273:=mk0 ((by rw [hg];exact (kZ HB.out):w.heap.size ≤ gb273));replace HB:=mk0 (kS HB.out hb);have NB269_273:=mk0 ((by rw [hg];exact Nat.ne_of_lt (kL BK269.out):gb269 ≠ gb273));have NB273_269:=mk0 ((by rw [hg];exact Nat.ne_of_gt (kL BK269.out):gb273 ≠ gb269));replace BK269:=mk0 (kK BK269.out hb);have NB270_273:=mk0 ((by rw [hg];exact Nat.ne_of_lt (kL BK270.out):gb270 ≠ gb273));have NB273_270:=mk0 ((by rw [hg];exact Nat.ne_of_gt (kL BK270.out):gb273 ≠ gb270));replace BK270:=mk0 (kK BK270.out hb);have NB271_273:=mk0 ((by rw [hg];exact Nat.ne_of_lt (kL BK271.out):gb271 ≠ gb273));have NB273_271:=mk0 ((by rw [hg];exact Nat.ne_of_gt (kL BK271.out):gb273 ≠ gb271));replace BK271:=mk0 (kK BK271.out hb);clear hb hbox hg;have hnb13:=NB273_269.out;have hnc13:=NB269_273.out;have hnb14:=NB273_270.out;have hnc14:=NB270_273.out;have hnb15:=NB273_271.out;have hnc15:=NB271_273.out;obtain⟨hcz16_0,hcz16_1,hcz16_2,hfz16_0,hfz16_1,hfz16_2⟩:=cz3 BK273.out))
   (try simp only [Act.put,sA,sO,sS])
   go_cut [54] (fun v54 wc=>∃ (kq:Nat) (x54_10:Bool),v54 = .bool x54_10 ∧ Aside0 (spec_l11Up.j1 kq l0 x7_1 x54_10 a1_0 a1_1 a1_2 x272000_1 x272001_1 x272002_1 ((rd_T27 l0 x7_1).f0) ((rd_T27 l0 x7_1).f1) ((rd_T27 l0 x7_1).f2) = some (r1,r2,r3,r4)) ∧ Aside0 (kq ≤ k1) ∧ Aside0 (wc.heap[gb269]? = some (.cells #[.int .i64 a1_0,.int .i64 a1_1,.int .i64 a1_2] 27 (0,0))) ∧ Aside0 (wc.heap[gb270]? = some (.cells #[.int .i64 0,.int .i64 0,.int .i64 0] 27 (0,0))) ∧ Aside0 (wc.heap[gb271]? = some (.cells #[.int .i64 x272000_1,.int .i64 x272001_1,.int .i64 x272002_1] 27 (0,0))) ∧ Aside0 (wc.heap[gb273]? = some (.cells #[.int .i64 ((rd_T27 l0 x7_1).f0),.int .i64 ((rd_T27 l0 x7_1).f1),.int .i64 ((rd_T27 l0 x7_1).f2)] 27 (0,0))) ∧ Aside0 (Below w.heap.size w wc))
   case first =>
    have H:=HC11.out
    clear HC11
    by_cases c17:(!(((rd_T27 l0 x7_1).f0) == a1_0) || (!(((rd_T27 l0 x7_1).f1) == a1_1) || (!(((rd_T27 l0 x7_1).f2) == a1_2)))) = true
    rotate_left
    ·rw [if_neg c17] at H
     have c17b0:(!(((rd_T27 l0 x7_1).f0) == a1_0) || (!(((rd_T27 l0 x7_1).f1) == a1_1) || (!(((rd_T27 l0 x7_1).f2) == a1_2)))) = false:=by simpa using c17
     clear c17
     (first|rw [c17b0]|(simp only [i64_w,i32_w];rw [c17b0])|skip)
     have H':=mk0 H
     clear H
     have hnb53:=NB273_269.out
     have hnc53:=NB269_273.out
     have hnb54:=NB273_270.out
     have hnc54:=NB270_273.out
     have hnb55:=NB273_271.out
     have hnc55:=NB271_273.out
     obtain⟨hcz56_0,hcz56_1,hcz56_2,hfz56_0,hfz56_1,hfz56_2⟩:=cz3 BK273.out
     have hnb57:=NB269_270.out
     have hnc57:=NB270_269.out
     have hnb58:=NB269_271.out
     have hnc58:=NB271_269.out
     obtain⟨hcz59_0,hcz59_1,hcz59_2,hfz59_0,hfz59_1,hfz59_2⟩:=cz3 BK269.out
     go_wp2
     go_meet
     case rel=>exact⟨_,(false),(by first|rfl|(simp;done)|(simp [*];done)),H',⟨by have:=HK1.out;first|omega|exact Nat.le_refl _⟩,⟨by (with_reducible repeat (first|apply nB|apply dB|apply aB));refine blk_far ?_ NB269_273.out _;(with_reducible repeat (first|apply nB|apply dB|apply aB));refine blk_far ?_ NB269_273.out _;(with_reducible repeat (first|apply nB|apply dB|apply aB));refine blk_far ?_ NB269_273.out _;(with_reducible repeat (first|apply nB|apply dB|apply aB));exact BK269.out⟩,⟨by (with_reducible repeat (first|apply nB|apply dB|apply aB));refine blk_far ?_ NB270_273.out _;(with_reducible repeat (first|apply nB|apply dB|apply aB));refine blk_far ?_ NB270_273.out _;(with_reducible repeat (first|apply nB|apply dB|apply aB));refine blk_far ?_ NB270_273.out _;(with_reducible repeat (first|apply nB|apply dB|apply aB));exact BK270.out⟩,⟨by (with_reducible repeat (first|apply nB|apply dB|apply aB));refine blk_far ?_ NB271_273.out _;(with_reducible repeat (first|apply nB|apply dB|apply aB));refine blk_far ?_ NB271_273.out _;(with_reducible repeat (first|apply nB|apply dB|apply aB));refine blk_far ?_ NB271_273.out _;(with_reducible repeat (first|apply nB|apply dB|apply aB));exact BK271.out⟩,⟨by (with_reducible repeat (first|apply nB|apply dB|apply aB));refine blk_put (cs:=#[.int .i64 ((rd_T27 l0 x7_1).f0),.int .i64 ((rd_T27 l0 x7_1).f1),.int .i64 0]) ?_ 2 _ rfl;(with_reducible repeat (first|apply nB|apply dB|apply aB));refine blk_put (cs:=#[.int .i64 ((rd_T27 l0 x7_1).f0),.int .i64 0,.int .i64 0]) ?_ 1 _ rfl;(with_reducible repeat (first|apply nB|apply dB|apply aB));refine blk_put (cs:=#[.int .i64 0,.int .i64 0,.int .i64 0]) ?_ 0 _ rfl;(with_reducible repeat (first|apply nB|apply dB|apply aB));exact BK273.out⟩,⟨kB HB.out⟩⟩
    rw [if_pos c17] at H
    have c17b0:(!(((rd_T27 l0 x7_1).f0) == a1_0) || (!(((rd_T27 l0 x7_1).f1) == a1_1) || (!(((rd_T27 l0 x7_1).f2) == a1_2)))) = true:=c17
    clear c17
    (first|rw [c17b0]|(simp only [i64_w,i32_w];rw [c17b0])|skip)
    by_cases c18:((rd_T27 l0 x7_1).f0) ≤ a1_0
    rotate_left
    ·rw [if_neg c18] at H
     have c18b0:decide (((rd_T27 l0 x7_1).f0) ≤ a1_0) = false:=decide_eq_false c18
     clear c18
     have H':=mk0 H
     clear H
     have hnb46:=NB273_269.out
     have hnc46:=NB269_273.out
     have hnb47:=NB273_270.out
     have hnc47:=NB270_273.out
     have hnb48:=NB273_271.out
     have hnc48:=NB271_273.out
     obtain⟨hcz49_0,hcz49_1,hcz49_2,hfz49_0,hfz49_1,hfz49_2⟩:=cz3 BK273.out
     have hnb50:=NB269_270.out
     have hnc50:=NB270_269.out
     have hnb51:=NB269_271.out
     have hnc51:=NB271_269.out
     obtain⟨hcz52_0,hcz52_1,hcz52_2,hfz52_0,hfz52_1,hfz52_2⟩:=cz3 BK269.out
     go_wp2
     go_meet
     case rel=>exact⟨_,(false),(by first|rfl|(simp;done)|(simp [*];done)),H',⟨by have:=HK1.out;first|omega|exact Nat.le_refl _⟩,⟨by (with_reducible repeat (first|apply nB|apply dB|apply aB));refine blk_far ?_ NB269_273.out _;(with_reducible repeat (first|apply nB|apply dB|apply aB));refine blk_far ?_ NB269_273.out _;(with_reducible repeat (first|apply nB|apply dB|apply aB));refine blk_far ?_ NB269_273.out _;(with_reducible repeat (first|apply nB|apply dB|apply aB));exact BK269.out⟩,⟨by (with_reducible repeat (first|apply nB|apply dB|apply aB));refine blk_far ?_ NB270_273.out _;(with_reducible repeat (first|apply nB|apply dB|apply aB));refine blk_far ?_ NB270_273.out _;(with_reducible repeat (first|apply nB|apply dB|apply aB));refine blk_far ?_ NB270_273.out _;(with_reducible repeat (first|apply nB|apply dB|apply aB));exact BK270.out⟩,⟨by (with_reducible repeat (first|apply nB|apply dB|apply aB));refine blk_far ?_ NB271_273.out _;(with_reducible repeat (first|apply nB|apply dB|apply aB));refine blk_far ?_ NB271_273.out _;(with_reducible repeat (first|apply nB|apply dB|apply aB));refine blk_far ?_ NB271_273.out _;(with_reducible repeat (first|apply nB|apply dB|apply aB));exact BK271.out⟩,⟨by (with_reducible repeat (first|apply nB|apply dB|apply aB));refine blk_put (cs:=#[.int .i64 ((rd_T27 l0 x7_1).f0),.int .i64 ((rd_T27 l0 x7_1).f1),.int .i64 0]) ?_ 2 _ rfl;(with_reducible repeat (first|apply nB|apply dB|apply aB));refine blk_put (cs:=#[.int .i64 ((rd_T27 l0 x7_1).f0),.int .i64 0,.int .i64 0]) ?_ 1 _ rfl;(with_reducible repeat (first|apply nB|apply dB|apply aB));refine blk_put (cs:=#[.int .i64 0,.int .i64 0,.int .i64 0]) ?_ 0 _ rfl;(with_reducible repeat (first|apply nB|apply dB|apply aB));exact BK273.out⟩,⟨kB HB.out⟩⟩
    rw [if_pos c18] at H
    have c18b0:decide (((rd_T27 l0 x7_1).f0) ≤ a1_0) = true:=decide_eq_true c18
    clear c18
    by_cases c19:((rd_T27 l0 x7_1).f1) ≥ a1_1
    rotate_left
    ·rw [if_neg c19] at H
     have c19b0:decide (a1_1 ≤ ((rd_T27 l0 x7_1).f1)) = false:=decide_eq_false c19
     clear c19
     have H':=mk0 H
     clear H
     have hnb39:=NB273_269.out
     have hnc39:=NB269_273.out
     have hnb40:=NB273_270.out
     have hnc40:=NB270_273.out
     have hnb41:=NB273_271.out
     have hnc41:=NB271_273.out
     obtain⟨hcz42_0,hcz42_1,hcz42_2,hfz42_0,hfz42_1,hfz42_2⟩:=cz3 BK273.out
     have hnb43:=NB269_270.out
     have hnc43:=NB270_269.out
     have hnb44:=NB269_271.out
     have hnc44:=NB271_269.out
     obtain⟨hcz45_0,hcz45_1,hcz45_2,hfz45_0,hfz45_1,hfz45_2⟩:=cz3 BK269.out
     go_wp2
     go_meet
     case rel=>exact⟨_,(false),(by first|rfl|(simp;done)|(simp [*];done)),H',⟨by have:=HK1.out;first|omega|exact Nat.le_refl _⟩,⟨by (with_reducible repeat (first|apply nB|apply dB|apply aB));refine blk_far ?_ NB269_273.out _;(with_reducible repeat (first|apply nB|apply dB|apply aB));refine blk_far ?_ NB269_273.out _;(with_reducible repeat (first|apply nB|apply dB|apply aB));refine blk_far ?_ NB269_273.out _;(with_reducible repeat (first|apply nB|apply dB|apply aB));exact BK269.out⟩,⟨by (with_reducible repeat (first|apply nB|apply dB|apply aB));refine blk_far ?_ NB270_273.out _;(with_reducible repeat (first|apply nB|apply dB|apply aB));refine blk_far ?_ NB270_273.out _;(with_reducible repeat (first|apply nB|apply dB|apply aB));refine blk_far ?_ NB270_273.out _;(with_reducible repeat (first|apply nB|apply dB|apply aB));exact BK270.out⟩,⟨by (with_reducible repeat (first|apply nB|apply dB|apply aB));refine blk_far ?_ NB271_273.out _;(with_reducible repeat (first|apply nB|apply dB|apply aB));refine blk_far ?_ NB271_273.out _;(with_reducible repeat (first|apply nB|apply dB|apply aB));refine blk_far ?_ NB271_273.out _;(with_reducible repeat (first|apply nB|apply dB|apply aB));exact BK271.out⟩,⟨by (with_reducible repeat (first|apply nB|apply dB|apply aB));refine blk_put (cs:=#[.int .i64 ((rd_T27 l0 x7_1).f0),.int .i64 ((rd_T27 l0 x7_1).f1),.int .i64 0]) ?_ 2 _ rfl;(with_reducible repeat (first|apply nB|apply dB|apply aB));refine blk_put (cs:=#[.int .i64 ((rd_T27 l0 x7_1).f0),.int .i64 0,.int .i64 0]) ?_ 1 _ rfl;(with_reducible repeat (first|apply nB|apply dB|apply aB));refine blk_put (cs:=#[.int .i64 0,.int .i64 0,.int .i64 0]) ?_ 0 _ rfl;(with_reducible repeat (first|apply nB|apply dB|apply aB));exact BK273.out⟩,⟨kB HB.out⟩⟩
    rw [if_pos c19] at H
    have c19b0:decide (a1_1 ≤ ((rd_T27 l0 x7_1).f1)) = true:=decide_eq_true c19
    clear c19
    by_cases c20:x272001_1 = 0
    ·rw [if_pos c20] at H
     have c20b0:(x272001_1 == 0) = true:=beq_iff_eq.mpr c20
     have c20b1:(x272001_1 != 0) = false:=bne_eq_false_iff_eq.mpr c20
     clear c20
     have H':=mk0 H
     clear H
     have hnb21:=NB273_269.out
     have hnc21:=NB269_273.out
     have hnb22:=NB273_270.out
     have hnc22:=NB270_273.out
     have hnb23:=NB273_271.out
     have hnc23:=NB271_273.out
     obtain⟨hcz24_0,hcz24_1,hcz24_2,hfz24_0,hfz24_1,hfz24_2⟩:=cz3 BK273.out
     have hnb25:=NB269_270.out
     have hnc25:=NB270_269.out
     have hnb26:=NB269_271.out
     have hnc26:=NB271_269.out
     obtain⟨hcz27_0,hcz27_1,hcz27_2,hfz27_0,hfz27_1,hfz27_2⟩:=cz3 BK269.out
     have hnb28:=NB271_270.out
     have hnc28:=NB270_271.out
     obtain⟨hcz29_0,hcz29_1,hcz29_2,hfz29_0,hfz29_1,hfz29_2⟩:=cz3 BK271.out
     go_wp2
     go_meet
     case rel=>exact⟨_,(true),(by first|rfl|(simp;done)|(simp [*];done)),H',⟨by have:=HK1.out;first|omega|exact Nat.le_refl _⟩,⟨by (with_reducible repeat (first|apply nB|apply dB|apply aB));refine blk_far ?_ NB269_273.out _;(with_reducible repeat (first|apply nB|apply dB|apply aB));refine blk_far ?_ NB269_273.out _;(with_reducible repeat (first|apply nB|apply dB|apply aB));refine blk_far ?_ NB269_273.out _;(with_reducible repeat (first|apply nB|apply dB|apply aB));exact BK269.out⟩,⟨by (with_reducible repeat (first|apply nB|apply dB|apply aB));refine blk_far ?_ NB270_273.out _;(with_reducible repeat (first|apply nB|apply dB|apply aB));refine blk_far ?_ NB270_273.out _;(with_reducible repeat (first|apply nB|apply dB|apply aB));refine blk_far ?_ NB270_273.out _;(with_reducible repeat (first|apply nB|apply dB|apply aB));exact BK270.out⟩,⟨by (with_reducible repeat (first|apply nB|apply dB|apply aB));refine blk_far ?_ NB271_273.out _;(with_reducible repeat (first|apply nB|apply dB|apply aB));refine blk_far ?_ NB271_273.out _;(with_reducible repeat (first|apply nB|apply dB|apply aB));refine blk_far ?_ NB271_273.out _;(with_reducible repeat (first|apply nB|apply dB|apply aB));exact BK271.out⟩,⟨by (with_reducible repeat (first|apply nB|apply dB|apply aB));refine blk_put (cs:=#[.int .i64 ((rd_T27 l0 x7_1).f0),.int .i64 ((rd_T27 l0 x7_1).f1),.int .i64 0]) ?_ 2 _ rfl;(with_reducible repeat (first|apply nB|apply dB|apply aB));refine blk_put (cs:=#[.int .i64 ((rd_T27 l0 x7_1).f0),.int .i64 0,.int .i64 0]) ?_ 1 _ rfl;(with_reducible repeat (first|apply nB|apply dB|apply aB));refine blk_put (cs:=#[.int .i64 0,.int .i64 0,.int .i64 0]) ?_ 0 _ rfl;(with_reducible repeat (first|apply nB|apply dB|apply aB));exact BK273.out⟩,⟨kB HB.out⟩⟩
    rw [if_neg c20] at H
    have c20b0:(x272001_1 == 0) = false:=beq_eq_false_iff_ne.mpr c20
    have c20b1:(x272001_1 != 0) = true:=bne_iff_ne.mpr c20
    have H':=mk0 H
    clear H
    have hnb30:=NB273_269.out
    have hnc30:=NB269_273.out
    have hnb31:=NB273_270.out
    have hnc31:=NB270_273.out
    have hnb32:=NB273_271.out
    have hnc32:=NB271_273.out
    obtain⟨hcz33_0,hcz33_1,hcz33_2,hfz33_0,hfz33_1,hfz33_2⟩:=cz3 BK273.out
    have hnb34:=NB269_270.out
    have hnc34:=NB270_269.out
    have hnb35:=NB269_271.out
    have hnc35:=NB271_269.out
    obtain⟨hcz36_0,hcz36_1,hcz36_2,hfz36_0,hfz36_1,hfz36_2⟩:=cz3 BK269.out
    have hnb37:=NB271_270.out
    have hnc37:=NB270_271.out
    obtain⟨hcz38_0,hcz38_1,hcz38_2,hfz38_0,hfz38_1,hfz38_2⟩:=cz3 BK271.out
    go_wp2
    go_meet
    case rel=>exact⟨_,(decide ((wrap64 (((rd_T27 l0 x7_1).f1) - ((rd_T27 l0 x7_1).f0))) < (wrap64 (x272001_1 - x272000_1)))),(by first|rfl|(simp;done)|(simp [*];done)),H',⟨by have:=HK1.out;first|omega|exact Nat.le_refl _⟩,⟨by (with_reducible repeat (first|apply nB|apply dB|apply aB));refine blk_far ?_ NB269_273.out _;(with_reducible repeat (first|apply nB|apply dB|apply aB));refine blk_far ?_ NB269_273.out _;(with_reducible repeat (first|apply nB|apply dB|apply aB));refine blk_far ?_ NB269_273.out _;(with_reducible repeat (first|apply nB|apply dB|apply aB));exact BK269.out⟩,⟨by (with_reducible repeat (first|apply nB|apply dB|apply aB));refine blk_far ?_ NB270_273.out _;(with_reducible repeat (first|apply nB|apply dB|apply aB));refine blk_far ?_ NB270_273.out _;(with_reducible repeat (first|apply nB|apply dB|apply aB));refine blk_far ?_ NB270_273.out _;(with_reducible repeat (first|apply nB|apply dB|apply aB));exact BK270.out⟩,⟨by (with_reducible repeat (first|apply nB|apply dB|apply aB));refine blk_far ?_ NB271_273.out _;(with_reducible repeat (first|apply nB|apply dB|apply aB));refine blk_far ?_ NB271_273.out _;(with_reducible repeat (first|apply nB|apply dB|apply aB));refine blk_far ?_ NB271_273.out _;(with_reducible repeat (first|apply nB|apply dB|apply aB));exact BK271.out⟩,⟨by (with_reducible repeat (first|apply nB|apply dB|apply aB));refine blk_put (cs:=#[.int .i64 ((rd_T27 l0 x7_1).f0),.int .i64 ((rd_T27 l0 x7_1).f1),.int .i64 0]) ?_ 2 _ rfl;(with_reducible repeat (first|apply nB|apply dB|apply aB));refine blk_put (cs:=#[.int .i64 ((rd_T27 l0 x7_1).f0),.int .i64 0,.int .i64 0]) ?_ 1 _ rfl;(with_reducible repeat (first|apply nB|apply dB|apply aB));refine blk_put (cs:=#[.int .i64 0,.int .i64 0,.int .i64 0]) ?_ 0 _ rfl;(with_reducible repeat (first|apply nB|apply dB|apply aB));exact BK273.out⟩,⟨kB HB.out⟩⟩
   case rest =>
    clear HC11
    try clear c1
    try clear c2
    try clear p2
    try clear q2
    try clear hx2
    try clear c3
    try clear c4
    try clear c5
    try clear c6
    try clear p6
    try clear c7
    try clear c9
    try clear c9b0
    try clear c10
    try clear c10b0
    try clear c13
    try clear c14
    try clear c15
    try clear c17
    try clear c17b0
    try clear c18
    try clear c18b0
    try clear c19
    try clear c19b0
    try clear c20
    try clear c20b0
    try clear c20b1
    try clear c21
    try clear c22
    try clear c23
    try clear c25
    try clear c26
    try clear p27
    try clear q27
    try clear hx27
    try clear c28
    try clear c30
    try clear c31
    try clear c32
    try clear c34
    try clear c35
    try clear c37
    try clear c39
    try clear c40
    try clear c41
    try clear c43
    try clear c44
    try clear c46
    try clear c47
    try clear c48
    try clear c50
    try clear c51
    try clear c53
    try clear c54
    try clear c55
    try clear c57
    try clear c58
    try clear hcz16_0
    try clear hcz16_1
    try clear hcz16_2
    try clear hcz24_0
    try clear hcz24_1
    try clear hcz24_2
    try clear hcz27_0
    try clear hcz27_1
    try clear hcz27_2
    try clear hcz29_0
    try clear hcz29_1
    try clear hcz29_2
    try clear hcz33_0
    try clear hcz33_1
    try clear hcz33_2
    try clear hcz36_0
    try clear hcz36_1
    try clear hcz36_2
    try clear hcz38_0
    try clear hcz38_1
    try clear hcz38_2
    try clear hcz42_0
    try clear hcz42_1
    try clear hcz42_2
    try clear hcz45_0
    try clear hcz45_1
    try clear hcz45_2
    try clear hcz49_0
    try clear hcz49_1
    try clear hcz49_2
    try clear hcz52_0
    try clear hcz52_1
    try clear hcz52_2
    try clear hcz56_0
    try clear hcz56_1
    try clear hcz56_2
    try clear hcz59_0
    try clear hcz59_1
    try clear hcz59_2
    try clear hcz8_0
    try clear hcz8_1
    try clear hcz8_2
    try clear hfz16_0
    try clear hfz16_1
    try clear hfz16_2
    try clear hfz24_0
    try clear hfz24_1
    try clear hfz24_2
    try clear hfz27_0
    try clear hfz27_1
    try clear hfz27_2
    try clear hfz29_0
    try clear hfz29_1
    try clear hfz29_2
    try clear hfz33_0
    try clear hfz33_1
    try clear hfz33_2
    try clear hfz36_0
    try clear hfz36_1
    try clear hfz36_2
    try clear hfz38_0
    try clear hfz38_1
    try clear hfz38_2
    try clear hfz42_0
    try clear hfz42_1
    try clear hfz42_2
    try clear hfz45_0
    try clear hfz45_1
    try clear hfz45_2
    try clear hfz49_0
    try clear hfz49_1
    try clear hfz49_2
    try clear hfz52_0
    try clear hfz52_1
    try clear hfz52_2
    try clear hfz56_0
    try clear hfz56_1
    try clear hfz56_2
    try clear hfz59_0
    try clear hfz59_1
    try clear hfz59_2
    try clear hfz8_0
    try clear hfz8_1
    try clear hfz8_2
    try clear hx272_0
    try clear hx272_1
    try clear hx272_2
    try clear p2
    try clear p272
    try clear q272
    obtain⟨kq,x54_10,rfl,HA,HJ10,BK269,BK270,BK271,BK273,HB⟩:=hcut
    cases kq with
    | zero=>exact absurd HA.out (by simp [spec_l11Up.j1])
    | succ kj10 =>
     have H:=HA.out
     clear HA
     simp only [spec_l11Up.j1] at H
     by_cases c60:x54_10 = true
     rotate_left
     ·replace c60:=Bool.eq_false_iff.mpr c60
      subst c60
      have H1:(spec_l11Up.l0 kj10 l0 (wrap64 (x7_1 + 1)) a1_0 a1_1 a1_2 x272000_1 x272001_1 x272002_1) = some (r1,r2,r3,r4):=by rw [if_neg (show ¬ (false = true) by decide)] at H;exact H
      clear H
      have H:=H1
      clear H1
      have H':=mk0 H
      clear H
      go_wp2
      go_roundg kj10
      case measure=>have:=HK1.out;have:=HJ10.out;omega
      case rel=>exact⟨(wrap64 (x7_1 + 1)),(x272000_1),(x272001_1),(x272002_1),(by first|rfl|(simp;done)|(simp [*];done)),H',⟨by have:=HK1.out;have:=HJ10.out;omega⟩,⟨kN BK269.out⟩,⟨kN BK270.out⟩,⟨kN BK271.out⟩,⟨kB HB.out⟩⟩
     subst c60
     have H1:(spec_l11Up.l0 kj10 l0 (wrap64 (x7_1 + 1)) a1_0 a1_1 a1_2 ((rd_T27 l0 x7_1).f0) ((rd_T27 l0 x7_1).f1) ((rd_T27 l0 x7_1).f2)) = some (r1,r2,r3,r4):=by rw [if_pos rfl] at H;exact H
     clear H
     have H:=H1
     clear H1
     have H':=mk0 H
     clear H
     have hnb61:=NB273_269.out
     have hnc61:=NB269_273.out
     have hnb62:=NB273_270.out
     have hnc62:=NB270_273.out
     have hnb63:=NB273_271.out
     have hnc63:=NB271_273.out
     obtain⟨hcz64_0,hcz64_1,hcz64_2,hfz64_0,hfz64_1,hfz64_2⟩:=cz3 BK273.out
     have hnb65:=NB271_269.out
     have hnc65:=NB269_271.out
     have hnb66:=NB271_270.out
     have hnc66:=NB270_271.out
     obtain⟨hcz67_0,hcz67_1,hcz67_2,hfz67_0,hfz67_1,hfz67_2⟩:=cz3 BK271.out
     go_wp2
     go_roundg kj10
     case measure=>have:=HK1.out;have:=HJ10.out;omega
     case rel=>exact⟨(wrap64 (x7_1 + 1)),(((rd_T27 l0 x7_1).f0)),(((rd_T27 l0 x7_1).f1)),(((rd_T27 l0 x7_1).f2)),(by first|rfl|(simp;done)|(simp [*];done)),H',⟨by have:=HK1.out;have:=HJ10.out;omega⟩,⟨by (with_reducible repeat (first|apply nB|apply dB|apply aB));refine blk_far ?_ NB269_271.out _;(with_reducible repeat (first|apply nB|apply dB|apply aB));refine blk_far ?_ NB269_271.out _;(with_reducible repeat (first|apply nB|apply dB|apply aB));refine blk_far ?_ NB269_271.out _;(with_reducible repeat (first|apply nB|apply dB|apply aB));exact BK269.out⟩,⟨by (with_reducible repeat (first|apply nB|apply dB|apply aB));refine blk_far ?_ NB270_271.out _;(with_reducible repeat (first|apply nB|apply dB|apply aB));refine blk_far ?_ NB270_271.out _;(with_reducible repeat (first|apply nB|apply dB|apply aB));refine blk_far ?_ NB270_271.out _;(with_reducible repeat (first|apply nB|apply dB|apply aB));exact BK270.out⟩,⟨by (with_reducible repeat (first|apply nB|apply dB|apply aB));refine blk_put (cs:=#[.int .i64 ((rd_T27 l0 x7_1).f0),.int .i64 ((rd_T27 l0 x7_1).f1),.int .i64 x272002_1]) ?_ 2 _ rfl;(with_reducible repeat (first|apply nB|apply dB|apply aB));refine blk_put (cs:=#[.int .i64 ((rd_T27 l0 x7_1).f0),.int .i64 x272001_1,.int .i64 x272002_1]) ?_ 1 _ rfl;(with_reducible repeat (first|apply nB|apply dB|apply aB));refine blk_put (cs:=#[.int .i64 x272000_1,.int .i64 x272001_1,.int .i64 x272002_1]) ?_ 0 _ rfl;(with_reducible repeat (first|apply nB|apply dB|apply aB));exact BK271.out⟩,⟨kB HB.out⟩⟩
/-! ### spec_StretchKids: function 32 -/
def spec_StretchKids.l0 : Nat → List (S27) → Int → List (S27) → Int → Int → Int → Option ((List (S27)))
 | 0, _, _, _, _, _, _ => none
 | k + 1, x5, x7, x16, x275000, x275001, x275002 => if x7 < (x16.length : Int) then (if 0 ≤ x7 then ((spec_l11Up.f k x16 ((rd_T27 x16 x7).f0) ((rd_T27 x16 x7).f1) ((rd_T27 x16 x7).f2)).bind fun bt283 => (if bt283.2.2.2 = true then (if (bt283.1 == x275000 && (bt283.2.1 == x275001 && (bt283.2.2.1 == x275002))) = true then (if x5.length < 5864062014805 then (spec_StretchKids.l0 k (x5 ++ [(⟨(rd_T27 x16 x7).f0, (rd_T27 x16 x7).f1, (rd_T27 x16 x7).f2⟩ : S27)]) (wrap64 (x7 + 1)) x16 x275000 x275001 x275002) else (none)) else (spec_StretchKids.l0 k x5 (wrap64 (x7 + 1)) x16 x275000 x275001 x275002)) else (spec_StretchKids.l0 k x5 (wrap64 (x7 + 1)) x16 x275000 x275001 x275002))) else (none)) else (some x5)
def spec_StretchKids.f (k : Nat) (l0 : List Int) (a1_0 : Int) (a1_1 : Int) (a1_2 : Int) : Option ((List (S27))) := (spec_StretchOk.f k l0 a1_0 a1_1 a1_2).bind fun t275 => (if t275 = true then ((spec_StretchAll.f k l0).bind fun t279 => (spec_StretchKids.l0 k (([] : List (S27))) 0 t279 a1_0 a1_1 a1_2)) else (some ([] : List (S27))))
theorem spec_StretchKids.mono_l : ∀ k, (∀ y0 y1 y2 y3 y4 y5, LeO (spec_StretchKids.l0 k y0 y1 y2 y3 y4 y5) (spec_StretchKids.l0 (k + 1) y0 y1 y2 y3 y4 y5))
 | 0 => fun _ _ _ _ _ _ r h => by simp [spec_StretchKids.l0] at h
 | k + 1 => by
  have ih0 := spec_StretchKids.mono_l k
  ·intro y0 y1 y2 y3 y4 y5
   unfold spec_StretchKids.l0
   repeat' first|(with_reducible first|exact ih0 _ _ _ _ _ _|exact spec_StretchAll.mono _ _|exact spec_StretchOk.mono _ _ _ _ _|exact spec_l11Up.mono _ _ _ _ _|exact LeO.refl _|exact LeO.none _|refine LeO.ite ?_ ?_|refine LeO.bind ?_ (fun _ => ?_))|exact LeO.none _|refine LeO.ite ?_ ?_|refine LeO.bind ?_ (fun _ => ?_)
theorem spec_StretchKids.mono : ∀ a0 a1 a2 a3 k, LeO (spec_StretchKids.f k a0 a1 a2 a3) (spec_StretchKids.f (k + 1) a0 a1 a2 a3) := by
 intro a0 a1 a2 a3 k
 have ih0 := spec_StretchKids.mono_l k
 unfold spec_StretchKids.f
 repeat' first|(with_reducible first|exact ih0 _ _ _ _ _ _|exact spec_StretchAll.mono _ _|exact spec_StretchOk.mono _ _ _ _ _|exact spec_l11Up.mono _ _ _ _ _|exact LeO.refl _|exact LeO.none _|refine LeO.ite ?_ ?_|refine LeO.bind ?_ (fun _ => ?_))|exact LeO.none _|refine LeO.ite ?_ ?_|refine LeO.bind ?_ (fun _ => ?_)
set_option maxHeartbeats 8000000 in
set_option maxRecDepth 100000 in
theorem spec_StretchKids.calls (k : Nat) (A0 : Option Addr) (c0 : Nat) (l0 : List Int) (a1_0 : Int) (a1_1 : Int) (a1_2 : Int) (r : List (S27)) (w : World) (hr0 : Kd.C (Kd.int .u8) w A0 l0.length l0) (hc0 : l0.length ≤ c0) (h : spec_StretchKids.f k l0 a1_0 a1_1 a1_2 = some r) :
  Calls Try.prog 32 #[.slice A0 l0.length c0, .agg #[.int .i64 a1_0, .int .i64 a1_1, .int .i64 a1_2]] w fun e w' => ∃ v0_ : Value, e = .returned (v0_) ∧ Kd.R k27 27 w' w.heap.size (fun _ => True) v0_ r ∧ Below w.heap.size w w' := by
 have hu27:=Try.underlying27
 have HR0:=mk0 hr0
 have HC0:=mk0 hc0
 clear hr0 hc0
 have HB:=mk0 (Below.refl w.heap.size w)
 have H:((spec_StretchOk.f k l0 a1_0 a1_1 a1_2).bind fun t275=>(if t275 = true then ((spec_StretchAll.f k l0).bind fun t279=>(spec_StretchKids.l0 k (([]:List (S27))) 0 t279 a1_0 a1_1 a1_2)) else (some ([]:List (S27))))) = some r:=h
 clear h
 replace H:=Option.bind_eq_some_iff.mp H
 obtain⟨t275,A30,H⟩:=H
 replace H:(if t275 = true then ((spec_StretchAll.f k l0).bind fun t279=>(spec_StretchKids.l0 k (([]:List (S27))) 0 t279 a1_0 a1_1 a1_2)) else (some ([]:List (S27)))) = some r:=H
 have A3:=mk0 A30
 clear A30
 by_cases c4:t275 = true
 rotate_left
 ·replace c4:=Bool.eq_false_iff.mpr c4
  subst c4
  have H1:(some ([]:List (S27))) = some r:=by rw [if_neg (show ¬ (false = true) by decide)] at H;exact H
  clear H
  have H:=H1
  clear H1
  obtain rfl:=Option.some.inj H
  go_enter Try.func32,Try.ntmps32
  go_wp2_with (first|((with_reducible refine gate_dst (N:=3) rfl ?_);refine box_event ?hg (N:=3) ?hd (cs:=#[.int .i64 a1_0,.int .i64 a1_1,.int .i64 a1_2]) (t:=27) ?hr ?_;(case hd=>rfl);(case hg=>rfl);(case hr=>first|(go_simp;done)|(go_simp;rfl));intro gb274 hg w37 hbox hb;have BK274:=mk0 (hbox);have GW274:=mk0 ((by rw [hg];exact (kZ HB.out):w.heap.size ≤ gb274));have GE274:=mk0 ((by rw [hg];exact (kZ HB.out):w.heap.size ≤ gb274));replace HB:=mk0 (kS HB.out hb);clear hb hbox hg;obtain⟨hcz38_0,hcz38_1,hcz38_2,hfz38_0,hfz38_1,hfz38_2⟩:=cz3 BK274.out)|((with_reducible refine gate_callee (f:=11) rfl ?_);refine goesL_ (some 12) rfl rfl Try.func11 (by kernel_rfl) rfl #[.slice A0 l0.length c0,.agg #[.int .i64 a1_0,.int .i64 a1_1,.int .i64 a1_2]] rfl (by (try simp only [mA,mC,mN]);first|done|rfl|(simp only [lD,lT];done)|(simp only [lD,lT];rfl)) ?_;(with_reducible refine (spec_StretchOk.calls k _ _ l0 a1_0 a1_1 a1_2 false _ ?side1 ?side2 A3.out).mono ?_);(case side1=>exact kC (Kd.C_below HR0.out HB.out));(case side2=>exact HC0.out);rintro e w39 ⟨rfl,hb⟩;refine⟨_,rfl,?_⟩;replace BK274:=mk0 (kK BK274.out hb);replace HB:=mk0 (kS HB.out hb);(try clear hb)))
  go_ret
  exact⟨_,by first|rfl|(simp [errW_none,errW_some] <;> rfl)|(simp [*,errW_none,errW_some] <;> rfl),by first|exact Kd.R_nil _ _ _ _ _|exact Kd.N_nil _ _ _ _ _|exact Kd.V_nil _ _ _ _ _|exact Kd.Q_nil _ _ _ _ _|exact Kd.S_nil _ _ _ _ _,kB HB.out⟩

 subst c4
 have H1:((spec_StretchAll.f k l0).bind fun t279=>(spec_StretchKids.l0 k (([]:List (S27))) 0 t279 a1_0 a1_1 a1_2)) = some r:=by rw [if_pos rfl] at H;exact H
 clear H
 have H:=H1
 clear H1
 obtain⟨y276,hy276⟩:∃ y_:List (S27),y_ = (([]:List (S27))):=⟨_,rfl⟩
 replace H:((spec_StretchAll.f k l0).bind fun t279=>(spec_StretchKids.l0 k y276 0 t279 a1_0 a1_1 a1_2)) = some r:=by first|(rw [hy276];with_reducible exact H)|(have H2_:=(Option.bind_some _ _).symm.trans H;rw [hy276];with_reducible exact H2_)|(have H2_:=(Option.bind_some _ _).symm.trans H;with_reducible exact H2_)|with_reducible exact H|(rw [hy276];exact H)|exact H
 have Ny276:=mk0 hy276
 clear hy276
 replace H:=Option.bind_eq_some_iff.mp H
 obtain⟨t279,A50,H⟩:=H
 replace H:(spec_StretchKids.l0 k y276 0 t279 a1_0 a1_1 a1_2) = some r:=H
 have A5:=mk0 A50
 clear A50
 have H':=mk0 H
 clear H
 go_enter Try.func32,Try.ntmps32
 go_wp2_with (first|((with_reducible refine gate_dst (N:=3) rfl ?_);refine box_event ?hg (N:=3) ?hd (cs:=#[.int .i64 a1_0,.int .i64 a1_1,.int .i64 a1_2]) (t:=27) ?hr ?_;(case hd=>rfl);(case hg=>rfl);(case hr=>first|(go_simp;done)|(go_simp;rfl));intro gb274 hg w6 hbox hb;have BK274:=mk0 (hbox);have GW274:=mk0 ((by rw [hg];exact (kZ HB.out):w.heap.size ≤ gb274));have GE274:=mk0 ((by rw [hg];exact (kZ HB.out):w.heap.size ≤ gb274));replace HB:=mk0 (kS HB.out hb);clear hb hbox hg;obtain⟨hcz7_0,hcz7_1,hcz7_2,hfz7_0,hfz7_1,hfz7_2⟩:=cz3 BK274.out)|((with_reducible refine gate_callee (f:=11) rfl ?_);refine goesL_ (some 12) rfl rfl Try.func11 (by kernel_rfl) rfl #[.slice A0 l0.length c0,.agg #[.int .i64 a1_0,.int .i64 a1_1,.int .i64 a1_2]] rfl (by (try simp only [mA,mC,mN]);first|done|rfl|(simp only [lD,lT];done)|(simp only [lD,lT];rfl)) ?_;(with_reducible refine (spec_StretchOk.calls k _ _ l0 a1_0 a1_1 a1_2 true _ ?side1 ?side2 A3.out).mono ?_);(case side1=>exact kC (Kd.C_below HR0.out HB.out));(case side2=>exact HC0.out);rintro e w8 ⟨rfl,hb⟩;refine⟨_,rfl,?_⟩;replace BK274:=mk0 (kK BK274.out hb);replace HB:=mk0 (kS HB.out hb);(try clear hb))|((with_reducible refine gate_dst (N:=14) rfl ?_);refine Kd.R_lit k27 _ 27 ?hg (N:=14) ?hd (xs:=([]:List (S27))) (inner:=[]) (ok:=fun _=>True) (okp:=fun _=>True) ?hr ?hp (fun _ hk=>hk) trivial (Below.refl _ _) (Nat.le_refl _) (by simp) ?_;(case hd=>rfl);(case hg=>rfl);(case hr=>first|(go_simp;done)|(go_simp;rfl));(case hp=>exact (Reps.none _ _));intro v277 w9 ho10 hb hg_ hnew_;clear hg_ hnew_;(first|rw [← Ny276.out] at ho10|(simp only [Int.reduceToNat] at ho10;rw [← Ny276.out] at ho10));have HO278:=mk0 (Kd.R_lower (Kd.R_newB ho10 (g:=gb274) (o:=.cells #[.int .i64 a1_0,.int .i64 a1_1,.int .i64 a1_2] 27 (0,0)) (kN BK274.out)) (kZ HB.out));replace BK274:=mk0 (kK BK274.out hb);replace HB:=mk0 (kS HB.out hb);clear hb ho10)|((with_reducible refine gate_callee (f:=25) rfl ?_);refine goesL_ (some 16) rfl rfl Try.func25 (by kernel_rfl) rfl #[.slice A0 l0.length c0] rfl (by (try simp only [mA,mC,mN]);first|done|rfl|(simp only [lD,lT];done)|(simp only [lD,lT];rfl)) ?_;(with_reducible refine (spec_StretchAll.calls k _ _ l0 t279 _ ?side1 ?side2 A5.out).mono ?_);(case side1=>exact kC (Kd.C_below HR0.out HB.out));(case side2=>exact HC0.out);rintro e w11 ⟨v280,rfl,ho0,hb⟩;refine⟨_,rfl,?_⟩;have HO281:=mk0 (Kd.R_lower (Kd.R_newB (Kd.R_new' ho0 (Kd.R_lt (rR HO278.out))) (g:=gb274) (o:=.cells #[.int .i64 a1_0,.int .i64 a1_1,.int .i64 a1_2] 27 (0,0)) (kN BK274.out)) (kZ HB.out));replace HO278:=mk0 (Kd.R_elder' (rR HO278.out) (Kd.R_base ho0) hb);replace BK274:=mk0 (kK BK274.out hb);replace HB:=mk0 (kS HB.out hb);(try clear hb);(try clear ho0)))
 go_loopg [5,7] k (fun kq v5 v7 w'=>∃ (x5_1:List (S27)) (x7_1:Int),v7 = .int .i64 x7_1 ∧ Aside0 (spec_StretchKids.l0 kq x5_1 x7_1 t279 a1_0 a1_1 a1_2 = some r) ∧ Aside0 (kq ≤ k) ∧ Aside0 (Kd.R k27 27 w' w.heap.size (fun k_=>some k_ ≠ (v280:Value).ownBlock ∧ k_ ≠ gb274) v5 x5_1) ∧ Aside0 (Kd.R k27 27 w' w.heap.size (fun k_=>some k_ ≠ (v5:Value).ownBlock ∧ k_ ≠ gb274) v280 t279) ∧ Aside0 (w'.heap[gb274]? = some (.cells #[.int .i64 a1_0,.int .i64 a1_1,.int .i64 a1_2] 27 (0,0))) ∧ Aside0 (Below w.heap.size w w'))
 case atStart=>exact⟨(y276),(0),(by first|rfl|(simp;done)|(simp [*];done)),H',⟨Nat.le_refl _⟩,⟨rR (Kd.R_mono HO278.out (fun _ hk=>⟨hk.2,hk.1.2⟩))⟩,⟨rR (Kd.R_mono HO281.out (fun _ hk=>⟨hk.1.2,hk.2⟩))⟩,⟨kN BK274.out⟩,⟨kB HB.out⟩⟩
 case round =>
  clear H'
  try clear c1
  try clear c2
  try clear p2
  try clear c3
  try clear c4
  try clear c11
  try clear hcz7_0
  try clear hcz7_1
  try clear hcz7_2
  try clear hfz7_0
  try clear hfz7_1
  try clear hfz7_2
  obtain⟨x5_1,x7_1,rfl,HA,HK1,HO_5,HO_16,BK274,HB⟩:=hrel
  cases gk with
  | zero=>exact absurd HA.out (by simp [spec_StretchKids.l0])
  | succ k1 =>
   have H:=HA.out
   clear HA
   simp only [spec_StretchKids.l0] at H
   by_cases c12:x7_1 < (t279.length:Int)
   rotate_left
   ·rw [if_neg c12] at H
    have c12b0:decide (x7_1 < (t279.length:Int)) = false:=decide_eq_false c12
    clear c12
    obtain rfl:=Option.some.inj H
    obtain⟨Ao36,co36,eo36⟩:=Kd.R_slice HO_16.out
    subst eo36
    go_wp2
    go_ret
    exact⟨_,by first|rfl|(simp [errW_none,errW_some] <;> rfl)|(simp [*,errW_none,errW_some] <;> rfl),rR (Kd.R_mono HO_5.out (fun _ hk=>trivial)),kB HB.out⟩
   rw [if_pos c12] at H
   have c12b0:decide (x7_1 < (t279.length:Int)) = true:=decide_eq_true c12
   clear c12
   by_cases c13:0 ≤ x7_1
   rotate_left
   ·rw [if_neg c13] at H
    exact absurd H (by simp)
   rw [if_pos c13] at H
   have c13b0:decide (0 ≤ x7_1) = true:=decide_eq_true c13
   clear c13
   replace H:=Option.bind_eq_some_iff.mp H
   obtain⟨⟨t283,t284,t285,t286⟩,A140,H⟩:=H
   replace H:(if t286 = true then (if (t283 == a1_0 && (t284 == a1_1 && (t285 == a1_2))) = true then (if x5_1.length < 5864062014805 then (spec_StretchKids.l0 k1 (x5_1 ++ [(⟨(rd_T27 t279 x7_1).f0,(rd_T27 t279 x7_1).f1,(rd_T27 t279 x7_1).f2⟩:S27)]) (wrap64 (x7_1 + 1)) t279 a1_0 a1_1 a1_2) else (none)) else (spec_StretchKids.l0 k1 x5_1 (wrap64 (x7_1 + 1)) t279 a1_0 a1_1 a1_2)) else (spec_StretchKids.l0 k1 x5_1 (wrap64 (x7_1 + 1)) t279 a1_0 a1_1 a1_2)) = some r:=H
   have A14:=mk0 A140
   clear A140
   by_cases c15:t286 = true
   rotate_left
   ·replace c15:=Bool.eq_false_iff.mpr c15
    subst c15
    have H1:(spec_StretchKids.l0 k1 x5_1 (wrap64 (x7_1 + 1)) t279 a1_0 a1_1 a1_2) = some r:=by rw [if_neg (show ¬ (false = true) by decide)] at H;exact H
    clear H
    have H:=H1
    clear H1
    have H':=mk0 H
    clear H
    obtain⟨Ao31,co31,eo31⟩:=Kd.R_slice HO_16.out
    subst eo31
    have p282:0 ≤ (x7_1:Int):=of_decide_eq_true (by first|(with_reducible assumption)|assumption)
    have q282:x7_1 < (t279.length:Int):=of_decide_eq_true (by first|(with_reducible assumption)|assumption)
    obtain⟨ad282,e282,hx282_0,hx282_1,hx282_2⟩:=at_T27 (Kd.R_reads' HO_16.out).2.2 x7_1 p282 q282
    cases e282
    replace p282:=eq_true p282
    replace q282:=eq_true q282
    go_wp2_with (first|((with_reducible refine gate_callee (f:=54) rfl ?_);refine goesL_ (some 29) rfl rfl Try.func54 (by kernel_rfl) rfl #[.slice (some ad282) t279.length co31,.agg #[.int .i64 ((rd_T27 t279 x7_1).f0),.int .i64 ((rd_T27 t279 x7_1).f1),.int .i64 ((rd_T27 t279 x7_1).f2)]] rfl (by (try simp only [mA,mC,mN]);first|done|rfl|(simp only [lD,lT];done)|(simp only [lD,lT];rfl)) ?_;(with_reducible refine (spec_l11Up.calls k1 _ _ t279 ((rd_T27 t279 x7_1).f0) ((rd_T27 t279 x7_1).f1) ((rd_T27 t279 x7_1).f2) t283 t284 t285 false _ ?side1 ?side2 A14.out).mono ?_);(case side1=>exact kC (Kd.R_reads' HO_16.out).2.2);(case side2=>exact (Kd.R_reads' HO_16.out).2.1);rintro e w32 ⟨rfl,hb⟩;refine⟨_,rfl,?_⟩;replace HO_5:=mk0 (bR HO_5.out hb);replace HO_16:=mk0 (bR HO_16.out hb);replace BK274:=mk0 (kK BK274.out hb);replace HB:=mk0 (kS HB.out hb);(try clear hb);have hrl_:∀ o_,(w32.alloc o_).cell? (ad282.add (x7_1.toNat * 3)) = some (.int .i64 (rd_T27 t279 x7_1).f0) ∧ (w32.alloc o_).cell? ⟨(ad282.add (x7_1.toNat * 3)).block,(ad282.add (x7_1.toNat * 3)).off + 1,none⟩ = some (.int .i64 (rd_T27 t279 x7_1).f1) ∧ (w32.alloc o_).cell? ⟨(ad282.add (x7_1.toNat * 3)).block,(ad282.add (x7_1.toNat * 3)).off + 2,none⟩ = some (.int .i64 (rd_T27 t279 x7_1).f2):=fun o_=>(by obtain⟨ad_,e_,h0_,h1_,h2_⟩:=at_T27 (Kd.C_alloc (Kd.R_reads' HO_16.out).2.2 o_) x7_1 (of_eq_true p282) (of_eq_true q282);cases e_;exact⟨h0_,h1_,h2_⟩);have hrl0_:=fun o_=>(hrl_ o_).1;have hrl1_:=fun o_=>(hrl_ o_).2.1;have hrl2_:=fun o_=>(hrl_ o_).2.2;clear hrl_;have hal0_:∀ o_,(w32.alloc o_).cell? ⟨gb274,0,none⟩ = some (.int .i64 a1_0):=fun o_=>(blk_cell (by (with_reducible apply aB);exact BK274.out) 0).trans rfl;have hal1_:∀ o_,(w32.alloc o_).cell? ⟨gb274,1,none⟩ = some (.int .i64 a1_1):=fun o_=>(blk_cell (by (with_reducible apply aB);exact BK274.out) 1).trans rfl;have hal2_:∀ o_,(w32.alloc o_).cell? ⟨gb274,2,none⟩ = some (.int .i64 a1_2):=fun o_=>(blk_cell (by (with_reducible apply aB);exact BK274.out) 2).trans rfl)|((with_reducible refine gate_dst (N:=8) rfl ?_);refine box_event ?hg (N:=8) ?hd (cs:=#[.int .i64 0,.int .i64 0,.int .i64 0]) (t:=27) ?hr ?_;(case hd=>rfl);(case hg=>rfl);(case hr=>first|(go_simp;done)|(go_simp;rfl));intro gb287 hg w33 hbox hb;replace HO_5:=mk0 (Kd.R_below (Kd.R_elderB (rR HO_5.out) gb287 (Nat.le_of_eq hg.symm)) hb);replace HO_16:=mk0 (Kd.R_below (Kd.R_elderB (rR HO_16.out) gb287 (Nat.le_of_eq hg.symm)) hb);have BK287:=mk0 (hbox);have GW287:=mk0 ((by rw [hg];exact (kZ HB.out):w.heap.size ≤ gb287));have GE287:=mk0 ((by rw [hg];exact (kZ HB.out):w.heap.size ≤ gb287));replace HB:=mk0 (kS HB.out hb);have NB274_287:=mk0 ((by rw [hg];exact Nat.ne_of_lt (kL BK274.out):gb274 ≠ gb287));have NB287_274:=mk0 ((by rw [hg];exact Nat.ne_of_gt (kL BK274.out):gb287 ≠ gb274));replace BK274:=mk0 (kK BK274.out hb);clear hb hbox hg;have hnb34:=NB287_274.out;have hnc34:=NB274_287.out;obtain⟨hcz35_0,hcz35_1,hcz35_2,hfz35_0,hfz35_1,hfz35_2⟩:=cz3 BK287.out))
    go_roundg k1
    case measure=>have:=HK1.out;omega
    case rel=>exact⟨(x5_1),(wrap64 (x7_1 + 1)),(by first|rfl|(simp;done)|(simp [*];done)),H',⟨by have:=HK1.out;omega⟩,⟨by (with_reducible repeat (first|apply aR|apply nR|apply dR));exact Kd.R_mono (Kd.R_far (p:=⟨gb287,2,none⟩) (Kd.R_far (p:=⟨gb287,1,none⟩) (Kd.R_far (p:=⟨gb287,0,none⟩) (Kd.R_mono HO_5.out (fun k_ hk=>(⟨hk,hk.2⟩:_ ∧ k_ ≠ gb287))) (fun _ hk=>hk.2) (.int .i64 t283)) (fun _ hk=>hk.2) (.int .i64 t284)) (fun _ hk=>hk.2) (.int .i64 t285)) (fun _ hk=>⟨hk.1.1.1,hk.1.1.2⟩)⟩,⟨by (with_reducible repeat (first|apply aR|apply nR|apply dR));exact Kd.R_mono (Kd.R_far (p:=⟨gb287,2,none⟩) (Kd.R_far (p:=⟨gb287,1,none⟩) (Kd.R_far (p:=⟨gb287,0,none⟩) (Kd.R_mono HO_16.out (fun k_ hk=>(⟨hk,hk.2⟩:_ ∧ k_ ≠ gb287))) (fun _ hk=>hk.2) (.int .i64 t283)) (fun _ hk=>hk.2) (.int .i64 t284)) (fun _ hk=>hk.2) (.int .i64 t285)) (fun _ hk=>⟨hk.1.1.1,hk.1.1.2⟩)⟩,⟨by (with_reducible repeat (first|apply nB|apply dB|apply aB));refine blk_far ?_ NB274_287.out _;(with_reducible repeat (first|apply nB|apply dB|apply aB));refine blk_far ?_ NB274_287.out _;(with_reducible repeat (first|apply nB|apply dB|apply aB));refine blk_far ?_ NB274_287.out _;(with_reducible repeat (first|apply nB|apply dB|apply aB));exact BK274.out⟩,⟨kB HB.out⟩⟩
   subst c15
   have H1:(if (t283 == a1_0 && (t284 == a1_1 && (t285 == a1_2))) = true then (if x5_1.length < 5864062014805 then (spec_StretchKids.l0 k1 (x5_1 ++ [(⟨(rd_T27 t279 x7_1).f0,(rd_T27 t279 x7_1).f1,(rd_T27 t279 x7_1).f2⟩:S27)]) (wrap64 (x7_1 + 1)) t279 a1_0 a1_1 a1_2) else (none)) else (spec_StretchKids.l0 k1 x5_1 (wrap64 (x7_1 + 1)) t279 a1_0 a1_1 a1_2)) = some r:=by rw [if_pos rfl] at H;exact H
   clear H
   have H:=H1
   clear H1
   by_cases c16:(t283 == a1_0 && (t284 == a1_1 && (t285 == a1_2))) = true
   rotate_left
   ·rw [if_neg c16] at H
    have c16b0:(t283 == a1_0 && (t284 == a1_1 && (t285 == a1_2))) = false:=by simpa using c16
    (try (have c16b1:decide (t283 = a1_0 && (t284 == a1_1 && (t285 == a1_2))) = false:=by simpa using c16))
    (try (have c16b2:(t283 == a1_0 && (t284 == a1_1 && (t285 == a1_2))) = false:=by simpa using c16))
    (try (have c16b3:¬ (t283 = a1_0 && (t284 == a1_1 && (t285 == a1_2))):=by simpa using c16))
    clear c16
    have H':=mk0 H
    clear H
    obtain⟨Ao25,co25,eo25⟩:=Kd.R_slice HO_16.out
    subst eo25
    have p282:0 ≤ (x7_1:Int):=of_decide_eq_true (by first|(with_reducible assumption)|assumption)
    have q282:x7_1 < (t279.length:Int):=of_decide_eq_true (by first|(with_reducible assumption)|assumption)
    obtain⟨ad282,e282,hx282_0,hx282_1,hx282_2⟩:=at_T27 (Kd.R_reads' HO_16.out).2.2 x7_1 p282 q282
    cases e282
    replace p282:=eq_true p282
    replace q282:=eq_true q282
    go_wp2_with (first|((with_reducible refine gate_callee (f:=54) rfl ?_);refine goesL_ (some 29) rfl rfl Try.func54 (by kernel_rfl) rfl #[.slice (some ad282) t279.length co25,.agg #[.int .i64 ((rd_T27 t279 x7_1).f0),.int .i64 ((rd_T27 t279 x7_1).f1),.int .i64 ((rd_T27 t279 x7_1).f2)]] rfl (by (try simp only [mA,mC,mN]);first|done|rfl|(simp only [lD,lT];done)|(simp only [lD,lT];rfl)) ?_;(with_reducible refine (spec_l11Up.calls k1 _ _ t279 ((rd_T27 t279 x7_1).f0) ((rd_T27 t279 x7_1).f1) ((rd_T27 t279 x7_1).f2) t283 t284 t285 true _ ?side1 ?side2 A14.out).mono ?_);(case side1=>exact kC (Kd.R_reads' HO_16.out).2.2);(case side2=>exact (Kd.R_reads' HO_16.out).2.1);rintro e w26 ⟨rfl,hb⟩;refine⟨_,rfl,?_⟩;replace HO_5:=mk0 (bR HO_5.out hb);replace HO_16:=mk0 (bR HO_16.out hb);replace BK274:=mk0 (kK BK274.out hb);replace HB:=mk0 (kS HB.out hb);(try clear hb);have hrl_:∀ o_,(w26.alloc o_).cell? (ad282.add (x7_1.toNat * 3)) = some (.int .i64 (rd_T27 t279 x7_1).f0) ∧ (w26.alloc o_).cell? ⟨(ad282.add (x7_1.toNat * 3)).block,(ad282.add (x7_1.toNat * 3)).off + 1,none⟩ = some (.int .i64 (rd_T27 t279 x7_1).f1) ∧ (w26.alloc o_).cell? ⟨(ad282.add (x7_1.toNat * 3)).block,(ad282.add (x7_1.toNat * 3)).off + 2,none⟩ = some (.int .i64 (rd_T27 t279 x7_1).f2):=fun o_=>(by obtain⟨ad_,e_,h0_,h1_,h2_⟩:=at_T27 (Kd.C_alloc (Kd.R_reads' HO_16.out).2.2 o_) x7_1 (of_eq_true p282) (of_eq_true q282);cases e_;exact⟨h0_,h1_,h2_⟩);have hrl0_:=fun o_=>(hrl_ o_).1;have hrl1_:=fun o_=>(hrl_ o_).2.1;have hrl2_:=fun o_=>(hrl_ o_).2.2;clear hrl_;have hal0_:∀ o_,(w26.alloc o_).cell? ⟨gb274,0,none⟩ = some (.int .i64 a1_0):=fun o_=>(blk_cell (by (with_reducible apply aB);exact BK274.out) 0).trans rfl;have hal1_:∀ o_,(w26.alloc o_).cell? ⟨gb274,1,none⟩ = some (.int .i64 a1_1):=fun o_=>(blk_cell (by (with_reducible apply aB);exact BK274.out) 1).trans rfl;have hal2_:∀ o_,(w26.alloc o_).cell? ⟨gb274,2,none⟩ = some (.int .i64 a1_2):=fun o_=>(blk_cell (by (with_reducible apply aB);exact BK274.out) 2).trans rfl)|((with_reducible refine gate_dst (N:=8) rfl ?_);refine box_event ?hg (N:=8) ?hd (cs:=#[.int .i64 0,.int .i64 0,.int .i64 0]) (t:=27) ?hr ?_;(case hd=>rfl);(case hg=>rfl);(case hr=>first|(go_simp;done)|(go_simp;rfl));intro gb287 hg w27 hbox hb;replace HO_5:=mk0 (Kd.R_below (Kd.R_elderB (rR HO_5.out) gb287 (Nat.le_of_eq hg.symm)) hb);replace HO_16:=mk0 (Kd.R_below (Kd.R_elderB (rR HO_16.out) gb287 (Nat.le_of_eq hg.symm)) hb);have BK287:=mk0 (hbox);have GW287:=mk0 ((by rw [hg];exact (kZ HB.out):w.heap.size ≤ gb287));have GE287:=mk0 ((by rw [hg];exact (kZ HB.out):w.heap.size ≤ gb287));replace HB:=mk0 (kS HB.out hb);have NB274_287:=mk0 ((by rw [hg];exact Nat.ne_of_lt (kL BK274.out):gb274 ≠ gb287));have NB287_274:=mk0 ((by rw [hg];exact Nat.ne_of_gt (kL BK274.out):gb287 ≠ gb274));replace BK274:=mk0 (kK BK274.out hb);clear hb hbox hg;have hnb28:=NB287_274.out;have hnc28:=NB274_287.out;obtain⟨hcz29_0,hcz29_1,hcz29_2,hfz29_0,hfz29_1,hfz29_2⟩:=cz3 BK287.out;obtain⟨hcz30_0,hcz30_1,hcz30_2,hfz30_0,hfz30_1,hfz30_2⟩:=cz3 BK274.out))
    go_roundg k1
    case measure=>have:=HK1.out;omega
    case rel=>exact⟨(x5_1),(wrap64 (x7_1 + 1)),(by first|rfl|(simp;done)|(simp [*];done)),H',⟨by have:=HK1.out;omega⟩,⟨by (with_reducible repeat (first|apply aR|apply nR|apply dR));exact Kd.R_mono (Kd.R_far (p:=⟨gb287,2,none⟩) (Kd.R_far (p:=⟨gb287,1,none⟩) (Kd.R_far (p:=⟨gb287,0,none⟩) (Kd.R_mono HO_5.out (fun k_ hk=>(⟨hk,hk.2⟩:_ ∧ k_ ≠ gb287))) (fun _ hk=>hk.2) (.int .i64 t283)) (fun _ hk=>hk.2) (.int .i64 t284)) (fun _ hk=>hk.2) (.int .i64 t285)) (fun _ hk=>⟨hk.1.1.1,hk.1.1.2⟩)⟩,⟨by (with_reducible repeat (first|apply aR|apply nR|apply dR));exact Kd.R_mono (Kd.R_far (p:=⟨gb287,2,none⟩) (Kd.R_far (p:=⟨gb287,1,none⟩) (Kd.R_far (p:=⟨gb287,0,none⟩) (Kd.R_mono HO_16.out (fun k_ hk=>(⟨hk,hk.2⟩:_ ∧ k_ ≠ gb287))) (fun _ hk=>hk.2) (.int .i64 t283)) (fun _ hk=>hk.2) (.int .i64 t284)) (fun _ hk=>hk.2) (.int .i64 t285)) (fun _ hk=>⟨hk.1.1.1,hk.1.1.2⟩)⟩,⟨by (with_reducible repeat (first|apply nB|apply dB|apply aB));refine blk_far ?_ NB274_287.out _;(with_reducible repeat (first|apply nB|apply dB|apply aB));refine blk_far ?_ NB274_287.out _;(with_reducible repeat (first|apply nB|apply dB|apply aB));refine blk_far ?_ NB274_287.out _;(with_reducible repeat (first|apply nB|apply dB|apply aB));exact BK274.out⟩,⟨kB HB.out⟩⟩
   rw [if_pos c16] at H
   have c16b0:(t283 == a1_0 && (t284 == a1_1 && (t285 == a1_2))) = true:=c16
   (try (have c16b1:decide (t283 = a1_0 && (t284 == a1_1 && (t285 == a1_2))) = true:=by simpa using c16))
   (try (have c16b2:(t283 == a1_0 && (t284 == a1_1 && (t285 == a1_2))) = true:=by simpa using c16))
   clear c16
   by_cases c17:x5_1.length < 5864062014805
   rotate_left
   ·rw [if_neg c17] at H
    exact absurd H (by simp)
   rw [if_pos c17] at H
   have LMc17:=mk0 c17
   clear c17
   obtain⟨y289,hy289⟩:∃ y_:List (S27),y_ = (x5_1 ++ [(⟨(rd_T27 t279 x7_1).f0,(rd_T27 t279 x7_1).f1,(rd_T27 t279 x7_1).f2⟩:S27)]):=⟨_,rfl⟩
   replace H:(spec_StretchKids.l0 k1 y289 (wrap64 (x7_1 + 1)) t279 a1_0 a1_1 a1_2) = some r:=by first|(rw [hy289];with_reducible exact H)|(have H2_:=(Option.bind_some _ _).symm.trans H;rw [hy289];with_reducible exact H2_)|(have H2_:=(Option.bind_some _ _).symm.trans H;with_reducible exact H2_)|with_reducible exact H|(rw [hy289];exact H)|exact H
   have Ny289:=mk0 hy289
   clear hy289
   have H':=mk0 H
   clear H
   obtain⟨Ao18,co18,eo18⟩:=Kd.R_slice HO_16.out
   subst eo18
   have p282:0 ≤ (x7_1:Int):=of_decide_eq_true (by first|(with_reducible assumption)|assumption)
   have q282:x7_1 < (t279.length:Int):=of_decide_eq_true (by first|(with_reducible assumption)|assumption)
   obtain⟨ad282,e282,hx282_0,hx282_1,hx282_2⟩:=at_T27 (Kd.R_reads' HO_16.out).2.2 x7_1 p282 q282
   cases e282
   replace p282:=eq_true p282
   replace q282:=eq_true q282
   go_wp2_with (first|((with_reducible refine gate_callee (f:=54) rfl ?_);refine goesL_ (some 29) rfl rfl Try.func54 (by kernel_rfl) rfl #[.slice (some ad282) t279.length co18,.agg #[.int .i64 ((rd_T27 t279 x7_1).f0),.int .i64 ((rd_T27 t279 x7_1).f1),.int .i64 ((rd_T27 t279 x7_1).f2)]] rfl (by (try simp only [mA,mC,mN]);first|done|rfl|(simp only [lD,lT];done)|(simp only [lD,lT];rfl)) ?_;(with_reducible refine (spec_l11Up.calls k1 _ _ t279 ((rd_T27 t279 x7_1).f0) ((rd_T27 t279 x7_1).f1) ((rd_T27 t279 x7_1).f2) t283 t284 t285 true _ ?side1 ?side2 A14.out).mono ?_);(case side1=>exact kC (Kd.R_reads' HO_16.out).2.2);(case side2=>exact (Kd.R_reads' HO_16.out).2.1);rintro e w19 ⟨rfl,hb⟩;refine⟨_,rfl,?_⟩;replace HO_5:=mk0 (bR HO_5.out hb);replace HO_16:=mk0 (bR HO_16.out hb);replace BK274:=mk0 (kK BK274.out hb);replace HB:=mk0 (kS HB.out hb);(try clear hb);have hrl_:∀ o_,(w19.alloc o_).cell? (ad282.add (x7_1.toNat * 3)) = some (.int .i64 (rd_T27 t279 x7_1).f0) ∧ (w19.alloc o_).cell? ⟨(ad282.add (x7_1.toNat * 3)).block,(ad282.add (x7_1.toNat * 3)).off + 1,none⟩ = some (.int .i64 (rd_T27 t279 x7_1).f1) ∧ (w19.alloc o_).cell? ⟨(ad282.add (x7_1.toNat * 3)).block,(ad282.add (x7_1.toNat * 3)).off + 2,none⟩ = some (.int .i64 (rd_T27 t279 x7_1).f2):=fun o_=>(by obtain⟨ad_,e_,h0_,h1_,h2_⟩:=at_T27 (Kd.C_alloc (Kd.R_reads' HO_16.out).2.2 o_) x7_1 (of_eq_true p282) (of_eq_true q282);cases e_;exact⟨h0_,h1_,h2_⟩);have hrl0_:=fun o_=>(hrl_ o_).1;have hrl1_:=fun o_=>(hrl_ o_).2.1;have hrl2_:=fun o_=>(hrl_ o_).2.2;clear hrl_;have hal0_:∀ o_,(w19.alloc o_).cell? ⟨gb274,0,none⟩ = some (.int .i64 a1_0):=fun o_=>(blk_cell (by (with_reducible apply aB);exact BK274.out) 0).trans rfl;have hal1_:∀ o_,(w19.alloc o_).cell? ⟨gb274,1,none⟩ = some (.int .i64 a1_1):=fun o_=>(blk_cell (by (with_reducible apply aB);exact BK274.out) 1).trans rfl;have hal2_:∀ o_,(w19.alloc o_).cell? ⟨gb274,2,none⟩ = some (.int .i64 a1_2):=fun o_=>(blk_cell (by (with_reducible apply aB);exact BK274.out) 2).trans rfl)|((with_reducible refine gate_dst (N:=8) rfl ?_);refine box_event ?hg (N:=8) ?hd (cs:=#[.int .i64 0,.int .i64 0,.int .i64 0]) (t:=27) ?hr ?_;(case hd=>rfl);(case hg=>rfl);(case hr=>first|(go_simp;done)|(go_simp;rfl));intro gb287 hg w20 hbox hb;replace HO_5:=mk0 (Kd.R_below (Kd.R_elderB (rR HO_5.out) gb287 (Nat.le_of_eq hg.symm)) hb);replace HO_16:=mk0 (Kd.R_below (Kd.R_elderB (rR HO_16.out) gb287 (Nat.le_of_eq hg.symm)) hb);have BK287:=mk0 (hbox);have GW287:=mk0 ((by rw [hg];exact (kZ HB.out):w.heap.size ≤ gb287));have GE287:=mk0 ((by rw [hg];exact (kZ HB.out):w.heap.size ≤ gb287));replace HB:=mk0 (kS HB.out hb);have NB274_287:=mk0 ((by rw [hg];exact Nat.ne_of_lt (kL BK274.out):gb274 ≠ gb287));have NB287_274:=mk0 ((by rw [hg];exact Nat.ne_of_gt (kL BK274.out):gb287 ≠ gb274));replace BK274:=mk0 (kK BK274.out hb);clear hb hbox hg;have hnb21:=NB287_274.out;have hnc21:=NB274_287.out;obtain⟨hcz22_0,hcz22_1,hcz22_2,hfz22_0,hfz22_1,hfz22_2⟩:=cz3 BK287.out;obtain⟨hcz23_0,hcz23_1,hcz23_2,hfz23_0,hfz23_1,hfz23_2⟩:=cz3 BK274.out;have p288:0 ≤ (x7_1:Int):=of_decide_eq_true (by first|(with_reducible assumption)|assumption);have q288:x7_1 < (t279.length:Int):=of_decide_eq_true (by first|(with_reducible assumption)|assumption);obtain⟨ad288,e288,hx288_0,hx288_1,hx288_2⟩:=at_T27 (Kd.R_reads' HO_16.out).2.2 x7_1 p288 q288;obtain rfl:ad282 = ad288:=(by injection e288);have hn288_0:ad282.block ≠ gb287:=Kd.own_blk (by first|exact Kd.R_ne HO_16.out BK287.out (by decide)|exact Kd.R_away HO_16.out (fun _ hk=>hk.2));have hn288_1:ad282.block ≠ gb287:=Kd.own_blk (by first|exact Kd.R_ne HO_16.out BK287.out (by decide)|exact Kd.R_away HO_16.out (fun _ hk=>hk.2));have hn288_2:ad282.block ≠ gb287:=Kd.own_blk (by first|exact Kd.R_ne HO_16.out BK287.out (by decide)|exact Kd.R_away HO_16.out (fun _ hk=>hk.2));replace hx288_0:=(cell_far (p:=⟨gb287,0,none⟩) (by first|(rw [add_block];exact hn288_0)|(show (Addr.add _ _).block ≠ _;rw [add_block];exact hn288_0)|exact hn288_0) (.int .i64 t283)).trans hx288_0;replace hx288_1:=(cell_far (p:=⟨gb287,0,none⟩) (by first|(rw [add_block];exact hn288_0)|(show (Addr.add _ _).block ≠ _;rw [add_block];exact hn288_0)|exact hn288_0) (.int .i64 t283)).trans hx288_1;replace hx288_2:=(cell_far (p:=⟨gb287,0,none⟩) (by first|(rw [add_block];exact hn288_0)|(show (Addr.add _ _).block ≠ _;rw [add_block];exact hn288_0)|exact hn288_0) (.int .i64 t283)).trans hx288_2;replace hx288_0:=(cell_far (p:=⟨gb287,1,none⟩) (by first|(rw [add_block];exact hn288_1)|(show (Addr.add _ _).block ≠ _;rw [add_block];exact hn288_1)|exact hn288_1) (.int .i64 t284)).trans hx288_0;replace hx288_1:=(cell_far (p:=⟨gb287,1,none⟩) (by first|(rw [add_block];exact hn288_1)|(show (Addr.add _ _).block ≠ _;rw [add_block];exact hn288_1)|exact hn288_1) (.int .i64 t284)).trans hx288_1;replace hx288_2:=(cell_far (p:=⟨gb287,1,none⟩) (by first|(rw [add_block];exact hn288_1)|(show (Addr.add _ _).block ≠ _;rw [add_block];exact hn288_1)|exact hn288_1) (.int .i64 t284)).trans hx288_2;replace hx288_0:=(cell_far (p:=⟨gb287,2,none⟩) (by first|(rw [add_block];exact hn288_2)|(show (Addr.add _ _).block ≠ _;rw [add_block];exact hn288_2)|exact hn288_2) (.int .i64 t285)).trans hx288_0;replace hx288_1:=(cell_far (p:=⟨gb287,2,none⟩) (by first|(rw [add_block];exact hn288_2)|(show (Addr.add _ _).block ≠ _;rw [add_block];exact hn288_2)|exact hn288_2) (.int .i64 t285)).trans hx288_1;replace hx288_2:=(cell_far (p:=⟨gb287,2,none⟩) (by first|(rw [add_block];exact hn288_2)|(show (Addr.add _ _).block ≠ _;rw [add_block];exact hn288_2)|exact hn288_2) (.int .i64 t285)).trans hx288_2;clear hn288_0 hn288_1 hn288_2;replace p288:=eq_true p288;replace q288:=eq_true q288)|((with_reducible refine gate_builtin (b:=.append) (xs:=#[.tmp 38,.tmp 43]) rfl ?_);at_builtin;refine Kd.R_append k27 (w0:=w) w.heap.size rfl (.tmp 38) (.tmp 43) 39 27 (.agg #[(.int .i64 0),(.int .i64 0),(.int .i64 0)]) 24 rfl Try.underlying39 info27 rfl (by decide) (by omega) u5 x5_1 (⟨(rd_T27 t279 x7_1).f0,(rd_T27 t279 x7_1).f1,(rd_T27 t279 x7_1).f2⟩:S27) [.int .i64 ((rd_T27 t279 x7_1).f0),.int .i64 ((rd_T27 t279 x7_1).f1),.int .i64 ((rd_T27 t279 x7_1).f2)] (fun k_=>some k_ ≠ (.slice (some ad282) t279.length co18:Value).ownBlock ∧ k_ ≠ gb274 ∧ k_ ≠ gb287) (fun _=>False) rfl (by first|(go_simp;done)|(go_simp;rfl)) ?aP (fun _ hk=>hk.elim) ?aF ?aO ?aB ?aS ?aL ?_;(case aP=>exact k27_mkM _ _ _ (⟨(rd_T27 t279 x7_1).f0,(rd_T27 t279 x7_1).f1,(rd_T27 t279 x7_1).f2⟩:S27));(case aB=>exact (kB HB.out));(case aF=>exact (fun k_ hk=>⟨Kd.fresh' (Kd.R_lt (by (with_reducible repeat (first|apply aR|apply nR|apply dR));exact (Kd.R_mono (Kd.R_far (p:=⟨gb287,2,none⟩) (Kd.R_far (p:=⟨gb287,1,none⟩) (Kd.R_far (p:=⟨gb287,0,none⟩) (Kd.R_mono HO_16.out (fun k_ hk=>(⟨hk,hk.2⟩:_ ∧ k_ ≠ gb287))) (fun _ hk=>hk.2) (.int .i64 t283)) (fun _ hk=>hk.2) (.int .i64 t284)) (fun _ hk=>hk.2) (.int .i64 t285)) (fun _ h_=>h_.1)))) k_ hk,Kd.freshB (g:=gb274) (o:=.cells #[.int .i64 a1_0,.int .i64 a1_1,.int .i64 a1_2] 27 (0,0)) (by (with_reducible repeat (first|apply nB|apply dB|apply aB));refine blk_far ?_ NB274_287.out _;(with_reducible repeat (first|apply nB|apply dB|apply aB));refine blk_far ?_ NB274_287.out _;(with_reducible repeat (first|apply nB|apply dB|apply aB));refine blk_far ?_ NB274_287.out _;(with_reducible repeat (first|apply nB|apply dB|apply aB));exact BK274.out) k_ hk,Kd.freshB (g:=gb287) (o:=.cells #[.int .i64 t283,.int .i64 t284,.int .i64 t285] 27 (0,0)) (by (with_reducible repeat (first|apply nB|apply dB|apply aB));refine blk_put (cs:=#[.int .i64 t283,.int .i64 t284,.int .i64 0]) ?_ 2 _ rfl;(with_reducible repeat (first|apply nB|apply dB|apply aB));refine blk_put (cs:=#[.int .i64 t283,.int .i64 0,.int .i64 0]) ?_ 1 _ rfl;(with_reducible repeat (first|apply nB|apply dB|apply aB));refine blk_put (cs:=#[.int .i64 0,.int .i64 0,.int .i64 0]) ?_ 0 _ rfl;(with_reducible repeat (first|apply nB|apply dB|apply aB));exact BK287.out) k_ hk⟩));(case aO=>exact (by (with_reducible repeat (first|apply aR|apply nR|apply dR));exact Kd.R_mono (Kd.R_far (p:=⟨gb287,2,none⟩) (Kd.R_far (p:=⟨gb287,1,none⟩) (Kd.R_far (p:=⟨gb287,0,none⟩) (Kd.R_mono HO_5.out (fun k_ hk=>(⟨hk,hk.2⟩:_ ∧ k_ ≠ gb287))) (fun _ hk=>hk.2) (.int .i64 t283)) (fun _ hk=>hk.2) (.int .i64 t284)) (fun _ hk=>hk.2) (.int .i64 t285)) (fun _ hk=>⟨hk.1.1.1,⟨hk.1.1.2,hk.1.2⟩⟩)));(case aS=>exact (kZ HB.out));(case aL=>have:=LMc17.out;omega);intro v290 w24 ho hb hg hat;rw [← Ny289.out] at ho;replace HO_16:=mk0 (Kd.R_after (ok:=(fun k_=>k_ ≠ gb274 ∧ k_ ≠ gb287)) (by (with_reducible repeat (first|apply aR|apply nR|apply dR));exact Kd.R_mono (Kd.R_far (p:=⟨gb287,2,none⟩) (Kd.R_far (p:=⟨gb287,1,none⟩) (Kd.R_far (p:=⟨gb287,0,none⟩) (Kd.R_mono HO_16.out (fun k_ hk=>(⟨hk,hk.2⟩:_ ∧ k_ ≠ gb287))) (fun _ hk=>hk.2) (.int .i64 t283)) (fun _ hk=>hk.2) (.int .i64 t284)) (fun _ hk=>hk.2) (.int .i64 t285)) (fun _ hk=>⟨⟨hk.1.1.2,hk.1.2⟩,hk.1.1.1⟩)) hg hat);replace BK274:=mk0 (blk_grown (g:=gb274) (o:=.cells #[.int .i64 a1_0,.int .i64 a1_1,.int .i64 a1_2] 27 (0,0)) (by (with_reducible repeat (first|apply nB|apply dB|apply aB));refine blk_far ?_ NB274_287.out _;(with_reducible repeat (first|apply nB|apply dB|apply aB));refine blk_far ?_ NB274_287.out _;(with_reducible repeat (first|apply nB|apply dB|apply aB));refine blk_far ?_ NB274_287.out _;(with_reducible repeat (first|apply nB|apply dB|apply aB));exact BK274.out) hg (Kd.R_away HO_5.out (fun _ hk=>hk.1.2)));replace BK287:=mk0 (blk_grown (g:=gb287) (o:=.cells #[.int .i64 t283,.int .i64 t284,.int .i64 t285] 27 (0,0)) (by (with_reducible repeat (first|apply nB|apply dB|apply aB));refine blk_put (cs:=#[.int .i64 t283,.int .i64 t284,.int .i64 0]) ?_ 2 _ rfl;(with_reducible repeat (first|apply nB|apply dB|apply aB));refine blk_put (cs:=#[.int .i64 t283,.int .i64 0,.int .i64 0]) ?_ 1 _ rfl;(with_reducible repeat (first|apply nB|apply dB|apply aB));refine blk_put (cs:=#[.int .i64 0,.int .i64 0,.int .i64 0]) ?_ 0 _ rfl;(with_reducible repeat (first|apply nB|apply dB|apply aB));exact BK287.out) hg (Kd.R_away HO_5.out (fun _ hk=>hk.2)));replace HB:=mk0 (hb);have HO291:=mk0 (ho);clear HO_5 ho hb hg hat))
   go_roundg k1
   case measure=>have:=HK1.out;omega
   case rel=>exact⟨(y289),(wrap64 (x7_1 + 1)),(by first|rfl|(simp;done)|(simp [*];done)),H',⟨by have:=HK1.out;omega⟩,⟨rR (Kd.R_mono HO291.out (fun _ hk=>⟨hk.1,hk.2.1⟩))⟩,⟨rR (Kd.R_mono HO_16.out (fun _ hk=>⟨hk.2,hk.1.1⟩))⟩,⟨kN BK274.out⟩,⟨kB HB.out⟩⟩
-- NOT PRINTED: function 104 (impl_Stretch_104)

-- NOT PRINTED: function 118 (impl_Stretch_118)

-- NOT PRINTED: function 105 (impl_Stretch_105)

-- NOT PRINTED: function 106 (impl_Stretch_106)

-- NOT PRINTED: function 122 (impl_Stretch_122)

-- NOT PRINTED: function 120 (impl_Stretch_120)

-- NOT PRINTED: function 119 (impl_Stretch_119)

-- NOT PRINTED: function 107 (impl_Stretch_107)

-- NOT PRINTED: function 108 (impl_Stretch_108)

-- NOT PRINTED: function 109 (impl_Stretch_109)

-- NOT PRINTED: function 110 (impl_Stretch_110)

-- NOT PRINTED: function 111 (impl_Stretch_111)

-- NOT PRINTED: function 89 (impl_Stretch_89)

-- NOT PRINTED: function 71 (impl_Stretch_71)

-- NOT PRINTED: function 90 (cmp_Or_int)

-- NOT PRINTED: function 112 (cmp_isNaN_int)

-- NOT PRINTED: function 91 (cmp_Compare_int)

-- NOT PRINTED: function 72 (impl_compareStretches)


/-! ### impl_Stretch_73: function 73 (by hand) -/
def impl_Stretch_73.f (l0 : List S27) : Option (List S27) := if l0.length ≤ 4611686018427387904 then some ((Go.Lib.compact (l0.map fun x : S27 => (x.f0, x.f1, x.f2))).map fun t : Int × Int × Int => (⟨t.1, t.2.1, t.2.2⟩ : S27)) else none
theorem impl_Stretch_73.calls (P0_ : Nat → Prop) (u9000_ : Value) (l0 : List S27) (r : List S27) (w0 w : World) (hB : Below w0.heap.size w0 w) (ho0 : Kd.R k27 27 w w0.heap.size P0_ u9000_ l0) (h : impl_Stretch_73.f l0 = some r) :
    Calls Try.prog 73 #[u9000_] w fun e w' => ∃ v0_ : Value, e = .returned (v0_) ∧ Kd.R k27 27 w' w0.heap.size (fun k_ => (P0_ k_ ∨ w.heap.size ≤ k_)) v0_ r ∧ Below w0.heap.size w0 w' ∧ Kept w w' (fun k_ => P0_ k_) := by
  unfold impl_Stretch_73.f at h
  split at h
  · rename_i hc
    obtain rfl := Option.some.inj h
    exact Str.compactStr k27 (fun x : S27 => (x.f0, x.f1, x.f2)) (fun t => ⟨t.1, t.2.1, t.2.2⟩) (fun _ => rfl) rfl (fun _ _ _ _ _ h => k27_openM h) (fun w b ok x => k27_mkM w b ok x) P0_ u9000_ l0 w0 w hB ho0 hc
  · exact absurd h (by simp)


/-! ### slices_SortFunc_72: slices.SortFunc at compareStretches -/
def slices_SortFunc_72.f (l0 : List S27) : Option (List S27) := if (Str.okP (l0.map fun x : S27 => (x.f0, x.f1, x.f2)) && decide (l0.length < 4611686018427387904)) = true then some (l0.mergeSort (Str.le3 fun x : S27 => (x.f0, x.f1, x.f2))) else none
theorem slices_SortFunc_72.calls (P0_ : Nat → Prop) (u9000_ : Value) (l0 : List S27) (r : List S27) (w0 w : World) (hB : Below w0.heap.size w0 w) (ho0 : Kd.R k27 27 w w0.heap.size P0_ u9000_ l0) (h : slices_SortFunc_72.f l0 = some r) :
    Calls Try.prog 71 #[u9000_, .func (.func 72) #[] #[]] w fun e w' => e = .returned (.tuple #[]) ∧ Kd.R k27 27 w' w0.heap.size (fun k_ => (P0_ k_ ∨ w.heap.size ≤ k_)) u9000_ r ∧ Below w0.heap.size w0 w' ∧ Kept w w' (fun k_ => P0_ k_) := by
  unfold slices_SortFunc_72.f at h
  split at h
  · rename_i hc
    obtain rfl := Option.some.inj h
    rw [Bool.and_eq_true, decide_eq_true_eq] at hc
    exact Str.sortStr' k27 (fun x : S27 => (x.f0, x.f1, x.f2)) (fun t => ⟨t.1, t.2.1, t.2.2⟩) (fun _ => rfl) rfl (fun _ _ _ _ _ h => k27_openM h) (fun w b ok x => k27_mkM w b ok x) P0_ u9000_ l0 w0 w hB ho0 hc.1 hc.2
  · exact absurd h (by simp)

end Go.Proofs.Ytoinagnieobbpaa.QFnStretchWords
