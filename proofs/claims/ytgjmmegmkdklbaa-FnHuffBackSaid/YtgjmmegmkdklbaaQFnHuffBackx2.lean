-- A walk, made by walk.py, a program of this session's.
import Derived.Test.YtgjmmegmkdklbaaQFnHuffBackx0
import Derived.Test.YtgjmmegmkdklbaaQFnHuffBackx1
namespace Go.Proofs.Ytgjmmegmkdklbaa.QFnHuffBack
open Go.RowKit Go.Proofs.YtgjmmegmkdklbaaW.PrintWords Go.Proofs.YtgjmmegmkdklbaaW.PrintLast Go.Proofs.YtgjmmegmkdklbaaW.PrintMore
attribute [local go_sem] max2_int min2_int max_two min_two max_three min_three max_four min_four   -- for this text's walks alone
set_option linter.unusedVariables false
set_option linter.unusedSimpArgs false

/-! ### spec_BitsOf: function 40 -/
mutual
def spec_BitsOf.l0 : Nat → List Int → Int → Int → List Int → Option (Int × List Int × Bool)
 | 0, _, _, _, _ => none
 | k + 1, x0, x5, x127000, x127001 => if x5 < (x0.length : Int) then (if 0 ≤ x5 then (if (rd x0 x5) = 0 then (spec_BitsOf.j1 k x0 x5 false x127000 x127001) else (spec_BitsOf.j1 k x0 x5 ((rd x0 x5) != 1) x127000 x127001)) else (none)) else (some (x127000, x127001, true))
def spec_BitsOf.j1 : Nat → List Int → Int → Bool → Int → List Int → Option (Int × List Int × Bool)
 | 0, _, _, _, _, _ => none
 | k + 1, x0, x5, x30, x127000, x127001 => if x30 = true then (some (0, ([] : List Int), false)) else (if (Int.tmod x5 64) = 0 then (if x127001.length < 17592186044416 then (spec_BitsOf.j2 k x0 x5 x127000 (x127001 ++ [0])) else (none)) else (spec_BitsOf.j2 k x0 x5 x127000 x127001))
def spec_BitsOf.j2 : Nat → List Int → Int → Int → List Int → Option (Int × List Int × Bool)
 | 0, _, _, _, _ => none
 | k + 1, x0, x5, x127000, x127001 => if 0 ≤ x5 then (if x5 < (x0.length : Int) then (if (rd x0 x5) = 1 then (if 0 ≤ (wrap64 (Int.tdiv x5 64)) then (if (wrap64 (Int.tdiv x5 64)) < (x127001.length : Int) then ((spec_l01Power.f k (Int.tmod x5 64)).bind fun t134 => (spec_BitsOf.l0 k x0 (wrap64 (x5 + 1)) x127000 (x127001.set ((wrap64 (Int.tdiv x5 64)) : Int).toNat (IntKind.u64.wrap ((rd x127001 (wrap64 (Int.tdiv x5 64))) + t134))))) else (none)) else (none)) else (spec_BitsOf.l0 k x0 (wrap64 (x5 + 1)) x127000 x127001)) else (none)) else (none)
end
def spec_BitsOf.f (k : Nat) (l0 : List Int) : Option (Int × List Int × Bool) := if (l0.length : Int) > 5000 then (some (0, ([] : List Int), false)) else (spec_BitsOf.l0 k l0 0 (l0.length : Int) ([] : List Int))
theorem spec_BitsOf.mono_l : ∀ k, (∀ y0 y1 y2 y3, LeO (spec_BitsOf.l0 k y0 y1 y2 y3) (spec_BitsOf.l0 (k + 1) y0 y1 y2 y3)) ∧ (∀ y0 y1 y2 y3 y4, LeO (spec_BitsOf.j1 k y0 y1 y2 y3 y4) (spec_BitsOf.j1 (k + 1) y0 y1 y2 y3 y4)) ∧ (∀ y0 y1 y2 y3, LeO (spec_BitsOf.j2 k y0 y1 y2 y3) (spec_BitsOf.j2 (k + 1) y0 y1 y2 y3))
 | 0 => ⟨fun _ _ _ _ r h => by simp [spec_BitsOf.l0] at h, fun _ _ _ _ _ r h => by simp [spec_BitsOf.j1] at h, fun _ _ _ _ r h => by simp [spec_BitsOf.j2] at h⟩
 | k + 1 => by
  obtain ⟨ih0, ih1, ih2⟩ := spec_BitsOf.mono_l k
  refine ⟨?_, ?_, ?_⟩
  ·intro y0 y1 y2 y3
   unfold spec_BitsOf.l0
   repeat' first|(with_reducible first|exact ih0 _ _ _ _|exact ih1 _ _ _ _ _|exact ih2 _ _ _ _|exact spec_l01Power.mono _ _|exact LeO.refl _|exact LeO.none _|refine LeO.ite ?_ ?_|refine LeO.bind ?_ (fun _ => ?_))|exact LeO.none _|refine LeO.ite ?_ ?_|refine LeO.bind ?_ (fun _ => ?_)
  ·intro y0 y1 y2 y3 y4
   unfold spec_BitsOf.j1
   repeat' first|(with_reducible first|exact ih0 _ _ _ _|exact ih1 _ _ _ _ _|exact ih2 _ _ _ _|exact spec_l01Power.mono _ _|exact LeO.refl _|exact LeO.none _|refine LeO.ite ?_ ?_|refine LeO.bind ?_ (fun _ => ?_))|exact LeO.none _|refine LeO.ite ?_ ?_|refine LeO.bind ?_ (fun _ => ?_)
  ·intro y0 y1 y2 y3
   unfold spec_BitsOf.j2
   repeat' first|(with_reducible first|exact ih0 _ _ _ _|exact ih1 _ _ _ _ _|exact ih2 _ _ _ _|exact spec_l01Power.mono _ _|exact LeO.refl _|exact LeO.none _|refine LeO.ite ?_ ?_|refine LeO.bind ?_ (fun _ => ?_))|exact LeO.none _|refine LeO.ite ?_ ?_|refine LeO.bind ?_ (fun _ => ?_)
theorem spec_BitsOf.mono : ∀ a0 k, LeO (spec_BitsOf.f k a0) (spec_BitsOf.f (k + 1) a0) := by
 intro a0 k
 obtain ⟨ih0, ih1, ih2⟩ := spec_BitsOf.mono_l k
 unfold spec_BitsOf.f
 repeat' first|(with_reducible first|exact ih0 _ _ _ _|exact ih1 _ _ _ _ _|exact ih2 _ _ _ _|exact spec_l01Power.mono _ _|exact LeO.refl _|exact LeO.none _|refine LeO.ite ?_ ?_|refine LeO.bind ?_ (fun _ => ?_))|exact LeO.none _|refine LeO.ite ?_ ?_|refine LeO.bind ?_ (fun _ => ?_)
def spec_BitsOf.T12 : Bool × List (List Nat × List Nat) := (true, [([], []), ([0], [0]), ([], []), ([2], [2]), ([], []), ([4], [4]), ([], []), ([6], [6]), ([5, 7], [5, 7]), ([8], [8]), ([], []), ([10], [10]), ([11], [11]), ([9, 12], [9, 12]), ([1, 3, 0, 1, 2, 3, 4, 5, 6, 7, 8, 9, 10, 11, 12, 13], [1, 3]), ([14, 13, 12, 0, 1, 2, 3, 4, 5, 6, 7, 8, 9, 10, 11, 12, 13], [13, 14])])
def spec_BitsOf.B12 : List Nat := [0, 1, 0, 4, 0, 16, 0, 64, 240, 496, 0, 1024, 3072, 8176, 16383, 32767]
theorem spec_BitsOf.tab12 : rtab .any (opsOf Try.f40 12) = spec_BitsOf.T12 := by kernel_rfl
theorem spec_BitsOf.bits12 : waitsOk spec_BitsOf.T12.2 spec_BitsOf.B12 = true := by kernel_rfl
abbrev spec_BitsOf.m0 : Array Bool := #[F,F,F,F,F,F,F,F,F,F,F,F,F,F,F,F]
abbrev spec_BitsOf.m1 : Array Bool := #[T,F,F,F,F,F,F,F,F,F,F,F,F,F,F,F]
abbrev spec_BitsOf.m2 : Array Bool := #[T,F,T,F,F,F,F,F,F,F,F,F,F,F,F,F]
abbrev spec_BitsOf.m3 : Array Bool := #[T,F,T,T,F,F,F,F,F,F,F,F,F,F,F,F]
abbrev spec_BitsOf.m4 : Array Bool := #[T,F,T,T,T,F,F,F,F,F,F,F,F,F,F,F]
abbrev spec_BitsOf.m5 : Array Bool := #[T,F,T,T,T,F,T,F,F,F,F,F,F,F,F,F]
abbrev spec_BitsOf.m6 : Array Bool := #[T,F,T,T,T,F,T,T,F,F,F,F,F,F,F,F]
abbrev spec_BitsOf.m7 : Array Bool := #[T,F,T,T,T,F,T,T,F,F,T,F,F,F,F,F]
abbrev spec_BitsOf.m8 : Array Bool := #[T,F,T,T,T,F,T,T,F,F,T,T,F,F,F,F]
abbrev spec_BitsOf.m9 : Array Bool := #[T,T,T,T,T,F,T,T,F,F,T,T,F,F,F,F]
abbrev spec_BitsOf.m10 : Array Bool := #[T,T,T,T,T,T,T,T,F,F,T,T,F,F,F,F]
abbrev spec_BitsOf.m11 : Array Bool := #[T,T,T,T,T,T,T,T,T,F,T,T,F,F,F,F]
abbrev spec_BitsOf.m12 : Array Bool := #[T,T,T,T,T,T,T,T,T,T,T,T,F,F,F,F]
abbrev spec_BitsOf.m13 : Array Bool := #[T,T,T,T,T,T,T,T,T,T,T,T,T,F,F,F]
abbrev spec_BitsOf.m14 : Array Bool := #[T,T,T,T,T,T,T,T,T,T,T,T,T,T,F,F]
abbrev spec_BitsOf.m15 : Array Bool := #[T,T,T,T,T,T,T,T,T,T,T,T,T,T,T,F]
abbrev spec_BitsOf.m16 : Array Bool := #[T,T,T,T,T,T,T,T,T,T,T,T,T,T,T,T]
set_option maxHeartbeats 8000000 in
set_option maxRecDepth 100000 in
theorem spec_BitsOf.calls (k : Nat) (A0 : Option Addr) (c0 : Nat) (l0 : List Int) (r1 : Int) (r2 : List Int) (r3 : Bool) (w : World) (hr0 : Kd.C (Kd.int .i64) w A0 l0.length l0) (hc0 : l0.length ≤ c0) (h : spec_BitsOf.f k l0 = some (r1, r2, r3)) :
  Calls Try.prog 40 #[.slice A0 l0.length c0] w fun e w' => ∃ v1_ : Value, e = .returned (.tuple #[.agg #[.int .i64 r1, v1_], .bool r3]) ∧ Kd.R (Kd.int .u64) 82 w' w.heap.size (fun _ => True) v1_ r2 ∧ Below w.heap.size w w' := by
 have hu30:=Try.underlying30
 have HR0:=mk0 hr0
 have HC0:=mk0 hc0
 clear hr0 hc0
 have HB:=mk0 (Below.refl w.heap.size w)
 have H:(if (l0.length:Int) > 5000 then (some (0,([]:List Int),false)) else (spec_BitsOf.l0 k l0 0 (l0.length:Int) ([]:List Int))) = some (r1,r2,r3):=h
 clear h
 by_cases c2:(l0.length:Int) > 5000
 ·rw [if_pos c2] at H
  have c2b0:decide (5000 < (l0.length:Int)) = true:=decide_eq_true c2
  have c2b1:decide (5000 < l0.length) = true:=decide_eq_true (by omega)
  clear c2
  simp only [Option.some.injEq,Prod.mk.injEq] at H
  obtain⟨rfl,rfl,rfl⟩:=H
  go_enter Try.func40,Try.ntmps40
  go_wp2_with (first|((with_reducible refine gate_dst (N:=2) rfl ?_);refine box_event ?hg (N:=2) ?hd (cs:=#[.int .i64 0,.slice none 0 0]) (t:=30) ?hr ?_;(case hd=>rfl);(case hg=>rfl);(case hr=>first|(go_simp;done)|(go_simp;rfl));intro gb125 hg w3 hbox hb;have BK125:=mk0 (hbox);have GW125:=mk0 ((by rw [hg];exact (kZ HB.out):w.heap.size ≤ gb125));have GE125:=mk0 ((by rw [hg];exact (kZ HB.out):w.heap.size ≤ gb125));replace HB:=mk0 (kS HB.out hb);clear hb hbox hg;obtain⟨hcz4_0,hcz4_1,hfz4_0,hfz4_1⟩:=cz2 BK125.out))
  refine bodyPost_ret (results_ct rfl _ _ gb125 30 #[.int .i64 0,.slice none 0 0] (0,0) _ rfl (by (with_reducible repeat (first|apply nB|apply dB|apply aB));refine blk_put (cs:=#[.int .i64 0,.slice none 0 0]) ?_ 1 _ rfl;(with_reducible repeat (first|apply nB|apply dB|apply aB));refine blk_put (cs:=#[.int .i64 0,.slice none 0 0]) ?_ 0 _ rfl;(with_reducible repeat (first|apply nB|apply dB|apply aB));exact BK125.out) Try.underlying30 rfl (by kernel_rfl)) rfl ?_
  exact⟨_,by first|rfl|(simp [errW_none,errW_some] <;> rfl)|(simp [*,errW_none,errW_some] <;> rfl),by first|exact Kd.R_nil _ _ _ _ _|exact Kd.N_nil _ _ _ _ _|exact Kd.V_nil _ _ _ _ _|exact Kd.Q_nil _ _ _ _ _|exact Kd.S_nil _ _ _ _ _,kB HB.out⟩
 rw [if_neg c2] at H
 have c2b0:decide (5000 < (l0.length:Int)) = false:=decide_eq_false c2
 have c2b1:decide (5000 < l0.length) = false:=decide_eq_false (by omega)
 clear c2
 have H':=mk0 H
 clear H
 go_enter Try.func40,Try.ntmps40
 go_wp2_with (first|((with_reducible refine gate_dst (N:=2) rfl ?_);refine box_event ?hg (N:=2) ?hd (cs:=#[.int .i64 0,.slice none 0 0]) (t:=30) ?hr ?_;(case hd=>rfl);(case hg=>rfl);(case hr=>first|(go_simp;done)|(go_simp;rfl));intro gb125 hg w5 hbox hb;have BK125:=mk0 (hbox);have GW125:=mk0 ((by rw [hg];exact (kZ HB.out):w.heap.size ≤ gb125));have GE125:=mk0 ((by rw [hg];exact (kZ HB.out):w.heap.size ≤ gb125));replace HB:=mk0 (kS HB.out hb);clear hb hbox hg)|((with_reducible refine gate_dst (N:=4) rfl ?_);refine box_event ?hg (N:=4) ?hd (cs:=#[.int .i64 0,.slice none 0 0]) (t:=30) ?hr ?_;(case hd=>rfl);(case hg=>rfl);(case hr=>first|(go_simp;done)|(go_simp;rfl));intro gb126 hg w6 hbox hb;have BK126:=mk0 (hbox);have GW126:=mk0 ((by rw [hg];exact (kZ HB.out):w.heap.size ≤ gb126));have GE126:=mk0 ((by rw [hg];exact (kZ HB.out):w.heap.size ≤ gb126));replace HB:=mk0 (kS HB.out hb);have NB125_126:=mk0 ((by rw [hg];exact Nat.ne_of_lt (kL BK125.out):gb125 ≠ gb126));have NB126_125:=mk0 ((by rw [hg];exact Nat.ne_of_gt (kL BK125.out):gb126 ≠ gb125));replace BK125:=mk0 (kK BK125.out hb);clear hb hbox hg;have hnb7:=NB126_125.out;have hnc7:=NB125_126.out;obtain⟨hcz8_0,hcz8_1,hfz8_0,hfz8_1⟩:=cz2 BK126.out))
 go_loopg [5] k (fun kq v5 w'=>∃ (x5_1:Int) (x126000_1:Int) (x127001_1:List Int) (u127001:Value),v5 = .int .i64 x5_1 ∧ Aside0 (spec_BitsOf.l0 kq l0 x5_1 (l0.length:Int) x127001_1 = some (r1,r2,r3)) ∧ Aside0 (kq ≤ k) ∧ Aside0 (Kd.R (Kd.int .u64) 82 w' w.heap.size (fun _=>True) u127001 x127001_1) ∧ Aside0 (w'.heap[gb125]? = some (.cells #[.int .i64 x126000_1,(.slice none 0 0)] 30 (0,0))) ∧ Aside0 (w'.heap[gb126]? = some (.cells #[.int .i64 (l0.length:Int),u127001] 30 (0,0))) ∧ Aside0 (Below w.heap.size w w'))
 case atStart=>exact⟨(0),(0),(([]:List Int)),(.slice none 0 0),(by first|rfl|(simp;done)|(simp [*];done)),H',⟨Nat.le_refl _⟩,⟨by first|exact Kd.R_nil _ _ _ _ _|exact Kd.N_nil _ _ _ _ _|exact Kd.V_nil _ _ _ _ _|exact Kd.Q_nil _ _ _ _ _|exact Kd.S_nil _ _ _ _ _⟩,⟨by (with_reducible repeat (first|apply nB|apply dB|apply aB));refine blk_far ?_ NB125_126.out _;(with_reducible repeat (first|apply nB|apply dB|apply aB));refine blk_far ?_ NB125_126.out _;(with_reducible repeat (first|apply nB|apply dB|apply aB));exact BK125.out⟩,⟨by (with_reducible repeat (first|apply nB|apply dB|apply aB));refine blk_put (cs:=#[.int .i64 (l0.length:Int),.slice none 0 0]) ?_ 1 _ rfl;(with_reducible repeat (first|apply nB|apply dB|apply aB));refine blk_put (cs:=#[.int .i64 0,.slice none 0 0]) ?_ 0 _ rfl;(with_reducible repeat (first|apply nB|apply dB|apply aB));exact BK126.out⟩,⟨kB HB.out⟩⟩
 case round =>
  clear H'
  try clear c2
  try clear c2b0
  try clear c2b1
  try clear p2
  try clear c4
  try clear c7
  try clear hcz4_0
  try clear hcz4_1
  try clear hcz8_0
  try clear hcz8_1
  try clear hfz4_0
  try clear hfz4_1
  try clear hfz8_0
  try clear hfz8_1
  obtain⟨x5_1,x126000_1,x127001_1,u127001,rfl,HA,HK1,HO_127001,BK125,BK126,HB⟩:=hrel
  cases gk with
  | zero=>exact absurd HA.out (by simp [spec_BitsOf.l0])
  | succ k1 =>
   have H:=HA.out
   clear HA
   simp only [spec_BitsOf.l0] at H
   by_cases c9:x5_1 < (l0.length:Int)
   rotate_left
   ·rw [if_neg c9] at H
    have c9b0:decide (x5_1 < (l0.length:Int)) = false:=decide_eq_false c9
    clear c9
    simp only [Option.some.injEq,Prod.mk.injEq] at H
    obtain⟨rfl,rfl,rfl⟩:=H
    have hnb35:=NB126_125.out
    have hnc35:=NB125_126.out
    obtain⟨hcz36_0,hcz36_1,hfz36_0,hfz36_1⟩:=cz2 BK126.out
    obtain⟨hcz37_0,hcz37_1,hfz37_0,hfz37_1⟩:=cz2 BK125.out
    obtain⟨Ao38,co38,eo38⟩:=Kd.R_slice HO_127001.out
    subst eo38
    go_wp2
    refine bodyPost_ret (results_ct rfl _ _ gb125 30 #[.int .i64 (l0.length:Int),.slice Ao38 x127001_1.length co38] (0,0) _ rfl (by (with_reducible repeat (first|apply nB|apply dB|apply aB));refine blk_put (cs:=#[.int .i64 (l0.length:Int),.slice none 0 0]) ?_ 1 _ rfl;(with_reducible repeat (first|apply nB|apply dB|apply aB));refine blk_put (cs:=#[.int .i64 x126000_1,.slice none 0 0]) ?_ 0 _ rfl;(with_reducible repeat (first|apply nB|apply dB|apply aB));exact BK125.out) Try.underlying30 rfl (by kernel_rfl)) rfl ?_
    exact⟨_,by first|rfl|(simp [errW_none,errW_some] <;> rfl)|(simp [*,errW_none,errW_some] <;> rfl),by (with_reducible repeat (first|apply aR|apply nR|apply dR));exact Kd.R_mono (Kd.R_far (p:=⟨gb125,1,none⟩) (Kd.R_far (p:=⟨gb125,0,none⟩) (Kd.R_types HO_127001.out BK125.out (by decide)) (by first|exact fun _ hk=>hk.2|(intro k_ hk;simp only [hk,ne_eq,and_self,not_false_eq_true])) (.int .i64 (l0.length:Int))) (by first|exact fun _ hk=>hk.2|(intro k_ hk;simp only [hk,ne_eq,and_self,not_false_eq_true])) (.slice Ao38 x127001_1.length co38)) (fun _ hk=>trivial),kB HB.out⟩

   rw [if_pos c9] at H
   have c9b0:decide (x5_1 < (l0.length:Int)) = true:=decide_eq_true c9
   clear c9
   have HC10:=mk0 H
   clear H
   go_upto_region 7 with (fail)
   go_cut [30] (fun v30 wc=>∃ (kq:Nat) (x30_9:Bool),v30 = .bool x30_9 ∧ Aside0 (spec_BitsOf.j1 kq l0 x5_1 x30_9 (l0.length:Int) x127001_1 = some (r1,r2,r3)) ∧ Aside0 (kq ≤ k1) ∧ Aside0 (Kd.R (Kd.int .u64) 82 wc w.heap.size (fun _=>True) u127001 x127001_1) ∧ Aside0 (wc.heap[gb125]? = some (.cells #[.int .i64 x126000_1,(.slice none 0 0)] 30 (0,0))) ∧ Aside0 (wc.heap[gb126]? = some (.cells #[.int .i64 (l0.length:Int),u127001] 30 (0,0))) ∧ Aside0 (Below w.heap.size w wc))
   case first =>
    have H:=HC10.out
    clear HC10
    by_cases c11:0 ≤ x5_1
    rotate_left
    ·rw [if_neg c11] at H
     exact absurd H (by simp)
    rw [if_pos c11] at H
    have c11b0:decide (0 ≤ x5_1) = true:=decide_eq_true c11
    clear c11
    (first|rw [c11b0]|(simp only [i64_w,i32_w];rw [c11b0])|skip)
    by_cases c12:(rd l0 x5_1) = 0
    ·rw [if_pos c12] at H
     have c12b0:((rd l0 x5_1) == 0) = true:=beq_iff_eq.mpr c12
     have c12b1:((rd l0 x5_1) != 0) = false:=bne_eq_false_iff_eq.mpr c12
     clear c12
     have H':=mk0 H
     clear H
     have p127:0 ≤ (x5_1:Int):=of_decide_eq_true (by first|(with_reducible assumption)|assumption)
     have q127:x5_1 < (l0.length:Int):=of_decide_eq_true (by first|(with_reducible assumption)|assumption)
     obtain⟨ad127,e127,hx127_0⟩:=Kd.at_int HR0.out x5_1 p127 q127
     cases e127
     replace hx127_0:=(HB.out.cell (World.block_lt_of_cell? w _ hx127_0)).trans hx127_0
     replace p127:=eq_true p127
     replace q127:=eq_true q127
     go_wp2
     go_meet
     case rel=>exact⟨_,(false),(by first|rfl|(simp;done)|(simp [*];done)),H',⟨by have:=HK1.out;first|omega|exact Nat.le_refl _⟩,⟨rR HO_127001.out⟩,⟨kN BK125.out⟩,⟨kN BK126.out⟩,⟨kB HB.out⟩⟩
    rw [if_neg c12] at H
    have c12b0:((rd l0 x5_1) == 0) = false:=beq_eq_false_iff_ne.mpr c12
    have c12b1:((rd l0 x5_1) != 0) = true:=bne_iff_ne.mpr c12
    have H':=mk0 H
    clear H
    have p127:0 ≤ (x5_1:Int):=of_decide_eq_true (by first|(with_reducible assumption)|assumption)
    have q127:x5_1 < (l0.length:Int):=of_decide_eq_true (by first|(with_reducible assumption)|assumption)
    obtain⟨ad127,e127,hx127_0⟩:=Kd.at_int HR0.out x5_1 p127 q127
    cases e127
    replace hx127_0:=(HB.out.cell (World.block_lt_of_cell? w _ hx127_0)).trans hx127_0
    replace p127:=eq_true p127
    replace q127:=eq_true q127
    have p128:0 ≤ (x5_1:Int):=of_decide_eq_true (by first|(with_reducible assumption)|assumption)
    have q128:x5_1 < (l0.length:Int):=of_decide_eq_true (by first|(with_reducible assumption)|assumption)
    obtain⟨ad128,e128,hx128_0⟩:=Kd.at_int HR0.out x5_1 p128 q128
    obtain rfl:ad127 = ad128:=(by injection e128)
    replace hx128_0:=(HB.out.cell (World.block_lt_of_cell? w _ hx128_0)).trans hx128_0
    replace p128:=eq_true p128
    replace q128:=eq_true q128
    go_wp2
    go_meet
    case rel=>exact⟨_,(((rd l0 x5_1) != 1)),(by first|rfl|(simp;done)|(simp [*];done)),H',⟨by have:=HK1.out;first|omega|exact Nat.le_refl _⟩,⟨rR HO_127001.out⟩,⟨kN BK125.out⟩,⟨kN BK126.out⟩,⟨kB HB.out⟩⟩
   case rest =>
    clear HC10
    try clear c1
    try clear p1
    try clear q1
    try clear hx1
    try clear c2
    try clear c2b0
    try clear c2b1
    try clear p2
    try clear c4
    try clear c7
    try clear c9
    try clear c9b0
    try clear c11
    try clear c11b0
    try clear c12
    try clear c12b0
    try clear c12b1
    try clear p12
    try clear q12
    try clear hx12
    try clear hcz4_0
    try clear hcz4_1
    try clear hcz8_0
    try clear hcz8_1
    try clear hfz4_0
    try clear hfz4_1
    try clear hfz8_0
    try clear hfz8_1
    try clear hx127_0
    try clear hx128_0
    try clear p127
    try clear p128
    try clear p2
    try clear q127
    try clear q128
    obtain⟨kq,x30_9,rfl,HA,HJ9,HO_127001,BK125,BK126,HB⟩:=hcut
    cases kq with
    | zero=>exact absurd HA.out (by simp [spec_BitsOf.j1])
    | succ kj9 =>
     have H:=HA.out
     clear HA
     simp only [spec_BitsOf.j1] at H
     by_cases c13:x30_9 = true
     ·subst c13
      have H1:(some (0,([]:List Int),false)) = some (r1,r2,r3):=by rw [if_pos rfl] at H;exact H
      clear H
      have H:=H1
      clear H1
      simp only [Option.some.injEq,Prod.mk.injEq] at H
      obtain⟨rfl,rfl,rfl⟩:=H
      have hnb14:=NB125_126.out
      have hnc14:=NB126_125.out
      obtain⟨hcz15_0,hcz15_1,hfz15_0,hfz15_1⟩:=cz2 BK125.out
      go_wp2
      refine bodyPost_ret (results_ct rfl _ _ gb125 30 #[.int .i64 0,.slice none 0 0] (0,0) _ rfl (by (with_reducible repeat (first|apply nB|apply dB|apply aB));refine blk_put (cs:=#[.int .i64 0,.slice none 0 0]) ?_ 1 _ rfl;(with_reducible repeat (first|apply nB|apply dB|apply aB));refine blk_put (cs:=#[.int .i64 x126000_1,.slice none 0 0]) ?_ 0 _ rfl;(with_reducible repeat (first|apply nB|apply dB|apply aB));exact BK125.out) Try.underlying30 rfl (by kernel_rfl)) rfl ?_
      exact⟨_,by first|rfl|(simp [errW_none,errW_some] <;> rfl)|(simp [*,errW_none,errW_some] <;> rfl),by first|exact Kd.R_nil _ _ _ _ _|exact Kd.N_nil _ _ _ _ _|exact Kd.V_nil _ _ _ _ _|exact Kd.Q_nil _ _ _ _ _|exact Kd.S_nil _ _ _ _ _,kB HB.out⟩
     replace c13:=Bool.eq_false_iff.mpr c13
     subst c13
     have H1:(if (Int.tmod x5_1 64) = 0 then (if x127001_1.length < 17592186044416 then (spec_BitsOf.j2 kj9 l0 x5_1 (l0.length:Int) (x127001_1 ++ [0])) else (none)) else (spec_BitsOf.j2 kj9 l0 x5_1 (l0.length:Int) x127001_1)) = some (r1,r2,r3):=by rw [if_neg (show ¬ (false = true) by decide)] at H;exact H
     clear H
     have H:=H1
     clear H1
     have HC16:=mk0 H
     clear H
     go_upto_if 34 with (fail)
     go_cut [] (fun wc=>∃ (kq:Nat) (x127001_15:List Int) (u127001:Value),Aside0 (spec_BitsOf.j2 kq l0 x5_1 (l0.length:Int) x127001_15 = some (r1,r2,r3)) ∧ Aside0 (kq ≤ kj9) ∧ Aside0 (Kd.R (Kd.int .u64) 82 wc w.heap.size (fun _=>True) u127001 x127001_15) ∧ Aside0 (wc.heap[gb125]? = some (.cells #[.int .i64 x126000_1,(.slice none 0 0)] 30 (0,0))) ∧ Aside0 (wc.heap[gb126]? = some (.cells #[.int .i64 (l0.length:Int),u127001] 30 (0,0))) ∧ Aside0 (Below w.heap.size w wc))
     case first =>
      have H:=HC16.out
      clear HC16
      by_cases c17:(Int.tmod x5_1 64) = 0
      rotate_left
      ·rw [if_neg c17] at H
       have c17b0:((Int.tmod x5_1 64) == 0) = false:=beq_eq_false_iff_ne.mpr c17
       have c17b1:((Int.tmod x5_1 64) != 0) = true:=bne_iff_ne.mpr c17
       (first|rw [c17b0]|(simp only [i64_w,i32_w];rw [c17b0])|skip)
       have H':=mk0 H
       clear H
       go_wp2
       go_meet
       case rel=>exact⟨_,(x127001_1),(u127001),H',⟨by have:=HK1.out;have:=HJ9.out;first|omega|exact Nat.le_refl _⟩,⟨rR HO_127001.out⟩,⟨kN BK125.out⟩,⟨kN BK126.out⟩,⟨kB HB.out⟩⟩
      rw [if_pos c17] at H
      have c17b0:((Int.tmod x5_1 64) == 0) = true:=beq_iff_eq.mpr c17
      have c17b1:((Int.tmod x5_1 64) != 0) = false:=bne_eq_false_iff_eq.mpr c17
      clear c17
      (first|rw [c17b0]|(simp only [i64_w,i32_w];rw [c17b0])|skip)
      by_cases c18:x127001_1.length < 17592186044416
      rotate_left
      ·rw [if_neg c18] at H
       exact absurd H (by simp)
      rw [if_pos c18] at H
      have LMc18:=mk0 c18
      clear c18
      obtain⟨y129,hy129⟩:∃ y_:List Int,y_ = (x127001_1 ++ [0]):=⟨_,rfl⟩
      replace H:(spec_BitsOf.j2 kj9 l0 x5_1 (l0.length:Int) y129) = some (r1,r2,r3):=by first|(rw [hy129];with_reducible exact H)|(have H2_:=(Option.bind_some _ _).symm.trans H;rw [hy129];with_reducible exact H2_)|(have H2_:=(Option.bind_some _ _).symm.trans H;with_reducible exact H2_)|with_reducible exact H|(rw [hy129];exact H)|exact H
      have Ny129:=mk0 hy129
      clear hy129
      have H':=mk0 H
      clear H
      have hnb19:=NB126_125.out
      have hnc19:=NB125_126.out
      obtain⟨hcz20_0,hcz20_1,hfz20_0,hfz20_1⟩:=cz2 BK126.out
      go_wp2_with (first|((with_reducible refine gate_builtin (b:=.append) (xs:=#[.tmp 36,.tmp 37]) rfl ?_);at_builtin;refine Kd.R_append (Kd.int .u64) (w0:=w) w.heap.size rfl (.tmp 36) (.tmp 37) 28 82 (.int .u64 0) 8 rfl Try.underlying28 info82 rfl (by decide) (by omega) u127001 x127001_1 0 [.int .u64 0] (fun _=>True) (fun _=>False) rfl rfl ?aP (fun _ hk=>hk.elim) ?aF ?aO ?aB ?aS ?aL ?_;(case aP=>exact rfl);(case aB=>exact (kB HB.out));(case aF=>exact (fun _ _=>trivial));(case aO=>exact (rR HO_127001.out));(case aS=>exact (kZ HB.out));(case aL=>have:=LMc18.out;omega);intro v130 w21 ho hb hg hat;rw [← Ny129.out] at ho;replace BK125:=mk0 (blk_grown (kN BK125.out) hg (Kd.R_ne HO_127001.out BK125.out (by decide)));replace BK126:=mk0 (blk_grown (kN BK126.out) hg (Kd.R_ne HO_127001.out BK126.out (by decide)));replace HB:=mk0 (hb);have HO131:=mk0 (ho);clear HO_127001 ho hb hg hat;obtain⟨Ao22,co22,eo22⟩:=Kd.R_slice HO131.out;subst eo22;obtain⟨hcz23_0,hcz23_1,hfz23_0,hfz23_1⟩:=cz2 BK126.out))
      go_meet
      case rel=>exact⟨_,(y129),(.slice Ao22 y129.length co22),H',⟨by have:=HK1.out;have:=HJ9.out;first|omega|exact Nat.le_refl _⟩,⟨by (with_reducible repeat (first|apply aR|apply nR|apply dR));exact Kd.R_mono (Kd.R_far (p:=⟨gb126,1,none⟩) (Kd.R_types HO131.out BK126.out (by decide)) (by first|exact fun _ hk=>hk.2|(intro k_ hk;simp only [hk,ne_eq,and_self,not_false_eq_true])) (.slice Ao22 y129.length co22)) (fun _ hk=>trivial)⟩,⟨by (with_reducible repeat (first|apply nB|apply dB|apply aB));refine blk_far ?_ NB125_126.out _;(with_reducible repeat (first|apply nB|apply dB|apply aB));exact BK125.out⟩,⟨by (with_reducible repeat (first|apply nB|apply dB|apply aB));refine blk_put (cs:=#[.int .i64 (l0.length:Int),u127001]) ?_ 1 _ rfl;(with_reducible repeat (first|apply nB|apply dB|apply aB));exact BK126.out⟩,⟨kB HB.out⟩⟩
     case rest =>
      clear HC16
      try clear c1
      try clear p1
      try clear q1
      try clear hx1
      try clear c2
      try clear c2b0
      try clear c2b1
      try clear p2
      try clear c4
      try clear c7
      try clear c9
      try clear c9b0
      try clear c11
      try clear c11b0
      try clear c12
      try clear c12b0
      try clear c12b1
      try clear p12
      try clear q12
      try clear hx12
      try clear c13
      try clear c14
      try clear c17
      try clear c17b0
      try clear c17b1
      try clear c18
      try clear c19
      try clear hcz15_0
      try clear hcz15_1
      try clear hcz20_0
      try clear hcz20_1
      try clear hcz23_0
      try clear hcz23_1
      try clear hcz4_0
      try clear hcz4_1
      try clear hcz8_0
      try clear hcz8_1
      try clear hfz15_0
      try clear hfz15_1
      try clear hfz20_0
      try clear hfz20_1
      try clear hfz23_0
      try clear hfz23_1
      try clear hfz4_0
      try clear hfz4_1
      try clear hfz8_0
      try clear hfz8_1
      try clear hx127_0
      try clear hx128_0
      try clear p1
      try clear p12
      try clear p127
      try clear p128
      try clear p2
      try clear q1
      try clear q12
      try clear q127
      try clear q128
      obtain⟨kq,x127001_15,u127001,HA,HJ15,HO_127001,BK125,BK126,HB⟩:=hcut
      cases kq with
      | zero=>exact absurd HA.out (by simp [spec_BitsOf.j2])
      | succ kj15 =>
       have H:=HA.out
       clear HA
       simp only [spec_BitsOf.j2] at H
       by_cases c24:0 ≤ x5_1
       rotate_left
       ·rw [if_neg c24] at H
        exact absurd H (by simp)
       rw [if_pos c24] at H
       have c24b0:decide (0 ≤ x5_1) = true:=decide_eq_true c24
       clear c24
       by_cases c25:x5_1 < (l0.length:Int)
       rotate_left
       ·rw [if_neg c25] at H
        exact absurd H (by simp)
       rw [if_pos c25] at H
       have c25b0:decide (x5_1 < (l0.length:Int)) = true:=decide_eq_true c25
       clear c25
       by_cases c26:(rd l0 x5_1) = 1
       rotate_left
       ·rw [if_neg c26] at H
        have c26b0:((rd l0 x5_1) == 1) = false:=beq_eq_false_iff_ne.mpr c26
        have c26b1:((rd l0 x5_1) != 1) = true:=bne_iff_ne.mpr c26
        have H':=mk0 H
        clear H
        have p132:0 ≤ (x5_1:Int):=of_decide_eq_true (by first|(with_reducible assumption)|assumption)
        have q132:x5_1 < (l0.length:Int):=of_decide_eq_true (by first|(with_reducible assumption)|assumption)
        obtain⟨ad132,e132,hx132_0⟩:=Kd.at_int HR0.out x5_1 p132 q132
        cases e132
        replace hx132_0:=(HB.out.cell (World.block_lt_of_cell? w _ hx132_0)).trans hx132_0
        replace p132:=eq_true p132
        replace q132:=eq_true q132
        go_wp2
        go_roundg kj15
        case measure=>have:=HK1.out;have:=HJ9.out;have:=HJ15.out;omega
        case rel=>exact⟨(wrap64 (x5_1 + 1)),(x126000_1),(x127001_15),(u127001),(by first|rfl|(simp;done)|(simp [*];done)),H',⟨by have:=HK1.out;have:=HJ9.out;have:=HJ15.out;omega⟩,⟨rR HO_127001.out⟩,⟨kN BK125.out⟩,⟨kN BK126.out⟩,⟨kB HB.out⟩⟩
       rw [if_pos c26] at H
       have c26b0:((rd l0 x5_1) == 1) = true:=beq_iff_eq.mpr c26
       have c26b1:((rd l0 x5_1) != 1) = false:=bne_eq_false_iff_eq.mpr c26
       clear c26
       obtain⟨ji27,hji27⟩:∃ j_:Int,(wrap64 (Int.tdiv x5_1 64)) = j_:=⟨_,rfl⟩
       replace H:(if 0 ≤ (ji27) then (if (ji27) < (x127001_15.length:Int) then ((spec_l01Power.f kj15 (Int.tmod x5_1 64)).bind fun t134=>(spec_BitsOf.l0 kj15 l0 (wrap64 (x5_1 + 1)) (l0.length:Int) (x127001_15.set ((ji27):Int).toNat (IntKind.u64.wrap ((rd x127001_15 (ji27)) + t134))))) else (none)) else (none)) = some (r1,r2,r3):=by first|(rw [hji27] at H;exact H)|(simp only [hji27] at H ⊢;exact H)
       have hji27w:(IntKind.i64.wrap (Int.tdiv x5_1 64)) = ji27:=(i64_w _).trans hji27
       by_cases c28:0 ≤ (ji27)
       rotate_left
       ·rw [if_neg c28] at H
        exact absurd H (by simp)
       rw [if_pos c28] at H
       have c28b0:decide (0 ≤ (ji27)) = true:=decide_eq_true c28
       clear c28
       by_cases c29:(ji27) < (x127001_15.length:Int)
       rotate_left
       ·rw [if_neg c29] at H
        exact absurd H (by simp)
       rw [if_pos c29] at H
       have c29b0:decide ((ji27) < (x127001_15.length:Int)) = true:=decide_eq_true c29
       clear c29
       replace H:=Option.bind_eq_some_iff.mp H
       obtain⟨t134,A300,H⟩:=H
       replace H:(spec_BitsOf.l0 kj15 l0 (wrap64 (x5_1 + 1)) (l0.length:Int) (x127001_15.set ((ji27):Int).toNat (IntKind.u64.wrap ((rd x127001_15 (ji27)) + t134)))) = some (r1,r2,r3):=H
       have A30:=mk0 A300
       clear A300
       obtain⟨y135,hy135⟩:∃ y_:List Int,y_ = (x127001_15.set ((ji27):Int).toNat (IntKind.u64.wrap ((rd x127001_15 (ji27)) + t134))):=⟨_,rfl⟩
       replace H:(spec_BitsOf.l0 kj15 l0 (wrap64 (x5_1 + 1)) (l0.length:Int) y135) = some (r1,r2,r3):=by first|(rw [hy135];with_reducible exact H)|(have H2_:=(Option.bind_some _ _).symm.trans H;rw [hy135];with_reducible exact H2_)|(have H2_:=(Option.bind_some _ _).symm.trans H;with_reducible exact H2_)|with_reducible exact H|(rw [hy135];exact H)|exact H
       have Ny135:=mk0 hy135
       clear hy135
       have H':=mk0 H
       clear H
       have p132:0 ≤ (x5_1:Int):=of_decide_eq_true (by first|(with_reducible assumption)|assumption)
       have q132:x5_1 < (l0.length:Int):=of_decide_eq_true (by first|(with_reducible assumption)|assumption)
       obtain⟨ad132,e132,hx132_0⟩:=Kd.at_int HR0.out x5_1 p132 q132
       cases e132
       replace hx132_0:=(HB.out.cell (World.block_lt_of_cell? w _ hx132_0)).trans hx132_0
       replace p132:=eq_true p132
       replace q132:=eq_true q132
       try go_wp2
       replace HO_127001:=mk0 (dR HO_127001.out)
       replace BK125:=mk0 (dB BK125.out)
       replace BK126:=mk0 (dB BK126.out)
       replace HB:=mk0 (dZ HB.out)
       obtain⟨Ao33,co33,eo33⟩:=Kd.R_slice HO_127001.out
       (first|subst eo33|(injection eo33 with f1_ f2_ f3_;have f4_:=f1_.symm;have f5_:=f3_.symm;clear f1_ f2_ f3_;subst f4_;subst f5_))
       have p133:0 ≤ ((ji27):Int):=of_decide_eq_true (by first|(with_reducible assumption)|assumption)
       have q133:(ji27) < (x127001_15.length:Int):=of_decide_eq_true (by first|(with_reducible assumption)|assumption)
       obtain⟨ad133,e133,hx133_0⟩:=Kd.at_int (Kd.R_reads' HO_127001.out).2.2 (ji27) p133 q133
       cases e133
       replace p133:=eq_true p133
       replace q133:=eq_true q133
       refine start_ (n:=16) (S:=fun w'=>w'.cell? ⟨gb126,0,none⟩ = some (.int .i64 (l0.length:Int)) ∧ w'.cell? ⟨gb126,1,none⟩ = some (.slice (some ad133) x127001_15.length co33) ∧ w'.cell? (ad133.add ((ji27)).toNat) = some (.int .u64 (rd x127001_15 (ji27)))) (ds:=[15]) spec_BitsOf.m0 (by kernel_rfl) rfl rfl ⟨(blk_cell BK126.out 0).trans rfl,(blk_cell BK126.out 1).trans rfl,hx133_0⟩ (fun hHeld=>?_);refine with_tabW spec_BitsOf.tab12 spec_BitsOf.bits12 (fun HT_ HW_=>?_)
       generalize wc.drew = w32 at HO_127001 BK125 BK126 HB hx133_0 hHeld ⊢
       refine pure_ (i:=0) (N:=some 45) (v:=?_) (a':=?_) spec_BitsOf.m1 rfl rfl (any_of HT_.out (by kernel_rfl)) (fun _ _ _ h=>h) (Or.inl ⟨by rfl,?_⟩) ?_ ?_
       rotate_left
       ·intro w'
        go_simp
        with_reducible rfl
       rotate_left
       ·simp only [Act.put,sA,sO,sS,i64_w,i32_w]
        rfl
       refine pure_ (i:=2) (N:=some 47) (v:=?_) (a':=?_) spec_BitsOf.m2 rfl rfl (any_of HT_.out (by kernel_rfl)) (fun _ _ _ h=>h) (Or.inl ⟨by rfl,?_⟩) ?_ ?_
       rotate_left
       ·intro w'
        go_simp
        with_reducible rfl
       rotate_left
       ·simp only [Act.put,sA,sO,sS,i64_w,i32_w]
        rfl
       refine pure_ (i:=3) (N:=some 48) (v:=?_) (a':=?_) spec_BitsOf.m3 rfl rfl (any_of HT_.out (by kernel_rfl)) (fun _ _ _ h=>h) (Or.inl ⟨by rfl,?_⟩) ?_ ?_
       rotate_left
       ·intro w'
        go_simp
        with_reducible rfl
       rotate_left
       ·simp only [Act.put,sA,sO,sS,i64_w,i32_w]
        rfl
       refine pure_ (i:=4) (N:=some 49) (v:=?_) (a':=?_) spec_BitsOf.m4 rfl rfl (any_of HT_.out (by kernel_rfl)) (fun _ _ _ h=>h) (Or.inl ⟨by rfl,?_⟩) ?_ ?_
       rotate_left
       ·intro w'
        go_simp
        with_reducible rfl
       rotate_left
       ·simp only [Act.put,sA,sO,sS,i64_w,i32_w]
        rfl
       refine pure_ (i:=6) (N:=some 51) (v:=?_) (a':=?_) spec_BitsOf.m5 rfl rfl (any_of HT_.out (by kernel_rfl)) (fun _ _ _ h=>h) (Or.inl ⟨by rfl,?_⟩) ?_ ?_
       rotate_left
       ·intro w'
        go_simp
        with_reducible rfl
       rotate_left
       ·simp only [Act.put,sA,sO,sS,i64_w,i32_w]
        rfl
       refine pure_ (i:=7) (N:=some 52) (v:=?_) (a':=?_) spec_BitsOf.m6 rfl rfl (any_of HT_.out (by kernel_rfl)) (fun _ _ _ h=>h) (Or.inl ⟨by rfl,?_⟩) ?_ ?_
       rotate_left
       ·intro w'
        go_simp
        with_reducible rfl
       rotate_left
       ·simp only [Act.put,sA,sO,sS,i64_w,i32_w]
        rfl
       refine pure_ (i:=10) (N:=some 55) (v:=?_) (a':=?_) spec_BitsOf.m7 rfl rfl (any_of HT_.out (by kernel_rfl)) (fun _ _ _ h=>h) (Or.inl ⟨by rfl,?_⟩) ?_ ?_
       rotate_left
       ·intro w'
        go_simp
        with_reducible rfl
       rotate_left
       ·simp only [Act.put,sA,sO,sS,i64_w,i32_w]
        rfl
       refine pure_ (i:=11) (N:=some 56) (v:=?_) (a':=?_) spec_BitsOf.m8 rfl rfl (any_of HT_.out (by kernel_rfl)) (fun _ _ _ h=>h) (Or.inl ⟨by rfl,?_⟩) ?_ ?_
       rotate_left
       ·intro w'
        go_simp
        with_reducible rfl
       rotate_left
       ·simp only [Act.put,sA,sO,sS,i64_w,i32_w]
        rfl
       refine take_ (i:=1) (N:=some 46) (v:=?_) (a':=?_) spec_BitsOf.m9 rfl rfl (take_ofW HT_.out HW_.out (by kernel_rfl)) (fun _ _ _ h=>h) (Or.inl ⟨by rfl,?_⟩) hHeld ?_ ?_
       rotate_left
       ·rintro w' ⟨s0,s1,s2⟩
        go_simp
        with_reducible rfl
       rotate_left
       ·simp only [Act.put,sA,sO,sS,i64_w,i32_w]
        rfl
       refine take_ (i:=5) (N:=some 50) (v:=?_) (a':=?_) spec_BitsOf.m10 rfl rfl (take_ofW HT_.out HW_.out (by kernel_rfl)) (fun _ _ _ h=>h) (Or.inl ⟨by rfl,?_⟩) hHeld ?_ ?_
       rotate_left
       ·rintro w' ⟨s0,s1,s2⟩
        go_simp
        with_reducible rfl
       rotate_left
       ·simp only [Act.put,sA,sO,sS,i64_w,i32_w]
        rfl
       refine pure_ (i:=8) (N:=some 53) (v:=?_) (a':=?_) spec_BitsOf.m11 rfl rfl (any_of HT_.out (by kernel_rfl)) (fun _ _ _ h=>h) (Or.inl ⟨by rfl,?_⟩) ?_ ?_
       rotate_left
       ·intro w'
        go_simp
        with_reducible rfl
       rotate_left
       ·simp only [Act.put,sA,sO,sS,i64_w,i32_w]
        rfl
       refine take_ (i:=9) (N:=some 54) (v:=?_) (a':=?_) spec_BitsOf.m12 rfl rfl (take_ofW HT_.out HW_.out (by kernel_rfl)) (fun _ _ _ h=>h) (Or.inl ⟨by rfl,?_⟩) hHeld ?_ ?_
       rotate_left
       ·rintro w' ⟨s0,s1,s2⟩
        go_simp
        with_reducible rfl
       rotate_left
       ·simp only [Act.put,sA,sO,sS,i64_w,i32_w]
        rfl
       refine one_ (i:=12) (N:=some 57) spec_BitsOf.m13 rfl rfl (one_of HT_.out (by kernel_rfl)) (by decide) (fun K hK=>?_)
       refine goes_ Try.func69 (by kernel_rfl) rfl #[.int .i64 (Int.tmod x5_1 64)] (by rfl) rfl rfl (by (try simp only [mA,mC,mN]);first|done|rfl|(simp only [List.length_drop,List.length_take];done)|(simp only [List.length_drop,List.length_take];rfl)) ?_
       with_reducible refine (spec_l01Power.calls kj15 (Int.tmod x5_1 64) t134 _ A30.out).mono ?_
       rintro e w' ⟨rfl,⟨nd,rfl⟩⟩
       refine⟨_,rfl,?_⟩
       have p31:0 ≤ ((ji27):Int):=of_decide_eq_true (by first|(with_reducible assumption)|assumption)
       have q31:((ji27):Int) < ((x127001_15.length:Int):Int):=of_decide_eq_true (by first|(with_reducible assumption)|assumption)
       obtain⟨go31,co31,eo31,gb31,gl31,cl31,HG31⟩:=Kd.R_form HO_127001.out (by omega)
       (first|cases eo31|(injection eo31 with ea_ en_ ec_;(first|subst ea_|(injection ea_ with ea_;subst ea_));subst ec_;clear en_))
       have GB31:=mk0 gb31
       have GG31:=mk0 HG31
       clear gb31 gl31 HG31
       (first|simp only [add_plain] at hx133_0|skip)
       obtain⟨hx31_0,hf31_0⟩:=Kd.R_celln 0 HO_127001.out ((ji27):Int) p31 q31
       replace p31:=eq_true p31
       replace q31:=eq_true q31
       have HP34:=Kd.R_putn HO_127001.out ((ji27):Int) (IntKind.u64.wrap ((rd x127001_15 (ji27)) + t134))
       rw [← Ny135.out] at HP34
       have HQ34:=mk0 HP34
       clear HP34
       refine hK.out _ _ ⟨(blk_cell BK126.out 0).trans rfl,(blk_cell BK126.out 1).trans rfl,hHeld.2.2⟩ (fun hHeld=>?_)
       clear hK K
       refine norm_ (a':=?_) ?_ ?_
       rotate_left
       ·show Act.put _ (some 57) _ = _
        simp only [Act.put,sA,sO,sS,i64_w,i32_w]
        rfl
       refine pure_ (i:=13) (N:=some 58) (v:=?_) (a':=?_) spec_BitsOf.m14 rfl rfl (any_of HT_.out (by kernel_rfl)) (fun _ _ _ h=>h) (Or.inl ⟨by rfl,?_⟩) ?_ ?_
       rotate_left
       ·intro w'
        go_simp
        with_reducible rfl
       rotate_left
       ·simp only [Act.put,sA,sO,sS,i64_w,i32_w]
        rfl
       refine pure_ (i:=14) (N:=some 59) (v:=?_) (a':=?_) spec_BitsOf.m15 rfl rfl (any_of HT_.out (by kernel_rfl)) (fun _ _ _ h=>h) (Or.inl ⟨by rfl,?_⟩) ?_ ?_
       rotate_left
       ·intro w'
        go_simp
        with_reducible rfl
       rotate_left
       ·simp only [Act.put,sA,sO,sS,i64_w,i32_w]
        rfl
       refine last_ (i:=15) (N:=none) spec_BitsOf.m16 rfl rfl (one_of HT_.out (by kernel_rfl)) (by decide) (fun K hK=>?_)
       refine skip_ (w1:=?_) (by rfl) rfl ?_ ?_
       rotate_left
       ·go_simp
        rfl
       refine hK.out _ _ ?_
       clear hK K
       refine done_ (done_of HT_.out (by kernel_rfl)) ?_
       try go_wp2
       go_roundg kj15
       case measure=>have:=HK1.out;have:=HJ9.out;have:=HJ15.out;omega
       case rel=>exact⟨(wrap64 (x5_1 + 1)),(x126000_1),(y135),(.slice (some ⟨go31,0,none⟩) x127001_15.length co33),(by first|rfl|(simp;done)|(simp [*];done)),H',⟨by have:=HK1.out;have:=HJ9.out;have:=HJ15.out;omega⟩,⟨rR HQ34.out⟩,⟨by (with_reducible repeat (first|apply nB|apply dB|apply aB));refine blk_far ?_ (by have h_:=Kd.R_ne HO_127001.out BK125.out (by decide);intro e_;exact h_ (by rw [e_];rfl)) _;(with_reducible repeat (first|apply nB|apply dB|apply aB));exact BK125.out⟩,⟨by (with_reducible repeat (first|apply nB|apply dB|apply aB));refine blk_far ?_ (by have h_:=Kd.R_ne HO_127001.out BK126.out (by decide);intro e_;exact h_ (by rw [e_];rfl)) _;(with_reducible repeat (first|apply nB|apply dB|apply aB));exact BK126.out⟩,⟨kB HB.out⟩⟩
end Go.Proofs.Ytgjmmegmkdklbaa.QFnHuffBack
