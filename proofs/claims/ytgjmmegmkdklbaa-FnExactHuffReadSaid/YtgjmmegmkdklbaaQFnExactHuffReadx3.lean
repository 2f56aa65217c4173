-- A walk, made by walk.py, a program of this session's.
import Derived.Test.YtgjmmegmkdklbaaQFnExactHuffReadx0
import Derived.Test.YtgjmmegmkdklbaaQFnExactHuffReadx2
namespace Go.Proofs.Ytgjmmegmkdklbaa.QFnExactHuffRead
open Go.RowKit Go.Proofs.YtgjmmegmkdklbaaW.PrintWords Go.Proofs.YtgjmmegmkdklbaaW.PrintLast Go.Proofs.YtgjmmegmkdklbaaW.PrintMore
attribute [local go_sem] max2_int min2_int max_two min_two max_three min_three max_four min_four   -- for this text's walks alone
set_option linter.unusedVariables false
set_option linter.unusedSimpArgs false

/-! ### spec_BitsOf: function 40 -/
mutual
def spec_BitsOf.l0 : Nat → List Int → Int → Int → List Int → Option (Int × List Int × Bool)
 | 0, _, _, _, _ => none
 | k + 1, x0, x5, x146000, x146001 => if x5 < (x0.length : Int) then (if 0 ≤ x5 then (if (rd x0 x5) = 0 then (spec_BitsOf.j1 k x0 x5 false x146000 x146001) else (spec_BitsOf.j1 k x0 x5 ((rd x0 x5) != 1) x146000 x146001)) else (none)) else (some (x146000, x146001, true))
def spec_BitsOf.j1 : Nat → List Int → Int → Bool → Int → List Int → Option (Int × List Int × Bool)
 | 0, _, _, _, _, _ => none
 | k + 1, x0, x5, x30, x146000, x146001 => if x30 = true then (some (0, ([] : List Int), false)) else (if (Int.tmod x5 64) = 0 then (if x146001.length < 17592186044416 then (spec_BitsOf.j2 k x0 x5 x146000 (x146001 ++ [0])) else (none)) else (spec_BitsOf.j2 k x0 x5 x146000 x146001))
def spec_BitsOf.j2 : Nat → List Int → Int → Int → List Int → Option (Int × List Int × Bool)
 | 0, _, _, _, _ => none
 | k + 1, x0, x5, x146000, x146001 => if 0 ≤ x5 then (if x5 < (x0.length : Int) then (if (rd x0 x5) = 1 then (if 0 ≤ (wrap64 (Int.tdiv x5 64)) then (if (wrap64 (Int.tdiv x5 64)) < (x146001.length : Int) then ((spec_l01Power.f k (Int.tmod x5 64)).bind fun t153 => (spec_BitsOf.l0 k x0 (wrap64 (x5 + 1)) x146000 (x146001.set ((wrap64 (Int.tdiv x5 64)) : Int).toNat (IntKind.u64.wrap ((rd x146001 (wrap64 (Int.tdiv x5 64))) + t153))))) else (none)) else (none)) else (spec_BitsOf.l0 k x0 (wrap64 (x5 + 1)) x146000 x146001)) else (none)) else (none)
end
def spec_BitsOf.f (k : Nat) (l0 : List Int) : Option (Int × List Int × Bool) := if (l0.length : Int) > 5000 then (some (0, ([] : List Int), false)) else (spec_BitsOf.l0 k l0 0 (l0.length : Int) ([] : List Int))
theorem spec_BitsOf.mono_l : ∀ k, (∀ y0 y1 y2 y3, LeO (spec_BitsOf.l0 k y0 y1 y2 y3) (spec_BitsOf.l0 (k + 1) y0 y1 y2 y3)) ∧ (∀ y0 y1 y2 y3 y4, LeO (spec_BitsOf.j1 k y0 y1 y2 y3 y4) (spec_BitsOf.j1 (k + 1) y0 y1 y2 y3 y4)) ∧ (∀ y0 y1 y2 y3, LeO (spec_BitsOf.j2 k y0 y1 y2 y3) (spec_BitsOf.j2 (k + 1) y0 y1 y2 y3))
 | 0 => ⟨fun _ _ _ _ r h => by simp [spec_BitsOf.l0] at h, fun _ _ _ _ _ r h => by simp [spec_BitsOf.j1] at h, fun _ _ _ _ r h => by simp [spec_BitsOf.j2] at h⟩
 | k + 1 => by
  obtain ⟨ih0, ih1, ih2⟩ := spec_BitsOf.mono_l k
  refine ⟨?_, ?_, ?_⟩
  ·intro y0 y1 y2 y3
   unfold spec_BitsOf.l0
   repeat' first|(with_reducible first|exact ih0 _ _ _ _|exact ih1 _ _ _ _ _|exact ih2 _ _ _ _|exact spec_l01Power.mono _ _|exact LeO.refl _|exact LeO.none _|refine LeO.ite ?_ ?_|refine LeO.bind ?_ (fun _ => ?_))|exact LeO.none _|refine LeO.ite ?_ ?_|refine LeO.bind ?_ (fun _ => ?_)
  ·intro y0 y1 y2 y3 y4
   unfold spec_BitsOf.j1
   repeat' first|(with_reducible first|exact ih0 _ _ _ _|exact ih1 _ _ _ _ _|exact ih2 _ _ _ _|exact spec_l01Power.mono _ _|exact LeO.refl _|exact LeO.none _|refine LeO.ite ?_ ?_|refine LeO.bind ?_ (fun _ => ?_))|exact LeO.none _|refine LeO.ite ?_ ?_|refine LeO.bind ?_ (fun _ => ?_)
  ·intro y0 y1 y2 y3
   unfold spec_BitsOf.j2
   repeat' first|(with_reducible first|exact ih0 _ _ _ _|exact ih1 _ _ _ _ _|exact ih2 _ _ _ _|exact spec_l01Power.mono _ _|exact LeO.refl _|exact LeO.none _|refine LeO.ite ?_ ?_|refine LeO.bind ?_ (fun _ => ?_))|exact LeO.none _|refine LeO.ite ?_ ?_|refine LeO.bind ?_ (fun _ => ?_)
theorem spec_BitsOf.mono : ∀ a0 k, LeO (spec_BitsOf.f k a0) (spec_BitsOf.f (k + 1) a0) := by
 intro a0 k
 obtain ⟨ih0, ih1, ih2⟩ := spec_BitsOf.mono_l k
 unfold spec_BitsOf.f
 repeat' first|(with_reducible first|exact ih0 _ _ _ _|exact ih1 _ _ _ _ _|exact ih2 _ _ _ _|exact spec_l01Power.mono _ _|exact LeO.refl _|exact LeO.none _|refine LeO.ite ?_ ?_|refine LeO.bind ?_ (fun _ => ?_))|exact LeO.none _|refine LeO.ite ?_ ?_|refine LeO.bind ?_ (fun _ => ?_)
def spec_BitsOf.T12 : Bool × List (List Nat × List Nat) := (true, [([], []), ([0], [0]), ([], []), ([2], [2]), ([], []), ([4], [4]), ([], []), ([6], [6]), ([5, 7], [5, 7]), ([8], [8]), ([], []), ([10], [10]), ([11], [11]), ([9, 12], [9, 12]), ([1, 3, 0, 1, 2, 3, 4, 5, 6, 7, 8, 9, 10, 11, 12, 13], [1, 3]), ([14, 13, 12, 0, 1, 2, 3, 4, 5, 6, 7, 8, 9, 10, 11, 12, 13], [13, 14])])
def spec_BitsOf.B12 : List Nat := [0, 1, 0, 4, 0, 16, 0, 64, 240, 496, 0, 1024, 3072, 8176, 16383, 32767]
theorem spec_BitsOf.tab12 : rtab .any (opsOf Try.f40 12) = spec_BitsOf.T12 := by kernel_rfl
theorem spec_BitsOf.bits12 : waitsOk spec_BitsOf.T12.2 spec_BitsOf.B12 = true := by kernel_rfl
abbrev spec_BitsOf.m0 : Array Bool := #[F,F,F,F,F,F,F,F,F,F,F,F,F,F,F,F]
abbrev spec_BitsOf.m1 : Array Bool := #[T,F,F,F,F,F,F,F,F,F,F,F,F,F,F,F]
abbrev spec_BitsOf.m2 : Array Bool := #[T,F,T,F,F,F,F,F,F,F,F,F,F,F,F,F]
abbrev spec_BitsOf.m3 : Array Bool := #[T,F,T,T,F,F,F,F,F,F,F,F,F,F,F,F]
abbrev spec_BitsOf.m4 : Array Bool := #[T,F,T,T,T,F,F,F,F,F,F,F,F,F,F,F]
abbrev spec_BitsOf.m5 : Array Bool := #[T,F,T,T,T,F,T,F,F,F,F,F,F,F,F,F]
abbrev spec_BitsOf.m6 : Array Bool := #[T,F,T,T,T,F,T,T,F,F,F,F,F,F,F,F]
abbrev spec_BitsOf.m7 : Array Bool := #[T,F,T,T,T,F,T,T,F,F,T,F,F,F,F,F]
abbrev spec_BitsOf.m8 : Array Bool := #[T,F,T,T,T,F,T,T,F,F,T,T,F,F,F,F]
abbrev spec_BitsOf.m9 : Array Bool := #[T,T,T,T,T,F,T,T,F,F,T,T,F,F,F,F]
abbrev spec_BitsOf.m10 : Array Bool := #[T,T,T,T,T,T,T,T,F,F,T,T,F,F,F,F]
abbrev spec_BitsOf.m11 : Array Bool := #[T,T,T,T,T,T,T,T,T,F,T,T,F,F,F,F]
abbrev spec_BitsOf.m12 : Array Bool := #[T,T,T,T,T,T,T,T,T,T,T,T,F,F,F,F]
abbrev spec_BitsOf.m13 : Array Bool := #[T,T,T,T,T,T,T,T,T,T,T,T,T,F,F,F]
abbrev spec_BitsOf.m14 : Array Bool := #[T,T,T,T,T,T,T,T,T,T,T,T,T,T,F,F]
abbrev spec_BitsOf.m15 : Array Bool := #[T,T,T,T,T,T,T,T,T,T,T,T,T,T,T,F]
abbrev spec_BitsOf.m16 : Array Bool := #[T,T,T,T,T,T,T,T,T,T,T,T,T,T,T,T]
set_option maxHeartbeats 8000000 in
set_option maxRecDepth 100000 in
theorem spec_BitsOf.calls (k : Nat) (A0 : Option Addr) (c0 : Nat) (l0 : List Int) (r1 : Int) (r2 : List Int) (r3 : Bool) (w : World) (hr0 : Kd.C (Kd.int .i64) w A0 l0.length l0) (hc0 : l0.length ≤ c0) (h : spec_BitsOf.f k l0 = some (r1, r2, r3)) :
  Calls Try.prog 40 #[.slice A0 l0.length c0] w fun e w' => ∃ v1_ : Value, e = .returned (.tuple #[.agg #[.int .i64 r1, v1_], .bool r3]) ∧ Kd.R (Kd.int .u64) 82 w' w.heap.size (fun _ => True) v1_ r2 ∧ Below w.heap.size w w' := by
 have hu30:=Try.underlying30
 have HR0:=mk0 hr0
 have HC0:=mk0 hc0
 clear hr0 hc0
 have HB:=mk0 (Below.refl w.heap.size w)
 have H:(if (l0.length:Int) > 5000 then (some (0,([]:List Int),false)) else (spec_BitsOf.l0 k l0 0 (l0.length:Int) ([]:List Int))) = some (r1,r2,r3):=h
 clear h
 by_cases c2:(l0.length:Int) > 5000
 ·rw [if_pos c2] at H
  have c2b0:decide (5000 < (l0.length:Int)) = true:=decide_eq_true c2
  have c2b1:decide (5000 < l0.length) = true:=decide_eq_true (by omega)
  clear c2
  simp only [Option.some.injEq,Prod.mk.injEq] at H
  obtain⟨rfl,rfl,rfl⟩:=H
  go_enter Try.func40,Try.ntmps40
  go_wp2_with (first|((with_reducible refine gate_dst (N:=2) rfl ?_);refine box_event ?hg (N:=2) ?hd (cs:=#[.int .i64 0,.slice none 0 0]) (t:=30) ?hr ?_;(case hd=>rfl);(case hg=>rfl);(case hr=>first|(go_simp;done)|(go_simp;rfl));intro gb144 hg w3 hbox hb;have BK144:=mk0 (hbox);have GW144:=mk0 ((by rw [hg];exact (kZ HB.out):w.heap.size ≤ gb144));have GE144:=mk0 ((by rw [hg];exact (kZ HB.out):w.heap.size ≤ gb144));replace HB:=mk0 (kS HB.out hb);clear hb hbox hg;obtain⟨hcz4_0,hcz4_1,hfz4_0,hfz4_1⟩:=cz2 BK144.out))
  refine bodyPost_ret (results_ct rfl _ _ gb144 30 #[.int .i64 0,.slice none 0 0] (0,0) _ rfl (by (with_reducible repeat (first|apply nB|apply dB|apply aB));refine blk_put (cs:=#[.int .i64 0,.slice none 0 0]) ?_ 1 _ rfl;(with_reducible repeat (first|apply nB|apply dB|apply aB));refine blk_put (cs:=#[.int .i64 0,.slice none 0 0]) ?_ 0 _ rfl;(with_reducible repeat (first|apply nB|apply dB|apply aB));exact BK144.out) Try.underlying30 rfl (by kernel_rfl)) rfl ?_
  exact⟨_,by first|rfl|(simp [errW_none,errW_some] <;> rfl)|(simp [*,errW_none,errW_some] <;> rfl),by first|exact Kd.R_nil _ _ _ _ _|exact Kd.N_nil _ _ _ _ _|exact Kd.V_nil _ _ _ _ _|exact Kd.Q_nil _ _ _ _ _|exact Kd.S_nil _ _ _ _ _,kB HB.out⟩
 rw [if_neg c2] at H
 have c2b0:decide (5000 < (l0.length:Int)) = false:=decide_eq_false c2
 have c2b1:decide (5000 < l0.length) = false:=decide_eq_false (by omega)
 clear c2
 have H':=mk0 H
 clear H
 go_enter Try.func40,Try.ntmps40
 go_wp2_with (first|((with_reducible refine gate_dst (N:=2) rfl ?_);refine box_event ?hg (N:=2) ?hd (cs:=#[.int .i64 0,.slice none 0 0]) (t:=30) ?hr ?_;(case hd=>rfl);(case hg=>rfl);(case hr=>first|(go_simp;done)|(go_simp;rfl));intro gb144 hg w5 hbox hb;have BK144:=mk0 (hbox);have GW144:=mk0 ((by rw [hg];exact (kZ HB.out):w.heap.size ≤ gb144));have GE144:=mk0 ((by rw [hg];exact (kZ HB.out):w.heap.size ≤ gb144));replace HB:=mk0 (kS HB.out hb);clear hb hbox hg)|((with_reducible refine gate_dst (N:=4) rfl ?_);refine box_event ?hg (N:=4) ?hd (cs:=#[.int .i64 0,.slice none 0 0]) (t:=30) ?hr ?_;(case hd=>rfl);(case hg=>rfl);(case hr=>first|(go_simp;done)|(go_simp;rfl));intro gb145 hg w6 hbox hb;have BK145:=mk0 (hbox);have GW145:=mk0 ((by rw [hg];exact (kZ HB.out):w.heap.size ≤ gb145));have GE145:=mk0 ((by rw [hg];exact (kZ HB.out):w.heap.size ≤ gb145));replace HB:=mk0 (kS HB.out hb);have NB144_145:=mk0 ((by rw [hg];exact Nat.ne_of_lt (kL BK144.out):gb144 ≠ gb145));have NB145_144:=mk0 ((by rw [hg];exact Nat.ne_of_gt (kL BK144.out):gb145 ≠ gb144));replace BK144:=mk0 (kK BK144.out hb);clear hb hbox hg;have hnb7:=NB145_144.out;have hnc7:=NB144_145.out;obtain⟨hcz8_0,hcz8_1,hfz8_0,hfz8_1⟩:=cz2 BK145.out))
 go_loopg [5] k (fun kq v5 w'=>∃ (x5_1:Int) (x145000_1:Int) (x146001_1:List Int) (u146001:Value),v5 = .int .i64 x5_1 ∧ Aside0 (spec_BitsOf.l0 kq l0 x5_1 (l0.length:Int) x146001_1 = some (r1,r2,r3)) ∧ Aside0 (kq ≤ k) ∧ Aside0 (Kd.R (Kd.int .u64) 82 w' w.heap.size (fun _=>True) u146001 x146001_1) ∧ Aside0 (w'.heap[gb144]? = some (.cells #[.int .i64 x145000_1,(.slice none 0 0)] 30 (0,0))) ∧ Aside0 (w'.heap[gb145]? = some (.cells #[.int .i64 (l0.length:Int),u146001] 30 (0,0))) ∧ Aside0 (Below w.heap.size w w'))
 case atStart=>exact⟨(0),(0),(([]:List Int)),(.slice none 0 0),(by first|rfl|(simp;done)|(simp [*];done)),H',⟨Nat.le_refl _⟩,⟨by first|exact Kd.R_nil _ _ _ _ _|exact Kd.N_nil _ _ _ _ _|exact Kd.V_nil _ _ _ _ _|exact Kd.Q_nil _ _ _ _ _|exact Kd.S_nil _ _ _ _ _⟩,⟨by (with_reducible repeat (first|apply nB|apply dB|apply aB));refine blk_far ?_ NB144_145.out _;(with_reducible repeat (first|apply nB|apply dB|apply aB));refine blk_far ?_ NB144_145.out _;(with_reducible repeat (first|apply nB|apply dB|apply aB));exact BK144.out⟩,⟨by (with_reducible repeat (first|apply nB|apply dB|apply aB));refine blk_put (cs:=#[.int .i64 (l0.length:Int),.slice none 0 0]) ?_ 1 _ rfl;(with_reducible repeat (first|apply nB|apply dB|apply aB));refine blk_put (cs:=#[.int .i64 0,.slice none 0 0]) ?_ 0 _ rfl;(with_reducible repeat (first|apply nB|apply dB|apply aB));exact BK145.out⟩,⟨kB HB.out⟩⟩
 case round =>
  clear H'
  try clear c2
  try clear c2b0
  try clear c2b1
  try clear p2
  try clear c4
  try clear c7
  try clear hcz4_0
  try clear hcz4_1
  try clear hcz8_0
  try clear hcz8_1
  try clear hfz4_0
  try clear hfz4_1
  try clear hfz8_0
  try clear hfz8_1
  obtain⟨x5_1,x145000_1,x146001_1,u146001,rfl,HA,HK1,HO_146001,BK144,BK145,HB⟩:=hrel
  cases gk with
  | zero=>exact absurd HA.out (by simp [spec_BitsOf.l0])
  | succ k1 =>
   have H:=HA.out
   clear HA
   simp only [spec_BitsOf.l0] at H
   by_cases c9:x5_1 < (l0.length:Int)
   rotate_left
   ·rw [if_neg c9] at H
    have c9b0:decide (x5_1 < (l0.length:Int)) = false:=decide_eq_false c9
    clear c9
    simp only [Option.some.injEq,Prod.mk.injEq] at H
    obtain⟨rfl,rfl,rfl⟩:=H
    have hnb35:=NB145_144.out
    have hnc35:=NB144_145.out
    obtain⟨hcz36_0,hcz36_1,hfz36_0,hfz36_1⟩:=cz2 BK145.out
    obtain⟨hcz37_0,hcz37_1,hfz37_0,hfz37_1⟩:=cz2 BK144.out
    obtain⟨Ao38,co38,eo38⟩:=Kd.R_slice HO_146001.out
    subst eo38
    go_wp2
    refine bodyPost_ret (results_ct rfl _ _ gb144 30 #[.int .i64 (l0.length:Int),.slice Ao38 x146001_1.length co38] (0,0) _ rfl (by (with_reducible repeat (first|apply nB|apply dB|apply aB));refine blk_put (cs:=#[.int .i64 (l0.length:Int),.slice none 0 0]) ?_ 1 _ rfl;(with_reducible repeat (first|apply nB|apply dB|apply aB));refine blk_put (cs:=#[.int .i64 x145000_1,.slice none 0 0]) ?_ 0 _ rfl;(with_reducible repeat (first|apply nB|apply dB|apply aB));exact BK144.out) Try.underlying30 rfl (by kernel_rfl)) rfl ?_
    exact⟨_,by first|rfl|(simp [errW_none,errW_some] <;> rfl)|(simp [*,errW_none,errW_some] <;> rfl),by (with_reducible repeat (first|apply aR|apply nR|apply dR));exact Kd.R_mono (Kd.R_far (p:=⟨gb144,1,none⟩) (Kd.R_far (p:=⟨gb144,0,none⟩) (Kd.R_types HO_146001.out BK144.out (by decide)) (by first|exact fun _ hk=>hk.2|(intro k_ hk;simp only [hk,ne_eq,and_self,not_false_eq_true])) (.int .i64 (l0.length:Int))) (by first|exact fun _ hk=>hk.2|(intro k_ hk;simp only [hk,ne_eq,and_self,not_false_eq_true])) (.slice Ao38 x146001_1.length co38)) (fun _ hk=>trivial),kB HB.out⟩

   rw [if_pos c9] at H
   have c9b0:decide (x5_1 < (l0.length:Int)) = true:=decide_eq_true c9
   clear c9
   have HC10:=mk0 H
   clear H
   go_upto_region 7 with (fail)
   go_cut [30] (fun v30 wc=>∃ (kq:Nat) (x30_9:Bool),v30 = .bool x30_9 ∧ Aside0 (spec_BitsOf.j1 kq l0 x5_1 x30_9 (l0.length:Int) x146001_1 = some (r1,r2,r3)) ∧ Aside0 (kq ≤ k1) ∧ Aside0 (Kd.R (Kd.int .u64) 82 wc w.heap.size (fun _=>True) u146001 x146001_1) ∧ Aside0 (wc.heap[gb144]? = some (.cells #[.int .i64 x145000_1,(.slice none 0 0)] 30 (0,0))) ∧ Aside0 (wc.heap[gb145]? = some (.cells #[.int .i64 (l0.length:Int),u146001] 30 (0,0))) ∧ Aside0 (Below w.heap.size w wc))
   case first =>
    have H:=HC10.out
    clear HC10
    by_cases c11:0 ≤ x5_1
    rotate_left
    ·rw [if_neg c11] at H
     exact absurd H (by simp)
    rw [if_pos c11] at H
    have c11b0:decide (0 ≤ x5_1) = true:=decide_eq_true c11
    clear c11
    (first|rw [c11b0]|(simp only [i64_w,i32_w];rw [c11b0])|skip)
    by_cases c12:(rd l0 x5_1) = 0
    ·rw [if_pos c12] at H
     have c12b0:((rd l0 x5_1) == 0) = true:=beq_iff_eq.mpr c12
     have c12b1:((rd l0 x5_1) != 0) = false:=bne_eq_false_iff_eq.mpr c12
     clear c12
     have H':=mk0 H
     clear H
     have p146:0 ≤ (x5_1:Int):=of_decide_eq_true (by first|(with_reducible assumption)|assumption)
     have q146:x5_1 < (l0.length:Int):=of_decide_eq_true (by first|(with_reducible assumption)|assumption)
     obtain⟨ad146,e146,hx146_0⟩:=Kd.at_int HR0.out x5_1 p146 q146
     cases e146
     replace hx146_0:=(HB.out.cell (World.block_lt_of_cell? w _ hx146_0)).trans hx146_0
     replace p146:=eq_true p146
     replace q146:=eq_true q146
     go_wp2
     go_meet
     case rel=>exact⟨_,(false),(by first|rfl|(simp;done)|(simp [*];done)),H',⟨by have:=HK1.out;first|omega|exact Nat.le_refl _⟩,⟨rR HO_146001.out⟩,⟨kN BK144.out⟩,⟨kN BK145.out⟩,⟨kB HB.out⟩⟩
    rw [if_neg c12] at H
    have c12b0:((rd l0 x5_1) == 0) = false:=beq_eq_false_iff_ne.mpr c12
    have c12b1:((rd l0 x5_1) != 0) = true:=bne_iff_ne.mpr c12
    have H':=mk0 H
    clear H
    have p146:0 ≤ (x5_1:Int):=of_decide_eq_true (by first|(with_reducible assumption)|assumption)
    have q146:x5_1 < (l0.length:Int):=of_decide_eq_true (by first|(with_reducible assumption)|assumption)
    obtain⟨ad146,e146,hx146_0⟩:=Kd.at_int HR0.out x5_1 p146 q146
    cases e146
    replace hx146_0:=(HB.out.cell (World.block_lt_of_cell? w _ hx146_0)).trans hx146_0
    replace p146:=eq_true p146
    replace q146:=eq_true q146
    have p147:0 ≤ (x5_1:Int):=of_decide_eq_true (by first|(with_reducible assumption)|assumption)
    have q147:x5_1 < (l0.length:Int):=of_decide_eq_true (by first|(with_reducible assumption)|assumption)
    obtain⟨ad147,e147,hx147_0⟩:=Kd.at_int HR0.out x5_1 p147 q147
    obtain rfl:ad146 = ad147:=(by injection e147)
    replace hx147_0:=(HB.out.cell (World.block_lt_of_cell? w _ hx147_0)).trans hx147_0
    replace p147:=eq_true p147
    replace q147:=eq_true q147
    go_wp2
    go_meet
    case rel=>exact⟨_,(((rd l0 x5_1) != 1)),(by first|rfl|(simp;done)|(simp [*];done)),H',⟨by have:=HK1.out;first|omega|exact Nat.le_refl _⟩,⟨rR HO_146001.out⟩,⟨kN BK144.out⟩,⟨kN BK145.out⟩,⟨kB HB.out⟩⟩
   case rest =>
    clear HC10
    try clear c1
    try clear p1
    try clear q1
    try clear hx1
    try clear c2
    try clear c2b0
    try clear c2b1
    try clear p2
    try clear c4
    try clear c7
    try clear c9
    try clear c9b0
    try clear c11
    try clear c11b0
    try clear c12
    try clear c12b0
    try clear c12b1
    try clear hcz4_0
    try clear hcz4_1
    try clear hcz8_0
    try clear hcz8_1
    try clear hfz4_0
    try clear hfz4_1
    try clear hfz8_0
    try clear hfz8_1
    try clear hx146_0
    try clear hx147_0
    try clear p146
    try clear p147
    try clear p2
    try clear q146
    try clear q147
    obtain⟨kq,x30_9,rfl,HA,HJ9,HO_146001,BK144,BK145,HB⟩:=hcut
    cases kq with
    | zero=>exact absurd HA.out (by simp [spec_BitsOf.j1])
    | succ kj9 =>
     have H:=HA.out
     clear HA
     simp only [spec_BitsOf.j1] at H
     by_cases c13:x30_9 = true
     ·subst c13
      have H1:(some (0,([]:List Int),false)) = some (r1,r2,r3):=by rw [if_pos rfl] at H;exact H
      clear H
      have H:=H1
      clear H1
      simp only [Option.some.injEq,Prod.mk.injEq] at H
      obtain⟨rfl,rfl,rfl⟩:=H
      have hnb14:=NB144_145.out
      have hnc14:=NB145_144.out
      obtain⟨hcz15_0,hcz15_1,hfz15_0,hfz15_1⟩:=cz2 BK144.out
      go_wp2
      refine bodyPost_ret (results_ct rfl _ _ gb144 30 #[.int .i64 0,.slice none 0 0] (0,0) _ rfl (by (with_reducible repeat (first|apply nB|apply dB|apply aB));refine blk_put (cs:=#[.int .i64 0,.slice none 0 0]) ?_ 1 _ rfl;(with_reducible repeat (first|apply nB|apply dB|apply aB));refine blk_put (cs:=#[.int .i64 x145000_1,.slice none 0 0]) ?_ 0 _ rfl;(with_reducible repeat (first|apply nB|apply dB|apply aB));exact BK144.out) Try.underlying30 rfl (by kernel_rfl)) rfl ?_
      exact⟨_,by first|rfl|(simp [errW_none,errW_some] <;> rfl)|(simp [*,errW_none,errW_some] <;> rfl),by first|exact Kd.R_nil _ _ _ _ _|exact Kd.N_nil _ _ _ _ _|exact Kd.V_nil _ _ _ _ _|exact Kd.Q_nil _ _ _ _ _|exact Kd.S_nil _ _ _ _ _,kB HB.out⟩
     replace c13:=Bool.eq_false_iff.mpr c13
     subst c13
     have H1:(if (Int.tmod x5_1 64) = 0 then (if x146001_1.length < 17592186044416 then (spec_BitsOf.j2 kj9 l0 x5_1 (l0.length:Int) (x146001_1 ++ [0])) else (none)) else (spec_BitsOf.j2 kj9 l0 x5_1 (l0.length:Int) x146001_1)) = some (r1,r2,r3):=by rw [if_neg (show ¬ (false = true) by decide)] at H;exact H
     clear H
     have H:=H1
     clear H1
     have HC16:=mk0 H
     clear H
     go_upto_if 34 with (fail)
     go_cut [] (fun wc=>∃ (kq:Nat) (x146001_15:List Int) (u146001:Value),Aside0 (spec_BitsOf.j2 kq l0 x5_1 (l0.length:Int) x146001_15 = some (r1,r2,r3)) ∧ Aside0 (kq ≤ kj9) ∧ Aside0 (Kd.R (Kd.int .u64) 82 wc w.heap.size (fun _=>True) u146001 x146001_15) ∧ Aside0 (wc.heap[gb144]? = some (.cells #[.int .i64 x145000_1,(.slice none 0 0)] 30 (0,0))) ∧ Aside0 (wc.heap[gb145]? = some (.cells #[.int .i64 (l0.length:Int),u146001] 30 (0,0))) ∧ Aside0 (Below w.heap.size w wc))
     case first =>
      have H:=HC16.out
      clear HC16
      by_cases c17:(Int.tmod x5_1 64) = 0
      rotate_left
      ·rw [if_neg c17] at H
       have c17b0:((Int.tmod x5_1 64) == 0) = false:=beq_eq_false_iff_ne.mpr c17
       have c17b1:((Int.tmod x5_1 64) != 0) = true:=bne_iff_ne.mpr c17
       (first|rw [c17b0]|(simp only [i64_w,i32_w];rw [c17b0])|skip)
       have H':=mk0 H
       clear H
       go_wp2
       go_meet
       case rel=>exact⟨_,(x146001_1),(u146001),H',⟨by have:=HK1.out;have:=HJ9.out;first|omega|exact Nat.le_refl _⟩,⟨rR HO_146001.out⟩,⟨kN BK144.out⟩,⟨kN BK145.out⟩,⟨kB HB.out⟩⟩
      rw [if_pos c17] at H
      have c17b0:((Int.tmod x5_1 64) == 0) = true:=beq_iff_eq.mpr c17
      have c17b1:((Int.tmod x5_1 64) != 0) = false:=bne_eq_false_iff_eq.mpr c17
      clear c17
      (first|rw [c17b0]|(simp only [i64_w,i32_w];rw [c17b0])|skip)
      by_cases c18:x146001_1.length < 17592186044416
      rotate_left
      ·rw [if_neg c18] at H
       exact absurd H (by simp)
      rw [if_pos c18] at H
      have LMc18:=mk0 c18
      clear c18
      obtain⟨y148,hy148⟩:∃ y_:List Int,y_ = (x146001_1 ++ [0]):=⟨_,rfl⟩
      replace H:(spec_BitsOf.j2 kj9 l0 x5_1 (l0.length:Int) y148) = some (r1,r2,r3):=by first|(rw [hy148];with_reducible exact H)|(have H2_:=(Option.bind_some _ _).symm.trans H;rw [hy148];with_reducible exact H2_)|(have H2_:=(Option.bind_some _ _).symm.trans H;with_reducible exact H2_)|with_reducible exact H|(rw [hy148];exact H)|exact H
      have Ny148:=mk0 hy148
      clear hy148
      have H':=mk0 H
      clear H
      have hnb19:=NB145_144.out
      have hnc19:=NB144_145.out
      obtain⟨hcz20_0,hcz20_1,hfz20_0,hfz20_1⟩:=cz2 BK145.out
      go_wp2_with (first|((with_reducible refine gate_builtin (b:=.append) (xs:=#[.tmp 36,.tmp 37]) rfl ?_);at_builtin;refine Kd.R_append (Kd.int .u64) (w0:=w) w.heap.size rfl (.tmp 36) (.tmp 37) 28 82 (.int .u64 0) 8 rfl Try.underlying28 info82 rfl (by decide) (by omega) u146001 x146001_1 0 [.int .u64 0] (fun _=>True) (fun _=>False) rfl rfl ?aP (fun _ hk=>hk.elim) ?aF ?aO ?aB ?aS ?aL ?_;(case aP=>exact rfl);(case aB=>exact (kB HB.out));(case aF=>exact (fun _ _=>trivial));(case aO=>exact (rR HO_146001.out));(case aS=>exact (kZ HB.out));(case aL=>have:=LMc18.out;omega);intro v149 w21 ho hb hg hat;rw [← Ny148.out] at ho;replace BK144:=mk0 (blk_grown (kN BK144.out) hg (Kd.R_ne HO_146001.out BK144.out (by decide)));replace BK145:=mk0 (blk_grown (kN BK145.out) hg (Kd.R_ne HO_146001.out BK145.out (by decide)));replace HB:=mk0 (hb);have HO150:=mk0 (ho);clear HO_146001 ho hb hg hat;obtain⟨Ao22,co22,eo22⟩:=Kd.R_slice HO150.out;subst eo22;obtain⟨hcz23_0,hcz23_1,hfz23_0,hfz23_1⟩:=cz2 BK145.out))
      go_meet
      case rel=>exact⟨_,(y148),(.slice Ao22 y148.length co22),H',⟨by have:=HK1.out;have:=HJ9.out;first|omega|exact Nat.le_refl _⟩,⟨by (with_reducible repeat (first|apply aR|apply nR|apply dR));exact Kd.R_mono (Kd.R_far (p:=⟨gb145,1,none⟩) (Kd.R_types HO150.out BK145.out (by decide)) (by first|exact fun _ hk=>hk.2|(intro k_ hk;simp only [hk,ne_eq,and_self,not_false_eq_true])) (.slice Ao22 y148.length co22)) (fun _ hk=>trivial)⟩,⟨by (with_reducible repeat (first|apply nB|apply dB|apply aB));refine blk_far ?_ NB144_145.out _;(with_reducible repeat (first|apply nB|apply dB|apply aB));exact BK144.out⟩,⟨by (with_reducible repeat (first|apply nB|apply dB|apply aB));refine blk_put (cs:=#[.int .i64 (l0.length:Int),u146001]) ?_ 1 _ rfl;(with_reducible repeat (first|apply nB|apply dB|apply aB));exact BK145.out⟩,⟨kB HB.out⟩⟩
     case rest =>
      clear HC16
      try clear c1
      try clear p1
      try clear q1
      try clear hx1
      try clear c2
      try clear c2b0
      try clear c2b1
      try clear p2
      try clear c4
      try clear c7
      try clear c9
      try clear c9b0
      try clear c11
      try clear c11b0
      try clear c12
      try clear c12b0
      try clear c12b1
      try clear c13
      try clear c14
      try clear p14
      try clear q14
      try clear hx14
      try clear c17
      try clear c17b0
      try clear c17b1
      try clear c18
      try clear c19
      try clear hcz15_0
      try clear hcz15_1
      try clear hcz20_0
      try clear hcz20_1
      try clear hcz23_0
      try clear hcz23_1
      try clear hcz4_0
      try clear hcz4_1
      try clear hcz8_0
      try clear hcz8_1
      try clear hfz15_0
      try clear hfz15_1
      try clear hfz20_0
      try clear hfz20_1
      try clear hfz23_0
      try clear hfz23_1
      try clear hfz4_0
      try clear hfz4_1
      try clear hfz8_0
      try clear hfz8_1
      try clear hx146_0
      try clear hx147_0
      try clear p1
      try clear p146
      try clear p147
      try clear p2
      try clear q1
      try clear q146
      try clear q147
      obtain⟨kq,x146001_15,u146001,HA,HJ15,HO_146001,BK144,BK145,HB⟩:=hcut
      cases kq with
      | zero=>exact absurd HA.out (by simp [spec_BitsOf.j2])
      | succ kj15 =>
       have H:=HA.out
       clear HA
       simp only [spec_BitsOf.j2] at H
       by_cases c24:0 ≤ x5_1
       rotate_left
       ·rw [if_neg c24] at H
        exact absurd H (by simp)
       rw [if_pos c24] at H
       have c24b0:decide (0 ≤ x5_1) = true:=decide_eq_true c24
       clear c24
       by_cases c25:x5_1 < (l0.length:Int)
       rotate_left
       ·rw [if_neg c25] at H
        exact absurd H (by simp)
       rw [if_pos c25] at H
       have c25b0:decide (x5_1 < (l0.length:Int)) = true:=decide_eq_true c25
       clear c25
       by_cases c26:(rd l0 x5_1) = 1
       rotate_left
       ·rw [if_neg c26] at H
        have c26b0:((rd l0 x5_1) == 1) = false:=beq_eq_false_iff_ne.mpr c26
        have c26b1:((rd l0 x5_1) != 1) = true:=bne_iff_ne.mpr c26
        have H':=mk0 H
        clear H
        have p151:0 ≤ (x5_1:Int):=of_decide_eq_true (by first|(with_reducible assumption)|assumption)
        have q151:x5_1 < (l0.length:Int):=of_decide_eq_true (by first|(with_reducible assumption)|assumption)
        obtain⟨ad151,e151,hx151_0⟩:=Kd.at_int HR0.out x5_1 p151 q151
        cases e151
        replace hx151_0:=(HB.out.cell (World.block_lt_of_cell? w _ hx151_0)).trans hx151_0
        replace p151:=eq_true p151
        replace q151:=eq_true q151
        go_wp2
        go_roundg kj15
        case measure=>have:=HK1.out;have:=HJ9.out;have:=HJ15.out;omega
        case rel=>exact⟨(wrap64 (x5_1 + 1)),(x145000_1),(x146001_15),(u146001),(by first|rfl|(simp;done)|(simp [*];done)),H',⟨by have:=HK1.out;have:=HJ9.out;have:=HJ15.out;omega⟩,⟨rR HO_146001.out⟩,⟨kN BK144.out⟩,⟨kN BK145.out⟩,⟨kB HB.out⟩⟩
       rw [if_pos c26] at H
       have c26b0:((rd l0 x5_1) == 1) = true:=beq_iff_eq.mpr c26
       have c26b1:((rd l0 x5_1) != 1) = false:=bne_eq_false_iff_eq.mpr c26
       clear c26
       obtain⟨ji27,hji27⟩:∃ j_:Int,(wrap64 (Int.tdiv x5_1 64)) = j_:=⟨_,rfl⟩
       replace H:(if 0 ≤ (ji27) then (if (ji27) < (x146001_15.length:Int) then ((spec_l01Power.f kj15 (Int.tmod x5_1 64)).bind fun t153=>(spec_BitsOf.l0 kj15 l0 (wrap64 (x5_1 + 1)) (l0.length:Int) (x146001_15.set ((ji27):Int).toNat (IntKind.u64.wrap ((rd x146001_15 (ji27)) + t153))))) else (none)) else (none)) = some (r1,r2,r3):=by first|(rw [hji27] at H;exact H)|(simp only [hji27] at H ⊢;exact H)
       have hji27w:(IntKind.i64.wrap (Int.tdiv x5_1 64)) = ji27:=(i64_w _).trans hji27
       by_cases c28:0 ≤ (ji27)
       rotate_left
       ·rw [if_neg c28] at H
        exact absurd H (by simp)
       rw [if_pos c28] at H
       have c28b0:decide (0 ≤ (ji27)) = true:=decide_eq_true c28
       clear c28
       by_cases c29:(ji27) < (x146001_15.length:Int)
       rotate_left
       ·rw [if_neg c29] at H
        exact absurd H (by simp)
       rw [if_pos c29] at H
       have c29b0:decide ((ji27) < (x146001_15.length:Int)) = true:=decide_eq_true c29
       clear c29
       replace H:=Option.bind_eq_some_iff.mp H
       obtain⟨t153,A300,H⟩:=H
       replace H:(spec_BitsOf.l0 kj15 l0 (wrap64 (x5_1 + 1)) (l0.length:Int) (x146001_15.set ((ji27):Int).toNat (IntKind.u64.wrap ((rd x146001_15 (ji27)) + t153)))) = some (r1,r2,r3):=H
       have A30:=mk0 A300
       clear A300
       obtain⟨y154,hy154⟩:∃ y_:List Int,y_ = (x146001_15.set ((ji27):Int).toNat (IntKind.u64.wrap ((rd x146001_15 (ji27)) + t153))):=⟨_,rfl⟩
       replace H:(spec_BitsOf.l0 kj15 l0 (wrap64 (x5_1 + 1)) (l0.length:Int) y154) = some (r1,r2,r3):=by first|(rw [hy154];with_reducible exact H)|(have H2_:=(Option.bind_some _ _).symm.trans H;rw [hy154];with_reducible exact H2_)|(have H2_:=(Option.bind_some _ _).symm.trans H;with_reducible exact H2_)|with_reducible exact H|(rw [hy154];exact H)|exact H
       have Ny154:=mk0 hy154
       clear hy154
       have H':=mk0 H
       clear H
       have p151:0 ≤ (x5_1:Int):=of_decide_eq_true (by first|(with_reducible assumption)|assumption)
       have q151:x5_1 < (l0.length:Int):=of_decide_eq_true (by first|(with_reducible assumption)|assumption)
       obtain⟨ad151,e151,hx151_0⟩:=Kd.at_int HR0.out x5_1 p151 q151
       cases e151
       replace hx151_0:=(HB.out.cell (World.block_lt_of_cell? w _ hx151_0)).trans hx151_0
       replace p151:=eq_true p151
       replace q151:=eq_true q151
       try go_wp2
       replace HO_146001:=mk0 (dR HO_146001.out)
       replace BK144:=mk0 (dB BK144.out)
       replace BK145:=mk0 (dB BK145.out)
       replace HB:=mk0 (dZ HB.out)
       obtain⟨Ao33,co33,eo33⟩:=Kd.R_slice HO_146001.out
       (first|subst eo33|(injection eo33 with f1_ f2_ f3_;have f4_:=f1_.symm;have f5_:=f3_.symm;clear f1_ f2_ f3_;subst f4_;subst f5_))
       have p152:0 ≤ ((ji27):Int):=of_decide_eq_true (by first|(with_reducible assumption)|assumption)
       have q152:(ji27) < (x146001_15.length:Int):=of_decide_eq_true (by first|(with_reducible assumption)|assumption)
       obtain⟨ad152,e152,hx152_0⟩:=Kd.at_int (Kd.R_reads' HO_146001.out).2.2 (ji27) p152 q152
       cases e152
       replace p152:=eq_true p152
       replace q152:=eq_true q152
       refine start_ (n:=16) (S:=fun w'=>w'.cell? ⟨gb145,0,none⟩ = some (.int .i64 (l0.length:Int)) ∧ w'.cell? ⟨gb145,1,none⟩ = some (.slice (some ad152) x146001_15.length co33) ∧ w'.cell? (ad152.add ((ji27)).toNat) = some (.int .u64 (rd x146001_15 (ji27)))) (ds:=[15]) spec_BitsOf.m0 (by kernel_rfl) rfl rfl ⟨(blk_cell BK145.out 0).trans rfl,(blk_cell BK145.out 1).trans rfl,hx152_0⟩ (fun hHeld=>?_);refine with_tabW spec_BitsOf.tab12 spec_BitsOf.bits12 (fun HT_ HW_=>?_)
       generalize wc.drew = w32 at HO_146001 BK144 BK145 HB hx152_0 hHeld ⊢
       refine pure_ (i:=0) (N:=some 45) (v:=?_) (a':=?_) spec_BitsOf.m1 rfl rfl (any_of HT_.out (by kernel_rfl)) (fun _ _ _ h=>h) (Or.inl ⟨by rfl,?_⟩) ?_ ?_
       rotate_left
       ·intro w'
        go_simp
        with_reducible rfl
       rotate_left
       ·simp only [Act.put,sA,sO,sS,i64_w,i32_w]
        rfl
       refine pure_ (i:=2) (N:=some 47) (v:=?_) (a':=?_) spec_BitsOf.m2 rfl rfl (any_of HT_.out (by kernel_rfl)) (fun _ _ _ h=>h) (Or.inl ⟨by rfl,?_⟩) ?_ ?_
       rotate_left
       ·intro w'
        go_simp
        with_reducible rfl
       rotate_left
       ·simp only [Act.put,sA,sO,sS,i64_w,i32_w]
        rfl
       refine pure_ (i:=3) (N:=some 48) (v:=?_) (a':=?_) spec_BitsOf.m3 rfl rfl (any_of HT_.out (by kernel_rfl)) (fun _ _ _ h=>h) (Or.inl ⟨by rfl,?_⟩) ?_ ?_
       rotate_left
       ·intro w'
        go_simp
        with_reducible rfl
       rotate_left
       ·simp only [Act.put,sA,sO,sS,i64_w,i32_w]
        rfl
       refine pure_ (i:=4) (N:=some 49) (v:=?_) (a':=?_) spec_BitsOf.m4 rfl rfl (any_of HT_.out (by kernel_rfl)) (fun _ _ _ h=>h) (Or.inl ⟨by rfl,?_⟩) ?_ ?_
       rotate_left
       ·intro w'
        go_simp
        with_reducible rfl
       rotate_left
       ·simp only [Act.put,sA,sO,sS,i64_w,i32_w]
        rfl
       refine pure_ (i:=6) (N:=some 51) (v:=?_) (a':=?_) spec_BitsOf.m5 rfl rfl (any_of HT_.out (by kernel_rfl)) (fun _ _ _ h=>h) (Or.inl ⟨by rfl,?_⟩) ?_ ?_
       rotate_left
       ·intro w'
        go_simp
        with_reducible rfl
       rotate_left
       ·simp only [Act.put,sA,sO,sS,i64_w,i32_w]
        rfl
       refine pure_ (i:=7) (N:=some 52) (v:=?_) (a':=?_) spec_BitsOf.m6 rfl rfl (any_of HT_.out (by kernel_rfl)) (fun _ _ _ h=>h) (Or.inl ⟨by rfl,?_⟩) ?_ ?_
       rotate_left
       ·intro w'
        go_simp
        with_reducible rfl
       rotate_left
       ·simp only [Act.put,sA,sO,sS,i64_w,i32_w]
        rfl
       refine pure_ (i:=10) (N:=some 55) (v:=?_) (a':=?_) spec_BitsOf.m7 rfl rfl (any_of HT_.out (by kernel_rfl)) (fun _ _ _ h=>h) (Or.inl ⟨by rfl,?_⟩) ?_ ?_
       rotate_left
       ·intro w'
        go_simp
        with_reducible rfl
       rotate_left
       ·simp only [Act.put,sA,sO,sS,i64_w,i32_w]
        rfl
       refine pure_ (i:=11) (N:=some 56) (v:=?_) (a':=?_) spec_BitsOf.m8 rfl rfl (any_of HT_.out (by kernel_rfl)) (fun _ _ _ h=>h) (Or.inl ⟨by rfl,?_⟩) ?_ ?_
       rotate_left
       ·intro w'
        go_simp
        with_reducible rfl
       rotate_left
       ·simp only [Act.put,sA,sO,sS,i64_w,i32_w]
        rfl
       refine take_ (i:=1) (N:=some 46) (v:=?_) (a':=?_) spec_BitsOf.m9 rfl rfl (take_ofW HT_.out HW_.out (by kernel_rfl)) (fun _ _ _ h=>h) (Or.inl ⟨by rfl,?_⟩) hHeld ?_ ?_
       rotate_left
       ·rintro w' ⟨s0,s1,s2⟩
        go_simp
        with_reducible rfl
       rotate_left
       ·simp only [Act.put,sA,sO,sS,i64_w,i32_w]
        rfl
       refine take_ (i:=5) (N:=some 50) (v:=?_) (a':=?_) spec_BitsOf.m10 rfl rfl (take_ofW HT_.out HW_.out (by kernel_rfl)) (fun _ _ _ h=>h) (Or.inl ⟨by rfl,?_⟩) hHeld ?_ ?_
       rotate_left
       ·rintro w' ⟨s0,s1,s2⟩
        go_simp
        with_reducible rfl
       rotate_left
       ·simp only [Act.put,sA,sO,sS,i64_w,i32_w]
        rfl
       refine pure_ (i:=8) (N:=some 53) (v:=?_) (a':=?_) spec_BitsOf.m11 rfl rfl (any_of HT_.out (by kernel_rfl)) (fun _ _ _ h=>h) (Or.inl ⟨by rfl,?_⟩) ?_ ?_
       rotate_left
       ·intro w'
        go_simp
        with_reducible rfl
       rotate_left
       ·simp only [Act.put,sA,sO,sS,i64_w,i32_w]
        rfl
       refine take_ (i:=9) (N:=some 54) (v:=?_) (a':=?_) spec_BitsOf.m12 rfl rfl (take_ofW HT_.out HW_.out (by kernel_rfl)) (fun _ _ _ h=>h) (Or.inl ⟨by rfl,?_⟩) hHeld ?_ ?_
       rotate_left
       ·rintro w' ⟨s0,s1,s2⟩
        go_simp
        with_reducible rfl
       rotate_left
       ·simp only [Act.put,sA,sO,sS,i64_w,i32_w]
        rfl
       refine one_ (i:=12) (N:=some 57) spec_BitsOf.m13 rfl rfl (one_of HT_.out (by kernel_rfl)) (by decide) (fun K hK=>?_)
       refine goes_ Try.func69 (by kernel_rfl) rfl #[.int .i64 (Int.tmod x5_1 64)] (by rfl) rfl rfl (by (try simp only [mA,mC,mN]);first|done|rfl|(simp only [List.length_drop,List.length_take];done)|(simp only [List.length_drop,List.length_take];rfl)) ?_
       with_reducible refine (spec_l01Power.calls kj15 (Int.tmod x5_1 64) t153 _ A30.out).mono ?_
       rintro e w' ⟨rfl,⟨nd,rfl⟩⟩
       refine⟨_,rfl,?_⟩
       have p31:0 ≤ ((ji27):Int):=of_decide_eq_true (by first|(with_reducible assumption)|assumption)
       have q31:((ji27):Int) < ((x146001_15.length:Int):Int):=of_decide_eq_true (by first|(with_reducible assumption)|assumption)
       obtain⟨go31,co31,eo31,gb31,gl31,cl31,HG31⟩:=Kd.R_form HO_146001.out (by omega)
       (first|cases eo31|(injection eo31 with ea_ en_ ec_;(first|subst ea_|(injection ea_ with ea_;subst ea_));subst ec_;clear en_))
       have GB31:=mk0 gb31
       have GG31:=mk0 HG31
       clear gb31 gl31 HG31
       (first|simp only [add_plain] at hx152_0|skip)
       obtain⟨hx31_0,hf31_0⟩:=Kd.R_celln 0 HO_146001.out ((ji27):Int) p31 q31
       replace p31:=eq_true p31
       replace q31:=eq_true q31
       have HP34:=Kd.R_putn HO_146001.out ((ji27):Int) (IntKind.u64.wrap ((rd x146001_15 (ji27)) + t153))
       rw [← Ny154.out] at HP34
       have HQ34:=mk0 HP34
       clear HP34
       refine hK.out _ _ ⟨(blk_cell BK145.out 0).trans rfl,(blk_cell BK145.out 1).trans rfl,hHeld.2.2⟩ (fun hHeld=>?_)
       clear hK K
       refine norm_ (a':=?_) ?_ ?_
       rotate_left
       ·show Act.put _ (some 57) _ = _
        simp only [Act.put,sA,sO,sS,i64_w,i32_w]
        rfl
       refine pure_ (i:=13) (N:=some 58) (v:=?_) (a':=?_) spec_BitsOf.m14 rfl rfl (any_of HT_.out (by kernel_rfl)) (fun _ _ _ h=>h) (Or.inl ⟨by rfl,?_⟩) ?_ ?_
       rotate_left
       ·intro w'
        go_simp
        with_reducible rfl
       rotate_left
       ·simp only [Act.put,sA,sO,sS,i64_w,i32_w]
        rfl
       refine pure_ (i:=14) (N:=some 59) (v:=?_) (a':=?_) spec_BitsOf.m15 rfl rfl (any_of HT_.out (by kernel_rfl)) (fun _ _ _ h=>h) (Or.inl ⟨by rfl,?_⟩) ?_ ?_
       rotate_left
       ·intro w'
        go_simp
        with_reducible rfl
       rotate_left
       ·simp only [Act.put,sA,sO,sS,i64_w,i32_w]
        rfl
       refine last_ (i:=15) (N:=none) spec_BitsOf.m16 rfl rfl (one_of HT_.out (by kernel_rfl)) (by decide) (fun K hK=>?_)
       refine skip_ (w1:=?_) (by rfl) rfl ?_ ?_
       rotate_left
       ·go_simp
        rfl
       refine hK.out _ _ ?_
       clear hK K
       refine done_ (done_of HT_.out (by kernel_rfl)) ?_
       try go_wp2
       go_roundg kj15
       case measure=>have:=HK1.out;have:=HJ9.out;have:=HJ15.out;omega
       case rel=>exact⟨(wrap64 (x5_1 + 1)),(x145000_1),(y154),(.slice (some ⟨go31,0,none⟩) x146001_15.length co33),(by first|rfl|(simp;done)|(simp [*];done)),H',⟨by have:=HK1.out;have:=HJ9.out;have:=HJ15.out;omega⟩,⟨rR HQ34.out⟩,⟨by (with_reducible repeat (first|apply nB|apply dB|apply aB));refine blk_far ?_ (by have h_:=Kd.R_ne HO_146001.out BK144.out (by decide);intro e_;exact h_ (by rw [e_];rfl)) _;(with_reducible repeat (first|apply nB|apply dB|apply aB));exact BK144.out⟩,⟨by (with_reducible repeat (first|apply nB|apply dB|apply aB));refine blk_far ?_ (by have h_:=Kd.R_ne HO_146001.out BK145.out (by decide);intro e_;exact h_ (by rw [e_];rfl)) _;(with_reducible repeat (first|apply nB|apply dB|apply aB));exact BK145.out⟩,⟨kB HB.out⟩⟩
/-! ### spec_l01List: function 59 -/
mutual
def spec_l01List.l0 : Nat → List Int → Int → Int → List Int → Option (List Int)
 | 0, _, _, _, _ => none
 | k + 1, x3, x4, x156000, x156001 => if x4 < x156000 then (if 0 ≤ (wrap64 (Int.tdiv x4 64)) then (if (wrap64 (Int.tdiv x4 64)) < (x156001.length : Int) then (spec_l01List.l1 k x3 x4 (rd x156001 (wrap64 (Int.tdiv x4 64))) (Int.tmod x4 64) x156000 x156001) else (none)) else (none)) else (some x3)
def spec_l01List.l1 : Nat → List Int → Int → Int → Int → Int → List Int → Option (List Int)
 | 0, _, _, _, _, _, _ => none
 | k + 1, x3, x4, x5, x6, x156000, x156001 => if x6 > 0 then (spec_l01List.l1 k x3 x4 (IntKind.u64.wrap (Int.tdiv x5 2)) (wrap64 (x6 - 1)) x156000 x156001) else (if x3.length < 17592186044416 then (spec_l01List.l0 k (x3 ++ [wrap64 (Int.tmod x5 2)]) (wrap64 (x4 + 1)) x156000 x156001) else (none))
end
def spec_l01List.f (k : Nat) (a0_0 : Int) (l0_1 : List Int) : Option (List Int) := spec_l01List.l0 k (([] : List Int)) 0 a0_0 l0_1
theorem spec_l01List.mono_l : ∀ k, (∀ y0 y1 y2 y3, LeO (spec_l01List.l0 k y0 y1 y2 y3) (spec_l01List.l0 (k + 1) y0 y1 y2 y3)) ∧ (∀ y0 y1 y2 y3 y4 y5, LeO (spec_l01List.l1 k y0 y1 y2 y3 y4 y5) (spec_l01List.l1 (k + 1) y0 y1 y2 y3 y4 y5))
 | 0 => ⟨fun _ _ _ _ r h => by simp [spec_l01List.l0] at h, fun _ _ _ _ _ _ r h => by simp [spec_l01List.l1] at h⟩
 | k + 1 => by
  obtain ⟨ih0, ih1⟩ := spec_l01List.mono_l k
  refine ⟨?_, ?_⟩
  ·intro y0 y1 y2 y3
   unfold spec_l01List.l0
   repeat' first|(with_reducible first|exact ih0 _ _ _ _|exact ih1 _ _ _ _ _ _|exact LeO.refl _|exact LeO.none _|refine LeO.ite ?_ ?_|refine LeO.bind ?_ (fun _ => ?_))|exact LeO.none _|refine LeO.ite ?_ ?_|refine LeO.bind ?_ (fun _ => ?_)
  ·intro y0 y1 y2 y3 y4 y5
   unfold spec_l01List.l1
   repeat' first|(with_reducible first|exact ih0 _ _ _ _|exact ih1 _ _ _ _ _ _|exact LeO.refl _|exact LeO.none _|refine LeO.ite ?_ ?_|refine LeO.bind ?_ (fun _ => ?_))|exact LeO.none _|refine LeO.ite ?_ ?_|refine LeO.bind ?_ (fun _ => ?_)
theorem spec_l01List.mono : ∀ a0 a1 k, LeO (spec_l01List.f k a0 a1) (spec_l01List.f (k + 1) a0 a1) := by
 intro a0 a1 k
 obtain ⟨ih0, ih1⟩ := spec_l01List.mono_l k
 unfold spec_l01List.f
 repeat' first|(with_reducible first|exact ih0 _ _ _ _|exact ih1 _ _ _ _ _ _|exact LeO.refl _|exact LeO.none _|refine LeO.ite ?_ ?_|refine LeO.bind ?_ (fun _ => ?_))|exact LeO.none _|refine LeO.ite ?_ ?_|refine LeO.bind ?_ (fun _ => ?_)
set_option maxHeartbeats 8000000 in
set_option maxRecDepth 100000 in
theorem spec_l01List.calls (k : Nat) (a0_0 : Int) (A0_1 : Option Addr) (c0_1 : Nat) (l0_1 : List Int) (r : List Int) (w : World) (hr0_1 : Kd.C (Kd.int .u64) w A0_1 l0_1.length l0_1) (hc0_1 : l0_1.length ≤ c0_1) (h : spec_l01List.f k a0_0 l0_1 = some r) :
  Calls Try.prog 59 #[.agg #[.int .i64 a0_0, .slice A0_1 l0_1.length c0_1]] w fun e w' => ∃ v0_ : Value, e = .returned (v0_) ∧ Kd.R (Kd.int .i64) 3 w' w.heap.size (fun _ => True) v0_ r ∧ Below w.heap.size w w' := by
 have hu30:=Try.underlying30
 have HR0_1:=mk0 hr0_1
 have HC0_1:=mk0 hc0_1
 clear hr0_1 hc0_1
 have HB:=mk0 (Below.refl w.heap.size w)
 have H:(spec_l01List.l0 k (([]:List Int)) 0 a0_0 l0_1) = some r:=h
 clear h
 obtain⟨y156,hy156⟩:∃ y_:List Int,y_ = (([]:List Int)):=⟨_,rfl⟩
 replace H:(spec_l01List.l0 k y156 0 a0_0 l0_1) = some r:=by first|(rw [hy156];with_reducible exact H)|(have H2_:=(Option.bind_some _ _).symm.trans H;rw [hy156];with_reducible exact H2_)|(have H2_:=(Option.bind_some _ _).symm.trans H;with_reducible exact H2_)|with_reducible exact H|(rw [hy156];exact H)|exact H
 have Ny156:=mk0 hy156
 clear hy156
 have H':=mk0 H
 clear H
 go_enter Try.func59,Try.ntmps59
 go_wp2_with (first|((with_reducible refine gate_dst (N:=1) rfl ?_);refine box_event ?hg (N:=1) ?hd (cs:=#[.int .i64 a0_0,.slice A0_1 l0_1.length c0_1]) (t:=30) ?hr ?_;(case hd=>rfl);(case hg=>rfl);(case hr=>first|(go_simp;done)|(go_simp;rfl));intro gb155 hg w2 hbox hb;have BK155:=mk0 (hbox);have GW155:=mk0 ((by rw [hg];exact (kZ HB.out):w.heap.size ≤ gb155));have GE155:=mk0 ((by rw [hg];exact (kZ HB.out):w.heap.size ≤ gb155));replace HB:=mk0 (kS HB.out hb);clear hb hbox hg)|((with_reducible refine gate_dst (N:=7) rfl ?_);refine Kd.R_lit (Kd.int .i64) _ 3 ?hg (N:=7) ?hd (xs:=([]:List Int)) (inner:=[]) (ok:=fun _=>True) (okp:=fun _=>True) ?hr ?hp (fun _ hk=>hk) trivial (Below.refl _ _) (Nat.le_refl _) (by simp) ?_;(case hd=>rfl);(case hg=>rfl);(case hr=>first|(go_simp;done)|(go_simp;rfl));(case hp=>exact (Reps.none _ _));intro v157 w3 ho4 hb hg_ hnew_;clear hg_ hnew_;(first|rw [← Ny156.out] at ho4|(simp only [Int.reduceToNat] at ho4;rw [← Ny156.out] at ho4));have HO158:=mk0 (Kd.R_lower ho4 (kZ HB.out));replace BK155:=mk0 (kK BK155.out hb);replace HB:=mk0 (kS HB.out hb);clear hb ho4))
 go_loopg [3,4] k (fun kq v3 v4 w'=>∃ (x3_1:List Int) (x4_1:Int),v4 = .int .i64 x4_1 ∧ Aside0 (spec_l01List.l0 kq x3_1 x4_1 a0_0 l0_1 = some r) ∧ Aside0 (kq ≤ k) ∧ Aside0 (Kd.R (Kd.int .i64) 3 w' w.heap.size (fun _=>True) v3 x3_1) ∧ Aside0 (w'.heap[gb155]? = some (.cells #[.int .i64 a0_0,(.slice A0_1 l0_1.length c0_1)] 30 (0,0))) ∧ Aside0 (Below w.heap.size w w'))
 case atStart=>exact⟨(y156),(0),(by first|rfl|(simp;done)|(simp [*];done)),H',⟨Nat.le_refl _⟩,⟨rR HO158.out⟩,⟨kN BK155.out⟩,⟨kB HB.out⟩⟩
 case round =>
  clear H'
  try clear p2
  obtain⟨x3_1,x4_1,rfl,HA,HK1,HO_3,BK155,HB⟩:=hrel
  cases gk with
  | zero=>exact absurd HA.out (by simp [spec_l01List.l0])
  | succ k1 =>
   have H:=HA.out
   clear HA
   simp only [spec_l01List.l0] at H
   by_cases c5:x4_1 < a0_0
   ·rw [if_pos c5] at H
    have c5b0:decide (x4_1 < a0_0) = true:=decide_eq_true c5
    clear c5
    obtain⟨ji6,hji6⟩:∃ j_:Int,(wrap64 (Int.tdiv x4_1 64)) = j_:=⟨_,rfl⟩
    replace H:(if 0 ≤ (ji6) then (if (ji6) < (l0_1.length:Int) then (spec_l01List.l1 k1 x3_1 x4_1 (rd l0_1 (ji6)) (Int.tmod x4_1 64) a0_0 l0_1) else (none)) else (none)) = some r:=by first|(rw [hji6] at H;exact H)|(simp only [hji6] at H ⊢;exact H)
    have hji6w:(IntKind.i64.wrap (Int.tdiv x4_1 64)) = ji6:=(i64_w _).trans hji6
    by_cases c7:0 ≤ (ji6)
    ·rw [if_pos c7] at H
     have c7b0:decide (0 ≤ (ji6)) = true:=decide_eq_true c7
     clear c7
     by_cases c8:(ji6) < (l0_1.length:Int)
     ·rw [if_pos c8] at H
      have c8b0:decide ((ji6) < (l0_1.length:Int)) = true:=decide_eq_true c8
      clear c8
      have H':=mk0 H
      clear H
      obtain⟨hcz9_0,hcz9_1,hfz9_0,hfz9_1⟩:=cz2 BK155.out
      have p159:0 ≤ ((ji6):Int):=of_decide_eq_true (by first|(with_reducible assumption)|assumption)
      have q159:(ji6) < (l0_1.length:Int):=of_decide_eq_true (by first|(with_reducible assumption)|assumption)
      obtain⟨ad159,e159,hx159_0⟩:=Kd.at_int HR0_1.out (ji6) p159 q159
      cases e159
      replace hx159_0:=(HB.out.cell (World.block_lt_of_cell? w _ hx159_0)).trans hx159_0
      replace p159:=eq_true p159
      replace q159:=eq_true q159
      go_wp2
      go_loopg [5,6] k1 (fun kq v5 v6 w'=>∃ (x5_2:Int) (x6_2:Int),v5 = .int .u64 x5_2 ∧ v6 = .int .i64 x6_2 ∧ Aside0 (spec_l01List.l1 kq x3_1 x4_1 x5_2 x6_2 a0_0 l0_1 = some r) ∧ Aside0 (kq ≤ k1) ∧ Aside0 (Kd.R (Kd.int .i64) 3 w' w.heap.size (fun _=>True) u3 x3_1) ∧ Aside0 (w'.heap[gb155]? = some (.cells #[.int .i64 a0_0,(.slice (some ad159) l0_1.length c0_1)] 30 (0,0))) ∧ Aside0 (Below w.heap.size w w'))
      case atStart=>exact⟨(rd l0_1 (ji6)),(Int.tmod x4_1 64),(by first|rfl|(simp;done)|(simp only [← hji6] <;> (first|rfl|simp))|(simp [*];done)),(by first|rfl|(simp;done)|(simp [*];done)),H',⟨Nat.le_refl _⟩,⟨rR HO_3.out⟩,⟨kN BK155.out⟩,⟨kB HB.out⟩⟩
      case round =>
       clear H'
       try clear p1
       try clear q1
       try clear hx1
       try clear p2
       try clear c5
       try clear c5b0
       try clear p6
       try clear c7
       try clear c7b0
       try clear c8
       try clear c8b0
       try clear hcz9_0
       try clear hcz9_1
       try clear hfz9_0
       try clear hfz9_1
       try clear hx159_0
       try clear p159
       try clear p2
       try clear q159
       obtain⟨x5_2,x6_2,rfl,rfl,HA,HK2,HO_3,BK155,HB⟩:=hrel
       cases gk with
       | zero=>exact absurd HA.out (by simp [spec_l01List.l1])
       | succ k2 =>
        have H:=HA.out
        clear HA
        simp only [spec_l01List.l1] at H
        by_cases c10:x6_2 > 0
        ·rw [if_pos c10] at H
         have c10b0:decide (0 < x6_2) = true:=decide_eq_true c10
         clear c10
         have H':=mk0 H
         clear H
         go_wp2
         go_roundg k2
         case measure=>have:=HK1.out;have:=HK2.out;omega
         case rel=>exact⟨(IntKind.u64.wrap (Int.tdiv x5_2 2)),(wrap64 (x6_2 - 1)),(by first|rfl|(simp;done)|(simp [*];done)),(by first|rfl|(simp;done)|(simp [*];done)),H',⟨by have:=HK1.out;have:=HK2.out;omega⟩,⟨rR HO_3.out⟩,⟨kN BK155.out⟩,⟨kB HB.out⟩⟩
        ·rw [if_neg c10] at H
         have c10b0:decide (0 < x6_2) = false:=decide_eq_false c10
         clear c10
         by_cases c11:x3_1.length < 17592186044416
         ·rw [if_pos c11] at H
          have LMc11:=mk0 c11
          clear c11
          obtain⟨y160,hy160⟩:∃ y_:List Int,y_ = (x3_1 ++ [wrap64 (Int.tmod x5_2 2)]):=⟨_,rfl⟩
          replace H:(spec_l01List.l0 k2 y160 (wrap64 (x4_1 + 1)) a0_0 l0_1) = some r:=by first|(rw [hy160];with_reducible exact H)|(have H2_:=(Option.bind_some _ _).symm.trans H;rw [hy160];with_reducible exact H2_)|(have H2_:=(Option.bind_some _ _).symm.trans H;with_reducible exact H2_)|with_reducible exact H|(rw [hy160];exact H)|exact H
          have Ny160:=mk0 hy160
          clear hy160
          have H':=mk0 H
          clear H
          go_wp2_with (first|((with_reducible refine gate_builtin (b:=.append) (xs:=#[.tmp 28,.tmp 32]) rfl ?_);at_builtin;refine Kd.R_append (Kd.int .i64) (w0:=w) w.heap.size rfl (.tmp 28) (.tmp 32) 24 3 (.int .i64 0) 8 rfl Try.underlying24 info3 rfl (by decide) (by omega) u3 x3_1 (wrap64 (Int.tmod x5_2 2)) [.int .i64 (wrap64 (Int.tmod x5_2 2))] (fun _=>True) (fun _=>False) rfl rfl ?aP (fun _ hk=>hk.elim) ?aF ?aO ?aB ?aS ?aL ?_;(case aP=>exact rfl);(case aB=>exact (kB HB.out));(case aF=>exact (fun _ _=>trivial));(case aO=>exact (rR HO_3.out));(case aS=>exact (kZ HB.out));(case aL=>have:=LMc11.out;omega);intro v161 w12 ho hb hg hat;rw [← Ny160.out] at ho;replace BK155:=mk0 (blk_grown (kN BK155.out) hg (Kd.R_ne HO_3.out BK155.out (by decide)));replace HB:=mk0 (hb);have HO162:=mk0 (ho);clear HO_3 ho hb hg hat))
          go_roundg k2
          case measure=>have:=HK1.out;have:=HK2.out;omega
          case rel=>exact⟨(y160),(wrap64 (x4_1 + 1)),(by first|rfl|(simp;done)|(simp [*];done)),H',⟨by have:=HK1.out;have:=HK2.out;omega⟩,⟨rR HO162.out⟩,⟨kN BK155.out⟩,⟨kB HB.out⟩⟩
         ·rw [if_neg c11] at H
          exact absurd H (by simp)
     ·rw [if_neg c8] at H
      exact absurd H (by simp)
    ·rw [if_neg c7] at H
     exact absurd H (by simp)
   ·rw [if_neg c5] at H
    have c5b0:decide (x4_1 < a0_0) = false:=decide_eq_false c5
    clear c5
    obtain rfl:=Option.some.inj H
    obtain⟨hcz13_0,hcz13_1,hfz13_0,hfz13_1⟩:=cz2 BK155.out
    go_wp2
    go_ret
    exact⟨_,by first|rfl|(simp [errW_none,errW_some] <;> rfl)|(simp [*,errW_none,errW_some] <;> rfl),rR HO_3.out,kB HB.out⟩

end Go.Proofs.Ytgjmmegmkdklbaa.QFnExactHuffRead
