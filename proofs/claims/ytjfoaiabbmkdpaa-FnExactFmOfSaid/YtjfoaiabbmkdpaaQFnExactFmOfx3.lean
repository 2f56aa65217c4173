-- A walk, made by walk.py, a program of this session's.
import Derived.Test.YtjfoaiabbmkdpaaQFnExactFmOfx0
import Derived.Test.YtjfoaiabbmkdpaaQFnExactFmOfx2
namespace Go.Proofs.Ytjfoaiabbmkdpaa.QFnExactFmOf
open Go.RowKit Go.Proofs.YtjfoaiabbmkdpaaW.PrintWords Go.Proofs.YtjfoaiabbmkdpaaW.PrintLast Go.Proofs.YtjfoaiabbmkdpaaW.PrintMore
attribute [local go_sem] max2_int min2_int max_two min_two max_three min_three max_four min_four   -- for this text's walks alone
set_option linter.unusedVariables false
set_option linter.unusedSimpArgs false
/-! ### spec_BitsOf: function 20 -/
mutual
def spec_BitsOf.l0 : Nat → List Int → Int → Int → List Int → Option (Int × List Int × Bool)
 | 0, _, _, _, _ => none
 | k + 1, x0, x5, x170000, x170001 => if x5 < (x0.length : Int) then (if 0 ≤ x5 then (if (rd x0 x5) = 0 then (spec_BitsOf.j1 k x0 x5 false x170000 x170001) else (spec_BitsOf.j1 k x0 x5 ((rd x0 x5) != 1) x170000 x170001)) else (none)) else (some (x170000, x170001, true))
def spec_BitsOf.j1 : Nat → List Int → Int → Bool → Int → List Int → Option (Int × List Int × Bool)
 | 0, _, _, _, _, _ => none
 | k + 1, x0, x5, x30, x170000, x170001 => if x30 = true then (some (0, ([] : List Int), false)) else (if (Int.tmod x5 64) = 0 then (if x170001.length < 17592186044416 then (spec_BitsOf.j2 k x0 x5 x170000 (x170001 ++ [0])) else (none)) else (spec_BitsOf.j2 k x0 x5 x170000 x170001))
def spec_BitsOf.j2 : Nat → List Int → Int → Int → List Int → Option (Int × List Int × Bool)
 | 0, _, _, _, _ => none
 | k + 1, x0, x5, x170000, x170001 => if 0 ≤ x5 then (if x5 < (x0.length : Int) then (if (rd x0 x5) = 1 then (if 0 ≤ (wrap64 (Int.tdiv x5 64)) then (if (wrap64 (Int.tdiv x5 64)) < (x170001.length : Int) then ((spec_l01Power.f k (Int.tmod x5 64)).bind fun t177 => (spec_BitsOf.l0 k x0 (wrap64 (x5 + 1)) x170000 (x170001.set ((wrap64 (Int.tdiv x5 64)) : Int).toNat (IntKind.u64.wrap ((rd x170001 (wrap64 (Int.tdiv x5 64))) + t177))))) else (none)) else (none)) else (spec_BitsOf.l0 k x0 (wrap64 (x5 + 1)) x170000 x170001)) else (none)) else (none)
end
def spec_BitsOf.f (k : Nat) (l0 : List Int) : Option (Int × List Int × Bool) := if (l0.length : Int) > 5000 then (some (0, ([] : List Int), false)) else (spec_BitsOf.l0 k l0 0 (l0.length : Int) ([] : List Int))
def spec_BitsOf.T12 : Bool × List (List Nat × List Nat) := (true, [([], []), ([0], [0]), ([], []), ([2], [2]), ([], []), ([4], [4]), ([], []), ([6], [6]), ([5, 7], [5, 7]), ([8], [8]), ([], []), ([10], [10]), ([11], [11]), ([9, 12], [9, 12]), ([1, 3, 0, 1, 2, 3, 4, 5, 6, 7, 8, 9, 10, 11, 12, 13], [1, 3]), ([14, 13, 12, 0, 1, 2, 3, 4, 5, 6, 7, 8, 9, 10, 11, 12, 13], [13, 14])])
def spec_BitsOf.B12 : List Nat := [0, 1, 0, 4, 0, 16, 0, 64, 240, 496, 0, 1024, 3072, 8176, 16383, 32767]
theorem spec_BitsOf.tab12 : rtab .any (opsOf Try.f20 12) = spec_BitsOf.T12 := by kernel_rfl
theorem spec_BitsOf.bits12 : waitsOk spec_BitsOf.T12.2 spec_BitsOf.B12 = true := by kernel_rfl
set_option maxHeartbeats 8000000 in
set_option maxRecDepth 100000 in
theorem spec_BitsOf.calls (k : Nat) (A0 : Option Addr) (c0 : Nat) (l0 : List Int) (r1 : Int) (r2 : List Int) (r3 : Bool) (w : World) (hr0 : Kd.C (Kd.int .i64) w A0 l0.length l0) (hc0 : l0.length ≤ c0) (h : spec_BitsOf.f k l0 = some (r1, r2, r3)) :
  Calls Try.prog 20 #[.slice A0 l0.length c0] w fun e w' => ∃ v1_ : Value, e = .returned (.tuple #[.agg #[.int .i64 r1, v1_], .bool r3]) ∧ Kd.R (Kd.int .u64) 67 w' w.heap.size (fun _ => True) v1_ r2 ∧ Below w.heap.size w w' := by
 have hu29:=Try.underlying29
 have HR0:=mk0 hr0
 have HC0:=mk0 hc0
 clear hr0 hc0
 have HB:=mk0 (Below.refl w.heap.size w)
 have H:(if (l0.length:Int) > 5000 then (some (0,([]:List Int),false)) else (spec_BitsOf.l0 k l0 0 (l0.length:Int) ([]:List Int))) = some (r1,r2,r3):=h
 clear h
 by_cases c2:(l0.length:Int) > 5000
 ·rw [if_pos c2] at H
  have c2b0:decide (5000 < (l0.length:Int)) = true:=decide_eq_true c2
  have c2b1:decide (5000 < l0.length) = true:=decide_eq_true (by omega)
  clear c2
  simp only [Option.some.injEq,Prod.mk.injEq] at H
  obtain⟨rfl,rfl,rfl⟩:=H
  go_enter Try.func20,Try.ntmps20
  go_wp2_with (first|((with_reducible refine gate_dst (N:=2) rfl ?_);refine box_event ?hg (N:=2) ?hd (cs:=#[.int .i64 0,.slice none 0 0]) (t:=29) ?hr ?_;(case hd=>rfl);(case hg=>rfl);(case hr=>first|(go_simp;done)|(go_simp;rfl));intro gb168 hg w3 hbox hb;have BK168:=mk0 (hbox);have GW168:=mk0 ((by rw [hg];exact (kZ HB.out):w.heap.size ≤ gb168));have GE168:=mk0 ((by rw [hg];exact (kZ HB.out):w.heap.size ≤ gb168));replace HB:=mk0 (kS HB.out hb);clear hb hbox hg;obtain⟨hcz4_0,hcz4_1,hfz4_0,hfz4_1⟩:=cz2 BK168.out))
  refine bodyPost_ret (results_ct rfl _ _ gb168 29 #[.int .i64 0,.slice none 0 0] (0,0) _ rfl (by (with_reducible repeat (first|apply nB|apply dB|apply aB));refine blk_put (cs:=#[.int .i64 0,.slice none 0 0]) ?_ 1 _ rfl;(with_reducible repeat (first|apply nB|apply dB|apply aB));refine blk_put (cs:=#[.int .i64 0,.slice none 0 0]) ?_ 0 _ rfl;(with_reducible repeat (first|apply nB|apply dB|apply aB));exact BK168.out) Try.underlying29 rfl (by kernel_rfl)) rfl ?_
  exact⟨_,eR,by first|exact Kd.R_nil _ _ _ _ _|exact Kd.N_nil _ _ _ _ _|exact Kd.V_nil _ _ _ _ _|exact Kd.Q_nil _ _ _ _ _|exact Kd.S_nil _ _ _ _ _,kB HB.out⟩
 rw [if_neg c2] at H
 have c2b0:decide (5000 < (l0.length:Int)) = false:=decide_eq_false c2
 have c2b1:decide (5000 < l0.length) = false:=decide_eq_false (by omega)
 clear c2
 have H':=mk0 H
 clear H
 go_enter Try.func20,Try.ntmps20
 go_wp2_with (first|((with_reducible refine gate_dst (N:=2) rfl ?_);refine box_event ?hg (N:=2) ?hd (cs:=#[.int .i64 0,.slice none 0 0]) (t:=29) ?hr ?_;(case hd=>rfl);(case hg=>rfl);(case hr=>first|(go_simp;done)|(go_simp;rfl));intro gb168 hg w5 hbox hb;have BK168:=mk0 (hbox);have GW168:=mk0 ((by rw [hg];exact (kZ HB.out):w.heap.size ≤ gb168));have GE168:=mk0 ((by rw [hg];exact (kZ HB.out):w.heap.size ≤ gb168));replace HB:=mk0 (kS HB.out hb);clear hb hbox hg)|((with_reducible refine gate_dst (N:=4) rfl ?_);refine box_event ?hg (N:=4) ?hd (cs:=#[.int .i64 0,.slice none 0 0]) (t:=29) ?hr ?_;(case hd=>rfl);(case hg=>rfl);(case hr=>first|(go_simp;done)|(go_simp;rfl));intro gb169 hg w6 hbox hb;have BK169:=mk0 (hbox);have GW169:=mk0 ((by rw [hg];exact (kZ HB.out):w.heap.size ≤ gb169));have GE169:=mk0 ((by rw [hg];exact (kZ HB.out):w.heap.size ≤ gb169));replace HB:=mk0 (kS HB.out hb);have NB168_169:=mk0 ((by rw [hg];exact Nat.ne_of_lt (kL BK168.out):gb168 ≠ gb169));have NB169_168:=mk0 ((by rw [hg];exact Nat.ne_of_gt (kL BK168.out):gb169 ≠ gb168));replace BK168:=mk0 (kK BK168.out hb);clear hb hbox hg;have hnb7:=NB169_168.out;have hnc7:=NB168_169.out;obtain⟨hcz8_0,hcz8_1,hfz8_0,hfz8_1⟩:=cz2 BK169.out))
 go_loopg [5] k (fun kq v5 w'=>∃ (x5_1:Int) (x169000_1:Int) (x170001_1:List Int) (u170001:Value),v5 = .int .i64 x5_1 ∧ Aside0 (spec_BitsOf.l0 kq l0 x5_1 (l0.length:Int) x170001_1 = some (r1,r2,r3)) ∧ Aside0 (kq ≤ k) ∧ Aside0 (Kd.R (Kd.int .u64) 67 w' w.heap.size (fun _=>True) u170001 x170001_1) ∧ Aside0 (w'.heap[gb168]? = some (.cells #[.int .i64 x169000_1,(.slice none 0 0)] 29 (0,0))) ∧ Aside0 (w'.heap[gb169]? = some (.cells #[.int .i64 (l0.length:Int),u170001] 29 (0,0))) ∧ Aside0 (Below w.heap.size w w'))
 case atStart=>exact⟨(0),(0),(([]:List Int)),(.slice none 0 0),eS,H',⟨Nat.le_refl _⟩,⟨by first|exact Kd.R_nil _ _ _ _ _|exact Kd.N_nil _ _ _ _ _|exact Kd.V_nil _ _ _ _ _|exact Kd.Q_nil _ _ _ _ _|exact Kd.S_nil _ _ _ _ _⟩,⟨by (with_reducible repeat (first|apply nB|apply dB|apply aB));refine blk_far ?_ NB168_169.out _;(with_reducible repeat (first|apply nB|apply dB|apply aB));refine blk_far ?_ NB168_169.out _;(with_reducible repeat (first|apply nB|apply dB|apply aB));exact BK168.out⟩,⟨by (with_reducible repeat (first|apply nB|apply dB|apply aB));refine blk_put (cs:=#[.int .i64 (l0.length:Int),.slice none 0 0]) ?_ 1 _ rfl;(with_reducible repeat (first|apply nB|apply dB|apply aB));refine blk_put (cs:=#[.int .i64 0,.slice none 0 0]) ?_ 0 _ rfl;(with_reducible repeat (first|apply nB|apply dB|apply aB));exact BK169.out⟩,⟨kB HB.out⟩⟩
 case round =>
  clear H'
  try clear c2
  try clear c2b0
  try clear c2b1
  try clear p2
  try clear c7
  try clear hcz4_0
  try clear hcz4_1
  try clear hcz8_0
  try clear hcz8_1
  try clear hfz4_0
  try clear hfz4_1
  try clear hfz8_0
  try clear hfz8_1
  obtain⟨x5_1,x169000_1,x170001_1,u170001,rfl,HA,HK1,HO_170001,BK168,BK169,HB⟩:=hrel
  cases gk with
  | zero=>exact absurd HA.out (by simp [spec_BitsOf.l0])
  | succ k1 =>
   have H:=HA.out
   clear HA
   simp only [spec_BitsOf.l0] at H
   by_cases c9:x5_1 < (l0.length:Int)
   rotate_left
   ·rw [if_neg c9] at H
    have c9b0:decide (x5_1 < (l0.length:Int)) = false:=decide_eq_false c9
    clear c9
    simp only [Option.some.injEq,Prod.mk.injEq] at H
    obtain⟨rfl,rfl,rfl⟩:=H
    have hnb35:=NB169_168.out
    have hnc35:=NB168_169.out
    obtain⟨hcz36_0,hcz36_1,hfz36_0,hfz36_1⟩:=cz2 BK169.out
    obtain⟨hcz37_0,hcz37_1,hfz37_0,hfz37_1⟩:=cz2 BK168.out
    obtain⟨Ao38,co38,eo38⟩:=Kd.R_slice HO_170001.out
    subst eo38
    go_wp2
    refine bodyPost_ret (results_ct rfl _ _ gb168 29 #[.int .i64 (l0.length:Int),.slice Ao38 x170001_1.length co38] (0,0) _ rfl (by (with_reducible repeat (first|apply nB|apply dB|apply aB));refine blk_put (cs:=#[.int .i64 (l0.length:Int),.slice none 0 0]) ?_ 1 _ rfl;(with_reducible repeat (first|apply nB|apply dB|apply aB));refine blk_put (cs:=#[.int .i64 x169000_1,.slice none 0 0]) ?_ 0 _ rfl;(with_reducible repeat (first|apply nB|apply dB|apply aB));exact BK168.out) Try.underlying29 rfl (by kernel_rfl)) rfl ?_
    exact⟨_,eR,by (with_reducible repeat (first|apply aR|apply nR|apply dR));exact Kd.R_mono (Kd.R_far (p:=⟨gb168,1,none⟩) (Kd.R_far (p:=⟨gb168,0,none⟩) (Kd.R_types HO_170001.out BK168.out (by decide)) (fun _ hk=>hk.2) (.int .i64 (l0.length:Int))) (fun _ hk=>hk.2) (.slice Ao38 x170001_1.length co38)) (fun _ hk=>trivial),kB HB.out⟩
   rw [if_pos c9] at H
   have c9b0:decide (x5_1 < (l0.length:Int)) = true:=decide_eq_true c9
   clear c9
   have HC10:=mk0 H
   clear H
   go_upto_region 7 with (fail)
   go_cut [30] (fun v30 wc=>∃ (kq:Nat) (x30_9:Bool),v30 = .bool x30_9 ∧ Aside0 (spec_BitsOf.j1 kq l0 x5_1 x30_9 (l0.length:Int) x170001_1 = some (r1,r2,r3)) ∧ Aside0 (kq ≤ k1) ∧ Aside0 (Kd.R (Kd.int .u64) 67 wc w.heap.size (fun _=>True) u170001 x170001_1) ∧ Aside0 (wc.heap[gb168]? = some (.cells #[.int .i64 x169000_1,(.slice none 0 0)] 29 (0,0))) ∧ Aside0 (wc.heap[gb169]? = some (.cells #[.int .i64 (l0.length:Int),u170001] 29 (0,0))) ∧ Aside0 (Below w.heap.size w wc))
   case first =>
    have H:=HC10.out
    clear HC10
    by_cases c11:0 ≤ x5_1
    rotate_left
    ·rw [if_neg c11] at H
     exact nn H
    rw [if_pos c11] at H
    have c11b0:decide (0 ≤ x5_1) = true:=decide_eq_true c11
    clear c11
    (first|rw [c11b0]|(simp only [i64_w,i32_w];rw [c11b0])|skip)
    by_cases c12:(rd l0 x5_1) = 0
    ·rw [if_pos c12] at H
     have c12b0:((rd l0 x5_1) == 0) = true:=beq_iff_eq.mpr c12
     have c12b1:((rd l0 x5_1) != 0) = false:=bne_eq_false_iff_eq.mpr c12
     clear c12
     have H':=mk0 H
     clear H
     have p170:0 ≤ (x5_1:Int):=oD
     have q170:x5_1 < (l0.length:Int):=oD
     obtain⟨ad170,e170,hx170_0⟩:=Kd.at_int HR0.out x5_1 p170 q170
     cases e170
     replace hx170_0:=(HB.out.cell (World.block_lt_of_cell? w _ hx170_0)).trans hx170_0
     replace p170:=eq_true p170
     replace q170:=eq_true q170
     go_wp2
     go_meet
     case rel=>exact⟨_,(false),eS,H',⟨by have:=HK1.out;first|omega|exact Nat.le_refl _⟩,⟨rR HO_170001.out⟩,⟨kN BK168.out⟩,⟨kN BK169.out⟩,⟨kB HB.out⟩⟩
    rw [if_neg c12] at H
    have c12b0:((rd l0 x5_1) == 0) = false:=beq_eq_false_iff_ne.mpr c12
    have c12b1:((rd l0 x5_1) != 0) = true:=bne_iff_ne.mpr c12
    have H':=mk0 H
    clear H
    have p170:0 ≤ (x5_1:Int):=oD
    have q170:x5_1 < (l0.length:Int):=oD
    obtain⟨ad170,e170,hx170_0⟩:=Kd.at_int HR0.out x5_1 p170 q170
    cases e170
    replace hx170_0:=(HB.out.cell (World.block_lt_of_cell? w _ hx170_0)).trans hx170_0
    replace p170:=eq_true p170
    replace q170:=eq_true q170
    have p171:0 ≤ (x5_1:Int):=oD
    have q171:x5_1 < (l0.length:Int):=oD
    obtain⟨ad171,e171,hx171_0⟩:=Kd.at_int HR0.out x5_1 p171 q171
    obtain rfl:ad170 = ad171:=(by injection e171)
    replace hx171_0:=(HB.out.cell (World.block_lt_of_cell? w _ hx171_0)).trans hx171_0
    replace p171:=eq_true p171
    replace q171:=eq_true q171
    go_wp2
    go_meet
    case rel=>exact⟨_,(((rd l0 x5_1) != 1)),eS,H',⟨by have:=HK1.out;first|omega|exact Nat.le_refl _⟩,⟨rR HO_170001.out⟩,⟨kN BK168.out⟩,⟨kN BK169.out⟩,⟨kB HB.out⟩⟩
   case rest =>
    clear HC10
    try clear c1
    try clear p1
    try clear q1
    try clear hx1
    try clear c2
    try clear c2b0
    try clear c2b1
    try clear p2
    try clear c7
    try clear c9
    try clear c9b0
    try clear c11
    try clear c11b0
    try clear c12
    try clear c12b0
    try clear c12b1
    try clear hcz4_0
    try clear hcz4_1
    try clear hcz8_0
    try clear hcz8_1
    try clear hfz4_0
    try clear hfz4_1
    try clear hfz8_0
    try clear hfz8_1
    try clear hx170_0
    try clear hx171_0
    try clear p170
    try clear p171
    try clear p2
    try clear q170
    try clear q171
    obtain⟨kq,x30_9,rfl,HA,HJ9,HO_170001,BK168,BK169,HB⟩:=hcut
    cases kq with
    | zero=>exact absurd HA.out (by simp [spec_BitsOf.j1])
    | succ kj9 =>
     have H:=HA.out
     clear HA
     simp only [spec_BitsOf.j1] at H
     by_cases c13:x30_9 = true
     ·subst c13
      replace H:=iT H
      simp only [Option.some.injEq,Prod.mk.injEq] at H
      obtain⟨rfl,rfl,rfl⟩:=H
      have hnb14:=NB168_169.out
      have hnc14:=NB169_168.out
      obtain⟨hcz15_0,hcz15_1,hfz15_0,hfz15_1⟩:=cz2 BK168.out
      go_wp2
      refine bodyPost_ret (results_ct rfl _ _ gb168 29 #[.int .i64 0,.slice none 0 0] (0,0) _ rfl (by (with_reducible repeat (first|apply nB|apply dB|apply aB));refine blk_put (cs:=#[.int .i64 0,.slice none 0 0]) ?_ 1 _ rfl;(with_reducible repeat (first|apply nB|apply dB|apply aB));refine blk_put (cs:=#[.int .i64 x169000_1,.slice none 0 0]) ?_ 0 _ rfl;(with_reducible repeat (first|apply nB|apply dB|apply aB));exact BK168.out) Try.underlying29 rfl (by kernel_rfl)) rfl ?_
      exact⟨_,eR,by first|exact Kd.R_nil _ _ _ _ _|exact Kd.N_nil _ _ _ _ _|exact Kd.V_nil _ _ _ _ _|exact Kd.Q_nil _ _ _ _ _|exact Kd.S_nil _ _ _ _ _,kB HB.out⟩
     replace c13:=Bool.eq_false_iff.mpr c13
     subst c13
     replace H:=iF H
     have HC16:=mk0 H
     clear H
     go_upto_if 34 with (fail)
     go_cut [] (fun wc=>∃ (kq:Nat) (x170001_15:List Int) (u170001:Value),Aside0 (spec_BitsOf.j2 kq l0 x5_1 (l0.length:Int) x170001_15 = some (r1,r2,r3)) ∧ Aside0 (kq ≤ kj9) ∧ Aside0 (Kd.R (Kd.int .u64) 67 wc w.heap.size (fun _=>True) u170001 x170001_15) ∧ Aside0 (wc.heap[gb168]? = some (.cells #[.int .i64 x169000_1,(.slice none 0 0)] 29 (0,0))) ∧ Aside0 (wc.heap[gb169]? = some (.cells #[.int .i64 (l0.length:Int),u170001] 29 (0,0))) ∧ Aside0 (Below w.heap.size w wc))
     case first =>
      have H:=HC16.out
      clear HC16
      by_cases c17:(Int.tmod x5_1 64) = 0
      rotate_left
      ·rw [if_neg c17] at H
       have c17b0:((Int.tmod x5_1 64) == 0) = false:=beq_eq_false_iff_ne.mpr c17
       have c17b1:((Int.tmod x5_1 64) != 0) = true:=bne_iff_ne.mpr c17
       (first|rw [c17b0]|(simp only [i64_w,i32_w];rw [c17b0])|skip)
       have H':=mk0 H
       clear H
       go_wp2
       go_meet
       case rel=>exact⟨_,(x170001_1),(u170001),H',⟨by have:=HK1.out;have:=HJ9.out;first|omega|exact Nat.le_refl _⟩,⟨rR HO_170001.out⟩,⟨kN BK168.out⟩,⟨kN BK169.out⟩,⟨kB HB.out⟩⟩
      rw [if_pos c17] at H
      have c17b0:((Int.tmod x5_1 64) == 0) = true:=beq_iff_eq.mpr c17
      have c17b1:((Int.tmod x5_1 64) != 0) = false:=bne_eq_false_iff_eq.mpr c17
      clear c17
      (first|rw [c17b0]|(simp only [i64_w,i32_w];rw [c17b0])|skip)
      by_cases c18:x170001_1.length < 17592186044416
      rotate_left
      ·rw [if_neg c18] at H
       exact nn H
      rw [if_pos c18] at H
      have LMc18:=mk0 c18
      clear c18
      obtain⟨y172,hy172⟩:∃ y_:List Int,y_ = (x170001_1 ++ [0]):=⟨_,rfl⟩
      first|(with_reducible replace H:=yB hy172 H)|rw [← hy172] at H|skip
      have Ny172:=mk0 hy172
      clear hy172
      have H':=mk0 H
      clear H
      have hnb19:=NB169_168.out
      have hnc19:=NB168_169.out
      obtain⟨hcz20_0,hcz20_1,hfz20_0,hfz20_1⟩:=cz2 BK169.out
      go_wp2_with (first|((with_reducible refine gate_builtin (b:=.append) (xs:=#[.tmp 36,.tmp 37]) rfl ?_);at_builtin;refine Kd.R_append (Kd.int .u64) (w0:=w) w.heap.size rfl (.tmp 36) (.tmp 37) 27 67 (.int .u64 0) 8 rfl Try.underlying27 info67 rfl (by decide) (by omega) u170001 x170001_1 0 [.int .u64 0] (fun _=>True) (fun _=>False) rfl rfl ?aP (fun _ hk=>hk.elim) ?aF ?aO ?aB ?aS ?aL ?_;(case aP=>exact rfl);(case aB=>exact (kB HB.out));(case aF=>exact (fun _ _=>trivial));(case aO=>exact (rR HO_170001.out));(case aS=>exact (kZ HB.out));(case aL=>have:=LMc18.out;omega);intro v173 w21 ho hb hg hat;rw [← Ny172.out] at ho;replace BK168:=mk0 (blk_grown (kN BK168.out) hg (Kd.R_ne HO_170001.out BK168.out (by decide)));replace BK169:=mk0 (blk_grown (kN BK169.out) hg (Kd.R_ne HO_170001.out BK169.out (by decide)));replace HB:=mk0 (hb);have HO174:=mk0 (ho);clear HO_170001 ho hb hg hat;obtain⟨Ao22,co22,eo22⟩:=Kd.R_slice HO174.out;subst eo22;obtain⟨hcz23_0,hcz23_1,hfz23_0,hfz23_1⟩:=cz2 BK169.out))
      go_meet
      case rel=>exact⟨_,(y172),(.slice Ao22 y172.length co22),H',⟨by have:=HK1.out;have:=HJ9.out;first|omega|exact Nat.le_refl _⟩,⟨by (with_reducible repeat (first|apply aR|apply nR|apply dR));exact Kd.R_mono (Kd.R_far (p:=⟨gb169,1,none⟩) (Kd.R_types HO174.out BK169.out (by decide)) (fun _ hk=>hk.2) (.slice Ao22 y172.length co22)) (fun _ hk=>trivial)⟩,⟨by (with_reducible repeat (first|apply nB|apply dB|apply aB));refine blk_far ?_ NB168_169.out _;(with_reducible repeat (first|apply nB|apply dB|apply aB));exact BK168.out⟩,⟨by (with_reducible repeat (first|apply nB|apply dB|apply aB));refine blk_put (cs:=#[.int .i64 (l0.length:Int),u170001]) ?_ 1 _ rfl;(with_reducible repeat (first|apply nB|apply dB|apply aB));exact BK169.out⟩,⟨kB HB.out⟩⟩
     case rest =>
      clear HC16
      try clear c1
      try clear p1
      try clear q1
      try clear hx1
      try clear c2
      try clear c2b0
      try clear c2b1
      try clear p2
      try clear c7
      try clear c9
      try clear c9b0
      try clear c11
      try clear c11b0
      try clear c12
      try clear c12b0
      try clear c12b1
      try clear c13
      try clear c14
      try clear c17
      try clear c17b0
      try clear c17b1
      try clear p17
      try clear q17
      try clear hx17
      try clear c18
      try clear c19
      try clear c20
      try clear hcz15_0
      try clear hcz15_1
      try clear hcz20_0
      try clear hcz20_1
      try clear hcz23_0
      try clear hcz23_1
      try clear hcz4_0
      try clear hcz4_1
      try clear hcz8_0
      try clear hcz8_1
      try clear hfz15_0
      try clear hfz15_1
      try clear hfz20_0
      try clear hfz20_1
      try clear hfz23_0
      try clear hfz23_1
      try clear hfz4_0
      try clear hfz4_1
      try clear hfz8_0
      try clear hfz8_1
      try clear hx170_0
      try clear hx171_0
      try clear p1
      try clear p170
      try clear p171
      try clear p2
      try clear q1
      try clear q170
      try clear q171
      obtain⟨kq,x170001_15,u170001,HA,HJ15,HO_170001,BK168,BK169,HB⟩:=hcut
      cases kq with
      | zero=>exact absurd HA.out (by simp [spec_BitsOf.j2])
      | succ kj15 =>
       have H:=HA.out
       clear HA
       simp only [spec_BitsOf.j2] at H
       by_cases c24:0 ≤ x5_1
       rotate_left
       ·rw [if_neg c24] at H
        exact nn H
       rw [if_pos c24] at H
       have c24b0:decide (0 ≤ x5_1) = true:=decide_eq_true c24
       clear c24
       by_cases c25:x5_1 < (l0.length:Int)
       rotate_left
       ·rw [if_neg c25] at H
        exact nn H
       rw [if_pos c25] at H
       have c25b0:decide (x5_1 < (l0.length:Int)) = true:=decide_eq_true c25
       clear c25
       by_cases c26:(rd l0 x5_1) = 1
       rotate_left
       ·rw [if_neg c26] at H
        have c26b0:((rd l0 x5_1) == 1) = false:=beq_eq_false_iff_ne.mpr c26
        have c26b1:((rd l0 x5_1) != 1) = true:=bne_iff_ne.mpr c26
        have H':=mk0 H
        clear H
        have p175:0 ≤ (x5_1:Int):=oD
        have q175:x5_1 < (l0.length:Int):=oD
        obtain⟨ad175,e175,hx175_0⟩:=Kd.at_int HR0.out x5_1 p175 q175
        cases e175
        replace hx175_0:=(HB.out.cell (World.block_lt_of_cell? w _ hx175_0)).trans hx175_0
        replace p175:=eq_true p175
        replace q175:=eq_true q175
        go_wp2
        go_roundg kj15
        case measure=>have:=HK1.out;have:=HJ9.out;have:=HJ15.out;omega
        case rel=>exact⟨(wrap64 (x5_1 + 1)),(x169000_1),(x170001_15),(u170001),eS,H',⟨by have:=HK1.out;have:=HJ9.out;have:=HJ15.out;omega⟩,⟨rR HO_170001.out⟩,⟨kN BK168.out⟩,⟨kN BK169.out⟩,⟨kB HB.out⟩⟩
       rw [if_pos c26] at H
       have c26b0:((rd l0 x5_1) == 1) = true:=beq_iff_eq.mpr c26
       have c26b1:((rd l0 x5_1) != 1) = false:=bne_eq_false_iff_eq.mpr c26
       clear c26
       obtain⟨ji27,hji27⟩:∃ j_:Int,(wrap64 (Int.tdiv x5_1 64)) = j_:=⟨_,rfl⟩
       first|rw [hji27] at H|simp only [hji27] at H
       have hji27w:(IntKind.i64.wrap (Int.tdiv x5_1 64)) = ji27:=(i64_w _).trans hji27
       by_cases c28:0 ≤ (ji27)
       rotate_left
       ·rw [if_neg c28] at H
        exact nn H
       rw [if_pos c28] at H
       have c28b0:decide (0 ≤ (ji27)) = true:=decide_eq_true c28
       clear c28
       by_cases c29:(ji27) < (x170001_15.length:Int)
       rotate_left
       ·rw [if_neg c29] at H
        exact nn H
       rw [if_pos c29] at H
       have c29b0:decide ((ji27) < (x170001_15.length:Int)) = true:=decide_eq_true c29
       clear c29
       replace H:=bE H
       obtain⟨t177,A30,H⟩:=H
       obtain⟨y178,hy178⟩:∃ y_:List Int,y_ = (x170001_15.set ((ji27):Int).toNat (IntKind.u64.wrap ((rd x170001_15 (ji27)) + t177))):=⟨_,rfl⟩
       first|(with_reducible replace H:=yB hy178 H)|rw [← hy178] at H|skip
       have Ny178:=mk0 hy178
       clear hy178
       have H':=mk0 H
       clear H
       have p175:0 ≤ (x5_1:Int):=oD
       have q175:x5_1 < (l0.length:Int):=oD
       obtain⟨ad175,e175,hx175_0⟩:=Kd.at_int HR0.out x5_1 p175 q175
       cases e175
       replace hx175_0:=(HB.out.cell (World.block_lt_of_cell? w _ hx175_0)).trans hx175_0
       replace p175:=eq_true p175
       replace q175:=eq_true q175
       try go_wp2
       replace HO_170001:=mk0 (dR HO_170001.out)
       replace BK168:=mk0 (dB BK168.out)
       replace BK169:=mk0 (dB BK169.out)
       replace HB:=mk0 (dZ HB.out)
       obtain⟨Ao33,co33,eo33⟩:=Kd.R_slice HO_170001.out
       (first|subst eo33|(injection eo33 with f1_ f2_ f3_;have f4_:=f1_.symm;have f5_:=f3_.symm;clear f1_ f2_ f3_;subst f4_;subst f5_))
       have p176:0 ≤ ((ji27):Int):=oD
       have q176:(ji27) < (x170001_15.length:Int):=oD
       obtain⟨ad176,e176,hx176_0⟩:=Kd.at_int (Kd.R_reads' HO_170001.out).2.2 (ji27) p176 q176
       cases e176
       replace p176:=eq_true p176
       replace q176:=eq_true q176
       refine start_ (n:=16) (S:=fun w'=>w'.cell? ⟨gb169,0,none⟩ = some (.int .i64 (l0.length:Int)) ∧ w'.cell? ⟨gb169,1,none⟩ = some (.slice (some ad176) x170001_15.length co33) ∧ w'.cell? (ad176.add ((ji27)).toNat) = some (.int .u64 (rd x170001_15 (ji27)))) (ds:=[15]) (bm 16 0) (by kernel_rfl) rfl (by kernel_rfl) ⟨(blk_cell BK169.out 0).trans rfl,(blk_cell BK169.out 1).trans rfl,hx176_0⟩ (fun hHeld=>?_);refine with_tabW spec_BitsOf.tab12 spec_BitsOf.bits12 (fun HT_ HW_=>?_)
       generalize wc.drew = w32 at HO_170001 BK168 BK169 HB hx176_0 hHeld ⊢
       refine pU 0 (some 45) (bm 16 1) HT_ ?_
       refine pU 2 (some 47) (bm 16 5) HT_ ?_
       refine pU 3 (some 48) (bm 16 13) HT_ ?_
       refine pU 4 (some 49) (bm 16 29) HT_ ?_
       refine pU 6 (some 51) (bm 16 93) HT_ ?_
       refine pU 7 (some 52) (bm 16 221) HT_ ?_
       refine pU 10 (some 55) (bm 16 1245) HT_ ?_
       refine pU 11 (some 56) (bm 16 3293) HT_ ?_
       refine pT 1 (some 46) (bm 16 3295) HT_ HW_ hHeld ?_
       refine pT 5 (some 50) (bm 16 3327) HT_ HW_ hHeld ?_
       refine pU 8 (some 53) (bm 16 3583) HT_ ?_
       refine pT 9 (some 54) (bm 16 4095) HT_ HW_ hHeld ?_
       refine pO 12 (some 57) (bm 16 8191) HT_ (fun K hK=>?_)
       refine gO Try.func41 #[.int .i64 (Int.tmod x5_1 64)] ?_
       with_reducible refine (spec_l01Power.calls kj15 (Int.tmod x5_1 64) t177 _ A30.out).mono ?_
       rintro e w' ⟨rfl,⟨nd,rfl⟩⟩
       refine⟨_,rfl,?_⟩
       have p31:0 ≤ ((ji27):Int):=oD
       have q31:((ji27):Int) < ((x170001_15.length:Int):Int):=oD
       obtain⟨go31,co31,eo31,gb31,gl31,cl31,HG31⟩:=Kd.R_form HO_170001.out (by omega)
       (first|cases eo31|(injection eo31 with ea_ en_ ec_;(first|subst ea_|(injection ea_ with ea_;subst ea_));subst ec_;clear en_))
       have GB31:=mk0 gb31
       have GG31:=mk0 HG31
       clear gb31 gl31 HG31
       (first|simp only [add_plain] at hx176_0|skip)
       obtain⟨hx31_0,hf31_0⟩:=Kd.R_celln 0 HO_170001.out ((ji27):Int) p31 q31
       replace p31:=eq_true p31
       replace q31:=eq_true q31
       have HP34:=Kd.R_putn HO_170001.out ((ji27):Int) (IntKind.u64.wrap ((rd x170001_15 (ji27)) + t177))
       rw [← Ny178.out] at HP34
       have HQ34:=mk0 HP34
       clear HP34
       refine hK.out _ _ ⟨(blk_cell BK169.out 0).trans rfl,(blk_cell BK169.out 1).trans rfl,hHeld.2.2⟩ (fun hHeld=>?_)
       clear hK K
       refine pN (some 57) ?_
       refine pU 13 (some 58) (bm 16 16383) HT_ ?_
       refine pU 14 (some 59) (bm 16 32767) HT_ ?_
       refine pL 15 none (bm 16 65535) HT_ (fun K hK=>?_)
       refine skip_ (w1:=?_) (by rfl) rfl ?_ ?_
       rotate_left
       ·go_simp
        rfl
       refine hK.out _ _ ?_
       clear hK K
       refine pD HT_ ?_
       try go_wp2
       go_roundg kj15
       case measure=>have:=HK1.out;have:=HJ9.out;have:=HJ15.out;omega
       case rel=>exact⟨(wrap64 (x5_1 + 1)),(x169000_1),(y178),(.slice (some ⟨go31,0,none⟩) x170001_15.length co33),eS,H',⟨by have:=HK1.out;have:=HJ9.out;have:=HJ15.out;omega⟩,⟨rR HQ34.out⟩,⟨by (with_reducible repeat (first|apply nB|apply dB|apply aB));refine blk_far ?_ (by have h_:=Kd.R_ne HO_170001.out BK168.out (by decide);intro e_;exact h_ (by rw [e_];rfl)) _;(with_reducible repeat (first|apply nB|apply dB|apply aB));exact BK168.out⟩,⟨by (with_reducible repeat (first|apply nB|apply dB|apply aB));refine blk_far ?_ (by have h_:=Kd.R_ne HO_170001.out BK169.out (by decide);intro e_;exact h_ (by rw [e_];rfl)) _;(with_reducible repeat (first|apply nB|apply dB|apply aB));exact BK169.out⟩,⟨kB HB.out⟩⟩
/-! ### spec_l02Pow: function 40 -/
def spec_l02Pow.l0 : Nat → Int → Int → Option (Int)
 | 0, _, _ => none
 | k + 1, x0, x3 => if x0 > 0 then (spec_l02Pow.l0 k (wrap64 (x0 - 1)) (wrap64 (2 * x3))) else (some x3)
def spec_l02Pow.f (k : Nat) (a0 : Int) : Option (Int) := spec_l02Pow.l0 k a0 1
set_option maxHeartbeats 8000000 in
set_option maxRecDepth 100000 in
theorem spec_l02Pow.calls (k : Nat) (a0 : Int) (r : Int) (w : World) (h : spec_l02Pow.f k a0 = some r) :
  Calls Try.prog 40 #[.int .i64 a0] w fun e w' => e = .returned (.int .i64 r) ∧ Drawn0 w w' := by
 have H:(spec_l02Pow.l0 k a0 1) = some r:=h
 clear h
 have H':=mk0 H
 clear H
 go_enter Try.func40,Try.ntmps40
 go_wp2
 go_loopg [0,3] k (fun kq v0 v3 w'=>∃ (x0_1:Int) (x3_1:Int),v0 = .int .i64 x0_1 ∧ v3 = .int .i64 x3_1 ∧ Aside0 (spec_l02Pow.l0 kq x0_1 x3_1 = some r) ∧ Aside0 (kq ≤ k) ∧ Drawn0 w w')
 case atStart=>exact⟨(a0),(1),eS,eS,H',⟨Nat.le_refl _⟩,by repeat (first|exact Drawn0.refl _|apply Drawn0.step)⟩
 case round =>
  clear H'
  obtain⟨x0_1,x3_1,rfl,rfl,HA,HK1,⟨m1,rfl⟩⟩:=hrel
  cases gk with
  | zero=>exact absurd HA.out (by simp [spec_l02Pow.l0])
  | succ k1 =>
   have H:=HA.out
   clear HA
   simp only [spec_l02Pow.l0] at H
   by_cases c2:x0_1 > 0
   ·rw [if_pos c2] at H
    have c2b0:decide (0 < x0_1) = true:=decide_eq_true c2
    clear c2
    have H':=mk0 H
    clear H
    go_wp2
    go_roundg k1
    case measure=>have:=HK1.out;omega
    case rel=>exact⟨(wrap64 (x0_1 - 1)),(wrap64 (2 * x3_1)),eS,eS,H',⟨by have:=HK1.out;omega⟩,by repeat (first|exact Drawn0.refl _|apply Drawn0.step)⟩
   ·rw [if_neg c2] at H
    have c2b0:decide (0 < x0_1) = false:=decide_eq_false c2
    clear c2
    obtain rfl:=Option.some.inj H
    go_wp2
    go_ret
    exact⟨by first|rfl|(simp;done)|(simp [*];done),by repeat (first|exact Drawn0.refl _|apply Drawn0.step)⟩
end Go.Proofs.Ytjfoaiabbmkdpaa.QFnExactFmOf
