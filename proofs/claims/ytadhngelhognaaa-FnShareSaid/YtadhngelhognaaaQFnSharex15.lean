-- A walk, made by walk.py, a program of this session's.
import Derived.Test.YtadhngelhognaaaQFnSharex0
import Derived.Test.YtadhngelhognaaaQFnSharex1
import Derived.Test.YtadhngelhognaaaQFnSharex4
namespace Go.Proofs.Ytadhngelhognaaa.QFnShare
open Go.RowKit Go.Proofs.YtadhngelhognaaaW.PrintWords Go.Proofs.YtadhngelhognaaaW.PrintLast Go.Proofs.YtadhngelhognaaaW.PrintMore
attribute [local go_sem] max2_int min2_int max_two min_two max_three min_three max_four min_four   -- for this text's walks alone
set_option linter.unusedVariables false
set_option linter.unusedSimpArgs false
/-! ### spec_CommonOk: function 49 -/
mutual
def spec_CommonOk.j0 : Nat → List Int → List Int → List (S56) → Bool → Option (Bool)
 | 0, _, _, _, _ => none
 | k + 1, x0, x1, x2, x16 => if x16 = true then (some false) else (spec_CommonOk.l0 k x0 x1 x2 0)
def spec_CommonOk.l0 : Nat → List Int → List Int → List (S56) → Int → Option (Bool)
 | 0, _, _, _, _ => none
 | k + 1, x0, x1, x2, x7 => if x7 < (x2.length : Int) then (if 0 ≤ x7 then (if ((rd_T56 x2 x7).f0) < 0 then (spec_CommonOk.j2 k x0 x1 x2 x7 true ((rd_T56 x2 x7).f0) ((rd_T56 x2 x7).f1)) else (if ((rd_T56 x2 x7).f0) ≥ (x0.length : Int) then (spec_CommonOk.j2 k x0 x1 x2 x7 true ((rd_T56 x2 x7).f0) ((rd_T56 x2 x7).f1)) else (if ((rd_T56 x2 x7).f1) < 0 then (spec_CommonOk.j2 k x0 x1 x2 x7 true ((rd_T56 x2 x7).f0) ((rd_T56 x2 x7).f1)) else (if ((rd_T56 x2 x7).f1) ≥ (x1.length : Int) then (spec_CommonOk.j2 k x0 x1 x2 x7 true ((rd_T56 x2 x7).f0) ((rd_T56 x2 x7).f1)) else (if 0 ≤ ((rd_T56 x2 x7).f0) then (if ((rd_T56 x2 x7).f0) < (x0.length : Int) then (if 0 ≤ ((rd_T56 x2 x7).f1) then (if ((rd_T56 x2 x7).f1) < (x1.length : Int) then (spec_CommonOk.j2 k x0 x1 x2 x7 ((rd x0 ((rd_T56 x2 x7).f0)) != (rd x1 ((rd_T56 x2 x7).f1))) ((rd_T56 x2 x7).f0) ((rd_T56 x2 x7).f1)) else (none)) else (none)) else (none)) else (none)))))) else (none)) else (some true)
def spec_CommonOk.j2 : Nat → List Int → List Int → List (S56) → Int → Bool → Int → Int → Option (Bool)
 | 0, _, _, _, _, _, _, _ => none
 | k + 1, x0, x1, x2, x7, x61, x648000, x648001 => if x61 = true then (some false) else (if x7 > 0 then (if 0 ≤ (wrap64 (x7 - 1)) then (if (wrap64 (x7 - 1)) < (x2.length : Int) then (if ((rd_T56 x2 (wrap64 (x7 - 1))).f0) ≥ x648000 then (spec_CommonOk.j3 k x0 x1 x2 x7 true) else (spec_CommonOk.j3 k x0 x1 x2 x7 (decide (((rd_T56 x2 (wrap64 (x7 - 1))).f1) ≥ x648001)))) else (none)) else (none)) else (spec_CommonOk.j3 k x0 x1 x2 x7 false))
def spec_CommonOk.j3 : Nat → List Int → List Int → List (S56) → Int → Bool → Option (Bool)
 | 0, _, _, _, _, _ => none
 | k + 1, x0, x1, x2, x7, x85 => if x85 = true then (some false) else (spec_CommonOk.l0 k x0 x1 x2 (wrap64 (x7 + 1)))
end
def spec_CommonOk.f (k : Nat) (l0 : List Int) (l1 : List Int) (l2 : List (S56)) : Option (Bool) := (spec_l12Right.f l0).bind fun t644 => (if t644 = true then ((spec_l12Right.f l1).bind fun t645 => (spec_CommonOk.j0 k l0 l1 l2 (!t645))) else (spec_CommonOk.j0 k l0 l1 l2 true))
set_option maxHeartbeats 8000000 in
set_option maxRecDepth 100000 in
theorem spec_CommonOk.calls (k : Nat) (A0 : Option Addr) (c0 : Nat) (l0 : List Int) (A1 : Option Addr) (c1 : Nat) (l1 : List Int) (A2 : Option Addr) (c2 : Nat) (l2 : List (S56)) (r : Bool) (w : World) (hr0 : Kd.C (Kd.int .i64) w A0 l0.length l0) (hc0 : l0.length ≤ c0) (hr1 : Kd.C (Kd.int .i64) w A1 l1.length l1) (hc1 : l1.length ≤ c1) (hr2 : Kd.C k56 w A2 l2.length l2) (hc2 : l2.length ≤ c2) (h : spec_CommonOk.f k l0 l1 l2 = some r) :
  Calls Try.prog 49 #[.slice A0 l0.length c0, .slice A1 l1.length c1, .slice A2 l2.length c2] w fun e w' => e = .returned (.bool r) ∧ Below w.heap.size w w' := by
 have hu56:=Try.underlying56
 have HR0:=mk0 hr0
 have HC0:=mk0 hc0
 clear hr0 hc0
 have HR1:=mk0 hr1
 have HC1:=mk0 hc1
 clear hr1 hc1
 have HR2:=mk0 hr2
 have HC2:=mk0 hc2
 clear hr2 hc2
 have HB:=mk0 (Below.refl w.heap.size w)
 have H:((spec_l12Right.f l0).bind fun t644=>(if t644 = true then ((spec_l12Right.f l1).bind fun t645=>(spec_CommonOk.j0 k l0 l1 l2 (!t645))) else (spec_CommonOk.j0 k l0 l1 l2 true))) = some r:=h
 clear h
 have HC4:=mk0 H
 clear H
 go_enter Try.func49,Try.ntmps49
 go_upto_region 1 with (fail)
 repeat (go_quiet (fail);go_upto_region 1 with (fail))
 go_cut [16] (fun v16 wc=>∃ (kq:Nat) (x16_3:Bool),v16 = .bool x16_3 ∧ Aside0 (spec_CommonOk.j0 kq l0 l1 l2 x16_3 = some r) ∧ Aside0 (kq ≤ k) ∧ Aside0 (Below w.heap.size w wc))
 case first =>
  have H:=HC4.out
  clear HC4
  replace H:=bE H
  obtain⟨t644,A5,H⟩:=H
  by_cases c6:t644 = true
  rotate_left
  ·replace c6:=Bool.eq_false_iff.mpr c6
   subst c6
   replace H:=iF H
   have H':=mk0 H
   clear H
   go_wp2_with (first|(go_at_call 58;(with_reducible refine (spec_l12Right.calls _ _ l0 false _ ?side1 ?side2 A5.out).mono ?_);(case side1=>exact kC (Kd.C_below HR0.out HB.out));(case side2=>exact HC0.out);rintro e w' ⟨rfl,⟨nd,rfl⟩⟩;(try first|exact⟨rfl,_,World.drewN_drewN _ _ _⟩|exact⟨rfl,_,Eq.trans (World.drewN_drewN _ _ _) (congrArg (World.drewN _) (Nat.add_assoc _ _ _))⟩)))
   repeat (go_quiet (first|(go_at_call 58;(with_reducible refine (spec_l12Right.calls _ _ l0 false _ ?side1 ?side2 A5.out).mono ?_);(case side1=>exact kC (Kd.C_below HR0.out HB.out));(case side2=>exact HC0.out);rintro e w' ⟨rfl,⟨nd,rfl⟩⟩;(try first|exact⟨rfl,_,World.drewN_drewN _ _ _⟩|exact⟨rfl,_,Eq.trans (World.drewN_drewN _ _ _) (congrArg (World.drewN _) (Nat.add_assoc _ _ _))⟩)));try go_wp2_with (first|(go_at_call 58;(with_reducible refine (spec_l12Right.calls _ _ l0 false _ ?side1 ?side2 A5.out).mono ?_);(case side1=>exact kC (Kd.C_below HR0.out HB.out));(case side2=>exact HC0.out);rintro e w' ⟨rfl,⟨nd,rfl⟩⟩;(try first|exact⟨rfl,_,World.drewN_drewN _ _ _⟩|exact⟨rfl,_,Eq.trans (World.drewN_drewN _ _ _) (congrArg (World.drewN _) (Nat.add_assoc _ _ _))⟩))))
   go_meet
   case rel=>exact⟨_,(true),eS,H',⟨by first|omega|exact Nat.le_refl _⟩,⟨kB HB.out⟩⟩
  subst c6
  replace H:=iT H
  replace H:=bE H
  obtain⟨t645,A7,H⟩:=H
  have H':=mk0 H
  clear H
  go_wp2_with (first|(go_at_call 58;(with_reducible refine (spec_l12Right.calls _ _ l0 true _ ?side1 ?side2 A5.out).mono ?_);(case side1=>exact kC (Kd.C_below HR0.out HB.out));(case side2=>exact HC0.out);rintro e w' ⟨rfl,⟨nd,rfl⟩⟩;(try first|exact⟨rfl,_,World.drewN_drewN _ _ _⟩|exact⟨rfl,_,Eq.trans (World.drewN_drewN _ _ _) (congrArg (World.drewN _) (Nat.add_assoc _ _ _))⟩))|(go_at_call 58;(with_reducible refine (spec_l12Right.calls _ _ l1 t645 _ ?side1 ?side2 A7.out).mono ?_);(case side1=>repeat (first|exact (Kd.C_below HR1.out (kB HB.out))|(with_reducible first|apply aC|apply nC|apply dC)));(case side2=>exact HC1.out);rintro e w' ⟨rfl,⟨nd,rfl⟩⟩;(try first|exact⟨rfl,_,World.drewN_drewN _ _ _⟩|exact⟨rfl,_,Eq.trans (World.drewN_drewN _ _ _) (congrArg (World.drewN _) (Nat.add_assoc _ _ _))⟩)))
  repeat (go_quiet (first|(go_at_call 58;(with_reducible refine (spec_l12Right.calls _ _ l0 true _ ?side1 ?side2 A5.out).mono ?_);(case side1=>exact kC (Kd.C_below HR0.out HB.out));(case side2=>exact HC0.out);rintro e w' ⟨rfl,⟨nd,rfl⟩⟩;(try first|exact⟨rfl,_,World.drewN_drewN _ _ _⟩|exact⟨rfl,_,Eq.trans (World.drewN_drewN _ _ _) (congrArg (World.drewN _) (Nat.add_assoc _ _ _))⟩))|(go_at_call 58;(with_reducible refine (spec_l12Right.calls _ _ l1 t645 _ ?side1 ?side2 A7.out).mono ?_);(case side1=>repeat (first|exact (Kd.C_below HR1.out (kB HB.out))|(with_reducible first|apply aC|apply nC|apply dC)));(case side2=>exact HC1.out);rintro e w' ⟨rfl,⟨nd,rfl⟩⟩;(try first|exact⟨rfl,_,World.drewN_drewN _ _ _⟩|exact⟨rfl,_,Eq.trans (World.drewN_drewN _ _ _) (congrArg (World.drewN _) (Nat.add_assoc _ _ _))⟩)));try go_wp2_with (first|(go_at_call 58;(with_reducible refine (spec_l12Right.calls _ _ l0 true _ ?side1 ?side2 A5.out).mono ?_);(case side1=>exact kC (Kd.C_below HR0.out HB.out));(case side2=>exact HC0.out);rintro e w' ⟨rfl,⟨nd,rfl⟩⟩;(try first|exact⟨rfl,_,World.drewN_drewN _ _ _⟩|exact⟨rfl,_,Eq.trans (World.drewN_drewN _ _ _) (congrArg (World.drewN _) (Nat.add_assoc _ _ _))⟩))|(go_at_call 58;(with_reducible refine (spec_l12Right.calls _ _ l1 t645 _ ?side1 ?side2 A7.out).mono ?_);(case side1=>repeat (first|exact (Kd.C_below HR1.out (kB HB.out))|(with_reducible first|apply aC|apply nC|apply dC)));(case side2=>exact HC1.out);rintro e w' ⟨rfl,⟨nd,rfl⟩⟩;(try first|exact⟨rfl,_,World.drewN_drewN _ _ _⟩|exact⟨rfl,_,Eq.trans (World.drewN_drewN _ _ _) (congrArg (World.drewN _) (Nat.add_assoc _ _ _))⟩))))
  go_meet
  case rel=>exact⟨_,(!t645),eS,H',⟨by first|omega|exact Nat.le_refl _⟩,⟨kB HB.out⟩⟩
 case rest =>
  clear HC4
  try clear c1
  try clear c2
  try clear p2
  try clear c4
  try clear c6
  obtain⟨kq,x16_3,rfl,HA,HJ3,HB⟩:=hcut
  cases kq with
  | zero=>exact absurd HA.out (by simp [spec_CommonOk.j0])
  | succ kj3 =>
   have H:=HA.out
   clear HA
   simp only [spec_CommonOk.j0] at H
   by_cases c8:x16_3 = true
   ·subst c8
    replace H:=iT H
    obtain rfl:=Option.some.inj H
    go_wp2
    repeat (go_quiet (fail);try go_wp2)
    go_ret
    exact⟨eR,kB HB.out⟩
   replace c8:=Bool.eq_false_iff.mpr c8
   subst c8
   replace H:=iF H
   have H':=mk0 H
   clear H
   go_wp2
   repeat (go_quiet (fail);try go_wp2)
   go_loopg [7] kj3 (fun kq v7 w'=>∃ (x7_2:Int),v7 = .int .i64 x7_2 ∧ Aside0 (spec_CommonOk.l0 kq l0 l1 l2 x7_2 = some r) ∧ Aside0 (kq ≤ kj3) ∧ Aside0 (Below w.heap.size w w'))
   case atStart=>exact⟨(0),eS,H',⟨Nat.le_refl _⟩,⟨kB HB.out⟩⟩
   case round =>
    clear H'
    try clear c1
    try clear c2
    try clear p2
    try clear c4
    try clear c6
    try clear c8
    try clear p2
    obtain⟨x7_2,rfl,HA,HK2,HB⟩:=hrel
    cases gk with
    | zero=>exact absurd HA.out (by simp [spec_CommonOk.l0])
    | succ k2 =>
     have H:=HA.out
     clear HA
     simp only [spec_CommonOk.l0] at H
     by_cases c9:x7_2 < (l2.length:Int)
     rotate_left
     ·rw [if_neg c9] at H
      have c9b0:decide (x7_2 < (l2.length:Int)) = false:=decide_eq_false c9
      clear c9
      obtain rfl:=Option.some.inj H
      go_wp2
      repeat (go_quiet (fail);try go_wp2)
      go_ret
      exact⟨eR,kB HB.out⟩
     rw [if_pos c9] at H
     have c9b0:decide (x7_2 < (l2.length:Int)) = true:=decide_eq_true c9
     clear c9
     by_cases c10:0 ≤ x7_2
     rotate_left
     ·rw [if_neg c10] at H
      exact nn H
     rw [if_pos c10] at H
     have c10b0:decide (0 ≤ x7_2) = true:=decide_eq_true c10
     clear c10
     have HC11:=mk0 H
     clear H
     have p646:0 ≤ (x7_2:Int):=oD
     have q646:x7_2 < (l2.length:Int):=oD
     obtain⟨ad646,e646,hx646_0,hx646_1⟩:=at_T56 HR2.out x7_2 p646 q646
     cases e646
     replace hx646_0:=(HB.out.cell (World.block_lt_of_cell? w _ hx646_0)).trans hx646_0
     replace hx646_1:=(HB.out.cell (World.block_lt_of_cell? w _ hx646_1)).trans hx646_1
     replace p646:=eq_true p646
     replace q646:=eq_true q646
     go_upto_region 7 with (first|((with_reducible refine gate_dst (N:=8) rfl ?_);(try (refine gate_guard (by rfl) ?_;dsimp only));refine box_event ?hg (N:=8) ?hd (cs:=#[.int .i64 0,.int .i64 0]) (t:=56) ?hr ?_;(case hd=>rfl);(case hg=>rfl);(case hr=>first|(go_simp;done)|(go_simp;rfl));intro gb647 hg w12 hbox hb;have BK647:=mk0 (hbox);have GW647:=mk0 ((by rw [hg];exact (kZ HB.out):w.heap.size ≤ gb647));have GE647:=mk0 ((by rw [hg];exact (kZ HB.out):w.heap.size ≤ gb647));replace HB:=mk0 (kS HB.out hb);clear hb hbox hg;obtain⟨hcz13_0,hcz13_1,hfz13_0,hfz13_1⟩:=cz2 BK647.out))
     repeat (go_quiet (first|((with_reducible refine gate_dst (N:=8) rfl ?_);(try (refine gate_guard (by rfl) ?_;dsimp only));refine box_event ?hg (N:=8) ?hd (cs:=#[.int .i64 0,.int .i64 0]) (t:=56) ?hr ?_;(case hd=>rfl);(case hg=>rfl);(case hr=>first|(go_simp;done)|(go_simp;rfl));intro gb647 hg w12 hbox hb;have BK647:=mk0 (hbox);have GW647:=mk0 ((by rw [hg];exact (kZ HB.out):w.heap.size ≤ gb647));have GE647:=mk0 ((by rw [hg];exact (kZ HB.out):w.heap.size ≤ gb647));replace HB:=mk0 (kS HB.out hb);clear hb hbox hg;obtain⟨hcz13_0,hcz13_1,hfz13_0,hfz13_1⟩:=cz2 BK647.out));go_upto_region 7 with (first|((with_reducible refine gate_dst (N:=8) rfl ?_);(try (refine gate_guard (by rfl) ?_;dsimp only));refine box_event ?hg (N:=8) ?hd (cs:=#[.int .i64 0,.int .i64 0]) (t:=56) ?hr ?_;(case hd=>rfl);(case hg=>rfl);(case hr=>first|(go_simp;done)|(go_simp;rfl));intro gb647 hg w12 hbox hb;have BK647:=mk0 (hbox);have GW647:=mk0 ((by rw [hg];exact (kZ HB.out):w.heap.size ≤ gb647));have GE647:=mk0 ((by rw [hg];exact (kZ HB.out):w.heap.size ≤ gb647));replace HB:=mk0 (kS HB.out hb);clear hb hbox hg;obtain⟨hcz13_0,hcz13_1,hfz13_0,hfz13_1⟩:=cz2 BK647.out)))
     (try simp only [Act.put,sA,sO,sS])
     go_cut [61] (fun v61 wc=>∃ (kq:Nat) (x61_10:Bool),v61 = .bool x61_10 ∧ Aside0 (spec_CommonOk.j2 kq l0 l1 l2 x7_2 x61_10 ((rd_T56 l2 x7_2).f0) ((rd_T56 l2 x7_2).f1) = some r) ∧ Aside0 (kq ≤ k2) ∧ Aside0 (wc.heap[gb647]? = some (.cells #[.int .i64 ((rd_T56 l2 x7_2).f0),.int .i64 ((rd_T56 l2 x7_2).f1)] 56 (0,0))) ∧ Aside0 (Below w.heap.size w wc))
     case first =>
      have H:=HC11.out
      clear HC11
      by_cases c14:((rd_T56 l2 x7_2).f0) < 0
      ·rw [if_pos c14] at H
       have c14b0:decide (((rd_T56 l2 x7_2).f0) < 0) = true:=decide_eq_true c14
       clear c14
       (first|rw [c14b0]|(simp only [i64_w,i32_w];rw [c14b0])|skip)
       have H':=mk0 H
       clear H
       obtain⟨hcz15_0,hcz15_1,hfz15_0,hfz15_1⟩:=cz2 BK647.out
       go_wp2
       repeat (go_quiet (fail);try go_wp2)
       go_meet
       case rel=>exact⟨_,(true),eS,H',⟨by have:=HJ3.out;have:=HK2.out;first|omega|exact Nat.le_refl _⟩,⟨by (with_reducible repeat (first|apply nB|apply dB|apply aB));refine blk_put (cs:=#[.int .i64 ((rd_T56 l2 x7_2).f0),.int .i64 0]) ?_ 1 _ rfl;(with_reducible repeat (first|apply nB|apply dB|apply aB));refine blk_put (cs:=#[.int .i64 0,.int .i64 0]) ?_ 0 _ rfl;(with_reducible repeat (first|apply nB|apply dB|apply aB));exact BK647.out⟩,⟨kB HB.out⟩⟩
      rw [if_neg c14] at H
      have c14b0:decide (((rd_T56 l2 x7_2).f0) < 0) = false:=decide_eq_false c14
      clear c14
      (first|rw [c14b0]|(simp only [i64_w,i32_w];rw [c14b0])|skip)
      by_cases c16:((rd_T56 l2 x7_2).f0) ≥ (l0.length:Int)
      ·rw [if_pos c16] at H
       have c16b0:decide ((l0.length:Int) ≤ ((rd_T56 l2 x7_2).f0)) = true:=decide_eq_true c16
       clear c16
       have H':=mk0 H
       clear H
       obtain⟨hcz17_0,hcz17_1,hfz17_0,hfz17_1⟩:=cz2 BK647.out
       go_wp2
       repeat (go_quiet (fail);try go_wp2)
       go_meet
       case rel=>exact⟨_,(true),eS,H',⟨by have:=HJ3.out;have:=HK2.out;first|omega|exact Nat.le_refl _⟩,⟨by (with_reducible repeat (first|apply nB|apply dB|apply aB));refine blk_put (cs:=#[.int .i64 ((rd_T56 l2 x7_2).f0),.int .i64 0]) ?_ 1 _ rfl;(with_reducible repeat (first|apply nB|apply dB|apply aB));refine blk_put (cs:=#[.int .i64 0,.int .i64 0]) ?_ 0 _ rfl;(with_reducible repeat (first|apply nB|apply dB|apply aB));exact BK647.out⟩,⟨kB HB.out⟩⟩
      rw [if_neg c16] at H
      have c16b0:decide ((l0.length:Int) ≤ ((rd_T56 l2 x7_2).f0)) = false:=decide_eq_false c16
      clear c16
      by_cases c18:((rd_T56 l2 x7_2).f1) < 0
      ·rw [if_pos c18] at H
       have c18b0:decide (((rd_T56 l2 x7_2).f1) < 0) = true:=decide_eq_true c18
       clear c18
       have H':=mk0 H
       clear H
       obtain⟨hcz19_0,hcz19_1,hfz19_0,hfz19_1⟩:=cz2 BK647.out
       go_wp2
       repeat (go_quiet (fail);try go_wp2)
       go_meet
       case rel=>exact⟨_,(true),eS,H',⟨by have:=HJ3.out;have:=HK2.out;first|omega|exact Nat.le_refl _⟩,⟨by (with_reducible repeat (first|apply nB|apply dB|apply aB));refine blk_put (cs:=#[.int .i64 ((rd_T56 l2 x7_2).f0),.int .i64 0]) ?_ 1 _ rfl;(with_reducible repeat (first|apply nB|apply dB|apply aB));refine blk_put (cs:=#[.int .i64 0,.int .i64 0]) ?_ 0 _ rfl;(with_reducible repeat (first|apply nB|apply dB|apply aB));exact BK647.out⟩,⟨kB HB.out⟩⟩
      rw [if_neg c18] at H
      have c18b0:decide (((rd_T56 l2 x7_2).f1) < 0) = false:=decide_eq_false c18
      clear c18
      by_cases c20:((rd_T56 l2 x7_2).f1) ≥ (l1.length:Int)
      ·rw [if_pos c20] at H
       have c20b0:decide ((l1.length:Int) ≤ ((rd_T56 l2 x7_2).f1)) = true:=decide_eq_true c20
       clear c20
       have H':=mk0 H
       clear H
       obtain⟨hcz21_0,hcz21_1,hfz21_0,hfz21_1⟩:=cz2 BK647.out
       go_wp2
       repeat (go_quiet (fail);try go_wp2)
       go_meet
       case rel=>exact⟨_,(true),eS,H',⟨by have:=HJ3.out;have:=HK2.out;first|omega|exact Nat.le_refl _⟩,⟨by (with_reducible repeat (first|apply nB|apply dB|apply aB));refine blk_put (cs:=#[.int .i64 ((rd_T56 l2 x7_2).f0),.int .i64 0]) ?_ 1 _ rfl;(with_reducible repeat (first|apply nB|apply dB|apply aB));refine blk_put (cs:=#[.int .i64 0,.int .i64 0]) ?_ 0 _ rfl;(with_reducible repeat (first|apply nB|apply dB|apply aB));exact BK647.out⟩,⟨kB HB.out⟩⟩
      rw [if_neg c20] at H
      have c20b0:decide ((l1.length:Int) ≤ ((rd_T56 l2 x7_2).f1)) = false:=decide_eq_false c20
      clear c20
      by_cases c22:0 ≤ ((rd_T56 l2 x7_2).f0)
      rotate_left
      ·rw [if_neg c22] at H
       exact nn H
      rw [if_pos c22] at H
      have c22b0:decide (0 ≤ ((rd_T56 l2 x7_2).f0)) = true:=decide_eq_true c22
      clear c22
      by_cases c23:((rd_T56 l2 x7_2).f0) < (l0.length:Int)
      rotate_left
      ·rw [if_neg c23] at H
       exact nn H
      rw [if_pos c23] at H
      have c23b0:decide (((rd_T56 l2 x7_2).f0) < (l0.length:Int)) = true:=decide_eq_true c23
      clear c23
      by_cases c24:0 ≤ ((rd_T56 l2 x7_2).f1)
      rotate_left
      ·rw [if_neg c24] at H
       exact nn H
      rw [if_pos c24] at H
      have c24b0:decide (0 ≤ ((rd_T56 l2 x7_2).f1)) = true:=decide_eq_true c24
      clear c24
      by_cases c25:((rd_T56 l2 x7_2).f1) < (l1.length:Int)
      rotate_left
      ·rw [if_neg c25] at H
       exact nn H
      rw [if_pos c25] at H
      have c25b0:decide (((rd_T56 l2 x7_2).f1) < (l1.length:Int)) = true:=decide_eq_true c25
      clear c25
      have H':=mk0 H
      clear H
      obtain⟨hcz26_0,hcz26_1,hfz26_0,hfz26_1⟩:=cz2 BK647.out
      have p648:0 ≤ (((rd_T56 l2 x7_2).f0):Int):=oD
      have q648:((rd_T56 l2 x7_2).f0) < (l0.length:Int):=oD
      obtain⟨ad648,e648,hx648_0⟩:=Kd.at_int HR0.out ((rd_T56 l2 x7_2).f0) p648 q648
      cases e648
      have hn648_0:ad648.block ≠ gb647:=Nat.ne_of_lt (Nat.lt_of_lt_of_le (by have:=World.block_lt_of_cell? _ _ hx648_0;first|rwa [add_block] at this|exact this) GW647.out)
      have hn648_1:ad648.block ≠ gb647:=Nat.ne_of_lt (Nat.lt_of_lt_of_le (by have:=World.block_lt_of_cell? _ _ hx648_0;first|rwa [add_block] at this|exact this) GW647.out)
      replace hx648_0:=(HB.out.cell (World.block_lt_of_cell? w _ hx648_0)).trans hx648_0
      replace hx648_0:=(cell_far (p:=⟨gb647,0,none⟩) (by first|(rw [add_block];exact hn648_0)|(show (Addr.add _ _).block ≠ _;rw [add_block];exact hn648_0)|exact hn648_0) (.int .i64 ((rd_T56 l2 x7_2).f0))).trans hx648_0
      replace hx648_0:=(cell_far (p:=⟨gb647,1,none⟩) (by first|(rw [add_block];exact hn648_1)|(show (Addr.add _ _).block ≠ _;rw [add_block];exact hn648_1)|exact hn648_1) (.int .i64 ((rd_T56 l2 x7_2).f1))).trans hx648_0
      (try have hy648_0:=fun (n_:Nat)=>(show ((((w12.drewN n_).setCell ⟨gb647,0,none⟩ (.int .i64 ((rd_T56 l2 x7_2).f0))).setCell ⟨gb647,1,none⟩ (.int .i64 ((rd_T56 l2 x7_2).f1)))).cell? _ = some _ from hx648_0))
      clear hn648_0
      clear hn648_1
      replace p648:=eq_true p648
      replace q648:=eq_true q648
      have p649:0 ≤ (((rd_T56 l2 x7_2).f1):Int):=oD
      have q649:((rd_T56 l2 x7_2).f1) < (l1.length:Int):=oD
      obtain⟨ad649,e649,hx649_0⟩:=Kd.at_int HR1.out ((rd_T56 l2 x7_2).f1) p649 q649
      cases e649
      have hn649_0:ad649.block ≠ gb647:=Nat.ne_of_lt (Nat.lt_of_lt_of_le (by have:=World.block_lt_of_cell? _ _ hx649_0;first|rwa [add_block] at this|exact this) GW647.out)
      have hn649_1:ad649.block ≠ gb647:=Nat.ne_of_lt (Nat.lt_of_lt_of_le (by have:=World.block_lt_of_cell? _ _ hx649_0;first|rwa [add_block] at this|exact this) GW647.out)
      replace hx649_0:=(HB.out.cell (World.block_lt_of_cell? w _ hx649_0)).trans hx649_0
      replace hx649_0:=(cell_far (p:=⟨gb647,0,none⟩) (by first|(rw [add_block];exact hn649_0)|(show (Addr.add _ _).block ≠ _;rw [add_block];exact hn649_0)|exact hn649_0) (.int .i64 ((rd_T56 l2 x7_2).f0))).trans hx649_0
      replace hx649_0:=(cell_far (p:=⟨gb647,1,none⟩) (by first|(rw [add_block];exact hn649_1)|(show (Addr.add _ _).block ≠ _;rw [add_block];exact hn649_1)|exact hn649_1) (.int .i64 ((rd_T56 l2 x7_2).f1))).trans hx649_0
      (try have hy649_0:=fun (n_:Nat)=>(show ((((w12.drewN n_).setCell ⟨gb647,0,none⟩ (.int .i64 ((rd_T56 l2 x7_2).f0))).setCell ⟨gb647,1,none⟩ (.int .i64 ((rd_T56 l2 x7_2).f1)))).cell? _ = some _ from hx649_0))
      clear hn649_0
      clear hn649_1
      replace p649:=eq_true p649
      replace q649:=eq_true q649
      go_wp2
      repeat (go_quiet (fail);try go_wp2)
      go_meet
      case rel=>exact⟨_,(((rd l0 ((rd_T56 l2 x7_2).f0)) != (rd l1 ((rd_T56 l2 x7_2).f1)))),eS,H',⟨by have:=HJ3.out;have:=HK2.out;first|omega|exact Nat.le_refl _⟩,⟨by (with_reducible repeat (first|apply nB|apply dB|apply aB));refine blk_put (cs:=#[.int .i64 ((rd_T56 l2 x7_2).f0),.int .i64 0]) ?_ 1 _ rfl;(with_reducible repeat (first|apply nB|apply dB|apply aB));refine blk_put (cs:=#[.int .i64 0,.int .i64 0]) ?_ 0 _ rfl;(with_reducible repeat (first|apply nB|apply dB|apply aB));exact BK647.out⟩,⟨kB HB.out⟩⟩
     case rest =>
      clear HC11
      try clear c1
      try clear c2
      try clear p2
      try clear c4
      try clear c6
      try clear p6
      try clear q6
      try clear hx6
      try clear c8
      try clear c9
      try clear c9b0
      try clear c10
      try clear c10b0
      try clear c14
      try clear c14b0
      try clear c16
      try clear c16b0
      try clear c18
      try clear c18b0
      try clear c20
      try clear c20b0
      try clear c22
      try clear c22b0
      try clear c23
      try clear c23b0
      try clear c24
      try clear c24b0
      try clear c25
      try clear c25b0
      try clear hcz13_0
      try clear hcz13_1
      try clear hcz15_0
      try clear hcz15_1
      try clear hcz17_0
      try clear hcz17_1
      try clear hcz19_0
      try clear hcz19_1
      try clear hcz21_0
      try clear hcz21_1
      try clear hcz26_0
      try clear hcz26_1
      try clear hfz13_0
      try clear hfz13_1
      try clear hfz15_0
      try clear hfz15_1
      try clear hfz17_0
      try clear hfz17_1
      try clear hfz19_0
      try clear hfz19_1
      try clear hfz21_0
      try clear hfz21_1
      try clear hfz26_0
      try clear hfz26_1
      try clear hx646_0
      try clear hx646_1
      try clear hx648_0
      try clear hx649_0
      try clear p2
      try clear p646
      try clear p648
      try clear p649
      try clear q646
      try clear q648
      try clear q649
      obtain⟨kq,x61_10,rfl,HA,HJ10,BK647,HB⟩:=hcut
      cases kq with
      | zero=>exact absurd HA.out (by simp [spec_CommonOk.j2])
      | succ kj10 =>
       have H:=HA.out
       clear HA
       simp only [spec_CommonOk.j2] at H
       by_cases c27:x61_10 = true
       ·subst c27
        replace H:=iT H
        obtain rfl:=Option.some.inj H
        go_wp2
        repeat (go_quiet (fail);try go_wp2)
        go_ret
        exact⟨eR,kB HB.out⟩
       replace c27:=Bool.eq_false_iff.mpr c27
       subst c27
       replace H:=iF H
       have HC28:=mk0 H
       clear H
       go_upto_region 9 with (fail)
       repeat (go_quiet (fail);go_upto_region 9 with (fail))
       go_cut [85] (fun v85 wc=>∃ (kq:Nat) (x85_27:Bool),v85 = .bool x85_27 ∧ Aside0 (spec_CommonOk.j3 kq l0 l1 l2 x7_2 x85_27 = some r) ∧ Aside0 (kq ≤ kj10) ∧ Aside0 (wc.heap[gb647]? = some (.cells #[.int .i64 ((rd_T56 l2 x7_2).f0),.int .i64 ((rd_T56 l2 x7_2).f1)] 56 (0,0))) ∧ Aside0 (Below w.heap.size w wc))
       case first =>
        have H:=HC28.out
        clear HC28
        by_cases c29:x7_2 > 0
        rotate_left
        ·rw [if_neg c29] at H
         have c29b0:decide (0 < x7_2) = false:=decide_eq_false c29
         clear c29
         (first|rw [c29b0]|(simp only [i64_w,i32_w];rw [c29b0])|skip)
         have H':=mk0 H
         clear H
         go_wp2
         repeat (go_quiet (fail);try go_wp2)
         go_meet
         case rel=>exact⟨_,(false),eS,H',⟨by have:=HJ3.out;have:=HK2.out;have:=HJ10.out;first|omega|exact Nat.le_refl _⟩,⟨kN BK647.out⟩,⟨kB HB.out⟩⟩
        rw [if_pos c29] at H
        have c29b0:decide (0 < x7_2) = true:=decide_eq_true c29
        clear c29
        (first|rw [c29b0]|(simp only [i64_w,i32_w];rw [c29b0])|skip)
        obtain⟨ji30,hji30⟩:∃ j_:Int,(wrap64 (x7_2 - 1)) = j_:=⟨_,rfl⟩
        first|rw [hji30] at H|simp only [hji30] at H
        have hji30w:(IntKind.i64.wrap (x7_2 - 1)) = ji30:=(i64_w _).trans hji30
        by_cases c31:0 ≤ (ji30)
        rotate_left
        ·rw [if_neg c31] at H
         exact nn H
        rw [if_pos c31] at H
        have c31b0:decide (0 ≤ (ji30)) = true:=decide_eq_true c31
        clear c31
        by_cases c32:(ji30) < (l2.length:Int)
        rotate_left
        ·rw [if_neg c32] at H
         exact nn H
        rw [if_pos c32] at H
        have c32b0:decide ((ji30) < (l2.length:Int)) = true:=decide_eq_true c32
        clear c32
        by_cases c33:((rd_T56 l2 (ji30)).f0) ≥ ((rd_T56 l2 x7_2).f0)
        ·rw [if_pos c33] at H
         have c33b0:decide (((rd_T56 l2 x7_2).f0) ≤ ((rd_T56 l2 (ji30)).f0)) = true:=decide_eq_true c33
         clear c33
         have H':=mk0 H
         clear H
         have p650:0 ≤ ((ji30):Int):=oD
         have q650:(ji30) < (l2.length:Int):=oD
         obtain⟨ad650,e650,hx650_0,hx650_1⟩:=at_T56 HR2.out (ji30) p650 q650
         obtain rfl:ad646 = ad650:=(by injection e650)
         replace hx650_0:=(HB.out.cell (World.block_lt_of_cell? w _ hx650_0)).trans hx650_0
         replace hx650_1:=(HB.out.cell (World.block_lt_of_cell? w _ hx650_1)).trans hx650_1
         replace p650:=eq_true p650
         replace q650:=eq_true q650
         obtain⟨hcz34_0,hcz34_1,hfz34_0,hfz34_1⟩:=cz2 BK647.out
         go_wp2
         repeat (go_quiet (fail);try go_wp2)
         go_meet
         case rel=>exact⟨_,(true),eS,H',⟨by have:=HJ3.out;have:=HK2.out;have:=HJ10.out;first|omega|exact Nat.le_refl _⟩,⟨kN BK647.out⟩,⟨kB HB.out⟩⟩
        rw [if_neg c33] at H
        have c33b0:decide (((rd_T56 l2 x7_2).f0) ≤ ((rd_T56 l2 (ji30)).f0)) = false:=decide_eq_false c33
        clear c33
        have H':=mk0 H
        clear H
        have p650:0 ≤ ((ji30):Int):=oD
        have q650:(ji30) < (l2.length:Int):=oD
        obtain⟨ad650,e650,hx650_0,hx650_1⟩:=at_T56 HR2.out (ji30) p650 q650
        obtain rfl:ad646 = ad650:=(by injection e650)
        replace hx650_0:=(HB.out.cell (World.block_lt_of_cell? w _ hx650_0)).trans hx650_0
        replace hx650_1:=(HB.out.cell (World.block_lt_of_cell? w _ hx650_1)).trans hx650_1
        replace p650:=eq_true p650
        replace q650:=eq_true q650
        obtain⟨hcz35_0,hcz35_1,hfz35_0,hfz35_1⟩:=cz2 BK647.out
        have p651:0 ≤ ((ji30):Int):=oD
        have q651:(ji30) < (l2.length:Int):=oD
        obtain⟨ad651,e651,hx651_0,hx651_1⟩:=at_T56 HR2.out (ji30) p651 q651
        obtain rfl:ad646 = ad651:=(by injection e651)
        replace hx651_0:=(HB.out.cell (World.block_lt_of_cell? w _ hx651_0)).trans hx651_0
        replace hx651_1:=(HB.out.cell (World.block_lt_of_cell? w _ hx651_1)).trans hx651_1
        replace p651:=eq_true p651
        replace q651:=eq_true q651
        go_wp2
        repeat (go_quiet (fail);try go_wp2)
        go_meet
        case rel=>exact⟨_,(decide (((rd_T56 l2 (ji30)).f1) ≥ ((rd_T56 l2 x7_2).f1))),(by first|rfl|(simp;done)|(simp only [← hji30] <;> (first|rfl|simp))|(simp [*];done)),H',⟨by have:=HJ3.out;have:=HK2.out;have:=HJ10.out;first|omega|exact Nat.le_refl _⟩,⟨kN BK647.out⟩,⟨kB HB.out⟩⟩
       case rest =>
        clear HC28
        try clear c1
        try clear c2
        try clear p2
        try clear c3
        try clear c4
        try clear c6
        try clear p6
        try clear q6
        try clear hx6
        try clear c8
        try clear c9
        try clear c9b0
        try clear c10
        try clear c10b0
        try clear c14
        try clear c14b0
        try clear c16
        try clear c16b0
        try clear c18
        try clear c18b0
        try clear c20
        try clear c20b0
        try clear c22
        try clear c22b0
        try clear c23
        try clear c23b0
        try clear c24
        try clear c24b0
        try clear c25
        try clear c25b0
        try clear c27
        try clear c29
        try clear c29b0
        try clear c31
        try clear c31b0
        try clear c32
        try clear c32b0
        try clear c33
        try clear c33b0
        try clear hcz13_0
        try clear hcz13_1
        try clear hcz15_0
        try clear hcz15_1
        try clear hcz17_0
        try clear hcz17_1
        try clear hcz19_0
        try clear hcz19_1
        try clear hcz21_0
        try clear hcz21_1
        try clear hcz26_0
        try clear hcz26_1
        try clear hcz34_0
        try clear hcz34_1
        try clear hcz35_0
        try clear hcz35_1
        try clear hfz13_0
        try clear hfz13_1
        try clear hfz15_0
        try clear hfz15_1
        try clear hfz17_0
        try clear hfz17_1
        try clear hfz19_0
        try clear hfz19_1
        try clear hfz21_0
        try clear hfz21_1
        try clear hfz26_0
        try clear hfz26_1
        try clear hfz34_0
        try clear hfz34_1
        try clear hfz35_0
        try clear hfz35_1
        try clear hx646_0
        try clear hx646_1
        try clear hx648_0
        try clear hx649_0
        try clear hx650_0
        try clear hx650_1
        try clear hx651_0
        try clear hx651_1
        try clear p2
        try clear p6
        try clear p646
        try clear p648
        try clear p649
        try clear p650
        try clear p651
        try clear q6
        try clear q646
        try clear q648
        try clear q649
        try clear q650
        try clear q651
        obtain⟨kq,x85_27,rfl,HA,HJ27,BK647,HB⟩:=hcut
        cases kq with
        | zero=>exact absurd HA.out (by simp [spec_CommonOk.j3])
        | succ kj27 =>
         have H:=HA.out
         clear HA
         simp only [spec_CommonOk.j3] at H
         by_cases c36:x85_27 = true
         ·subst c36
          replace H:=iT H
          obtain rfl:=Option.some.inj H
          go_wp2
          repeat (go_quiet (fail);try go_wp2)
          go_ret
          exact⟨eR,kB HB.out⟩
         replace c36:=Bool.eq_false_iff.mpr c36
         subst c36
         replace H:=iF H
         have H':=mk0 H
         clear H
         go_wp2
         repeat (go_quiet (fail);try go_wp2)
         go_roundg kj27
         case measure=>have:=HJ3.out;have:=HK2.out;have:=HJ10.out;have:=HJ27.out;omega
         case rel=>exact⟨(wrap64 (x7_2 + 1)),eS,H',⟨by have:=HJ3.out;have:=HK2.out;have:=HJ10.out;have:=HJ27.out;omega⟩,⟨kB HB.out⟩⟩
/-! ### spec_ShareOk: function 21 -/
def spec_ShareOk.f (k : Nat) (l0 : List Int) (l1 : List Int) (l2 : List (S56)) : Option (Bool) := (spec_TextOk.f l0).bind fun t652 => (if t652 = true then ((spec_TextOk.f l1).bind fun t653 => (if t653 = true then ((spec_BwtOf.f k l0).bind fun t654 => ((spec_BwtOf.f k l1).bind fun t657 => ((spec_CommonOk.f k t654 t657 l2).bind fun t660 => (some t660)))) else (some false))) else (some false))
set_option maxHeartbeats 8000000 in
set_option maxRecDepth 100000 in
theorem spec_ShareOk.calls (k : Nat) (A0 : Option Addr) (c0 : Nat) (l0 : List Int) (A1 : Option Addr) (c1 : Nat) (l1 : List Int) (A2 : Option Addr) (c2 : Nat) (l2 : List (S56)) (r : Bool) (w : World) (hr0 : Kd.C (Kd.int .u8) w A0 l0.length l0) (hc0 : l0.length ≤ c0) (hr1 : Kd.C (Kd.int .u8) w A1 l1.length l1) (hc1 : l1.length ≤ c1) (hr2 : Kd.C k56 w A2 l2.length l2) (hc2 : l2.length ≤ c2) (h : spec_ShareOk.f k l0 l1 l2 = some r) :
  Calls Try.prog 21 #[.slice A0 l0.length c0, .slice A1 l1.length c1, .slice A2 l2.length c2] w fun e w' => e = .returned (.bool r) ∧ Below w.heap.size w w' := by
 have HR0:=mk0 hr0
 have HC0:=mk0 hc0
 clear hr0 hc0
 have HR1:=mk0 hr1
 have HC1:=mk0 hc1
 clear hr1 hc1
 have HR2:=mk0 hr2
 have HC2:=mk0 hc2
 clear hr2 hc2
 have HB:=mk0 (Below.refl w.heap.size w)
 have H:((spec_TextOk.f l0).bind fun t652=>(if t652 = true then ((spec_TextOk.f l1).bind fun t653=>(if t653 = true then ((spec_BwtOf.f k l0).bind fun t654=>((spec_BwtOf.f k l1).bind fun t657=>((spec_CommonOk.f k t654 t657 l2).bind fun t660=>(some t660)))) else (some false))) else (some false))) = some r:=h
 clear h
 replace H:=bE H
 obtain⟨t652,A4,H⟩:=H
 by_cases c5:t652 = true
 ·subst c5
  replace H:=iT H
  replace H:=bE H
  obtain⟨t653,A6,H⟩:=H
  by_cases c7:t653 = true
  ·subst c7
   replace H:=iT H
   replace H:=bE H
   obtain⟨t654,A8,H⟩:=H
   replace H:=bE H
   obtain⟨t657,A9,H⟩:=H
   replace H:=bE H
   obtain⟨t660,A10,H⟩:=H
   obtain rfl:=Option.some.inj H
   go_enter Try.func21,Try.ntmps21
   go_wp2_with (first|((with_reducible refine gate_callee (f:=48) rfl ?_);refine gL (some 8) Try.func48 #[.slice A0 l0.length c0] ?_;(with_reducible refine (spec_TextOk.calls _ _ l0 true _ ?side1 ?side2 A4.out).mono ?_);(case side1=>exact kC HR0.out);(case side2=>exact HC0.out);rintro e w' ⟨rfl,⟨nd,rfl⟩⟩;refine⟨_,rfl,?_⟩)|(go_at_call 48;(with_reducible refine (spec_TextOk.calls _ _ l1 true _ ?side1 ?side2 A6.out).mono ?_);(case side1=>exact kC HR1.out);(case side2=>exact HC1.out);rintro e w' ⟨rfl,⟨nd,rfl⟩⟩)|(go_at_call 37;(with_reducible refine (spec_BwtOf.calls k _ _ l0 t654 _ ?side1 ?side2 A8.out).mono ?_);(case side1=>exact kC HR0.out);(case side2=>exact HC0.out);rintro e w11 ⟨v655,rfl,ho0,hb⟩;have HO656:=mk0 (Kd.R_lower ho0 (kZ HB.out));replace HB:=mk0 (kS HB.out hb);(try clear hb);(try clear ho0))|(go_at_call 37;(with_reducible refine (spec_BwtOf.calls k _ _ l1 t657 _ ?side1 ?side2 A9.out).mono ?_);(case side1=>exact kC (Kd.C_below HR1.out HB.out));(case side2=>exact HC1.out);rintro e w12 ⟨v658,rfl,ho0,hb⟩;have HO659:=mk0 (Kd.R_lower (Kd.R_new' ho0 (Kd.R_lt (rR HO656.out))) (kZ HB.out));replace HO656:=mk0 (Kd.R_elder' (rR HO656.out) (Kd.R_base ho0) hb);replace HB:=mk0 (kS HB.out hb);(try clear hb);(try clear ho0);obtain⟨Ao13,co13,eo13⟩:=Kd.R_slice HO656.out;subst eo13;obtain⟨Ao14,co14,eo14⟩:=Kd.R_slice HO659.out;subst eo14)|(go_at_call 49;(with_reducible refine (spec_CommonOk.calls k _ _ t654 _ _ t657 _ _ l2 t660 _ ?side1 ?side2 ?side3 ?side4 ?side5 ?side6 A10.out).mono ?_);(case side1=>exact kC (Kd.R_reads' HO656.out).2.2);(case side2=>exact (Kd.R_reads' HO656.out).2.1);(case side3=>exact kC (Kd.R_reads' HO659.out).2.2);(case side4=>exact (Kd.R_reads' HO659.out).2.1);(case side5=>exact kC (Kd.C_below HR2.out HB.out));(case side6=>exact HC2.out);rintro e w15 ⟨rfl,hb⟩;replace HO656:=mk0 (bR HO656.out hb);replace HO659:=mk0 (bR HO659.out hb);replace HB:=mk0 (kS HB.out hb);(try clear hb)))
   go_ret
   exact⟨eR,kB HB.out⟩
  ·replace c7:=Bool.eq_false_iff.mpr c7
   subst c7
   replace H:=iF H
   obtain rfl:=Option.some.inj H
   go_enter Try.func21,Try.ntmps21
   go_wp2_with (first|((with_reducible refine gate_callee (f:=48) rfl ?_);refine gL (some 8) Try.func48 #[.slice A0 l0.length c0] ?_;(with_reducible refine (spec_TextOk.calls _ _ l0 true _ ?side1 ?side2 A4.out).mono ?_);(case side1=>exact kC HR0.out);(case side2=>exact HC0.out);rintro e w' ⟨rfl,⟨nd,rfl⟩⟩;refine⟨_,rfl,?_⟩)|(go_at_call 48;(with_reducible refine (spec_TextOk.calls _ _ l1 false _ ?side1 ?side2 A6.out).mono ?_);(case side1=>exact kC HR1.out);(case side2=>exact HC1.out);rintro e w' ⟨rfl,⟨nd,rfl⟩⟩))
   go_ret
   exact⟨eR,kB HB.out⟩
 ·replace c5:=Bool.eq_false_iff.mpr c5
  subst c5
  replace H:=iF H
  obtain rfl:=Option.some.inj H
  go_enter Try.func21,Try.ntmps21
  go_wp2_with (first|((with_reducible refine gate_callee (f:=48) rfl ?_);refine gL (some 8) Try.func48 #[.slice A0 l0.length c0] ?_;(with_reducible refine (spec_TextOk.calls _ _ l0 false _ ?side1 ?side2 A4.out).mono ?_);(case side1=>exact kC HR0.out);(case side2=>exact HC0.out);rintro e w' ⟨rfl,⟨nd,rfl⟩⟩;refine⟨_,rfl,?_⟩))
  go_ret
  exact⟨eR,kB HB.out⟩
end Go.Proofs.Ytadhngelhognaaa.QFnShare
