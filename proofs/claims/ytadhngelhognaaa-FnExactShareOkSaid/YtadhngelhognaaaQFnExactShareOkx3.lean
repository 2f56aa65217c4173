-- A walk, made by walk.py, a program of this session's.
import Derived.Test.YtadhngelhognaaaQFnExactShareOkx0
import Derived.Test.YtadhngelhognaaaQFnExactShareOkx1
import Derived.Test.YtadhngelhognaaaQFnExactShareOkx2
namespace Go.Proofs.Ytadhngelhognaaa.QFnExactShareOk
open Go.RowKit Go.Proofs.YtadhngelhognaaaW.PrintWords Go.Proofs.YtadhngelhognaaaW.PrintLast Go.Proofs.YtadhngelhognaaaW.PrintMore
attribute [local go_sem] max2_int min2_int max_two min_two max_three min_three max_four min_four   -- for this text's walks alone
set_option linter.unusedVariables false
set_option linter.unusedSimpArgs false

/-! ### spec_CommonOk: function 49 -/
mutual
def spec_CommonOk.j0 : Nat → List Int → List Int → List (S56) → Bool → Option (Bool)
 | 0, _, _, _, _ => none
 | k + 1, x0, x1, x2, x16 => if x16 = true then (some false) else (spec_CommonOk.l0 k x0 x1 x2 0)
def spec_CommonOk.l0 : Nat → List Int → List Int → List (S56) → Int → Option (Bool)
 | 0, _, _, _, _ => none
 | k + 1, x0, x1, x2, x7 => if x7 < (x2.length : Int) then (if 0 ≤ x7 then (if ((rd_T56 x2 x7).f0) < 0 then (spec_CommonOk.j2 k x0 x1 x2 x7 true ((rd_T56 x2 x7).f0) ((rd_T56 x2 x7).f1)) else (if ((rd_T56 x2 x7).f0) ≥ (x0.length : Int) then (spec_CommonOk.j2 k x0 x1 x2 x7 true ((rd_T56 x2 x7).f0) ((rd_T56 x2 x7).f1)) else (if ((rd_T56 x2 x7).f1) < 0 then (spec_CommonOk.j2 k x0 x1 x2 x7 true ((rd_T56 x2 x7).f0) ((rd_T56 x2 x7).f1)) else (if ((rd_T56 x2 x7).f1) ≥ (x1.length : Int) then (spec_CommonOk.j2 k x0 x1 x2 x7 true ((rd_T56 x2 x7).f0) ((rd_T56 x2 x7).f1)) else (if 0 ≤ ((rd_T56 x2 x7).f0) then (if ((rd_T56 x2 x7).f0) < (x0.length : Int) then (if 0 ≤ ((rd_T56 x2 x7).f1) then (if ((rd_T56 x2 x7).f1) < (x1.length : Int) then (spec_CommonOk.j2 k x0 x1 x2 x7 ((rd x0 ((rd_T56 x2 x7).f0)) != (rd x1 ((rd_T56 x2 x7).f1))) ((rd_T56 x2 x7).f0) ((rd_T56 x2 x7).f1)) else (none)) else (none)) else (none)) else (none)))))) else (none)) else (some true)
def spec_CommonOk.j2 : Nat → List Int → List Int → List (S56) → Int → Bool → Int → Int → Option (Bool)
 | 0, _, _, _, _, _, _, _ => none
 | k + 1, x0, x1, x2, x7, x61, x167000, x167001 => if x61 = true then (some false) else (if x7 > 0 then (if 0 ≤ (wrap64 (x7 - 1)) then (if (wrap64 (x7 - 1)) < (x2.length : Int) then (if ((rd_T56 x2 (wrap64 (x7 - 1))).f0) ≥ x167000 then (spec_CommonOk.j3 k x0 x1 x2 x7 true) else (spec_CommonOk.j3 k x0 x1 x2 x7 (decide (((rd_T56 x2 (wrap64 (x7 - 1))).f1) ≥ x167001)))) else (none)) else (none)) else (spec_CommonOk.j3 k x0 x1 x2 x7 false))
def spec_CommonOk.j3 : Nat → List Int → List Int → List (S56) → Int → Bool → Option (Bool)
 | 0, _, _, _, _, _ => none
 | k + 1, x0, x1, x2, x7, x85 => if x85 = true then (some false) else (spec_CommonOk.l0 k x0 x1 x2 (wrap64 (x7 + 1)))
end
def spec_CommonOk.f (k : Nat) (l0 : List Int) (l1 : List Int) (l2 : List (S56)) : Option (Bool) := (spec_l12Right.f l0).bind fun t163 => (if t163 = true then ((spec_l12Right.f l1).bind fun t164 => (spec_CommonOk.j0 k l0 l1 l2 (!t164))) else (spec_CommonOk.j0 k l0 l1 l2 true))
theorem spec_CommonOk.mono_l : ∀ k, (∀ y0 y1 y2 y3, LeO (spec_CommonOk.j0 k y0 y1 y2 y3) (spec_CommonOk.j0 (k + 1) y0 y1 y2 y3)) ∧ (∀ y0 y1 y2 y3, LeO (spec_CommonOk.l0 k y0 y1 y2 y3) (spec_CommonOk.l0 (k + 1) y0 y1 y2 y3)) ∧ (∀ y0 y1 y2 y3 y4 y5 y6, LeO (spec_CommonOk.j2 k y0 y1 y2 y3 y4 y5 y6) (spec_CommonOk.j2 (k + 1) y0 y1 y2 y3 y4 y5 y6)) ∧ (∀ y0 y1 y2 y3 y4, LeO (spec_CommonOk.j3 k y0 y1 y2 y3 y4) (spec_CommonOk.j3 (k + 1) y0 y1 y2 y3 y4))
 | 0 => ⟨fun _ _ _ _ r h => by simp [spec_CommonOk.j0] at h, fun _ _ _ _ r h => by simp [spec_CommonOk.l0] at h, fun _ _ _ _ _ _ _ r h => by simp [spec_CommonOk.j2] at h, fun _ _ _ _ _ r h => by simp [spec_CommonOk.j3] at h⟩
 | k + 1 => by
  obtain ⟨ih0, ih1, ih2, ih3⟩ := spec_CommonOk.mono_l k
  refine ⟨?_, ?_, ?_, ?_⟩
  ·intro y0 y1 y2 y3
   unfold spec_CommonOk.j0
   repeat' first|(with_reducible first|exact ih0 _ _ _ _|exact ih1 _ _ _ _|exact ih2 _ _ _ _ _ _ _|exact ih3 _ _ _ _ _|exact LeO.refl _|exact LeO.none _|refine LeO.ite ?_ ?_|refine LeO.bind ?_ (fun _ => ?_))|exact LeO.none _|refine LeO.ite ?_ ?_|refine LeO.bind ?_ (fun _ => ?_)
  ·intro y0 y1 y2 y3
   unfold spec_CommonOk.l0
   repeat' first|(with_reducible first|exact ih0 _ _ _ _|exact ih1 _ _ _ _|exact ih2 _ _ _ _ _ _ _|exact ih3 _ _ _ _ _|exact LeO.refl _|exact LeO.none _|refine LeO.ite ?_ ?_|refine LeO.bind ?_ (fun _ => ?_))|exact LeO.none _|refine LeO.ite ?_ ?_|refine LeO.bind ?_ (fun _ => ?_)
  ·intro y0 y1 y2 y3 y4 y5 y6
   unfold spec_CommonOk.j2
   repeat' first|(with_reducible first|exact ih0 _ _ _ _|exact ih1 _ _ _ _|exact ih2 _ _ _ _ _ _ _|exact ih3 _ _ _ _ _|exact LeO.refl _|exact LeO.none _|refine LeO.ite ?_ ?_|refine LeO.bind ?_ (fun _ => ?_))|exact LeO.none _|refine LeO.ite ?_ ?_|refine LeO.bind ?_ (fun _ => ?_)
  ·intro y0 y1 y2 y3 y4
   unfold spec_CommonOk.j3
   repeat' first|(with_reducible first|exact ih0 _ _ _ _|exact ih1 _ _ _ _|exact ih2 _ _ _ _ _ _ _|exact ih3 _ _ _ _ _|exact LeO.refl _|exact LeO.none _|refine LeO.ite ?_ ?_|refine LeO.bind ?_ (fun _ => ?_))|exact LeO.none _|refine LeO.ite ?_ ?_|refine LeO.bind ?_ (fun _ => ?_)
theorem spec_CommonOk.mono : ∀ a0 a1 a2 k, LeO (spec_CommonOk.f k a0 a1 a2) (spec_CommonOk.f (k + 1) a0 a1 a2) := by
 intro a0 a1 a2 k
 obtain ⟨ih0, ih1, ih2, ih3⟩ := spec_CommonOk.mono_l k
 unfold spec_CommonOk.f
 repeat' first|(with_reducible first|exact ih0 _ _ _ _|exact ih1 _ _ _ _|exact ih2 _ _ _ _ _ _ _|exact ih3 _ _ _ _ _|exact LeO.refl _|exact LeO.none _|refine LeO.ite ?_ ?_|refine LeO.bind ?_ (fun _ => ?_))|exact LeO.none _|refine LeO.ite ?_ ?_|refine LeO.bind ?_ (fun _ => ?_)
set_option maxHeartbeats 8000000 in
set_option maxRecDepth 100000 in
theorem spec_CommonOk.calls (k : Nat) (A0 : Option Addr) (c0 : Nat) (l0 : List Int) (A1 : Option Addr) (c1 : Nat) (l1 : List Int) (A2 : Option Addr) (c2 : Nat) (l2 : List (S56)) (r : Bool) (w : World) (hr0 : Kd.C (Kd.int .i64) w A0 l0.length l0) (hc0 : l0.length ≤ c0) (hr1 : Kd.C (Kd.int .i64) w A1 l1.length l1) (hc1 : l1.length ≤ c1) (hr2 : Kd.C k56 w A2 l2.length l2) (hc2 : l2.length ≤ c2) (h : spec_CommonOk.f k l0 l1 l2 = some r) :
  Calls Try.prog 49 #[.slice A0 l0.length c0, .slice A1 l1.length c1, .slice A2 l2.length c2] w fun e w' => e = .returned (.bool r) ∧ Below w.heap.size w w' := by
 have hu56:=Try.underlying56
 have HR0:=mk0 hr0
 have HC0:=mk0 hc0
 clear hr0 hc0
 have HR1:=mk0 hr1
 have HC1:=mk0 hc1
 clear hr1 hc1
 have HR2:=mk0 hr2
 have HC2:=mk0 hc2
 clear hr2 hc2
 have HB:=mk0 (Below.refl w.heap.size w)
 have H:((spec_l12Right.f l0).bind fun t163=>(if t163 = true then ((spec_l12Right.f l1).bind fun t164=>(spec_CommonOk.j0 k l0 l1 l2 (!t164))) else (spec_CommonOk.j0 k l0 l1 l2 true))) = some r:=h
 clear h
 have HC4:=mk0 H
 clear H
 go_enter Try.func49,Try.ntmps49
 go_upto_region 1 with (fail)
 repeat (go_quiet (fail);go_upto_region 1 with (fail))
 go_cut [16] (fun v16 wc=>∃ (kq:Nat) (x16_3:Bool),v16 = .bool x16_3 ∧ Aside0 (spec_CommonOk.j0 kq l0 l1 l2 x16_3 = some r) ∧ Aside0 (kq ≤ k) ∧ Aside0 (Below w.heap.size w wc))
 case first =>
  have H:=HC4.out
  clear HC4
  replace H:=Option.bind_eq_some_iff.mp H
  obtain⟨t163,A50,H⟩:=H
  replace H:(if t163 = true then ((spec_l12Right.f l1).bind fun t164=>(spec_CommonOk.j0 k l0 l1 l2 (!t164))) else (spec_CommonOk.j0 k l0 l1 l2 true)) = some r:=H
  have A5:=mk0 A50
  clear A50
  by_cases c6:t163 = true
  rotate_left
  ·replace c6:=Bool.eq_false_iff.mpr c6
   subst c6
   have H1:(spec_CommonOk.j0 k l0 l1 l2 true) = some r:=by rw [if_neg (show ¬ (false = true) by decide)] at H;exact H
   clear H
   have H:=H1
   clear H1
   have H':=mk0 H
   clear H
   go_wp2_with (first|(go_at_call 58;(with_reducible refine (spec_l12Right.calls _ _ l0 false _ ?side1 ?side2 A5.out).mono ?_);(case side1=>exact kC (Kd.C_below HR0.out HB.out));(case side2=>exact HC0.out);rintro e w' ⟨rfl,⟨nd,rfl⟩⟩;(try first|exact⟨rfl,_,World.drewN_drewN _ _ _⟩|exact⟨rfl,_,Eq.trans (World.drewN_drewN _ _ _) (congrArg (World.drewN _) (Nat.add_assoc _ _ _))⟩)))
   repeat (go_quiet (first|(go_at_call 58;(with_reducible refine (spec_l12Right.calls _ _ l0 false _ ?side1 ?side2 A5.out).mono ?_);(case side1=>exact kC (Kd.C_below HR0.out HB.out));(case side2=>exact HC0.out);rintro e w' ⟨rfl,⟨nd,rfl⟩⟩;(try first|exact⟨rfl,_,World.drewN_drewN _ _ _⟩|exact⟨rfl,_,Eq.trans (World.drewN_drewN _ _ _) (congrArg (World.drewN _) (Nat.add_assoc _ _ _))⟩)));try go_wp2_with (first|(go_at_call 58;(with_reducible refine (spec_l12Right.calls _ _ l0 false _ ?side1 ?side2 A5.out).mono ?_);(case side1=>exact kC (Kd.C_below HR0.out HB.out));(case side2=>exact HC0.out);rintro e w' ⟨rfl,⟨nd,rfl⟩⟩;(try first|exact⟨rfl,_,World.drewN_drewN _ _ _⟩|exact⟨rfl,_,Eq.trans (World.drewN_drewN _ _ _) (congrArg (World.drewN _) (Nat.add_assoc _ _ _))⟩))))
   go_meet
   case rel=>exact⟨_,(true),(by first|rfl|(simp;done)|(simp [*];done)),H',⟨by first|omega|exact Nat.le_refl _⟩,⟨kB HB.out⟩⟩
  subst c6
  have H1:((spec_l12Right.f l1).bind fun t164=>(spec_CommonOk.j0 k l0 l1 l2 (!t164))) = some r:=by rw [if_pos rfl] at H;exact H
  clear H
  have H:=H1
  clear H1
  replace H:=Option.bind_eq_some_iff.mp H
  obtain⟨t164,A70,H⟩:=H
  replace H:(spec_CommonOk.j0 k l0 l1 l2 (!t164)) = some r:=H
  have A7:=mk0 A70
  clear A70
  have H':=mk0 H
  clear H
  go_wp2_with (first|(go_at_call 58;(with_reducible refine (spec_l12Right.calls _ _ l0 true _ ?side1 ?side2 A5.out).mono ?_);(case side1=>exact kC (Kd.C_below HR0.out HB.out));(case side2=>exact HC0.out);rintro e w' ⟨rfl,⟨nd,rfl⟩⟩;(try first|exact⟨rfl,_,World.drewN_drewN _ _ _⟩|exact⟨rfl,_,Eq.trans (World.drewN_drewN _ _ _) (congrArg (World.drewN _) (Nat.add_assoc _ _ _))⟩))|(go_at_call 58;(with_reducible refine (spec_l12Right.calls _ _ l1 t164 _ ?side1 ?side2 A7.out).mono ?_);(case side1=>repeat (first|exact (Kd.C_below HR1.out (kB HB.out))|(with_reducible first|apply aC|apply nC|apply dC)));(case side2=>exact HC1.out);rintro e w' ⟨rfl,⟨nd,rfl⟩⟩;(try first|exact⟨rfl,_,World.drewN_drewN _ _ _⟩|exact⟨rfl,_,Eq.trans (World.drewN_drewN _ _ _) (congrArg (World.drewN _) (Nat.add_assoc _ _ _))⟩)))
  repeat (go_quiet (first|(go_at_call 58;(with_reducible refine (spec_l12Right.calls _ _ l0 true _ ?side1 ?side2 A5.out).mono ?_);(case side1=>exact kC (Kd.C_below HR0.out HB.out));(case side2=>exact HC0.out);rintro e w' ⟨rfl,⟨nd,rfl⟩⟩;(try first|exact⟨rfl,_,World.drewN_drewN _ _ _⟩|exact⟨rfl,_,Eq.trans (World.drewN_drewN _ _ _) (congrArg (World.drewN _) (Nat.add_assoc _ _ _))⟩))|(go_at_call 58;(with_reducible refine (spec_l12Right.calls _ _ l1 t164 _ ?side1 ?side2 A7.out).mono ?_);(case side1=>repeat (first|exact (Kd.C_below HR1.out (kB HB.out))|(with_reducible first|apply aC|apply nC|apply dC)));(case side2=>exact HC1.out);rintro e w' ⟨rfl,⟨nd,rfl⟩⟩;(try first|exact⟨rfl,_,World.drewN_drewN _ _ _⟩|exact⟨rfl,_,Eq.trans (World.drewN_drewN _ _ _) (congrArg (World.drewN _) (Nat.add_assoc _ _ _))⟩)));try go_wp2_with (first|(go_at_call 58;(with_reducible refine (spec_l12Right.calls _ _ l0 true _ ?side1 ?side2 A5.out).mono ?_);(case side1=>exact kC (Kd.C_below HR0.out HB.out));(case side2=>exact HC0.out);rintro e w' ⟨rfl,⟨nd,rfl⟩⟩;(try first|exact⟨rfl,_,World.drewN_drewN _ _ _⟩|exact⟨rfl,_,Eq.trans (World.drewN_drewN _ _ _) (congrArg (World.drewN _) (Nat.add_assoc _ _ _))⟩))|(go_at_call 58;(with_reducible refine (spec_l12Right.calls _ _ l1 t164 _ ?side1 ?side2 A7.out).mono ?_);(case side1=>repeat (first|exact (Kd.C_below HR1.out (kB HB.out))|(with_reducible first|apply aC|apply nC|apply dC)));(case side2=>exact HC1.out);rintro e w' ⟨rfl,⟨nd,rfl⟩⟩;(try first|exact⟨rfl,_,World.drewN_drewN _ _ _⟩|exact⟨rfl,_,Eq.trans (World.drewN_drewN _ _ _) (congrArg (World.drewN _) (Nat.add_assoc _ _ _))⟩))))
  go_meet
  case rel=>exact⟨_,(!t164),(by first|rfl|(simp;done)|(simp [*];done)),H',⟨by first|omega|exact Nat.le_refl _⟩,⟨kB HB.out⟩⟩
 case rest =>
  clear HC4
  try clear c1
  try clear c2
  try clear p2
  try clear c4
  try clear c6
  obtain⟨kq,x16_3,rfl,HA,HJ3,HB⟩:=hcut
  cases kq with
  | zero=>exact absurd HA.out (by simp [spec_CommonOk.j0])
  | succ kj3 =>
   have H:=HA.out
   clear HA
   simp only [spec_CommonOk.j0] at H
   by_cases c8:x16_3 = true
   ·subst c8
    have H1:(some false) = some r:=by rw [if_pos rfl] at H;exact H
    clear H
    have H:=H1
    clear H1
    obtain rfl:=Option.some.inj H
    go_wp2
    repeat (go_quiet (fail);try go_wp2)
    go_ret
    exact⟨by first|rfl|(simp [errW_none,errW_some] <;> rfl)|(simp [*,errW_none,errW_some] <;> rfl),kB HB.out⟩
   replace c8:=Bool.eq_false_iff.mpr c8
   subst c8
   have H1:(spec_CommonOk.l0 kj3 l0 l1 l2 0) = some r:=by rw [if_neg (show ¬ (false = true) by decide)] at H;exact H
   clear H
   have H:=H1
   clear H1
   have H':=mk0 H
   clear H
   go_wp2
   repeat (go_quiet (fail);try go_wp2)
   go_loopg [7] kj3 (fun kq v7 w'=>∃ (x7_2:Int),v7 = .int .i64 x7_2 ∧ Aside0 (spec_CommonOk.l0 kq l0 l1 l2 x7_2 = some r) ∧ Aside0 (kq ≤ kj3) ∧ Aside0 (Below w.heap.size w w'))
   case atStart=>exact⟨(0),(by first|rfl|(simp;done)|(simp [*];done)),H',⟨Nat.le_refl _⟩,⟨kB HB.out⟩⟩
   case round =>
    clear H'
    try clear c1
    try clear c2
    try clear p2
    try clear c4
    try clear c6
    try clear c8
    try clear p2
    obtain⟨x7_2,rfl,HA,HK2,HB⟩:=hrel
    cases gk with
    | zero=>exact absurd HA.out (by simp [spec_CommonOk.l0])
    | succ k2 =>
     have H:=HA.out
     clear HA
     simp only [spec_CommonOk.l0] at H
     by_cases c9:x7_2 < (l2.length:Int)
     rotate_left
     ·rw [if_neg c9] at H
      have c9b0:decide (x7_2 < (l2.length:Int)) = false:=decide_eq_false c9
      clear c9
      obtain rfl:=Option.some.inj H
      go_wp2
      repeat (go_quiet (fail);try go_wp2)
      go_ret
      exact⟨by first|rfl|(simp [errW_none,errW_some] <;> rfl)|(simp [*,errW_none,errW_some] <;> rfl),kB HB.out⟩

     rw [if_pos c9] at H
     have c9b0:decide (x7_2 < (l2.length:Int)) = true:=decide_eq_true c9
     clear c9
     by_cases c10:0 ≤ x7_2
     rotate_left
     ·rw [if_neg c10] at H
      exact absurd H (by simp)
     rw [if_pos c10] at H
     have c10b0:decide (0 ≤ x7_2) = true:=decide_eq_true c10
     clear c10
     have HC11:=mk0 H
     clear H
     have p165:0 ≤ (x7_2:Int):=of_decide_eq_true (by first|(with_reducible assumption)|assumption)
     have q165:x7_2 < (l2.length:Int):=of_decide_eq_true (by first|(with_reducible assumption)|assumption)
     obtain⟨ad165,e165,hx165_0,hx165_1⟩:=at_T56 HR2.out x7_2 p165 q165
     cases e165
     replace hx165_0:=(HB.out.cell (World.block_lt_of_cell? w _ hx165_0)).trans hx165_0
     replace hx165_1:=(HB.out.cell (World.block_lt_of_cell? w _ hx165_1)).trans hx165_1
     replace p165:=eq_true p165
     replace q165:=eq_true q165
     go_upto_region 7 with (first|((with_reducible refine gate_dst (N:=8) rfl ?_);(try (refine gate_guard (by rfl) ?_;dsimp only));refine box_event ?hg (N:=8) ?hd (cs:=#[.int .i64 0,.int .i64 0]) (t:=56) ?hr ?_;(case hd=>rfl);(case hg=>rfl);(case hr=>first|(go_simp;done)|(go_simp;rfl));intro gb166 hg w12 hbox hb;have BK166:=mk0 (hbox);have GW166:=mk0 ((by rw [hg];exact (kZ HB.out):w.heap.size ≤ gb166));have GE166:=mk0 ((by rw [hg];exact (kZ HB.out):w.heap.size ≤ gb166));replace HB:=mk0 (kS HB.out hb);clear hb hbox hg;obtain⟨hcz13_0,hcz13_1,hfz13_0,hfz13_1⟩:=cz2 BK166.out))
     repeat (go_quiet (first|((with_reducible refine gate_dst (N:=8) rfl ?_);(try (refine gate_guard (by rfl) ?_;dsimp only));refine box_event ?hg (N:=8) ?hd (cs:=#[.int .i64 0,.int .i64 0]) (t:=56) ?hr ?_;(case hd=>rfl);(case hg=>rfl);(case hr=>first|(go_simp;done)|(go_simp;rfl));intro gb166 hg w12 hbox hb;have BK166:=mk0 (hbox);have GW166:=mk0 ((by rw [hg];exact (kZ HB.out):w.heap.size ≤ gb166));have GE166:=mk0 ((by rw [hg];exact (kZ HB.out):w.heap.size ≤ gb166));replace HB:=mk0 (kS HB.out hb);clear hb hbox hg;obtain⟨hcz13_0,hcz13_1,hfz13_0,hfz13_1⟩:=cz2 BK166.out));go_upto_region 7 with (first|((with_reducible refine gate_dst (N:=8) rfl ?_);(try (refine gate_guard (by rfl) ?_;dsimp only));refine box_event ?hg (N:=8) ?hd (cs:=#[.int .i64 0,.int .i64 0]) (t:=56) ?hr ?_;(case hd=>rfl);(case hg=>rfl);(case hr=>first|(go_simp;done)|(go_simp;rfl));intro gb166 hg w12 hbox hb;have BK166:=mk0 (hbox);have GW166:=mk0 ((by rw [hg];exact (kZ HB.out):w.heap.size ≤ gb166));have GE166:=mk0 ((by rw [hg];exact (kZ HB.out):w.heap.size ≤ gb166));replace HB:=mk0 (kS HB.out hb);clear hb hbox hg;obtain⟨hcz13_0,hcz13_1,hfz13_0,hfz13_1⟩:=cz2 BK166.out)))
     (try simp only [Act.put,sA,sO,sS])
     go_cut [61] (fun v61 wc=>∃ (kq:Nat) (x61_10:Bool),v61 = .bool x61_10 ∧ Aside0 (spec_CommonOk.j2 kq l0 l1 l2 x7_2 x61_10 ((rd_T56 l2 x7_2).f0) ((rd_T56 l2 x7_2).f1) = some r) ∧ Aside0 (kq ≤ k2) ∧ Aside0 (wc.heap[gb166]? = some (.cells #[.int .i64 ((rd_T56 l2 x7_2).f0),.int .i64 ((rd_T56 l2 x7_2).f1)] 56 (0,0))) ∧ Aside0 (Below w.heap.size w wc))
     case first =>
      have H:=HC11.out
      clear HC11
      by_cases c14:((rd_T56 l2 x7_2).f0) < 0
      ·rw [if_pos c14] at H
       have c14b0:decide (((rd_T56 l2 x7_2).f0) < 0) = true:=decide_eq_true c14
       clear c14
       (first|rw [c14b0]|(simp only [i64_w,i32_w];rw [c14b0])|skip)
       have H':=mk0 H
       clear H
       obtain⟨hcz15_0,hcz15_1,hfz15_0,hfz15_1⟩:=cz2 BK166.out
       go_wp2
       repeat (go_quiet (fail);try go_wp2)
       go_meet
       case rel=>exact⟨_,(true),(by first|rfl|(simp;done)|(simp [*];done)),H',⟨by have:=HJ3.out;have:=HK2.out;first|omega|exact Nat.le_refl _⟩,⟨by (with_reducible repeat (first|apply nB|apply dB|apply aB));refine blk_put (cs:=#[.int .i64 ((rd_T56 l2 x7_2).f0),.int .i64 0]) ?_ 1 _ rfl;(with_reducible repeat (first|apply nB|apply dB|apply aB));refine blk_put (cs:=#[.int .i64 0,.int .i64 0]) ?_ 0 _ rfl;(with_reducible repeat (first|apply nB|apply dB|apply aB));exact BK166.out⟩,⟨kB HB.out⟩⟩
      rw [if_neg c14] at H
      have c14b0:decide (((rd_T56 l2 x7_2).f0) < 0) = false:=decide_eq_false c14
      clear c14
      (first|rw [c14b0]|(simp only [i64_w,i32_w];rw [c14b0])|skip)
      by_cases c16:((rd_T56 l2 x7_2).f0) ≥ (l0.length:Int)
      ·rw [if_pos c16] at H
       have c16b0:decide ((l0.length:Int) ≤ ((rd_T56 l2 x7_2).f0)) = true:=decide_eq_true c16
       clear c16
       have H':=mk0 H
       clear H
       obtain⟨hcz17_0,hcz17_1,hfz17_0,hfz17_1⟩:=cz2 BK166.out
       go_wp2
       repeat (go_quiet (fail);try go_wp2)
       go_meet
       case rel=>exact⟨_,(true),(by first|rfl|(simp;done)|(simp [*];done)),H',⟨by have:=HJ3.out;have:=HK2.out;first|omega|exact Nat.le_refl _⟩,⟨by (with_reducible repeat (first|apply nB|apply dB|apply aB));refine blk_put (cs:=#[.int .i64 ((rd_T56 l2 x7_2).f0),.int .i64 0]) ?_ 1 _ rfl;(with_reducible repeat (first|apply nB|apply dB|apply aB));refine blk_put (cs:=#[.int .i64 0,.int .i64 0]) ?_ 0 _ rfl;(with_reducible repeat (first|apply nB|apply dB|apply aB));exact BK166.out⟩,⟨kB HB.out⟩⟩
      rw [if_neg c16] at H
      have c16b0:decide ((l0.length:Int) ≤ ((rd_T56 l2 x7_2).f0)) = false:=decide_eq_false c16
      clear c16
      by_cases c18:((rd_T56 l2 x7_2).f1) < 0
      ·rw [if_pos c18] at H
       have c18b0:decide (((rd_T56 l2 x7_2).f1) < 0) = true:=decide_eq_true c18
       clear c18
       have H':=mk0 H
       clear H
       obtain⟨hcz19_0,hcz19_1,hfz19_0,hfz19_1⟩:=cz2 BK166.out
       go_wp2
       repeat (go_quiet (fail);try go_wp2)
       go_meet
       case rel=>exact⟨_,(true),(by first|rfl|(simp;done)|(simp [*];done)),H',⟨by have:=HJ3.out;have:=HK2.out;first|omega|exact Nat.le_refl _⟩,⟨by (with_reducible repeat (first|apply nB|apply dB|apply aB));refine blk_put (cs:=#[.int .i64 ((rd_T56 l2 x7_2).f0),.int .i64 0]) ?_ 1 _ rfl;(with_reducible repeat (first|apply nB|apply dB|apply aB));refine blk_put (cs:=#[.int .i64 0,.int .i64 0]) ?_ 0 _ rfl;(with_reducible repeat (first|apply nB|apply dB|apply aB));exact BK166.out⟩,⟨kB HB.out⟩⟩
      rw [if_neg c18] at H
      have c18b0:decide (((rd_T56 l2 x7_2).f1) < 0) = false:=decide_eq_false c18
      clear c18
      by_cases c20:((rd_T56 l2 x7_2).f1) ≥ (l1.length:Int)
      ·rw [if_pos c20] at H
       have c20b0:decide ((l1.length:Int) ≤ ((rd_T56 l2 x7_2).f1)) = true:=decide_eq_true c20
       clear c20
       have H':=mk0 H
       clear H
       obtain⟨hcz21_0,hcz21_1,hfz21_0,hfz21_1⟩:=cz2 BK166.out
       go_wp2
       repeat (go_quiet (fail);try go_wp2)
       go_meet
       case rel=>exact⟨_,(true),(by first|rfl|(simp;done)|(simp [*];done)),H',⟨by have:=HJ3.out;have:=HK2.out;first|omega|exact Nat.le_refl _⟩,⟨by (with_reducible repeat (first|apply nB|apply dB|apply aB));refine blk_put (cs:=#[.int .i64 ((rd_T56 l2 x7_2).f0),.int .i64 0]) ?_ 1 _ rfl;(with_reducible repeat (first|apply nB|apply dB|apply aB));refine blk_put (cs:=#[.int .i64 0,.int .i64 0]) ?_ 0 _ rfl;(with_reducible repeat (first|apply nB|apply dB|apply aB));exact BK166.out⟩,⟨kB HB.out⟩⟩
      rw [if_neg c20] at H
      have c20b0:decide ((l1.length:Int) ≤ ((rd_T56 l2 x7_2).f1)) = false:=decide_eq_false c20
      clear c20
      by_cases c22:0 ≤ ((rd_T56 l2 x7_2).f0)
      rotate_left
      ·rw [if_neg c22] at H
       exact absurd H (by simp)
      rw [if_pos c22] at H
      have c22b0:decide (0 ≤ ((rd_T56 l2 x7_2).f0)) = true:=decide_eq_true c22
      clear c22
      by_cases c23:((rd_T56 l2 x7_2).f0) < (l0.length:Int)
      rotate_left
      ·rw [if_neg c23] at H
       exact absurd H (by simp)
      rw [if_pos c23] at H
      have c23b0:decide (((rd_T56 l2 x7_2).f0) < (l0.length:Int)) = true:=decide_eq_true c23
      clear c23
      by_cases c24:0 ≤ ((rd_T56 l2 x7_2).f1)
      rotate_left
      ·rw [if_neg c24] at H
       exact absurd H (by simp)
      rw [if_pos c24] at H
      have c24b0:decide (0 ≤ ((rd_T56 l2 x7_2).f1)) = true:=decide_eq_true c24
      clear c24
      by_cases c25:((rd_T56 l2 x7_2).f1) < (l1.length:Int)
      rotate_left
      ·rw [if_neg c25] at H
       exact absurd H (by simp)
      rw [if_pos c25] at H
      have c25b0:decide (((rd_T56 l2 x7_2).f1) < (l1.length:Int)) = true:=decide_eq_true c25
      clear c25
      have H':=mk0 H
      clear H
      obtain⟨hcz26_0,hcz26_1,hfz26_0,hfz26_1⟩:=cz2 BK166.out
      have p167:0 ≤ (((rd_T56 l2 x7_2).f0):Int):=of_decide_eq_true (by first|(with_reducible assumption)|assumption)
      have q167:((rd_T56 l2 x7_2).f0) < (l0.length:Int):=of_decide_eq_true (by first|(with_reducible assumption)|assumption)
      obtain⟨ad167,e167,hx167_0⟩:=Kd.at_int HR0.out ((rd_T56 l2 x7_2).f0) p167 q167
      cases e167
      have hn167_0:ad167.block ≠ gb166:=Nat.ne_of_lt (Nat.lt_of_lt_of_le (by have:=World.block_lt_of_cell? _ _ hx167_0;first|rwa [add_block] at this|exact this) GW166.out)
      have hn167_1:ad167.block ≠ gb166:=Nat.ne_of_lt (Nat.lt_of_lt_of_le (by have:=World.block_lt_of_cell? _ _ hx167_0;first|rwa [add_block] at this|exact this) GW166.out)
      replace hx167_0:=(HB.out.cell (World.block_lt_of_cell? w _ hx167_0)).trans hx167_0
      replace hx167_0:=(cell_far (p:=⟨gb166,0,none⟩) (by first|(rw [add_block];exact hn167_0)|(show (Addr.add _ _).block ≠ _;rw [add_block];exact hn167_0)|exact hn167_0) (.int .i64 ((rd_T56 l2 x7_2).f0))).trans hx167_0
      replace hx167_0:=(cell_far (p:=⟨gb166,1,none⟩) (by first|(rw [add_block];exact hn167_1)|(show (Addr.add _ _).block ≠ _;rw [add_block];exact hn167_1)|exact hn167_1) (.int .i64 ((rd_T56 l2 x7_2).f1))).trans hx167_0
      (try have hy167_0:=fun (n_:Nat)=>(show ((((w12.drewN n_).setCell ⟨gb166,0,none⟩ (.int .i64 ((rd_T56 l2 x7_2).f0))).setCell ⟨gb166,1,none⟩ (.int .i64 ((rd_T56 l2 x7_2).f1)))).cell? _ = some _ from hx167_0))
      clear hn167_0
      clear hn167_1
      replace p167:=eq_true p167
      replace q167:=eq_true q167
      have p168:0 ≤ (((rd_T56 l2 x7_2).f1):Int):=of_decide_eq_true (by first|(with_reducible assumption)|assumption)
      have q168:((rd_T56 l2 x7_2).f1) < (l1.length:Int):=of_decide_eq_true (by first|(with_reducible assumption)|assumption)
      obtain⟨ad168,e168,hx168_0⟩:=Kd.at_int HR1.out ((rd_T56 l2 x7_2).f1) p168 q168
      cases e168
      have hn168_0:ad168.block ≠ gb166:=Nat.ne_of_lt (Nat.lt_of_lt_of_le (by have:=World.block_lt_of_cell? _ _ hx168_0;first|rwa [add_block] at this|exact this) GW166.out)
      have hn168_1:ad168.block ≠ gb166:=Nat.ne_of_lt (Nat.lt_of_lt_of_le (by have:=World.block_lt_of_cell? _ _ hx168_0;first|rwa [add_block] at this|exact this) GW166.out)
      replace hx168_0:=(HB.out.cell (World.block_lt_of_cell? w _ hx168_0)).trans hx168_0
      replace hx168_0:=(cell_far (p:=⟨gb166,0,none⟩) (by first|(rw [add_block];exact hn168_0)|(show (Addr.add _ _).block ≠ _;rw [add_block];exact hn168_0)|exact hn168_0) (.int .i64 ((rd_T56 l2 x7_2).f0))).trans hx168_0
      replace hx168_0:=(cell_far (p:=⟨gb166,1,none⟩) (by first|(rw [add_block];exact hn168_1)|(show (Addr.add _ _).block ≠ _;rw [add_block];exact hn168_1)|exact hn168_1) (.int .i64 ((rd_T56 l2 x7_2).f1))).trans hx168_0
      (try have hy168_0:=fun (n_:Nat)=>(show ((((w12.drewN n_).setCell ⟨gb166,0,none⟩ (.int .i64 ((rd_T56 l2 x7_2).f0))).setCell ⟨gb166,1,none⟩ (.int .i64 ((rd_T56 l2 x7_2).f1)))).cell? _ = some _ from hx168_0))
      clear hn168_0
      clear hn168_1
      replace p168:=eq_true p168
      replace q168:=eq_true q168
      go_wp2
      repeat (go_quiet (fail);try go_wp2)
      go_meet
      case rel=>exact⟨_,(((rd l0 ((rd_T56 l2 x7_2).f0)) != (rd l1 ((rd_T56 l2 x7_2).f1)))),(by first|rfl|(simp;done)|(simp [*];done)),H',⟨by have:=HJ3.out;have:=HK2.out;first|omega|exact Nat.le_refl _⟩,⟨by (with_reducible repeat (first|apply nB|apply dB|apply aB));refine blk_put (cs:=#[.int .i64 ((rd_T56 l2 x7_2).f0),.int .i64 0]) ?_ 1 _ rfl;(with_reducible repeat (first|apply nB|apply dB|apply aB));refine blk_put (cs:=#[.int .i64 0,.int .i64 0]) ?_ 0 _ rfl;(with_reducible repeat (first|apply nB|apply dB|apply aB));exact BK166.out⟩,⟨kB HB.out⟩⟩
     case rest =>
      clear HC11
      try clear c1
      try clear p1
      try clear q1
      try clear hx1
      try clear c2
      try clear p2
      try clear c4
      try clear c6
      try clear c8
      try clear c9
      try clear c9b0
      try clear c10
      try clear c10b0
      try clear c14
      try clear c14b0
      try clear c16
      try clear c16b0
      try clear p16
      try clear q16
      try clear hx16
      try clear c18
      try clear c18b0
      try clear c20
      try clear c20b0
      try clear c22
      try clear c22b0
      try clear c23
      try clear c23b0
      try clear c24
      try clear c24b0
      try clear c25
      try clear c25b0
      try clear hcz13_0
      try clear hcz13_1
      try clear hcz15_0
      try clear hcz15_1
      try clear hcz17_0
      try clear hcz17_1
      try clear hcz19_0
      try clear hcz19_1
      try clear hcz21_0
      try clear hcz21_1
      try clear hcz26_0
      try clear hcz26_1
      try clear hfz13_0
      try clear hfz13_1
      try clear hfz15_0
      try clear hfz15_1
      try clear hfz17_0
      try clear hfz17_1
      try clear hfz19_0
      try clear hfz19_1
      try clear hfz21_0
      try clear hfz21_1
      try clear hfz26_0
      try clear hfz26_1
      try clear hx165_0
      try clear hx165_1
      try clear hx167_0
      try clear hx168_0
      try clear p165
      try clear p167
      try clear p168
      try clear p2
      try clear q165
      try clear q167
      try clear q168
      obtain⟨kq,x61_10,rfl,HA,HJ10,BK166,HB⟩:=hcut
      cases kq with
      | zero=>exact absurd HA.out (by simp [spec_CommonOk.j2])
      | succ kj10 =>
       have H:=HA.out
       clear HA
       simp only [spec_CommonOk.j2] at H
       by_cases c27:x61_10 = true
       ·subst c27
        have H1:(some false) = some r:=by rw [if_pos rfl] at H;exact H
        clear H
        have H:=H1
        clear H1
        obtain rfl:=Option.some.inj H
        go_wp2
        repeat (go_quiet (fail);try go_wp2)
        go_ret
        exact⟨by first|rfl|(simp [errW_none,errW_some] <;> rfl)|(simp [*,errW_none,errW_some] <;> rfl),kB HB.out⟩
       replace c27:=Bool.eq_false_iff.mpr c27
       subst c27
       have H1:(if x7_2 > 0 then (if 0 ≤ (wrap64 (x7_2 - 1)) then (if (wrap64 (x7_2 - 1)) < (l2.length:Int) then (if ((rd_T56 l2 (wrap64 (x7_2 - 1))).f0) ≥ ((rd_T56 l2 x7_2).f0) then (spec_CommonOk.j3 kj10 l0 l1 l2 x7_2 true) else (spec_CommonOk.j3 kj10 l0 l1 l2 x7_2 (decide (((rd_T56 l2 (wrap64 (x7_2 - 1))).f1) ≥ ((rd_T56 l2 x7_2).f1))))) else (none)) else (none)) else (spec_CommonOk.j3 kj10 l0 l1 l2 x7_2 false)) = some r:=by rw [if_neg (show ¬ (false = true) by decide)] at H;exact H
       clear H
       have H:=H1
       clear H1
       have HC28:=mk0 H
       clear H
       go_upto_region 9 with (fail)
       repeat (go_quiet (fail);go_upto_region 9 with (fail))
       go_cut [85] (fun v85 wc=>∃ (kq:Nat) (x85_27:Bool),v85 = .bool x85_27 ∧ Aside0 (spec_CommonOk.j3 kq l0 l1 l2 x7_2 x85_27 = some r) ∧ Aside0 (kq ≤ kj10) ∧ Aside0 (wc.heap[gb166]? = some (.cells #[.int .i64 ((rd_T56 l2 x7_2).f0),.int .i64 ((rd_T56 l2 x7_2).f1)] 56 (0,0))) ∧ Aside0 (Below w.heap.size w wc))
       case first =>
        have H:=HC28.out
        clear HC28
        by_cases c29:x7_2 > 0
        rotate_left
        ·rw [if_neg c29] at H
         have c29b0:decide (0 < x7_2) = false:=decide_eq_false c29
         clear c29
         (first|rw [c29b0]|(simp only [i64_w,i32_w];rw [c29b0])|skip)
         have H':=mk0 H
         clear H
         go_wp2
         repeat (go_quiet (fail);try go_wp2)
         go_meet
         case rel=>exact⟨_,(false),(by first|rfl|(simp;done)|(simp [*];done)),H',⟨by have:=HJ3.out;have:=HK2.out;have:=HJ10.out;first|omega|exact Nat.le_refl _⟩,⟨kN BK166.out⟩,⟨kB HB.out⟩⟩
        rw [if_pos c29] at H
        have c29b0:decide (0 < x7_2) = true:=decide_eq_true c29
        clear c29
        (first|rw [c29b0]|(simp only [i64_w,i32_w];rw [c29b0])|skip)
        obtain⟨ji30,hji30⟩:∃ j_:Int,(wrap64 (x7_2 - 1)) = j_:=⟨_,rfl⟩
        replace H:(if 0 ≤ (ji30) then (if (ji30) < (l2.length:Int) then (if ((rd_T56 l2 (ji30)).f0) ≥ ((rd_T56 l2 x7_2).f0) then (spec_CommonOk.j3 kj10 l0 l1 l2 x7_2 true) else (spec_CommonOk.j3 kj10 l0 l1 l2 x7_2 (decide (((rd_T56 l2 (ji30)).f1) ≥ ((rd_T56 l2 x7_2).f1))))) else (none)) else (none)) = some r:=by first|(rw [hji30] at H;exact H)|(simp only [hji30] at H ⊢;exact H)
        have hji30w:(IntKind.i64.wrap (x7_2 - 1)) = ji30:=(i64_w _).trans hji30
        by_cases c31:0 ≤ (ji30)
        rotate_left
        ·rw [if_neg c31] at H
         exact absurd H (by simp)
        rw [if_pos c31] at H
        have c31b0:decide (0 ≤ (ji30)) = true:=decide_eq_true c31
        clear c31
        by_cases c32:(ji30) < (l2.length:Int)
        rotate_left
        ·rw [if_neg c32] at H
         exact absurd H (by simp)
        rw [if_pos c32] at H
        have c32b0:decide ((ji30) < (l2.length:Int)) = true:=decide_eq_true c32
        clear c32
        by_cases c33:((rd_T56 l2 (ji30)).f0) ≥ ((rd_T56 l2 x7_2).f0)
        ·rw [if_pos c33] at H
         have c33b0:decide (((rd_T56 l2 x7_2).f0) ≤ ((rd_T56 l2 (ji30)).f0)) = true:=decide_eq_true c33
         clear c33
         have H':=mk0 H
         clear H
         have p169:0 ≤ ((ji30):Int):=of_decide_eq_true (by first|(with_reducible assumption)|assumption)
         have q169:(ji30) < (l2.length:Int):=of_decide_eq_true (by first|(with_reducible assumption)|assumption)
         obtain⟨ad169,e169,hx169_0,hx169_1⟩:=at_T56 HR2.out (ji30) p169 q169
         obtain rfl:ad165 = ad169:=(by injection e169)
         replace hx169_0:=(HB.out.cell (World.block_lt_of_cell? w _ hx169_0)).trans hx169_0
         replace hx169_1:=(HB.out.cell (World.block_lt_of_cell? w _ hx169_1)).trans hx169_1
         replace p169:=eq_true p169
         replace q169:=eq_true q169
         obtain⟨hcz34_0,hcz34_1,hfz34_0,hfz34_1⟩:=cz2 BK166.out
         go_wp2
         repeat (go_quiet (fail);try go_wp2)
         go_meet
         case rel=>exact⟨_,(true),(by first|rfl|(simp;done)|(simp [*];done)),H',⟨by have:=HJ3.out;have:=HK2.out;have:=HJ10.out;first|omega|exact Nat.le_refl _⟩,⟨kN BK166.out⟩,⟨kB HB.out⟩⟩
        rw [if_neg c33] at H
        have c33b0:decide (((rd_T56 l2 x7_2).f0) ≤ ((rd_T56 l2 (ji30)).f0)) = false:=decide_eq_false c33
        clear c33
        have H':=mk0 H
        clear H
        have p169:0 ≤ ((ji30):Int):=of_decide_eq_true (by first|(with_reducible assumption)|assumption)
        have q169:(ji30) < (l2.length:Int):=of_decide_eq_true (by first|(with_reducible assumption)|assumption)
        obtain⟨ad169,e169,hx169_0,hx169_1⟩:=at_T56 HR2.out (ji30) p169 q169
        obtain rfl:ad165 = ad169:=(by injection e169)
        replace hx169_0:=(HB.out.cell (World.block_lt_of_cell? w _ hx169_0)).trans hx169_0
        replace hx169_1:=(HB.out.cell (World.block_lt_of_cell? w _ hx169_1)).trans hx169_1
        replace p169:=eq_true p169
        replace q169:=eq_true q169
        obtain⟨hcz35_0,hcz35_1,hfz35_0,hfz35_1⟩:=cz2 BK166.out
        have p170:0 ≤ ((ji30):Int):=of_decide_eq_true (by first|(with_reducible assumption)|assumption)
        have q170:(ji30) < (l2.length:Int):=of_decide_eq_true (by first|(with_reducible assumption)|assumption)
        obtain⟨ad170,e170,hx170_0,hx170_1⟩:=at_T56 HR2.out (ji30) p170 q170
        obtain rfl:ad165 = ad170:=(by injection e170)
        replace hx170_0:=(HB.out.cell (World.block_lt_of_cell? w _ hx170_0)).trans hx170_0
        replace hx170_1:=(HB.out.cell (World.block_lt_of_cell? w _ hx170_1)).trans hx170_1
        replace p170:=eq_true p170
        replace q170:=eq_true q170
        go_wp2
        repeat (go_quiet (fail);try go_wp2)
        go_meet
        case rel=>exact⟨_,(decide (((rd_T56 l2 (ji30)).f1) ≥ ((rd_T56 l2 x7_2).f1))),(by first|rfl|(simp;done)|(simp only [← hji30] <;> (first|rfl|simp))|(simp [*];done)),H',⟨by have:=HJ3.out;have:=HK2.out;have:=HJ10.out;first|omega|exact Nat.le_refl _⟩,⟨kN BK166.out⟩,⟨kB HB.out⟩⟩
       case rest =>
        clear HC28
        try clear c1
        try clear p1
        try clear q1
        try clear hx1
        try clear c2
        try clear p2
        try clear c3
        try clear c4
        try clear c6
        try clear p6
        try clear c8
        try clear c9
        try clear c9b0
        try clear c10
        try clear c10b0
        try clear c14
        try clear c14b0
        try clear c16
        try clear c16b0
        try clear p16
        try clear q16
        try clear hx16
        try clear p17
        try clear q17
        try clear hx17
        try clear c18
        try clear c18b0
        try clear c20
        try clear c20b0
        try clear c22
        try clear c22b0
        try clear c23
        try clear c23b0
        try clear c24
        try clear c24b0
        try clear c25
        try clear c25b0
        try clear c27
        try clear c29
        try clear c29b0
        try clear c31
        try clear c31b0
        try clear c32
        try clear c32b0
        try clear c33
        try clear c33b0
        try clear hcz13_0
        try clear hcz13_1
        try clear hcz15_0
        try clear hcz15_1
        try clear hcz17_0
        try clear hcz17_1
        try clear hcz19_0
        try clear hcz19_1
        try clear hcz21_0
        try clear hcz21_1
        try clear hcz26_0
        try clear hcz26_1
        try clear hcz34_0
        try clear hcz34_1
        try clear hcz35_0
        try clear hcz35_1
        try clear hfz13_0
        try clear hfz13_1
        try clear hfz15_0
        try clear hfz15_1
        try clear hfz17_0
        try clear hfz17_1
        try clear hfz19_0
        try clear hfz19_1
        try clear hfz21_0
        try clear hfz21_1
        try clear hfz26_0
        try clear hfz26_1
        try clear hfz34_0
        try clear hfz34_1
        try clear hfz35_0
        try clear hfz35_1
        try clear hx165_0
        try clear hx165_1
        try clear hx167_0
        try clear hx168_0
        try clear hx169_0
        try clear hx169_1
        try clear hx170_0
        try clear hx170_1
        try clear p1
        try clear p16
        try clear p165
        try clear p167
        try clear p168
        try clear p169
        try clear p170
        try clear p2
        try clear q1
        try clear q16
        try clear q165
        try clear q167
        try clear q168
        try clear q169
        try clear q170
        obtain⟨kq,x85_27,rfl,HA,HJ27,BK166,HB⟩:=hcut
        cases kq with
        | zero=>exact absurd HA.out (by simp [spec_CommonOk.j3])
        | succ kj27 =>
         have H:=HA.out
         clear HA
         simp only [spec_CommonOk.j3] at H
         by_cases c36:x85_27 = true
         ·subst c36
          have H1:(some false) = some r:=by rw [if_pos rfl] at H;exact H
          clear H
          have H:=H1
          clear H1
          obtain rfl:=Option.some.inj H
          go_wp2
          repeat (go_quiet (fail);try go_wp2)
          go_ret
          exact⟨by first|rfl|(simp [errW_none,errW_some] <;> rfl)|(simp [*,errW_none,errW_some] <;> rfl),kB HB.out⟩
         replace c36:=Bool.eq_false_iff.mpr c36
         subst c36
         have H1:(spec_CommonOk.l0 kj27 l0 l1 l2 (wrap64 (x7_2 + 1))) = some r:=by rw [if_neg (show ¬ (false = true) by decide)] at H;exact H
         clear H
         have H:=H1
         clear H1
         have H':=mk0 H
         clear H
         go_wp2
         repeat (go_quiet (fail);try go_wp2)
         go_roundg kj27
         case measure=>have:=HJ3.out;have:=HK2.out;have:=HJ10.out;have:=HJ27.out;omega
         case rel=>exact⟨(wrap64 (x7_2 + 1)),(by first|rfl|(simp;done)|(simp [*];done)),H',⟨by have:=HJ3.out;have:=HK2.out;have:=HJ10.out;have:=HJ27.out;omega⟩,⟨kB HB.out⟩⟩
/-! ### spec_ShareOk: function 21 -/
def spec_ShareOk.f (k : Nat) (l0 : List Int) (l1 : List Int) (l2 : List (S56)) : Option (Bool) := (spec_TextOk.f l0).bind fun t171 => (if t171 = true then ((spec_TextOk.f l1).bind fun t172 => (if t172 = true then ((spec_BwtOf.f k l0).bind fun t173 => ((spec_BwtOf.f k l1).bind fun t176 => ((spec_CommonOk.f k t173 t176 l2).bind fun t179 => (some t179)))) else (some false))) else (some false))
theorem spec_ShareOk.mono : ∀ a0 a1 a2 k, LeO (spec_ShareOk.f k a0 a1 a2) (spec_ShareOk.f (k + 1) a0 a1 a2) := by
 intro a0 a1 a2 k
 unfold spec_ShareOk.f
 repeat' first|(with_reducible first|exact spec_BwtOf.mono _ _|exact spec_CommonOk.mono _ _ _ _|exact LeO.refl _|exact LeO.none _|refine LeO.ite ?_ ?_|refine LeO.bind ?_ (fun _ => ?_))|exact LeO.none _|refine LeO.ite ?_ ?_|refine LeO.bind ?_ (fun _ => ?_)
set_option maxHeartbeats 8000000 in
set_option maxRecDepth 100000 in
theorem spec_ShareOk.calls (k : Nat) (A0 : Option Addr) (c0 : Nat) (l0 : List Int) (A1 : Option Addr) (c1 : Nat) (l1 : List Int) (A2 : Option Addr) (c2 : Nat) (l2 : List (S56)) (r : Bool) (w : World) (hr0 : Kd.C (Kd.int .u8) w A0 l0.length l0) (hc0 : l0.length ≤ c0) (hr1 : Kd.C (Kd.int .u8) w A1 l1.length l1) (hc1 : l1.length ≤ c1) (hr2 : Kd.C k56 w A2 l2.length l2) (hc2 : l2.length ≤ c2) (h : spec_ShareOk.f k l0 l1 l2 = some r) :
  Calls Try.prog 21 #[.slice A0 l0.length c0, .slice A1 l1.length c1, .slice A2 l2.length c2] w fun e w' => e = .returned (.bool r) ∧ Below w.heap.size w w' := by
 have HR0:=mk0 hr0
 have HC0:=mk0 hc0
 clear hr0 hc0
 have HR1:=mk0 hr1
 have HC1:=mk0 hc1
 clear hr1 hc1
 have HR2:=mk0 hr2
 have HC2:=mk0 hc2
 clear hr2 hc2
 have HB:=mk0 (Below.refl w.heap.size w)
 have H:((spec_TextOk.f l0).bind fun t171=>(if t171 = true then ((spec_TextOk.f l1).bind fun t172=>(if t172 = true then ((spec_BwtOf.f k l0).bind fun t173=>((spec_BwtOf.f k l1).bind fun t176=>((spec_CommonOk.f k t173 t176 l2).bind fun t179=>(some t179)))) else (some false))) else (some false))) = some r:=h
 clear h
 replace H:=Option.bind_eq_some_iff.mp H
 obtain⟨t171,A40,H⟩:=H
 replace H:(if t171 = true then ((spec_TextOk.f l1).bind fun t172=>(if t172 = true then ((spec_BwtOf.f k l0).bind fun t173=>((spec_BwtOf.f k l1).bind fun t176=>((spec_CommonOk.f k t173 t176 l2).bind fun t179=>(some t179)))) else (some false))) else (some false)) = some r:=H
 have A4:=mk0 A40
 clear A40
 by_cases c5:t171 = true
 ·subst c5
  have H1:((spec_TextOk.f l1).bind fun t172=>(if t172 = true then ((spec_BwtOf.f k l0).bind fun t173=>((spec_BwtOf.f k l1).bind fun t176=>((spec_CommonOk.f k t173 t176 l2).bind fun t179=>(some t179)))) else (some false))) = some r:=by rw [if_pos rfl] at H;exact H
  clear H
  have H:=H1
  clear H1
  replace H:=Option.bind_eq_some_iff.mp H
  obtain⟨t172,A60,H⟩:=H
  replace H:(if t172 = true then ((spec_BwtOf.f k l0).bind fun t173=>((spec_BwtOf.f k l1).bind fun t176=>((spec_CommonOk.f k t173 t176 l2).bind fun t179=>(some t179)))) else (some false)) = some r:=H
  have A6:=mk0 A60
  clear A60
  by_cases c7:t172 = true
  ·subst c7
   have H1:((spec_BwtOf.f k l0).bind fun t173=>((spec_BwtOf.f k l1).bind fun t176=>((spec_CommonOk.f k t173 t176 l2).bind fun t179=>(some t179)))) = some r:=by rw [if_pos rfl] at H;exact H
   clear H
   have H:=H1
   clear H1
   replace H:=Option.bind_eq_some_iff.mp H
   obtain⟨t173,A80,H⟩:=H
   replace H:((spec_BwtOf.f k l1).bind fun t176=>((spec_CommonOk.f k t173 t176 l2).bind fun t179=>(some t179))) = some r:=H
   have A8:=mk0 A80
   clear A80
   replace H:=Option.bind_eq_some_iff.mp H
   obtain⟨t176,A90,H⟩:=H
   replace H:((spec_CommonOk.f k t173 t176 l2).bind fun t179=>(some t179)) = some r:=H
   have A9:=mk0 A90
   clear A90
   replace H:=Option.bind_eq_some_iff.mp H
   obtain⟨t179,A100,H⟩:=H
   replace H:(some t179) = some r:=H
   have A10:=mk0 A100
   clear A100
   obtain rfl:=Option.some.inj H
   go_enter Try.func21,Try.ntmps21
   go_wp2_with (first|((with_reducible refine gate_callee (f:=48) rfl ?_);refine goesL_ (some 8) rfl rfl Try.func48 (by kernel_rfl) rfl #[.slice A0 l0.length c0] rfl (by (try simp only [mA,mC,mN]);first|done|rfl|(simp only [List.length_drop,List.length_take];done)|(simp only [List.length_drop,List.length_take];rfl)) ?_;(with_reducible refine (spec_TextOk.calls _ _ l0 true _ ?side1 ?side2 A4.out).mono ?_);(case side1=>repeat (first|exact HR0.out|(with_reducible first|apply aC|apply nC|apply dC)));(case side2=>exact HC0.out);rintro e w' ⟨rfl,⟨nd,rfl⟩⟩;refine⟨_,rfl,?_⟩)|(go_at_call 48;(with_reducible refine (spec_TextOk.calls _ _ l1 true _ ?side1 ?side2 A6.out).mono ?_);(case side1=>repeat (first|exact HR1.out|(with_reducible first|apply aC|apply nC|apply dC)));(case side2=>exact HC1.out);rintro e w' ⟨rfl,⟨nd,rfl⟩⟩)|(go_at_call 37;(with_reducible refine (spec_BwtOf.calls k _ _ l0 t173 _ ?side1 ?side2 A8.out).mono ?_);(case side1=>repeat (first|exact HR0.out|(with_reducible first|apply aC|apply nC|apply dC)));(case side2=>exact HC0.out);rintro e w11 ⟨v174,rfl,ho0,hb⟩;have HO175:=mk0 (Kd.R_lower ho0 (kZ HB.out));replace HB:=mk0 (kS HB.out hb);(try clear hb);(try clear ho0))|(go_at_call 37;(with_reducible refine (spec_BwtOf.calls k _ _ l1 t176 _ ?side1 ?side2 A9.out).mono ?_);(case side1=>exact kC (Kd.C_below HR1.out HB.out));(case side2=>exact HC1.out);rintro e w12 ⟨v177,rfl,ho0,hb⟩;have HO178:=mk0 (Kd.R_lower (Kd.R_new' ho0 (Kd.R_lt (rR HO175.out))) (kZ HB.out));replace HO175:=mk0 (Kd.R_elder' (rR HO175.out) (Kd.R_base ho0) hb);replace HB:=mk0 (kS HB.out hb);(try clear hb);(try clear ho0);obtain⟨Ao13,co13,eo13⟩:=Kd.R_slice HO175.out;subst eo13;obtain⟨Ao14,co14,eo14⟩:=Kd.R_slice HO178.out;subst eo14)|(go_at_call 49;(with_reducible refine (spec_CommonOk.calls k _ _ t173 _ _ t176 _ _ l2 t179 _ ?side1 ?side2 ?side3 ?side4 ?side5 ?side6 A10.out).mono ?_);(case side1=>exact kC (Kd.R_reads' HO175.out).2.2);(case side2=>exact (Kd.R_reads' HO175.out).2.1);(case side3=>exact kC (Kd.R_reads' HO178.out).2.2);(case side4=>exact (Kd.R_reads' HO178.out).2.1);(case side5=>exact kC (Kd.C_below HR2.out HB.out));(case side6=>exact HC2.out);rintro e w15 ⟨rfl,hb⟩;replace HO175:=mk0 (bR HO175.out hb);replace HO178:=mk0 (bR HO178.out hb);replace HB:=mk0 (kS HB.out hb);(try clear hb)))
   go_ret
   exact⟨by first|rfl|(simp [errW_none,errW_some] <;> rfl)|(simp [*,errW_none,errW_some] <;> rfl),kB HB.out⟩
  ·replace c7:=Bool.eq_false_iff.mpr c7
   subst c7
   have H1:(some false) = some r:=by rw [if_neg (show ¬ (false = true) by decide)] at H;exact H
   clear H
   have H:=H1
   clear H1
   obtain rfl:=Option.some.inj H
   go_enter Try.func21,Try.ntmps21
   go_wp2_with (first|((with_reducible refine gate_callee (f:=48) rfl ?_);refine goesL_ (some 8) rfl rfl Try.func48 (by kernel_rfl) rfl #[.slice A0 l0.length c0] rfl (by (try simp only [mA,mC,mN]);first|done|rfl|(simp only [List.length_drop,List.length_take];done)|(simp only [List.length_drop,List.length_take];rfl)) ?_;(with_reducible refine (spec_TextOk.calls _ _ l0 true _ ?side1 ?side2 A4.out).mono ?_);(case side1=>repeat (first|exact HR0.out|(with_reducible first|apply aC|apply nC|apply dC)));(case side2=>exact HC0.out);rintro e w' ⟨rfl,⟨nd,rfl⟩⟩;refine⟨_,rfl,?_⟩)|(go_at_call 48;(with_reducible refine (spec_TextOk.calls _ _ l1 false _ ?side1 ?side2 A6.out).mono ?_);(case side1=>repeat (first|exact HR1.out|(with_reducible first|apply aC|apply nC|apply dC)));(case side2=>exact HC1.out);rintro e w' ⟨rfl,⟨nd,rfl⟩⟩))
   go_ret
   exact⟨by first|rfl|(simp [errW_none,errW_some] <;> rfl)|(simp [*,errW_none,errW_some] <;> rfl),kB HB.out⟩
 ·replace c5:=Bool.eq_false_iff.mpr c5
  subst c5
  have H1:(some false) = some r:=by rw [if_neg (show ¬ (false = true) by decide)] at H;exact H
  clear H
  have H:=H1
  clear H1
  obtain rfl:=Option.some.inj H
  go_enter Try.func21,Try.ntmps21
  go_wp2_with (first|((with_reducible refine gate_callee (f:=48) rfl ?_);refine goesL_ (some 8) rfl rfl Try.func48 (by kernel_rfl) rfl #[.slice A0 l0.length c0] rfl (by (try simp only [mA,mC,mN]);first|done|rfl|(simp only [List.length_drop,List.length_take];done)|(simp only [List.length_drop,List.length_take];rfl)) ?_;(with_reducible refine (spec_TextOk.calls _ _ l0 false _ ?side1 ?side2 A4.out).mono ?_);(case side1=>repeat (first|exact HR0.out|(with_reducible first|apply aC|apply nC|apply dC)));(case side2=>exact HC0.out);rintro e w' ⟨rfl,⟨nd,rfl⟩⟩;refine⟨_,rfl,?_⟩))
  go_ret
  exact⟨by first|rfl|(simp [errW_none,errW_some] <;> rfl)|(simp [*,errW_none,errW_some] <;> rfl),kB HB.out⟩

/-! ### impl_TextOk: function 60 -/
def impl_TextOk.f (l0 : List Int) : Option (Bool) := some (decide ((l0.length : Int) ≤ 300))
set_option maxHeartbeats 8000000 in
set_option maxRecDepth 100000 in
theorem impl_TextOk.calls (A0 : Option Addr) (c0 : Nat) (l0 : List Int) (r : Bool) (w : World) (hr0 : Kd.C (Kd.int .u8) w A0 l0.length l0) (hc0 : l0.length ≤ c0) (h : impl_TextOk.f l0 = some r) :
  Calls Try.prog 60 #[.slice A0 l0.length c0] w fun e w' => e = .returned (.bool r) ∧ Drawn0 w w' := by
 have HR0:=mk0 hr0
 have HC0:=mk0 hc0
 clear hr0 hc0
 have H:(some (decide ((l0.length:Int) ≤ 300))) = some r:=h
 clear h
 obtain rfl:=Option.some.inj H
 go_enter Try.func60,Try.ntmps60
 go_wp2
 go_ret
 exact⟨by first|rfl|(simp;done)|(simp [*];done),by repeat (first|exact Drawn0.refl _|apply Drawn0.step)⟩

/-! ### impl_within: function 61 -/
def impl_within.f (a0 : Int) (a1 : Int) (a2 : Int) : Option (Bool) := if a1 ≤ a0 then (some (decide (a0 ≤ a2))) else (some false)
set_option maxHeartbeats 8000000 in
set_option maxRecDepth 100000 in
theorem impl_within.calls (a0 : Int) (a1 : Int) (a2 : Int) (r : Bool) (w : World) (h : impl_within.f a0 a1 a2 = some r) :
  Calls Try.prog 61 #[.int .i64 a0, .int .i64 a1, .int .i64 a2] w fun e w' => e = .returned (.bool r) ∧ Drawn0 w w' := by
 have H:(if a1 ≤ a0 then (some (decide (a0 ≤ a2))) else (some false)) = some r:=h
 clear h
 by_cases c4:a1 ≤ a0
 ·rw [if_pos c4] at H
  have c4b0:decide (a1 ≤ a0) = true:=decide_eq_true c4
  clear c4
  obtain rfl:=Option.some.inj H
  go_enter Try.func61,Try.ntmps61
  go_wp2
  go_ret
  exact⟨by first|rfl|(simp;done)|(simp [*];done),by repeat (first|exact Drawn0.refl _|apply Drawn0.step)⟩
 ·rw [if_neg c4] at H
  have c4b0:decide (a1 ≤ a0) = false:=decide_eq_false c4
  clear c4
  obtain rfl:=Option.some.inj H
  go_enter Try.func61,Try.ntmps61
  go_wp2
  go_ret
  exact⟨by first|rfl|(simp;done)|(simp [*];done),by repeat (first|exact Drawn0.refl _|apply Drawn0.step)⟩

/-! ### impl_isShared: function 38 -/
def impl_isShared.f (l0 : List Int) (l1 : List Int) (a2 : Int) : Option (Bool) := (impl_TextOk.f l0).bind fun t180 => (if t180 = true then ((impl_TextOk.f l1).bind fun t181 => (if t181 = true then ((impl_within.f a2 0 8).bind fun t182 => (some t182)) else (some false))) else (some false))
set_option maxHeartbeats 8000000 in
set_option maxRecDepth 100000 in
theorem impl_isShared.calls (A0 : Option Addr) (c0 : Nat) (l0 : List Int) (A1 : Option Addr) (c1 : Nat) (l1 : List Int) (a2 : Int) (r : Bool) (w : World) (hr0 : Kd.C (Kd.int .u8) w A0 l0.length l0) (hc0 : l0.length ≤ c0) (hr1 : Kd.C (Kd.int .u8) w A1 l1.length l1) (hc1 : l1.length ≤ c1) (h : impl_isShared.f l0 l1 a2 = some r) :
  Calls Try.prog 38 #[.slice A0 l0.length c0, .slice A1 l1.length c1, .int .i64 a2] w fun e w' => e = .returned (.bool r) ∧ Drawn0 w w' := by
 have HR0:=mk0 hr0
 have HC0:=mk0 hc0
 clear hr0 hc0
 have HR1:=mk0 hr1
 have HC1:=mk0 hc1
 clear hr1 hc1
 have H:((impl_TextOk.f l0).bind fun t180=>(if t180 = true then ((impl_TextOk.f l1).bind fun t181=>(if t181 = true then ((impl_within.f a2 0 8).bind fun t182=>(some t182)) else (some false))) else (some false))) = some r:=h
 clear h
 replace H:=Option.bind_eq_some_iff.mp H
 obtain⟨t180,A40,H⟩:=H
 replace H:(if t180 = true then ((impl_TextOk.f l1).bind fun t181=>(if t181 = true then ((impl_within.f a2 0 8).bind fun t182=>(some t182)) else (some false))) else (some false)) = some r:=H
 have A4:=mk0 A40
 clear A40
 by_cases c5:t180 = true
 ·subst c5
  have H1:((impl_TextOk.f l1).bind fun t181=>(if t181 = true then ((impl_within.f a2 0 8).bind fun t182=>(some t182)) else (some false))) = some r:=by rw [if_pos rfl] at H;exact H
  clear H
  have H:=H1
  clear H1
  replace H:=Option.bind_eq_some_iff.mp H
  obtain⟨t181,A60,H⟩:=H
  replace H:(if t181 = true then ((impl_within.f a2 0 8).bind fun t182=>(some t182)) else (some false)) = some r:=H
  have A6:=mk0 A60
  clear A60
  by_cases c7:t181 = true
  ·subst c7
   have H1:((impl_within.f a2 0 8).bind fun t182=>(some t182)) = some r:=by rw [if_pos rfl] at H;exact H
   clear H
   have H:=H1
   clear H1
   replace H:=Option.bind_eq_some_iff.mp H
   obtain⟨t182,A80,H⟩:=H
   replace H:(some t182) = some r:=H
   have A8:=mk0 A80
   clear A80
   obtain rfl:=Option.some.inj H
   go_enter Try.func38,Try.ntmps38
   go_wp2_with (first|((with_reducible refine gate_callee (f:=60) rfl ?_);refine goesL_ (some 8) rfl rfl Try.func60 (by kernel_rfl) rfl #[.slice A0 l0.length c0] rfl (by (try simp only [mA,mC,mN]);first|done|rfl|(simp only [List.length_drop,List.length_take];done)|(simp only [List.length_drop,List.length_take];rfl)) ?_;(with_reducible refine (impl_TextOk.calls _ _ l0 true _ ?side1 ?side2 A4.out).mono ?_);(case side1=>repeat (first|exact HR0.out|(with_reducible first|apply aC|apply nC|apply dC)));(case side2=>exact HC0.out);rintro e w' ⟨rfl,⟨nd,rfl⟩⟩;refine⟨_,rfl,?_⟩)|(go_at_call 60;(with_reducible refine (impl_TextOk.calls _ _ l1 true _ ?side1 ?side2 A6.out).mono ?_);(case side1=>repeat (first|exact HR1.out|(with_reducible first|apply aC|apply nC|apply dC)));(case side2=>exact HC1.out);rintro e w' ⟨rfl,⟨nd,rfl⟩⟩)|(go_at_call 61;(with_reducible refine (impl_within.calls a2 0 8 t182 _ A8.out).mono ?_);rintro e w' ⟨rfl,⟨nd,rfl⟩⟩))
   go_ret
   exact⟨by first|rfl|(simp;done)|(simp [*];done),by repeat (first|exact Drawn0.refl _|apply Drawn0.step)⟩
  ·replace c7:=Bool.eq_false_iff.mpr c7
   subst c7
   have H1:(some false) = some r:=by rw [if_neg (show ¬ (false = true) by decide)] at H;exact H
   clear H
   have H:=H1
   clear H1
   obtain rfl:=Option.some.inj H
   go_enter Try.func38,Try.ntmps38
   go_wp2_with (first|((with_reducible refine gate_callee (f:=60) rfl ?_);refine goesL_ (some 8) rfl rfl Try.func60 (by kernel_rfl) rfl #[.slice A0 l0.length c0] rfl (by (try simp only [mA,mC,mN]);first|done|rfl|(simp only [List.length_drop,List.length_take];done)|(simp only [List.length_drop,List.length_take];rfl)) ?_;(with_reducible refine (impl_TextOk.calls _ _ l0 true _ ?side1 ?side2 A4.out).mono ?_);(case side1=>repeat (first|exact HR0.out|(with_reducible first|apply aC|apply nC|apply dC)));(case side2=>exact HC0.out);rintro e w' ⟨rfl,⟨nd,rfl⟩⟩;refine⟨_,rfl,?_⟩)|(go_at_call 60;(with_reducible refine (impl_TextOk.calls _ _ l1 false _ ?side1 ?side2 A6.out).mono ?_);(case side1=>repeat (first|exact HR1.out|(with_reducible first|apply aC|apply nC|apply dC)));(case side2=>exact HC1.out);rintro e w' ⟨rfl,⟨nd,rfl⟩⟩))
   go_ret
   exact⟨by first|rfl|(simp;done)|(simp [*];done),by repeat (first|exact Drawn0.refl _|apply Drawn0.step)⟩
 ·replace c5:=Bool.eq_false_iff.mpr c5
  subst c5
  have H1:(some false) = some r:=by rw [if_neg (show ¬ (false = true) by decide)] at H;exact H
  clear H
  have H:=H1
  clear H1
  obtain rfl:=Option.some.inj H
  go_enter Try.func38,Try.ntmps38
  go_wp2_with (first|((with_reducible refine gate_callee (f:=60) rfl ?_);refine goesL_ (some 8) rfl rfl Try.func60 (by kernel_rfl) rfl #[.slice A0 l0.length c0] rfl (by (try simp only [mA,mC,mN]);first|done|rfl|(simp only [List.length_drop,List.length_take];done)|(simp only [List.length_drop,List.length_take];rfl)) ?_;(with_reducible refine (impl_TextOk.calls _ _ l0 false _ ?side1 ?side2 A4.out).mono ?_);(case side1=>repeat (first|exact HR0.out|(with_reducible first|apply aC|apply nC|apply dC)));(case side2=>exact HC0.out);rintro e w' ⟨rfl,⟨nd,rfl⟩⟩;refine⟨_,rfl,?_⟩))
  go_ret
  exact⟨by first|rfl|(simp;done)|(simp [*];done),by repeat (first|exact Drawn0.refl _|apply Drawn0.step)⟩

-- NOT PRINTED: function 96 (slices_insertionSortCmpFunc_int)

-- NOT PRINTED: function 115 (slices_siftDownCmpFunc_int)

-- NOT PRINTED: function 97 (slices_heapSortCmpFunc_int)

-- NOT PRINTED: function 104 (bits_Len32)

-- NOT PRINTED: function 105 (bits_Len64)

-- NOT PRINTED: function 89 (bits_Len)

-- NOT PRINTED: function 116 (slices_nextPowerOfTwo)

-- NOT PRINTED: function 117 (slices_xorshift_Next)

-- NOT PRINTED: function 98 (slices_breakPatternsCmpFunc_int)

-- NOT PRINTED: function 123 (slices_order2CmpFunc_int)

-- NOT PRINTED: function 119 (slices_medianCmpFunc_int)

-- NOT PRINTED: function 118 (slices_medianAdjacentCmpFunc_int)

-- NOT PRINTED: function 99 (slices_choosePivotCmpFunc_int)

-- NOT PRINTED: function 100 (slices_reverseRangeCmpFunc_int)

-- NOT PRINTED: function 101 (slices_partialInsertionSortCmpFunc_int)

-- NOT PRINTED: function 102 (slices_partitionEqualCmpFunc_int)

-- NOT PRINTED: function 103 (slices_partitionCmpFunc_int)

-- NOT PRINTED: function 88 (slices_pdqsortCmpFunc_int)

-- NOT PRINTED: function 78 (slices_SortFunc_int_int)


/-! ### slices_SortFunc_79: slices.SortFunc at the literal 79, which compares suffixes of what it captures -/
def slices_SortFunc_79.f (l0 : List Int) (l1 : List Int) : Option (List Int) := if (l1.all Fv.isB && l0.all (fun x => decide (0 ≤ x ∧ x ≤ (l1.length : Int))) && decide (l0.length < 4611686018427387904)) = true then some (l0.mergeSort (Fv.sufLe l1)) else none
theorem slices_SortFunc_79.calls {g : Nat} (P0_ : Nat → Prop) (u9000_ : Value) (l0 : List Int) (A1 : Option Addr) (c1 : Nat) (l1 : List Int) (r : List Int) (w0 w : World) (hB : Below w0.heap.size w0 w) (ho0 : Kd.R (Kd.int .i64) 3 w w0.heap.size P0_ u9000_ l0)
    (hr1 : ∀ W', Kept w W' (fun k_ => P0_ k_) → Kd.C (Kd.int .u8) W' A1 l1.length l1) (hc1 : l1.length ≤ c1) (hb : w.heap[g]? = some (.cells #[.slice A1 l1.length c1] 22 (0, 0))) (h : slices_SortFunc_79.f l0 l1 = some r) :
    Calls Try.prog 78 #[u9000_, .func (.func 79) #[] #[.pointer (some ⟨g, 0, none⟩)]] w fun e w' => e = .returned (.tuple #[]) ∧ Kd.R (Kd.int .i64) 3 w' w0.heap.size (fun k_ => (P0_ k_ ∨ w.heap.size ≤ k_)) u9000_ r ∧ Below w0.heap.size w0 w' ∧ Kept w w' (fun k_ => P0_ k_) := by
  unfold slices_SortFunc_79.f at h
  split at h
  · rename_i hc
    obtain rfl := Option.some.inj h
    simp only [Bool.and_eq_true, List.all_eq_true, decide_eq_true_eq, Fv.isB] at hc
    exact Fv.sortSuf P0_ u9000_ l0 A1 c1 l1 w0 w hB ho0 hr1 hc1 hb hc.1.1 hc.1.2 hc.2
  · exact absurd h (by simp)

end Go.Proofs.Ytadhngelhognaaa.QFnExactShareOk
