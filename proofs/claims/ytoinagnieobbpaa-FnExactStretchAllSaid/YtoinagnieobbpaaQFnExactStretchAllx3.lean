-- A walk, made by walk.py, a program of this session's.
import Derived.Test.YtoinagnieobbpaaQFnExactStretchAllx0
import Derived.Test.YtoinagnieobbpaaQFnExactStretchAllx1
import Derived.Test.YtoinagnieobbpaaQFnExactStretchAllx2
namespace Go.Proofs.Ytoinagnieobbpaa.QFnExactStretchAll
open Go.RowKit Go.Proofs.YtoinagnieobbpaaW.PrintWords Go.Proofs.YtoinagnieobbpaaW.PrintLast Go.Proofs.YtoinagnieobbpaaW.PrintMore
attribute [local go_sem] max2_int min2_int max_two min_two max_three min_three max_four min_four   -- for this text's walks alone
set_option linter.unusedVariables false
set_option linter.unusedSimpArgs false

/-! ### spec_l11All: function 52 -/
mutual
def spec_l11All.l0 : Nat → List Int → List (S27) → Int → Option ((List (S27)))
 | 0, _, _, _ => none
 | k + 1, x0, x3, x4 => if x4 < (x0.length : Int) then (spec_l11All.l1 k x0 x3 x4 (([] : List (S27))) 301 (wrap64 (x4 + 2))) else (some x3)
def spec_l11All.l1 : Nat → List Int → List (S27) → Int → List (S27) → Int → Int → Option ((List (S27)))
 | 0, _, _, _, _, _, _ => none
 | k + 1, x0, x3, x4, x5, x6, x7 => if x7 ≤ (x0.length : Int) then (if 0 ≤ (wrap64 (x7 - 1)) then (if (wrap64 (x7 - 1)) < (x0.length : Int) then (spec_l11All.j2 k x0 x3 x4 x5 x6 x7 (decide ((rd x0 (wrap64 (x7 - 1))) ≥ 0))) else (none)) else (none)) else (spec_l11All.j2 k x0 x3 x4 x5 x6 x7 false)
def spec_l11All.j2 : Nat → List Int → List (S27) → Int → List (S27) → Int → Int → Bool → Option ((List (S27)))
 | 0, _, _, _, _, _, _, _ => none
 | k + 1, x0, x3, x4, x5, x6, x7, x30 => if x30 = true then (if 0 ≤ (wrap64 (x7 - 1)) then (if (wrap64 (x7 - 1)) < (x0.length : Int) then (if x4 > 0 then (if 0 ≤ x4 then (if x4 < (x0.length : Int) then (spec_l11All.j3 k x0 x3 x4 x5 (mn x6 (rd x0 (wrap64 (x7 - 1)))) x7 (decide ((rd x0 x4) ≥ (mn x6 (rd x0 (wrap64 (x7 - 1))))))) else (none)) else (none)) else (spec_l11All.j3 k x0 x3 x4 x5 (mn x6 (rd x0 (wrap64 (x7 - 1)))) x7 false)) else (none)) else (none)) else (if x3.length + x5.length < 5864062014805 then (spec_l11All.l0 k x0 (x3 ++ x5) (wrap64 (x4 + 1))) else (none))
def spec_l11All.j3 : Nat → List Int → List (S27) → Int → List (S27) → Int → Int → Bool → Option ((List (S27)))
 | 0, _, _, _, _, _, _, _ => none
 | k + 1, x0, x3, x4, x5, x6, x7, x49 => if x49 = true then (if x3.length + x5.length < 5864062014805 then (spec_l11All.l0 k x0 (x3 ++ x5) (wrap64 (x4 + 1))) else (none)) else (if x7 = (x0.length : Int) then ((some (([(⟨x4, x7, x6⟩ : S27)] : List (S27)) : List (S27))).bind fun y180 => (if y180.length + x5.length < 5864062014805 then (spec_l11All.l1 k x0 x3 x4 (y180 ++ x5) x6 (wrap64 (x7 + 1))) else (none))) else (if 0 ≤ x7 then (if x7 < (x0.length : Int) then (if (rd x0 x7) < x6 then ((some (([(⟨x4, x7, x6⟩ : S27)] : List (S27)) : List (S27))).bind fun y186 => (if y186.length + x5.length < 5864062014805 then (spec_l11All.l1 k x0 x3 x4 (y186 ++ x5) x6 (wrap64 (x7 + 1))) else (none))) else (spec_l11All.l1 k x0 x3 x4 x5 x6 (wrap64 (x7 + 1)))) else (none)) else (none)))
end
def spec_l11All.f (k : Nat) (l0 : List Int) : Option ((List (S27))) := spec_l11All.l0 k l0 (([] : List (S27))) 0
theorem spec_l11All.mono_l : ∀ k, (∀ y0 y1 y2, LeO (spec_l11All.l0 k y0 y1 y2) (spec_l11All.l0 (k + 1) y0 y1 y2)) ∧ (∀ y0 y1 y2 y3 y4 y5, LeO (spec_l11All.l1 k y0 y1 y2 y3 y4 y5) (spec_l11All.l1 (k + 1) y0 y1 y2 y3 y4 y5)) ∧ (∀ y0 y1 y2 y3 y4 y5 y6, LeO (spec_l11All.j2 k y0 y1 y2 y3 y4 y5 y6) (spec_l11All.j2 (k + 1) y0 y1 y2 y3 y4 y5 y6)) ∧ (∀ y0 y1 y2 y3 y4 y5 y6, LeO (spec_l11All.j3 k y0 y1 y2 y3 y4 y5 y6) (spec_l11All.j3 (k + 1) y0 y1 y2 y3 y4 y5 y6))
 | 0 => ⟨fun _ _ _ r h => by simp [spec_l11All.l0] at h, fun _ _ _ _ _ _ r h => by simp [spec_l11All.l1] at h, fun _ _ _ _ _ _ _ r h => by simp [spec_l11All.j2] at h, fun _ _ _ _ _ _ _ r h => by simp [spec_l11All.j3] at h⟩
 | k + 1 => by
  obtain ⟨ih0, ih1, ih2, ih3⟩ := spec_l11All.mono_l k
  refine ⟨?_, ?_, ?_, ?_⟩
  ·intro y0 y1 y2
   unfold spec_l11All.l0
   repeat' first|(with_reducible first|exact ih0 _ _ _|exact ih1 _ _ _ _ _ _|exact ih2 _ _ _ _ _ _ _|exact ih3 _ _ _ _ _ _ _|exact LeO.refl _|exact LeO.none _|refine LeO.ite ?_ ?_|refine LeO.bind ?_ (fun _ => ?_))|exact LeO.none _|refine LeO.ite ?_ ?_|refine LeO.bind ?_ (fun _ => ?_)
  ·intro y0 y1 y2 y3 y4 y5
   unfold spec_l11All.l1
   repeat' first|(with_reducible first|exact ih0 _ _ _|exact ih1 _ _ _ _ _ _|exact ih2 _ _ _ _ _ _ _|exact ih3 _ _ _ _ _ _ _|exact LeO.refl _|exact LeO.none _|refine LeO.ite ?_ ?_|refine LeO.bind ?_ (fun _ => ?_))|exact LeO.none _|refine LeO.ite ?_ ?_|refine LeO.bind ?_ (fun _ => ?_)
  ·intro y0 y1 y2 y3 y4 y5 y6
   unfold spec_l11All.j2
   repeat' first|(with_reducible first|exact ih0 _ _ _|exact ih1 _ _ _ _ _ _|exact ih2 _ _ _ _ _ _ _|exact ih3 _ _ _ _ _ _ _|exact LeO.refl _|exact LeO.none _|refine LeO.ite ?_ ?_|refine LeO.bind ?_ (fun _ => ?_))|exact LeO.none _|refine LeO.ite ?_ ?_|refine LeO.bind ?_ (fun _ => ?_)
  ·intro y0 y1 y2 y3 y4 y5 y6
   unfold spec_l11All.j3
   repeat' first|(with_reducible first|exact ih0 _ _ _|exact ih1 _ _ _ _ _ _|exact ih2 _ _ _ _ _ _ _|exact ih3 _ _ _ _ _ _ _|exact LeO.refl _|exact LeO.none _|refine LeO.ite ?_ ?_|refine LeO.bind ?_ (fun _ => ?_))|exact LeO.none _|refine LeO.ite ?_ ?_|refine LeO.bind ?_ (fun _ => ?_)
theorem spec_l11All.mono : ∀ a0 k, LeO (spec_l11All.f k a0) (spec_l11All.f (k + 1) a0) := by
 intro a0 k
 obtain ⟨ih0, ih1, ih2, ih3⟩ := spec_l11All.mono_l k
 unfold spec_l11All.f
 repeat' first|(with_reducible first|exact ih0 _ _ _|exact ih1 _ _ _ _ _ _|exact ih2 _ _ _ _ _ _ _|exact ih3 _ _ _ _ _ _ _|exact LeO.refl _|exact LeO.none _|refine LeO.ite ?_ ?_|refine LeO.bind ?_ (fun _ => ?_))|exact LeO.none _|refine LeO.ite ?_ ?_|refine LeO.bind ?_ (fun _ => ?_)
set_option maxHeartbeats 8000000 in
set_option maxRecDepth 100000 in
theorem spec_l11All.calls (k : Nat) (A0 : Option Addr) (c0 : Nat) (l0 : List Int) (r : List (S27)) (w : World) (hr0 : Kd.C (Kd.int .i64) w A0 l0.length l0) (hc0 : l0.length ≤ c0) (h : spec_l11All.f k l0 = some r) :
  Calls Try.prog 52 #[.slice A0 l0.length c0] w fun e w' => ∃ v0_ : Value, e = .returned (v0_) ∧ Kd.R k27 27 w' w.heap.size (fun _ => True) v0_ r ∧ Below w.heap.size w w' := by
 have hu27:=Try.underlying27
 have HR0:=mk0 hr0
 have HC0:=mk0 hc0
 clear hr0 hc0
 have HB:=mk0 (Below.refl w.heap.size w)
 have H:(spec_l11All.l0 k l0 (([]:List (S27))) 0) = some r:=h
 clear h
 obtain⟨y163,hy163⟩:∃ y_:List (S27),y_ = (([]:List (S27))):=⟨_,rfl⟩
 replace H:(spec_l11All.l0 k l0 y163 0) = some r:=by first|(rw [hy163];with_reducible exact H)|(have H2_:=(Option.bind_some _ _).symm.trans H;rw [hy163];with_reducible exact H2_)|(have H2_:=(Option.bind_some _ _).symm.trans H;with_reducible exact H2_)|with_reducible exact H|(rw [hy163];exact H)|exact H
 have Ny163:=mk0 hy163
 clear hy163
 have H':=mk0 H
 clear H
 go_enter Try.func52,Try.ntmps52
 go_wp2_with (first|((with_reducible refine gate_dst (N:=9) rfl ?_);refine Kd.R_lit k27 _ 27 ?hg (N:=9) ?hd (xs:=([]:List (S27))) (inner:=[]) (ok:=fun _=>True) (okp:=fun _=>True) ?hr ?hp (fun _ hk=>hk) trivial (Below.refl _ _) (Nat.le_refl _) (by simp) ?_;(case hd=>rfl);(case hg=>rfl);(case hr=>first|(go_simp;done)|(go_simp;rfl));(case hp=>exact (Reps.none _ _));intro v164 w2 ho3 hb hg_ hnew_;clear hg_ hnew_;(first|rw [← Ny163.out] at ho3|(simp only [Int.reduceToNat] at ho3;rw [← Ny163.out] at ho3));have HO165:=mk0 (Kd.R_lower ho3 (kZ HB.out));replace HB:=mk0 (kS HB.out hb);clear hb ho3))
 go_loopg [3,4] k (fun kq v3 v4 w'=>∃ (x3_1:List (S27)) (x4_1:Int),v4 = .int .i64 x4_1 ∧ Aside0 (spec_l11All.l0 kq l0 x3_1 x4_1 = some r) ∧ Aside0 (kq ≤ k) ∧ Aside0 (Kd.R k27 27 w' w.heap.size (fun _=>True) v3 x3_1) ∧ Aside0 (Below w.heap.size w w'))
 case atStart=>exact⟨(y163),(0),(by first|rfl|(simp;done)|(simp [*];done)),H',⟨Nat.le_refl _⟩,⟨rR HO165.out⟩,⟨kB HB.out⟩⟩
 case round =>
  clear H'
  try clear p2
  obtain⟨x3_1,x4_1,rfl,HA,HK1,HO_3,HB⟩:=hrel
  cases gk with
  | zero=>exact absurd HA.out (by simp [spec_l11All.l0])
  | succ k1 =>
   have H:=HA.out
   clear HA
   simp only [spec_l11All.l0] at H
   by_cases c4:x4_1 < (l0.length:Int)
   rotate_left
   ·rw [if_neg c4] at H
    have c4b0:decide (x4_1 < (l0.length:Int)) = false:=decide_eq_false c4
    clear c4
    obtain rfl:=Option.some.inj H
    go_wp2
    go_ret
    exact⟨_,by first|rfl|(simp [errW_none,errW_some] <;> rfl)|(simp [*,errW_none,errW_some] <;> rfl),rR HO_3.out,kB HB.out⟩

   rw [if_pos c4] at H
   have c4b0:decide (x4_1 < (l0.length:Int)) = true:=decide_eq_true c4
   clear c4
   obtain⟨y166,hy166⟩:∃ y_:List (S27),y_ = (([]:List (S27))):=⟨_,rfl⟩
   replace H:(spec_l11All.l1 k1 l0 x3_1 x4_1 y166 301 (wrap64 (x4_1 + 2))) = some r:=by first|(rw [hy166];with_reducible exact H)|(have H2_:=(Option.bind_some _ _).symm.trans H;rw [hy166];with_reducible exact H2_)|(have H2_:=(Option.bind_some _ _).symm.trans H;with_reducible exact H2_)|with_reducible exact H|(rw [hy166];exact H)|exact H
   have Ny166:=mk0 hy166
   clear hy166
   have H':=mk0 H
   clear H
   go_wp2_with (first|((with_reducible refine gate_dst (N:=16) rfl ?_);refine Kd.R_lit k27 _ 27 ?hg (N:=16) ?hd (xs:=([]:List (S27))) (inner:=[]) (ok:=fun _=>True) (okp:=fun _=>True) ?hr ?hp (fun _ hk=>hk) trivial (Below.refl _ _) (Nat.le_refl _) (by simp) ?_;(case hd=>rfl);(case hg=>rfl);(case hr=>first|(go_simp;done)|(go_simp;rfl));(case hp=>exact (Reps.none _ _));intro v167 w5 ho6 hb hg_ hnew_;clear hg_ hnew_;(first|rw [← Ny166.out] at ho6|(simp only [Int.reduceToNat] at ho6;rw [← Ny166.out] at ho6));have HO168:=mk0 (Kd.R_lower (Kd.R_new' ho6 (Kd.R_lt (rR HO_3.out))) (kZ HB.out));replace HO_3:=mk0 (Kd.R_elder' (rR HO_3.out) (Kd.R_base ho6) hb);replace HB:=mk0 (kS HB.out hb);clear hb ho6))
   go_loopg [5,6,7] k1 (fun kq v5 v6 v7 w'=>∃ (x5_2:List (S27)) (x6_2:Int) (x7_2:Int),v6 = .int .i64 x6_2 ∧ v7 = .int .i64 x7_2 ∧ Aside0 (spec_l11All.l1 kq l0 x3_1 x4_1 x5_2 x6_2 x7_2 = some r) ∧ Aside0 (kq ≤ k1) ∧ Aside0 (Kd.R k27 27 w' w.heap.size (fun k_=>some k_ ≠ (v5:Value).ownBlock) u3 x3_1) ∧ Aside0 (Kd.R k27 27 w' w.heap.size (fun k_=>some k_ ≠ (u3:Value).ownBlock) v5 x5_2) ∧ Aside0 (Below w.heap.size w w'))
   case atStart=>exact⟨(y166),(301),(wrap64 (x4_1 + 2)),(by first|rfl|(simp;done)|(simp [*];done)),(by first|rfl|(simp;done)|(simp [*];done)),H',⟨Nat.le_refl _⟩,⟨rR (Kd.R_mono HO_3.out (fun _ hk=>hk.2))⟩,⟨rR (Kd.R_mono HO168.out (fun _ hk=>hk.2))⟩,⟨kB HB.out⟩⟩
   case round =>
    clear H'
    try clear p2
    try clear c4
    try clear c4b0
    try clear c5
    try clear p6
    try clear p2
    obtain⟨x5_2,x6_2,x7_2,rfl,rfl,HA,HK2,HO_3,HO_5,HB⟩:=hrel
    cases gk with
    | zero=>exact absurd HA.out (by simp [spec_l11All.l1])
    | succ k2 =>
     have H:=HA.out
     clear HA
     simp only [spec_l11All.l1] at H
     have HC7:=mk0 H
     clear H
     go_upto_region 8 with (fail)
     go_cut [30] (fun v30 wc=>∃ (kq:Nat) (x30_6:Bool),v30 = .bool x30_6 ∧ Aside0 (spec_l11All.j2 kq l0 x3_1 x4_1 x5_2 x6_2 x7_2 x30_6 = some r) ∧ Aside0 (kq ≤ k2) ∧ Aside0 (Kd.R k27 27 wc w.heap.size (fun k_=>some k_ ≠ (u5:Value).ownBlock) u3 x3_1) ∧ Aside0 (Kd.R k27 27 wc w.heap.size (fun k_=>some k_ ≠ (u3:Value).ownBlock) u5 x5_2) ∧ Aside0 (Below w.heap.size w wc))
     case first =>
      have H:=HC7.out
      clear HC7
      by_cases c8:x7_2 ≤ (l0.length:Int)
      rotate_left
      ·rw [if_neg c8] at H
       have c8b0:decide (x7_2 ≤ (l0.length:Int)) = false:=decide_eq_false c8
       clear c8
       (first|rw [c8b0]|(simp only [i64_w,i32_w];rw [c8b0])|skip)
       have H':=mk0 H
       clear H
       go_wp2
       go_meet
       case rel=>exact⟨_,(false),(by first|rfl|(simp;done)|(simp [*];done)),H',⟨by have:=HK1.out;have:=HK2.out;first|omega|exact Nat.le_refl _⟩,⟨rR HO_3.out⟩,⟨rR HO_5.out⟩,⟨kB HB.out⟩⟩
      rw [if_pos c8] at H
      have c8b0:decide (x7_2 ≤ (l0.length:Int)) = true:=decide_eq_true c8
      clear c8
      (first|rw [c8b0]|(simp only [i64_w,i32_w];rw [c8b0])|skip)
      obtain⟨ji9,hji9⟩:∃ j_:Int,(wrap64 (x7_2 - 1)) = j_:=⟨_,rfl⟩
      replace H:(if 0 ≤ (ji9) then (if (ji9) < (l0.length:Int) then (spec_l11All.j2 k2 l0 x3_1 x4_1 x5_2 x6_2 x7_2 (decide ((rd l0 (ji9)) ≥ 0))) else (none)) else (none)) = some r:=by first|(rw [hji9] at H;exact H)|(simp only [hji9] at H ⊢;exact H)
      have hji9w:(IntKind.i64.wrap (x7_2 - 1)) = ji9:=(i64_w _).trans hji9
      by_cases c10:0 ≤ (ji9)
      rotate_left
      ·rw [if_neg c10] at H
       exact absurd H (by simp)
      rw [if_pos c10] at H
      have c10b0:decide (0 ≤ (ji9)) = true:=decide_eq_true c10
      clear c10
      by_cases c11:(ji9) < (l0.length:Int)
      rotate_left
      ·rw [if_neg c11] at H
       exact absurd H (by simp)
      rw [if_pos c11] at H
      have c11b0:decide ((ji9) < (l0.length:Int)) = true:=decide_eq_true c11
      clear c11
      have H':=mk0 H
      clear H
      have p169:0 ≤ ((ji9):Int):=of_decide_eq_true (by first|(with_reducible assumption)|assumption)
      have q169:(ji9) < (l0.length:Int):=of_decide_eq_true (by first|(with_reducible assumption)|assumption)
      obtain⟨ad169,e169,hx169_0⟩:=Kd.at_int HR0.out (ji9) p169 q169
      cases e169
      replace hx169_0:=(HB.out.cell (World.block_lt_of_cell? w _ hx169_0)).trans hx169_0
      replace p169:=eq_true p169
      replace q169:=eq_true q169
      go_wp2
      go_meet
      case rel=>exact⟨_,(decide ((rd l0 (ji9)) ≥ 0)),(by first|rfl|(simp;done)|(simp only [← hji9] <;> (first|rfl|simp))|(simp [*];done)),H',⟨by have:=HK1.out;have:=HK2.out;first|omega|exact Nat.le_refl _⟩,⟨rR HO_3.out⟩,⟨rR HO_5.out⟩,⟨kB HB.out⟩⟩
     case rest =>
      clear HC7
      try clear c1
      try clear p1
      try clear q1
      try clear hx1
      try clear p2
      try clear c4
      try clear c4b0
      try clear c5
      try clear p6
      try clear c8
      try clear c8b0
      try clear c10
      try clear c10b0
      try clear c11
      try clear c11b0
      try clear hx169_0
      try clear p169
      try clear p2
      try clear p6
      try clear q169
      obtain⟨kq,x30_6,rfl,HA,HJ6,HO_3,HO_5,HB⟩:=hcut
      cases kq with
      | zero=>exact absurd HA.out (by simp [spec_l11All.j2])
      | succ kj6 =>
       have H:=HA.out
       clear HA
       simp only [spec_l11All.j2] at H
       by_cases c12:x30_6 = true
       rotate_left
       ·replace c12:=Bool.eq_false_iff.mpr c12
        subst c12
        have H1:(if x3_1.length + x5_2.length < 5864062014805 then (spec_l11All.l0 kj6 l0 (x3_1 ++ x5_2) (wrap64 (x4_1 + 1))) else (none)) = some r:=by rw [if_neg (show ¬ (false = true) by decide)] at H;exact H
        clear H
        have H:=H1
        clear H1
        by_cases c45:x3_1.length + x5_2.length < 5864062014805
        rotate_left
        ·rw [if_neg c45] at H
         exact absurd H (by simp)
        rw [if_pos c45] at H
        have LMc45:=mk0 c45
        clear c45
        obtain⟨y170,hy170⟩:∃ y_:List (S27),y_ = (x3_1 ++ x5_2):=⟨_,rfl⟩
        replace H:(spec_l11All.l0 kj6 l0 y170 (wrap64 (x4_1 + 1))) = some r:=by first|(rw [hy170];with_reducible exact H)|(have H2_:=(Option.bind_some _ _).symm.trans H;rw [hy170];with_reducible exact H2_)|(have H2_:=(Option.bind_some _ _).symm.trans H;with_reducible exact H2_)|with_reducible exact H|(rw [hy170];exact H)|exact H
        have Ny170:=mk0 hy170
        clear hy170
        have H':=mk0 H
        clear H
        obtain⟨Ao47,co47,eo47⟩:=Kd.R_slice HO_5.out
        subst eo47
        go_wp2_with (first|((with_reducible refine gate_builtin (b:=.append) (xs:=#[.tmp 70,.tmp 71]) rfl ?_);at_builtin;refine Kd.R_append_rows k27 (w0:=w) w.heap.size rfl (.tmp 70) (.tmp 71) 39 27 (.agg #[(.int .i64 0),(.int .i64 0),(.int .i64 0)]) 24 rfl Try.underlying39 info27 rfl (by decide) (by omega) u3 x3_1 x5_2 _ _ _ (fun k_=>some k_ ≠ (.slice Ao47 x5_2.length co47:Value).ownBlock) (fun _=>False) rfl rfl ?aO ?aR (fun _ _ h=>h) (fun _ h=>h.elim) ?aF ?aB ?aS ?aL ?_;(case aR=>repeat (first|exact (Kd.R_reads' HO_5.out).2.2|(with_reducible first|apply aC|apply nC|apply dC)));(case aB=>exact (kB HB.out));(case aF=>exact (fun k_ hk=>Kd.fresh' (Kd.R_lt (rR HO_5.out)) k_ hk));(case aO=>exact (rR HO_3.out));(case aS=>exact (kZ HB.out));(case aL=>have:=LMc45.out;omega);intro v171 w46 ho hb hg hat;rw [← Ny170.out] at ho;replace HO_5:=mk0 (Kd.R_after (ok:=(fun _=>True)) (rR (Kd.R_mono HO_5.out (fun _ hk=>⟨trivial,hk⟩))) hg hat);replace HB:=mk0 (hb);have HO172:=mk0 (ho);clear HO_3 ho hb hg hat))
        go_roundg kj6
        case measure=>have:=HK1.out;have:=HK2.out;have:=HJ6.out;omega
        case rel=>exact⟨(y170),(wrap64 (x4_1 + 1)),(by first|rfl|(simp;done)|(simp [*];done)),H',⟨by have:=HK1.out;have:=HK2.out;have:=HJ6.out;omega⟩,⟨rR (Kd.R_mono HO172.out (fun _ hk=>trivial))⟩,⟨kB HB.out⟩⟩
       subst c12
       have H1:(if 0 ≤ (wrap64 (x7_2 - 1)) then (if (wrap64 (x7_2 - 1)) < (l0.length:Int) then (if x4_1 > 0 then (if 0 ≤ x4_1 then (if x4_1 < (l0.length:Int) then (spec_l11All.j3 kj6 l0 x3_1 x4_1 x5_2 (mn x6_2 (rd l0 (wrap64 (x7_2 - 1)))) x7_2 (decide ((rd l0 x4_1) ≥ (mn x6_2 (rd l0 (wrap64 (x7_2 - 1))))))) else (none)) else (none)) else (spec_l11All.j3 kj6 l0 x3_1 x4_1 x5_2 (mn x6_2 (rd l0 (wrap64 (x7_2 - 1)))) x7_2 false)) else (none)) else (none)) = some r:=by rw [if_pos rfl] at H;exact H
       clear H
       have H:=H1
       clear H1
       try clear hji9w
       try clear hji9
       obtain⟨ji13,hji13⟩:∃ j_:Int,(wrap64 (x7_2 - 1)) = j_:=⟨_,rfl⟩
       replace H:(if 0 ≤ (ji13) then (if (ji13) < (l0.length:Int) then (if x4_1 > 0 then (if 0 ≤ x4_1 then (if x4_1 < (l0.length:Int) then (spec_l11All.j3 kj6 l0 x3_1 x4_1 x5_2 (mn x6_2 (rd l0 (ji13))) x7_2 (decide ((rd l0 x4_1) ≥ (mn x6_2 (rd l0 (ji13)))))) else (none)) else (none)) else (spec_l11All.j3 kj6 l0 x3_1 x4_1 x5_2 (mn x6_2 (rd l0 (ji13))) x7_2 false)) else (none)) else (none)) = some r:=by first|(rw [hji13] at H;exact H)|(simp only [hji13] at H ⊢;exact H)
       have hji13w:(IntKind.i64.wrap (x7_2 - 1)) = ji13:=(i64_w _).trans hji13
       by_cases c14:0 ≤ (ji13)
       rotate_left
       ·rw [if_neg c14] at H
        exact absurd H (by simp)
       rw [if_pos c14] at H
       have c14b0:decide (0 ≤ (ji13)) = true:=decide_eq_true c14
       clear c14
       by_cases c15:(ji13) < (l0.length:Int)
       rotate_left
       ·rw [if_neg c15] at H
        exact absurd H (by simp)
       rw [if_pos c15] at H
       have c15b0:decide ((ji13) < (l0.length:Int)) = true:=decide_eq_true c15
       clear c15
       obtain⟨ji16,hji16⟩:∃ j_:Int,(mn x6_2 (rd l0 (ji13))) = j_:=⟨_,rfl⟩
       replace H:(if x4_1 > 0 then (if 0 ≤ x4_1 then (if x4_1 < (l0.length:Int) then (spec_l11All.j3 kj6 l0 x3_1 x4_1 x5_2 ji16 x7_2 (decide ((rd l0 x4_1) ≥ (ji16)))) else (none)) else (none)) else (spec_l11All.j3 kj6 l0 x3_1 x4_1 x5_2 ji16 x7_2 false)) = some r:=by first|(rw [hji16] at H;exact H)|(simp only [hji16] at H ⊢;exact H)
       have hji16_:(if (rd l0 (ji13)) < x6_2 then (rd l0 (ji13)) else x6_2) = ji16:=hji16
       have HC17:=mk0 H
       clear H
       have p173:0 ≤ ((ji13):Int):=of_decide_eq_true (by first|(with_reducible assumption)|assumption)
       have q173:(ji13) < (l0.length:Int):=of_decide_eq_true (by first|(with_reducible assumption)|assumption)
       obtain⟨ad173,e173,hx173_0⟩:=Kd.at_int HR0.out (ji13) p173 q173
       cases e173
       replace hx173_0:=(HB.out.cell (World.block_lt_of_cell? w _ hx173_0)).trans hx173_0
       replace p173:=eq_true p173
       replace q173:=eq_true q173
       go_upto_region 11 with (fail)
       go_cut [49] (fun v49 wc=>∃ (kq:Nat) (x49_16:Bool),v49 = .bool x49_16 ∧ Aside0 (spec_l11All.j3 kq l0 x3_1 x4_1 x5_2 ji16 x7_2 x49_16 = some r) ∧ Aside0 (kq ≤ kj6) ∧ Aside0 (Kd.R k27 27 wc w.heap.size (fun k_=>some k_ ≠ (u5:Value).ownBlock) u3 x3_1) ∧ Aside0 (Kd.R k27 27 wc w.heap.size (fun k_=>some k_ ≠ (u3:Value).ownBlock) u5 x5_2) ∧ Aside0 (Below w.heap.size w wc))
       case first =>
        have H:=HC17.out
        clear HC17
        by_cases c18:x4_1 > 0
        rotate_left
        ·rw [if_neg c18] at H
         have c18b0:decide (0 < x4_1) = false:=decide_eq_false c18
         clear c18
         (first|rw [c18b0]|(simp only [i64_w,i32_w];rw [c18b0])|skip)
         have H':=mk0 H
         clear H
         go_wp2
         go_meet
         case rel=>exact⟨_,(false),(by first|rfl|(simp;done)|(simp [*];done)),H',⟨by have:=HK1.out;have:=HK2.out;have:=HJ6.out;first|omega|exact Nat.le_refl _⟩,⟨rR HO_3.out⟩,⟨rR HO_5.out⟩,⟨kB HB.out⟩⟩
        rw [if_pos c18] at H
        have c18b0:decide (0 < x4_1) = true:=decide_eq_true c18
        clear c18
        (first|rw [c18b0]|(simp only [i64_w,i32_w];rw [c18b0])|skip)
        by_cases c19:0 ≤ x4_1
        rotate_left
        ·rw [if_neg c19] at H
         exact absurd H (by simp)
        rw [if_pos c19] at H
        have c19b0:decide (0 ≤ x4_1) = true:=decide_eq_true c19
        clear c19
        by_cases c20:x4_1 < (l0.length:Int)
        rotate_left
        ·rw [if_neg c20] at H
         exact absurd H (by simp)
        rw [if_pos c20] at H
        have c20b0:decide (x4_1 < (l0.length:Int)) = true:=decide_eq_true c20
        clear c20
        have H':=mk0 H
        clear H
        have p174:0 ≤ (x4_1:Int):=of_decide_eq_true (by first|(with_reducible assumption)|assumption)
        have q174:x4_1 < (l0.length:Int):=of_decide_eq_true (by first|(with_reducible assumption)|assumption)
        obtain⟨ad174,e174,hx174_0⟩:=Kd.at_int HR0.out x4_1 p174 q174
        obtain rfl:ad173 = ad174:=(by injection e174)
        replace hx174_0:=(HB.out.cell (World.block_lt_of_cell? w _ hx174_0)).trans hx174_0
        replace p174:=eq_true p174
        replace q174:=eq_true q174
        go_wp2
        go_meet
        case rel=>exact⟨_,(decide ((rd l0 x4_1) ≥ (ji16))),(by first|rfl|(simp;done)|(simp only [← hji16] <;> (first|rfl|simp))|(simp [*];done)),H',⟨by have:=HK1.out;have:=HK2.out;have:=HJ6.out;first|omega|exact Nat.le_refl _⟩,⟨rR HO_3.out⟩,⟨rR HO_5.out⟩,⟨kB HB.out⟩⟩
       case rest =>
        clear HC17
        try clear c1
        try clear p1
        try clear q1
        try clear hx1
        try clear c2
        try clear p2
        try clear c4
        try clear c4b0
        try clear c5
        try clear p6
        try clear c8
        try clear c8b0
        try clear c10
        try clear c10b0
        try clear c11
        try clear c11b0
        try clear c12
        try clear c14
        try clear c14b0
        try clear c15
        try clear c15b0
        try clear p16
        try clear q16
        try clear hx16
        try clear p17
        try clear q17
        try clear hx17
        try clear c18
        try clear c18b0
        try clear c19
        try clear c19b0
        try clear c20
        try clear c20b0
        try clear hx169_0
        try clear hx173_0
        try clear hx174_0
        try clear p1
        try clear p169
        try clear p173
        try clear p174
        try clear p2
        try clear p6
        try clear q1
        try clear q169
        try clear q173
        try clear q174
        obtain⟨kq,x49_16,rfl,HA,HJ16,HO_3,HO_5,HB⟩:=hcut
        cases kq with
        | zero=>exact absurd HA.out (by simp [spec_l11All.j3])
        | succ kj16 =>
         have H:=HA.out
         clear HA
         simp only [spec_l11All.j3] at H
         by_cases c21:x49_16 = true
         ·subst c21
          have H1:(if x3_1.length + x5_2.length < 5864062014805 then (spec_l11All.l0 kj16 l0 (x3_1 ++ x5_2) (wrap64 (x4_1 + 1))) else (none)) = some r:=by rw [if_pos rfl] at H;exact H
          clear H
          have H:=H1
          clear H1
          by_cases c22:x3_1.length + x5_2.length < 5864062014805
          rotate_left
          ·rw [if_neg c22] at H
           exact absurd H (by simp)
          rw [if_pos c22] at H
          have LMc22:=mk0 c22
          clear c22
          obtain⟨y175,hy175⟩:∃ y_:List (S27),y_ = (x3_1 ++ x5_2):=⟨_,rfl⟩
          replace H:(spec_l11All.l0 kj16 l0 y175 (wrap64 (x4_1 + 1))) = some r:=by first|(rw [hy175];with_reducible exact H)|(have H2_:=(Option.bind_some _ _).symm.trans H;rw [hy175];with_reducible exact H2_)|(have H2_:=(Option.bind_some _ _).symm.trans H;with_reducible exact H2_)|with_reducible exact H|(rw [hy175];exact H)|exact H
          have Ny175:=mk0 hy175
          clear hy175
          have H':=mk0 H
          clear H
          obtain⟨Ao24,co24,eo24⟩:=Kd.R_slice HO_5.out
          subst eo24
          go_wp2_with (first|((with_reducible refine gate_builtin (b:=.append) (xs:=#[.tmp 70,.tmp 71]) rfl ?_);at_builtin;refine Kd.R_append_rows k27 (w0:=w) w.heap.size rfl (.tmp 70) (.tmp 71) 39 27 (.agg #[(.int .i64 0),(.int .i64 0),(.int .i64 0)]) 24 rfl Try.underlying39 info27 rfl (by decide) (by omega) u3 x3_1 x5_2 _ _ _ (fun k_=>some k_ ≠ (.slice Ao24 x5_2.length co24:Value).ownBlock) (fun _=>False) rfl rfl ?aO ?aR (fun _ _ h=>h) (fun _ h=>h.elim) ?aF ?aB ?aS ?aL ?_;(case aR=>repeat (first|exact (Kd.R_reads' HO_5.out).2.2|(with_reducible first|apply aC|apply nC|apply dC)));(case aB=>exact (kB HB.out));(case aF=>exact (fun k_ hk=>Kd.fresh' (Kd.R_lt (rR HO_5.out)) k_ hk));(case aO=>exact (rR HO_3.out));(case aS=>exact (kZ HB.out));(case aL=>have:=LMc22.out;omega);intro v176 w23 ho hb hg hat;rw [← Ny175.out] at ho;replace HO_5:=mk0 (Kd.R_after (ok:=(fun _=>True)) (rR (Kd.R_mono HO_5.out (fun _ hk=>⟨trivial,hk⟩))) hg hat);replace HB:=mk0 (hb);have HO177:=mk0 (ho);clear HO_3 ho hb hg hat))
          go_roundg kj16
          case measure=>have:=HK1.out;have:=HK2.out;have:=HJ6.out;have:=HJ16.out;omega
          case rel=>exact⟨(y175),(wrap64 (x4_1 + 1)),(by first|rfl|(simp;done)|(simp [*];done)),H',⟨by have:=HK1.out;have:=HK2.out;have:=HJ6.out;have:=HJ16.out;omega⟩,⟨rR (Kd.R_mono HO177.out (fun _ hk=>trivial))⟩,⟨kB HB.out⟩⟩
         replace c21:=Bool.eq_false_iff.mpr c21
         subst c21
         have H1:(if x7_2 = (l0.length:Int) then ((some (([(⟨x4_1,x7_2,ji16⟩:S27)]:List (S27)):List (S27))).bind fun y180=>(if y180.length + x5_2.length < 5864062014805 then (spec_l11All.l1 kj16 l0 x3_1 x4_1 (y180 ++ x5_2) ji16 (wrap64 (x7_2 + 1))) else (none))) else (if 0 ≤ x7_2 then (if x7_2 < (l0.length:Int) then (if (rd l0 x7_2) < ji16 then ((some (([(⟨x4_1,x7_2,ji16⟩:S27)]:List (S27)):List (S27))).bind fun y186=>(if y186.length + x5_2.length < 5864062014805 then (spec_l11All.l1 kj16 l0 x3_1 x4_1 (y186 ++ x5_2) ji16 (wrap64 (x7_2 + 1))) else (none))) else (spec_l11All.l1 kj16 l0 x3_1 x4_1 x5_2 ji16 (wrap64 (x7_2 + 1)))) else (none)) else (none))) = some r:=by rw [if_neg (show ¬ (false = true) by decide)] at H;exact H
         clear H
         have H:=H1
         clear H1
         by_cases c25:x7_2 = (l0.length:Int)
         ·rw [if_pos c25] at H
          have c25b0:(x7_2 == (l0.length:Int)) = true:=beq_iff_eq.mpr c25
          have c25b1:(x7_2 != (l0.length:Int)) = false:=bne_eq_false_iff_eq.mpr c25
          clear c25
          obtain⟨y180,hy180⟩:∃ y_:List (S27),y_ = (([(⟨x4_1,x7_2,ji16⟩:S27)]:List (S27))):=⟨_,rfl⟩
          replace H:(if y180.length + x5_2.length < 5864062014805 then (spec_l11All.l1 kj16 l0 x3_1 x4_1 (y180 ++ x5_2) ji16 (wrap64 (x7_2 + 1))) else (none)) = some r:=by first|(rw [hy180];with_reducible exact H)|(have H2_:=(Option.bind_some _ _).symm.trans H;rw [hy180];with_reducible exact H2_)|(have H2_:=(Option.bind_some _ _).symm.trans H;with_reducible exact H2_)|with_reducible exact H|(rw [hy180];exact H)|exact H
          have Ny180:=mk0 hy180
          clear hy180
          by_cases c26:y180.length + x5_2.length < 5864062014805
          rotate_left
          ·rw [if_neg c26] at H
           exact absurd H (by simp)
          rw [if_pos c26] at H
          have LMc26:=mk0 c26
          clear c26
          obtain⟨y183,hy183⟩:∃ y_:List (S27),y_ = (y180 ++ x5_2):=⟨_,rfl⟩
          replace H:(spec_l11All.l1 kj16 l0 x3_1 x4_1 y183 ji16 (wrap64 (x7_2 + 1))) = some r:=by first|(rw [hy183];with_reducible exact H)|(have H2_:=(Option.bind_some _ _).symm.trans H;rw [hy183];with_reducible exact H2_)|(have H2_:=(Option.bind_some _ _).symm.trans H;with_reducible exact H2_)|with_reducible exact H|(rw [hy183];exact H)|exact H
          have Ny183:=mk0 hy183
          clear hy183
          have H':=mk0 H
          clear H
          go_wp2_with (first|((with_reducible refine gate_dst (N:=8) rfl ?_);refine box_event ?hg (N:=8) ?hd (cs:=#[.int .i64 0,.int .i64 0,.int .i64 0]) (t:=27) ?hr ?_;(case hd=>rfl);(case hg=>rfl);(case hr=>first|(go_simp;done)|(go_simp;rfl));intro gb178 hg w27 hbox hb;replace HO_3:=mk0 (Kd.R_below (Kd.R_elderB (rR HO_3.out) gb178 (Nat.le_of_eq hg.symm)) hb);replace HO_5:=mk0 (Kd.R_below (Kd.R_elderB (rR HO_5.out) gb178 (Nat.le_of_eq hg.symm)) hb);have BK178:=mk0 (hbox);have GW178:=mk0 ((by rw [hg];exact (kZ HB.out):w.heap.size ≤ gb178));have GE178:=mk0 ((by rw [hg];exact (kZ HB.out):w.heap.size ≤ gb178));replace HB:=mk0 (kS HB.out hb);clear hb hbox hg;obtain⟨hcz28_0,hcz28_1,hcz28_2,hfz28_0,hfz28_1,hfz28_2⟩:=cz3 BK178.out)|((with_reducible refine gate_dst (N:=67) rfl ?_);refine Kd.R_lit k27 _ 27 ?hg (N:=67) ?hd (xs:=([(⟨x4_1,x7_2,ji16⟩:S27)]:List (S27))) (inner:=[.int .i64 x4_1,.int .i64 x7_2,.int .i64 ji16]) (ok:=fun _=>True) (okp:=fun _=>True) ?hr ?hp (fun _ hk=>hk) trivial (Below.refl _ _) (Nat.le_refl _) (by simp) ?_;(case hd=>rfl);(case hg=>rfl);(case hr=>first|(go_simp;done)|(go_simp;rfl));(case hp=>exact (Reps.c3 (show Kd.M k27 _ _ _ (⟨x4_1,x7_2,ji16⟩:S27) [.int .i64 x4_1,.int .i64 x7_2,.int .i64 ji16] from (k27_mkM _ _ _ (⟨x4_1,x7_2,ji16⟩:S27) )) (Reps.none _ _)));intro v181 w29 ho30 hb hg_ hnew_;clear hg_ hnew_;(first|rw [← Ny180.out] at ho30|(simp only [Int.reduceToNat] at ho30;rw [← Ny180.out] at ho30));have HO182:=mk0 (Kd.R_lower (Kd.R_newB (Kd.R_new' (Kd.R_new' ho30 (Kd.R_lt (by (with_reducible repeat (first|apply aR|apply nR|apply dR));exact (Kd.R_mono (Kd.R_far (p:=⟨gb178,2,none⟩) (Kd.R_far (p:=⟨gb178,1,none⟩) (Kd.R_far (p:=⟨gb178,0,none⟩) (Kd.R_mono HO_3.out (fun k_ hk=>(⟨hk,hk.2⟩:_ ∧ k_ ≠ gb178))) (fun _ hk=>hk.2) (.int .i64 x4_1)) (fun _ hk=>hk.2) (.int .i64 x7_2)) (fun _ hk=>hk.2) (.int .i64 ji16)) (fun _ h_=>h_.1))))) (Kd.R_lt (by (with_reducible repeat (first|apply aR|apply nR|apply dR));exact (Kd.R_mono (Kd.R_far (p:=⟨gb178,2,none⟩) (Kd.R_far (p:=⟨gb178,1,none⟩) (Kd.R_far (p:=⟨gb178,0,none⟩) (Kd.R_mono HO_5.out (fun k_ hk=>(⟨hk,hk.2⟩:_ ∧ k_ ≠ gb178))) (fun _ hk=>hk.2) (.int .i64 x4_1)) (fun _ hk=>hk.2) (.int .i64 x7_2)) (fun _ hk=>hk.2) (.int .i64 ji16)) (fun _ h_=>h_.1))))) (g:=gb178) (o:=.cells #[.int .i64 x4_1,.int .i64 x7_2,.int .i64 ji16] 27 (0,0)) (by (with_reducible repeat (first|apply nB|apply dB|apply aB));refine blk_put (cs:=#[.int .i64 x4_1,.int .i64 x7_2,.int .i64 0]) ?_ 2 _ rfl;(with_reducible repeat (first|apply nB|apply dB|apply aB));refine blk_put (cs:=#[.int .i64 x4_1,.int .i64 0,.int .i64 0]) ?_ 1 _ rfl;(with_reducible repeat (first|apply nB|apply dB|apply aB));refine blk_put (cs:=#[.int .i64 0,.int .i64 0,.int .i64 0]) ?_ 0 _ rfl;(with_reducible repeat (first|apply nB|apply dB|apply aB));exact BK178.out)) (kZ HB.out));replace HO_3:=mk0 (Kd.R_elder' (by (with_reducible repeat (first|apply aR|apply nR|apply dR));exact (Kd.R_mono (Kd.R_far (p:=⟨gb178,2,none⟩) (Kd.R_far (p:=⟨gb178,1,none⟩) (Kd.R_far (p:=⟨gb178,0,none⟩) (Kd.R_mono HO_3.out (fun k_ hk=>(⟨hk,hk.2⟩:_ ∧ k_ ≠ gb178))) (fun _ hk=>hk.2) (.int .i64 x4_1)) (fun _ hk=>hk.2) (.int .i64 x7_2)) (fun _ hk=>hk.2) (.int .i64 ji16)) (fun _ h_=>h_.1))) (Kd.R_base ho30) hb);replace HO_5:=mk0 (Kd.R_elder' (by (with_reducible repeat (first|apply aR|apply nR|apply dR));exact (Kd.R_mono (Kd.R_far (p:=⟨gb178,2,none⟩) (Kd.R_far (p:=⟨gb178,1,none⟩) (Kd.R_far (p:=⟨gb178,0,none⟩) (Kd.R_mono HO_5.out (fun k_ hk=>(⟨hk,hk.2⟩:_ ∧ k_ ≠ gb178))) (fun _ hk=>hk.2) (.int .i64 x4_1)) (fun _ hk=>hk.2) (.int .i64 x7_2)) (fun _ hk=>hk.2) (.int .i64 ji16)) (fun _ h_=>h_.1))) (Kd.R_base ho30) hb);replace BK178:=mk0 (blk_below (g:=gb178) (o:=.cells #[.int .i64 x4_1,.int .i64 x7_2,.int .i64 ji16] 27 (0,0)) (by (with_reducible repeat (first|apply nB|apply dB|apply aB));refine blk_put (cs:=#[.int .i64 x4_1,.int .i64 x7_2,.int .i64 0]) ?_ 2 _ rfl;(with_reducible repeat (first|apply nB|apply dB|apply aB));refine blk_put (cs:=#[.int .i64 x4_1,.int .i64 0,.int .i64 0]) ?_ 1 _ rfl;(with_reducible repeat (first|apply nB|apply dB|apply aB));refine blk_put (cs:=#[.int .i64 0,.int .i64 0,.int .i64 0]) ?_ 0 _ rfl;(with_reducible repeat (first|apply nB|apply dB|apply aB));exact BK178.out) hb);replace HB:=mk0 (kS HB.out hb);clear hb ho30;obtain⟨Ao32,co32,eo32⟩:=Kd.R_slice HO_5.out;subst eo32)|((with_reducible refine gate_builtin (b:=.append) (xs:=#[.tmp 67,.tmp 68]) rfl ?_);at_builtin;refine Kd.R_append_rows k27 (w0:=w) w.heap.size rfl (.tmp 67) (.tmp 68) 39 27 (.agg #[(.int .i64 0),(.int .i64 0),(.int .i64 0)]) 24 rfl Try.underlying39 info27 rfl (by decide) (by omega) v181 y180 x5_2 _ _ _ (fun k_=>some k_ ≠ (u3:Value).ownBlock ∧ some k_ ≠ (.slice Ao32 x5_2.length co32:Value).ownBlock ∧ k_ ≠ gb178) (fun _=>False) rfl rfl ?aO ?aR (fun _ _ h=>h) (fun _ h=>h.elim) ?aF ?aB ?aS ?aL ?_;(case aR=>repeat (first|exact (Kd.R_reads' HO_5.out).2.2|(with_reducible first|apply aC|apply nC|apply dC)));(case aB=>exact (kB HB.out));(case aF=>exact (fun k_ hk=>⟨Kd.fresh' (Kd.R_lt (rR HO_3.out)) k_ hk,Kd.fresh' (Kd.R_lt (rR HO_5.out)) k_ hk,Kd.freshB (g:=gb178) (kN BK178.out) k_ hk⟩));(case aO=>exact (rR (Kd.R_mono HO182.out (fun _ hk=>⟨hk.1.1.2,⟨hk.1.2,hk.2⟩⟩))));(case aS=>exact (kZ HB.out));(case aL=>have:=LMc26.out;omega);intro v184 w31 ho hb hg hat;rw [← Ny183.out] at ho;replace HO_3:=mk0 (Kd.R_after (ok:=(fun k_=>some k_ ≠ (.slice Ao32 x5_2.length co32:Value).ownBlock ∧ k_ ≠ gb178)) (rR HO_3.out) hg hat);replace HO_5:=mk0 (Kd.R_after (ok:=(fun k_=>some k_ ≠ (u3:Value).ownBlock ∧ k_ ≠ gb178)) (rR HO_5.out) hg hat);replace BK178:=mk0 (blk_grown (kN BK178.out) hg (Kd.R_away HO182.out (fun _ hk=>hk.2)));replace HB:=mk0 (hb);have HO185:=mk0 (ho);clear HO182 ho hb hg hat))
          go_roundg kj16
          case measure=>have:=HK1.out;have:=HK2.out;have:=HJ6.out;have:=HJ16.out;omega
          case rel=>exact⟨(y183),(ji16),(wrap64 (x7_2 + 1)),(by first|rfl|(simp;done)|(simp only [← hji16] <;> (first|rfl|simp))|(simp [*];done)),(by first|rfl|(simp;done)|(simp [*];done)),H',⟨by have:=HK1.out;have:=HK2.out;have:=HJ6.out;have:=HJ16.out;omega⟩,⟨rR (Kd.R_mono HO_3.out (fun _ hk=>hk.2))⟩,⟨rR (Kd.R_mono HO185.out (fun _ hk=>hk.1))⟩,⟨kB HB.out⟩⟩
         rw [if_neg c25] at H
         have c25b0:(x7_2 == (l0.length:Int)) = false:=beq_eq_false_iff_ne.mpr c25
         have c25b1:(x7_2 != (l0.length:Int)) = true:=bne_iff_ne.mpr c25
         by_cases c33:0 ≤ x7_2
         rotate_left
         ·rw [if_neg c33] at H
          exact absurd H (by simp)
         rw [if_pos c33] at H
         have c33b0:decide (0 ≤ x7_2) = true:=decide_eq_true c33
         clear c33
         by_cases c34:x7_2 < (l0.length:Int)
         rotate_left
         ·rw [if_neg c34] at H
          exact absurd H (by simp)
         rw [if_pos c34] at H
         have c34b0:decide (x7_2 < (l0.length:Int)) = true:=decide_eq_true c34
         clear c34
         by_cases c35:(rd l0 x7_2) < ji16
         rotate_left
         ·rw [if_neg c35] at H
          have c35b0:decide ((rd l0 x7_2) < ji16) = false:=decide_eq_false c35
          clear c35
          have H':=mk0 H
          clear H
          go_wp2_with (first|((with_reducible refine gate_dst (N:=8) rfl ?_);refine box_event ?hg (N:=8) ?hd (cs:=#[.int .i64 0,.int .i64 0,.int .i64 0]) (t:=27) ?hr ?_;(case hd=>rfl);(case hg=>rfl);(case hr=>first|(go_simp;done)|(go_simp;rfl));intro gb178 hg w43 hbox hb;replace HO_3:=mk0 (Kd.R_below (Kd.R_elderB (rR HO_3.out) gb178 (Nat.le_of_eq hg.symm)) hb);replace HO_5:=mk0 (Kd.R_below (Kd.R_elderB (rR HO_5.out) gb178 (Nat.le_of_eq hg.symm)) hb);have BK178:=mk0 (hbox);have GW178:=mk0 ((by rw [hg];exact (kZ HB.out):w.heap.size ≤ gb178));have GE178:=mk0 ((by rw [hg];exact (kZ HB.out):w.heap.size ≤ gb178));replace HB:=mk0 (kS HB.out hb);clear hb hbox hg;obtain⟨hcz44_0,hcz44_1,hcz44_2,hfz44_0,hfz44_1,hfz44_2⟩:=cz3 BK178.out;have p179:0 ≤ (x7_2:Int):=of_decide_eq_true (by first|(with_reducible assumption)|assumption);have q179:x7_2 < (l0.length:Int):=of_decide_eq_true (by first|(with_reducible assumption)|assumption);obtain⟨ad179,e179,hx179_0⟩:=Kd.at_int HR0.out x7_2 p179 q179;obtain rfl:ad173 = ad179:=(by injection e179);have hn179_0:ad173.block ≠ gb178:=Nat.ne_of_lt (Nat.lt_of_lt_of_le (by have:=World.block_lt_of_cell? _ _ hx179_0;first|rwa [add_block] at this|exact this) GW178.out);have hn179_1:ad173.block ≠ gb178:=Nat.ne_of_lt (Nat.lt_of_lt_of_le (by have:=World.block_lt_of_cell? _ _ hx179_0;first|rwa [add_block] at this|exact this) GW178.out);have hn179_2:ad173.block ≠ gb178:=Nat.ne_of_lt (Nat.lt_of_lt_of_le (by have:=World.block_lt_of_cell? _ _ hx179_0;first|rwa [add_block] at this|exact this) GW178.out);replace hx179_0:=(HB.out.cell (World.block_lt_of_cell? w _ hx179_0)).trans hx179_0;replace hx179_0:=(cell_far (p:=⟨gb178,0,none⟩) (by first|(rw [add_block];exact hn179_0)|(show (Addr.add _ _).block ≠ _;rw [add_block];exact hn179_0)|exact hn179_0) (.int .i64 x4_1)).trans hx179_0;replace hx179_0:=(cell_far (p:=⟨gb178,1,none⟩) (by first|(rw [add_block];exact hn179_1)|(show (Addr.add _ _).block ≠ _;rw [add_block];exact hn179_1)|exact hn179_1) (.int .i64 x7_2)).trans hx179_0;replace hx179_0:=(cell_far (p:=⟨gb178,2,none⟩) (by first|(rw [add_block];exact hn179_2)|(show (Addr.add _ _).block ≠ _;rw [add_block];exact hn179_2)|exact hn179_2) (.int .i64 ji16)).trans hx179_0;clear hn179_0 hn179_1 hn179_2;replace p179:=eq_true p179;replace q179:=eq_true q179))
          go_roundg kj16
          case measure=>have:=HK1.out;have:=HK2.out;have:=HJ6.out;have:=HJ16.out;omega
          case rel=>exact⟨(x5_2),(ji16),(wrap64 (x7_2 + 1)),(by first|rfl|(simp;done)|(simp only [← hji16] <;> (first|rfl|simp))|(simp [*];done)),(by first|rfl|(simp;done)|(simp [*];done)),H',⟨by have:=HK1.out;have:=HK2.out;have:=HJ6.out;have:=HJ16.out;omega⟩,⟨by (with_reducible repeat (first|apply aR|apply nR|apply dR));exact Kd.R_mono (Kd.R_far (p:=⟨gb178,2,none⟩) (Kd.R_far (p:=⟨gb178,1,none⟩) (Kd.R_far (p:=⟨gb178,0,none⟩) (Kd.R_mono HO_3.out (fun k_ hk=>(⟨hk,hk.2⟩:_ ∧ k_ ≠ gb178))) (fun _ hk=>hk.2) (.int .i64 x4_1)) (fun _ hk=>hk.2) (.int .i64 x7_2)) (fun _ hk=>hk.2) (.int .i64 ji16)) (fun _ hk=>hk.1.1)⟩,⟨by (with_reducible repeat (first|apply aR|apply nR|apply dR));exact Kd.R_mono (Kd.R_far (p:=⟨gb178,2,none⟩) (Kd.R_far (p:=⟨gb178,1,none⟩) (Kd.R_far (p:=⟨gb178,0,none⟩) (Kd.R_mono HO_5.out (fun k_ hk=>(⟨hk,hk.2⟩:_ ∧ k_ ≠ gb178))) (fun _ hk=>hk.2) (.int .i64 x4_1)) (fun _ hk=>hk.2) (.int .i64 x7_2)) (fun _ hk=>hk.2) (.int .i64 ji16)) (fun _ hk=>hk.1.1)⟩,⟨kB HB.out⟩⟩
         rw [if_pos c35] at H
         have c35b0:decide ((rd l0 x7_2) < ji16) = true:=decide_eq_true c35
         clear c35
         obtain⟨y186,hy186⟩:∃ y_:List (S27),y_ = (([(⟨x4_1,x7_2,ji16⟩:S27)]:List (S27))):=⟨_,rfl⟩
         replace H:(if y186.length + x5_2.length < 5864062014805 then (spec_l11All.l1 kj16 l0 x3_1 x4_1 (y186 ++ x5_2) ji16 (wrap64 (x7_2 + 1))) else (none)) = some r:=by first|(rw [hy186];with_reducible exact H)|(have H2_:=(Option.bind_some _ _).symm.trans H;rw [hy186];with_reducible exact H2_)|(have H2_:=(Option.bind_some _ _).symm.trans H;with_reducible exact H2_)|with_reducible exact H|(rw [hy186];exact H)|exact H
         have Ny186:=mk0 hy186
         clear hy186
         by_cases c36:y186.length + x5_2.length < 5864062014805
         rotate_left
         ·rw [if_neg c36] at H
          exact absurd H (by simp)
         rw [if_pos c36] at H
         have LMc36:=mk0 c36
         clear c36
         obtain⟨y189,hy189⟩:∃ y_:List (S27),y_ = (y186 ++ x5_2):=⟨_,rfl⟩
         replace H:(spec_l11All.l1 kj16 l0 x3_1 x4_1 y189 ji16 (wrap64 (x7_2 + 1))) = some r:=by first|(rw [hy189];with_reducible exact H)|(have H2_:=(Option.bind_some _ _).symm.trans H;rw [hy189];with_reducible exact H2_)|(have H2_:=(Option.bind_some _ _).symm.trans H;with_reducible exact H2_)|with_reducible exact H|(rw [hy189];exact H)|exact H
         have Ny189:=mk0 hy189
         clear hy189
         have H':=mk0 H
         clear H
         go_wp2_with (first|((with_reducible refine gate_dst (N:=8) rfl ?_);refine box_event ?hg (N:=8) ?hd (cs:=#[.int .i64 0,.int .i64 0,.int .i64 0]) (t:=27) ?hr ?_;(case hd=>rfl);(case hg=>rfl);(case hr=>first|(go_simp;done)|(go_simp;rfl));intro gb178 hg w37 hbox hb;replace HO_3:=mk0 (Kd.R_below (Kd.R_elderB (rR HO_3.out) gb178 (Nat.le_of_eq hg.symm)) hb);replace HO_5:=mk0 (Kd.R_below (Kd.R_elderB (rR HO_5.out) gb178 (Nat.le_of_eq hg.symm)) hb);have BK178:=mk0 (hbox);have GW178:=mk0 ((by rw [hg];exact (kZ HB.out):w.heap.size ≤ gb178));have GE178:=mk0 ((by rw [hg];exact (kZ HB.out):w.heap.size ≤ gb178));replace HB:=mk0 (kS HB.out hb);clear hb hbox hg;obtain⟨hcz38_0,hcz38_1,hcz38_2,hfz38_0,hfz38_1,hfz38_2⟩:=cz3 BK178.out;have p179:0 ≤ (x7_2:Int):=of_decide_eq_true (by first|(with_reducible assumption)|assumption);have q179:x7_2 < (l0.length:Int):=of_decide_eq_true (by first|(with_reducible assumption)|assumption);obtain⟨ad179,e179,hx179_0⟩:=Kd.at_int HR0.out x7_2 p179 q179;obtain rfl:ad173 = ad179:=(by injection e179);have hn179_0:ad173.block ≠ gb178:=Nat.ne_of_lt (Nat.lt_of_lt_of_le (by have:=World.block_lt_of_cell? _ _ hx179_0;first|rwa [add_block] at this|exact this) GW178.out);have hn179_1:ad173.block ≠ gb178:=Nat.ne_of_lt (Nat.lt_of_lt_of_le (by have:=World.block_lt_of_cell? _ _ hx179_0;first|rwa [add_block] at this|exact this) GW178.out);have hn179_2:ad173.block ≠ gb178:=Nat.ne_of_lt (Nat.lt_of_lt_of_le (by have:=World.block_lt_of_cell? _ _ hx179_0;first|rwa [add_block] at this|exact this) GW178.out);replace hx179_0:=(HB.out.cell (World.block_lt_of_cell? w _ hx179_0)).trans hx179_0;replace hx179_0:=(cell_far (p:=⟨gb178,0,none⟩) (by first|(rw [add_block];exact hn179_0)|(show (Addr.add _ _).block ≠ _;rw [add_block];exact hn179_0)|exact hn179_0) (.int .i64 x4_1)).trans hx179_0;replace hx179_0:=(cell_far (p:=⟨gb178,1,none⟩) (by first|(rw [add_block];exact hn179_1)|(show (Addr.add _ _).block ≠ _;rw [add_block];exact hn179_1)|exact hn179_1) (.int .i64 x7_2)).trans hx179_0;replace hx179_0:=(cell_far (p:=⟨gb178,2,none⟩) (by first|(rw [add_block];exact hn179_2)|(show (Addr.add _ _).block ≠ _;rw [add_block];exact hn179_2)|exact hn179_2) (.int .i64 ji16)).trans hx179_0;clear hn179_0 hn179_1 hn179_2;replace p179:=eq_true p179;replace q179:=eq_true q179)|((with_reducible refine gate_dst (N:=67) rfl ?_);refine Kd.R_lit k27 _ 27 ?hg (N:=67) ?hd (xs:=([(⟨x4_1,x7_2,ji16⟩:S27)]:List (S27))) (inner:=[.int .i64 x4_1,.int .i64 x7_2,.int .i64 ji16]) (ok:=fun _=>True) (okp:=fun _=>True) ?hr ?hp (fun _ hk=>hk) trivial (Below.refl _ _) (Nat.le_refl _) (by simp) ?_;(case hd=>rfl);(case hg=>rfl);(case hr=>first|(go_simp;done)|(go_simp;rfl));(case hp=>exact (Reps.c3 (show Kd.M k27 _ _ _ (⟨x4_1,x7_2,ji16⟩:S27) [.int .i64 x4_1,.int .i64 x7_2,.int .i64 ji16] from (k27_mkM _ _ _ (⟨x4_1,x7_2,ji16⟩:S27) )) (Reps.none _ _)));intro v187 w39 ho40 hb hg_ hnew_;clear hg_ hnew_;(first|rw [← Ny186.out] at ho40|(simp only [Int.reduceToNat] at ho40;rw [← Ny186.out] at ho40));have HO188:=mk0 (Kd.R_lower (Kd.R_newB (Kd.R_new' (Kd.R_new' ho40 (Kd.R_lt (by (with_reducible repeat (first|apply aR|apply nR|apply dR));exact (Kd.R_mono (Kd.R_far (p:=⟨gb178,2,none⟩) (Kd.R_far (p:=⟨gb178,1,none⟩) (Kd.R_far (p:=⟨gb178,0,none⟩) (Kd.R_mono HO_3.out (fun k_ hk=>(⟨hk,hk.2⟩:_ ∧ k_ ≠ gb178))) (fun _ hk=>hk.2) (.int .i64 x4_1)) (fun _ hk=>hk.2) (.int .i64 x7_2)) (fun _ hk=>hk.2) (.int .i64 ji16)) (fun _ h_=>h_.1))))) (Kd.R_lt (by (with_reducible repeat (first|apply aR|apply nR|apply dR));exact (Kd.R_mono (Kd.R_far (p:=⟨gb178,2,none⟩) (Kd.R_far (p:=⟨gb178,1,none⟩) (Kd.R_far (p:=⟨gb178,0,none⟩) (Kd.R_mono HO_5.out (fun k_ hk=>(⟨hk,hk.2⟩:_ ∧ k_ ≠ gb178))) (fun _ hk=>hk.2) (.int .i64 x4_1)) (fun _ hk=>hk.2) (.int .i64 x7_2)) (fun _ hk=>hk.2) (.int .i64 ji16)) (fun _ h_=>h_.1))))) (g:=gb178) (o:=.cells #[.int .i64 x4_1,.int .i64 x7_2,.int .i64 ji16] 27 (0,0)) (by (with_reducible repeat (first|apply nB|apply dB|apply aB));refine blk_put (cs:=#[.int .i64 x4_1,.int .i64 x7_2,.int .i64 0]) ?_ 2 _ rfl;(with_reducible repeat (first|apply nB|apply dB|apply aB));refine blk_put (cs:=#[.int .i64 x4_1,.int .i64 0,.int .i64 0]) ?_ 1 _ rfl;(with_reducible repeat (first|apply nB|apply dB|apply aB));refine blk_put (cs:=#[.int .i64 0,.int .i64 0,.int .i64 0]) ?_ 0 _ rfl;(with_reducible repeat (first|apply nB|apply dB|apply aB));exact BK178.out)) (kZ HB.out));replace HO_3:=mk0 (Kd.R_elder' (by (with_reducible repeat (first|apply aR|apply nR|apply dR));exact (Kd.R_mono (Kd.R_far (p:=⟨gb178,2,none⟩) (Kd.R_far (p:=⟨gb178,1,none⟩) (Kd.R_far (p:=⟨gb178,0,none⟩) (Kd.R_mono HO_3.out (fun k_ hk=>(⟨hk,hk.2⟩:_ ∧ k_ ≠ gb178))) (fun _ hk=>hk.2) (.int .i64 x4_1)) (fun _ hk=>hk.2) (.int .i64 x7_2)) (fun _ hk=>hk.2) (.int .i64 ji16)) (fun _ h_=>h_.1))) (Kd.R_base ho40) hb);replace HO_5:=mk0 (Kd.R_elder' (by (with_reducible repeat (first|apply aR|apply nR|apply dR));exact (Kd.R_mono (Kd.R_far (p:=⟨gb178,2,none⟩) (Kd.R_far (p:=⟨gb178,1,none⟩) (Kd.R_far (p:=⟨gb178,0,none⟩) (Kd.R_mono HO_5.out (fun k_ hk=>(⟨hk,hk.2⟩:_ ∧ k_ ≠ gb178))) (fun _ hk=>hk.2) (.int .i64 x4_1)) (fun _ hk=>hk.2) (.int .i64 x7_2)) (fun _ hk=>hk.2) (.int .i64 ji16)) (fun _ h_=>h_.1))) (Kd.R_base ho40) hb);replace BK178:=mk0 (blk_below (g:=gb178) (o:=.cells #[.int .i64 x4_1,.int .i64 x7_2,.int .i64 ji16] 27 (0,0)) (by (with_reducible repeat (first|apply nB|apply dB|apply aB));refine blk_put (cs:=#[.int .i64 x4_1,.int .i64 x7_2,.int .i64 0]) ?_ 2 _ rfl;(with_reducible repeat (first|apply nB|apply dB|apply aB));refine blk_put (cs:=#[.int .i64 x4_1,.int .i64 0,.int .i64 0]) ?_ 1 _ rfl;(with_reducible repeat (first|apply nB|apply dB|apply aB));refine blk_put (cs:=#[.int .i64 0,.int .i64 0,.int .i64 0]) ?_ 0 _ rfl;(with_reducible repeat (first|apply nB|apply dB|apply aB));exact BK178.out) hb);replace HB:=mk0 (kS HB.out hb);clear hb ho40;obtain⟨Ao42,co42,eo42⟩:=Kd.R_slice HO_5.out;subst eo42)|((with_reducible refine gate_builtin (b:=.append) (xs:=#[.tmp 67,.tmp 68]) rfl ?_);at_builtin;refine Kd.R_append_rows k27 (w0:=w) w.heap.size rfl (.tmp 67) (.tmp 68) 39 27 (.agg #[(.int .i64 0),(.int .i64 0),(.int .i64 0)]) 24 rfl Try.underlying39 info27 rfl (by decide) (by omega) v187 y186 x5_2 _ _ _ (fun k_=>some k_ ≠ (u3:Value).ownBlock ∧ some k_ ≠ (.slice Ao42 x5_2.length co42:Value).ownBlock ∧ k_ ≠ gb178) (fun _=>False) rfl rfl ?aO ?aR (fun _ _ h=>h) (fun _ h=>h.elim) ?aF ?aB ?aS ?aL ?_;(case aR=>repeat (first|exact (Kd.R_reads' HO_5.out).2.2|(with_reducible first|apply aC|apply nC|apply dC)));(case aB=>exact (kB HB.out));(case aF=>exact (fun k_ hk=>⟨Kd.fresh' (Kd.R_lt (rR HO_3.out)) k_ hk,Kd.fresh' (Kd.R_lt (rR HO_5.out)) k_ hk,Kd.freshB (g:=gb178) (kN BK178.out) k_ hk⟩));(case aO=>exact (rR (Kd.R_mono HO188.out (fun _ hk=>⟨hk.1.1.2,⟨hk.1.2,hk.2⟩⟩))));(case aS=>exact (kZ HB.out));(case aL=>have:=LMc36.out;omega);intro v190 w41 ho hb hg hat;rw [← Ny189.out] at ho;replace HO_3:=mk0 (Kd.R_after (ok:=(fun k_=>some k_ ≠ (.slice Ao42 x5_2.length co42:Value).ownBlock ∧ k_ ≠ gb178)) (rR HO_3.out) hg hat);replace HO_5:=mk0 (Kd.R_after (ok:=(fun k_=>some k_ ≠ (u3:Value).ownBlock ∧ k_ ≠ gb178)) (rR HO_5.out) hg hat);replace BK178:=mk0 (blk_grown (kN BK178.out) hg (Kd.R_away HO188.out (fun _ hk=>hk.2)));replace HB:=mk0 (hb);have HO191:=mk0 (ho);clear HO188 ho hb hg hat))
         go_roundg kj16
         case measure=>have:=HK1.out;have:=HK2.out;have:=HJ6.out;have:=HJ16.out;omega
         case rel=>exact⟨(y189),(ji16),(wrap64 (x7_2 + 1)),(by first|rfl|(simp;done)|(simp only [← hji16] <;> (first|rfl|simp))|(simp [*];done)),(by first|rfl|(simp;done)|(simp [*];done)),H',⟨by have:=HK1.out;have:=HK2.out;have:=HJ6.out;have:=HJ16.out;omega⟩,⟨rR (Kd.R_mono HO_3.out (fun _ hk=>hk.2))⟩,⟨rR (Kd.R_mono HO191.out (fun _ hk=>hk.1))⟩,⟨kB HB.out⟩⟩
/-! ### spec_StretchAll: function 25 -/
def spec_StretchAll.f (k : Nat) (l0 : List Int) : Option ((List (S27))) := (spec_TextOk.f l0).bind fun t192 => (if t192 = true then ((spec_LcpRows.f k l0).bind fun t193 => ((spec_l11All.f k t193).bind fun t196 => (some t196))) else (some ([] : List (S27))))
theorem spec_StretchAll.mono : ∀ a0 k, LeO (spec_StretchAll.f k a0) (spec_StretchAll.f (k + 1) a0) := by
 intro a0 k
 unfold spec_StretchAll.f
 repeat' first|(with_reducible first|exact spec_LcpRows.mono _ _|exact spec_l11All.mono _ _|exact LeO.refl _|exact LeO.none _|refine LeO.ite ?_ ?_|refine LeO.bind ?_ (fun _ => ?_))|exact LeO.none _|refine LeO.ite ?_ ?_|refine LeO.bind ?_ (fun _ => ?_)
set_option maxHeartbeats 8000000 in
set_option maxRecDepth 100000 in
theorem spec_StretchAll.calls (k : Nat) (A0 : Option Addr) (c0 : Nat) (l0 : List Int) (r : List (S27)) (w : World) (hr0 : Kd.C (Kd.int .u8) w A0 l0.length l0) (hc0 : l0.length ≤ c0) (h : spec_StretchAll.f k l0 = some r) :
  Calls Try.prog 25 #[.slice A0 l0.length c0] w fun e w' => ∃ v0_ : Value, e = .returned (v0_) ∧ Kd.R k27 27 w' w.heap.size (fun _ => True) v0_ r ∧ Below w.heap.size w w' := by
 have HR0:=mk0 hr0
 have HC0:=mk0 hc0
 clear hr0 hc0
 have HB:=mk0 (Below.refl w.heap.size w)
 have H:((spec_TextOk.f l0).bind fun t192=>(if t192 = true then ((spec_LcpRows.f k l0).bind fun t193=>((spec_l11All.f k t193).bind fun t196=>(some t196))) else (some ([]:List (S27))))) = some r:=h
 clear h
 replace H:=Option.bind_eq_some_iff.mp H
 obtain⟨t192,A20,H⟩:=H
 replace H:(if t192 = true then ((spec_LcpRows.f k l0).bind fun t193=>((spec_l11All.f k t193).bind fun t196=>(some t196))) else (some ([]:List (S27)))) = some r:=H
 have A2:=mk0 A20
 clear A20
 by_cases c3:t192 = true
 ·subst c3
  have H1:((spec_LcpRows.f k l0).bind fun t193=>((spec_l11All.f k t193).bind fun t196=>(some t196))) = some r:=by rw [if_pos rfl] at H;exact H
  clear H
  have H:=H1
  clear H1
  replace H:=Option.bind_eq_some_iff.mp H
  obtain⟨t193,A40,H⟩:=H
  replace H:((spec_l11All.f k t193).bind fun t196=>(some t196)) = some r:=H
  have A4:=mk0 A40
  clear A40
  replace H:=Option.bind_eq_some_iff.mp H
  obtain⟨t196,A50,H⟩:=H
  replace H:(some t196) = some r:=H
  have A5:=mk0 A50
  clear A50
  obtain rfl:=Option.some.inj H
  go_enter Try.func25,Try.ntmps25
  go_wp2_with (first|((with_reducible refine gate_callee (f:=36) rfl ?_);refine goesL_ (some 4) rfl rfl Try.func36 (by kernel_rfl) rfl #[.slice A0 l0.length c0] rfl (by (try simp only [mA,mC,mN]);first|done|rfl|(simp only [List.length_drop,List.length_take];done)|(simp only [List.length_drop,List.length_take];rfl)) ?_;(with_reducible refine (spec_TextOk.calls _ _ l0 true _ ?side1 ?side2 A2.out).mono ?_);(case side1=>repeat (first|exact HR0.out|(with_reducible first|apply aC|apply nC|apply dC)));(case side2=>exact HC0.out);rintro e w' ⟨rfl,⟨nd,rfl⟩⟩;refine⟨_,rfl,?_⟩)|((with_reducible refine gate_callee (f:=38) rfl ?_);refine goesL_ (some 7) rfl rfl Try.func38 (by kernel_rfl) rfl #[.slice A0 l0.length c0] rfl (by (try simp only [mA,mC,mN]);first|done|rfl|(simp only [List.length_drop,List.length_take];done)|(simp only [List.length_drop,List.length_take];rfl)) ?_;(with_reducible refine (spec_LcpRows.calls k _ _ l0 t193 _ ?side1 ?side2 A4.out).mono ?_);(case side1=>repeat (first|exact HR0.out|(with_reducible first|apply aC|apply nC|apply dC)));(case side2=>exact HC0.out);rintro e w6 ⟨v194,rfl,ho0,hb⟩;refine⟨_,rfl,?_⟩;have HO195:=mk0 (Kd.R_lower ho0 (kZ HB.out));replace HB:=mk0 (kS HB.out hb);(try clear hb);(try clear ho0);obtain⟨Ao7,co7,eo7⟩:=Kd.R_slice HO195.out;subst eo7)|((with_reducible refine gate_callee (f:=52) rfl ?_);refine goesL_ (some 8) rfl rfl Try.func52 (by kernel_rfl) rfl #[.slice Ao7 t193.length co7] rfl (by (try simp only [mA,mC,mN]);first|done|rfl|(simp only [List.length_drop,List.length_take];done)|(simp only [List.length_drop,List.length_take];rfl)) ?_;(with_reducible refine (spec_l11All.calls k _ _ t193 t196 _ ?side1 ?side2 A5.out).mono ?_);(case side1=>exact kC (Kd.R_reads' HO195.out).2.2);(case side2=>exact (Kd.R_reads' HO195.out).2.1);rintro e w8 ⟨v197,rfl,ho0,hb⟩;refine⟨_,rfl,?_⟩;replace HO195:=mk0 (bR HO195.out hb);have HO198:=mk0 (Kd.R_lower ho0 (kZ HB.out));replace HB:=mk0 (kS HB.out hb);(try clear hb);(try clear ho0)))
  go_ret
  exact⟨_,by first|rfl|(simp [errW_none,errW_some] <;> rfl)|(simp [*,errW_none,errW_some] <;> rfl),rR HO198.out,kB HB.out⟩
 ·replace c3:=Bool.eq_false_iff.mpr c3
  subst c3
  have H1:(some ([]:List (S27))) = some r:=by rw [if_neg (show ¬ (false = true) by decide)] at H;exact H
  clear H
  have H:=H1
  clear H1
  obtain rfl:=Option.some.inj H
  go_enter Try.func25,Try.ntmps25
  go_wp2_with (first|((with_reducible refine gate_callee (f:=36) rfl ?_);refine goesL_ (some 4) rfl rfl Try.func36 (by kernel_rfl) rfl #[.slice A0 l0.length c0] rfl (by (try simp only [mA,mC,mN]);first|done|rfl|(simp only [List.length_drop,List.length_take];done)|(simp only [List.length_drop,List.length_take];rfl)) ?_;(with_reducible refine (spec_TextOk.calls _ _ l0 false _ ?side1 ?side2 A2.out).mono ?_);(case side1=>repeat (first|exact HR0.out|(with_reducible first|apply aC|apply nC|apply dC)));(case side2=>exact HC0.out);rintro e w' ⟨rfl,⟨nd,rfl⟩⟩;refine⟨_,rfl,?_⟩))
  go_ret
  exact⟨_,by first|rfl|(simp [errW_none,errW_some] <;> rfl)|(simp [*,errW_none,errW_some] <;> rfl),by first|exact Kd.R_nil _ _ _ _ _|exact Kd.N_nil _ _ _ _ _|exact Kd.V_nil _ _ _ _ _|exact Kd.Q_nil _ _ _ _ _|exact Kd.S_nil _ _ _ _ _,kB HB.out⟩

/-! ### impl_TextOk: function 39 -/
def impl_TextOk.f (l0 : List Int) : Option (Bool) := some (decide ((l0.length : Int) ≤ 300))
set_option maxHeartbeats 8000000 in
set_option maxRecDepth 100000 in
theorem impl_TextOk.calls (A0 : Option Addr) (c0 : Nat) (l0 : List Int) (r : Bool) (w : World) (hr0 : Kd.C (Kd.int .u8) w A0 l0.length l0) (hc0 : l0.length ≤ c0) (h : impl_TextOk.f l0 = some r) :
  Calls Try.prog 39 #[.slice A0 l0.length c0] w fun e w' => e = .returned (.bool r) ∧ Drawn0 w w' := by
 have HR0:=mk0 hr0
 have HC0:=mk0 hc0
 clear hr0 hc0
 have H:(some (decide ((l0.length:Int) ≤ 300))) = some r:=h
 clear h
 obtain rfl:=Option.some.inj H
 go_enter Try.func39,Try.ntmps39
 go_wp2
 go_ret
 exact⟨by first|rfl|(simp;done)|(simp [*];done),by repeat (first|exact Drawn0.refl _|apply Drawn0.step)⟩

-- NOT PRINTED: function 92 (slices_insertionSortCmpFunc_int)

-- NOT PRINTED: function 113 (slices_siftDownCmpFunc_int)

-- NOT PRINTED: function 93 (slices_heapSortCmpFunc_int)

-- NOT PRINTED: function 100 (bits_Len32)

-- NOT PRINTED: function 101 (bits_Len64)

-- NOT PRINTED: function 80 (bits_Len)

-- NOT PRINTED: function 114 (slices_nextPowerOfTwo)

-- NOT PRINTED: function 115 (slices_xorshift_Next)

-- NOT PRINTED: function 94 (slices_breakPatternsCmpFunc_int)

-- NOT PRINTED: function 121 (slices_order2CmpFunc_int)

-- NOT PRINTED: function 117 (slices_medianCmpFunc_int)

-- NOT PRINTED: function 116 (slices_medianAdjacentCmpFunc_int)

-- NOT PRINTED: function 95 (slices_choosePivotCmpFunc_int)

-- NOT PRINTED: function 96 (slices_reverseRangeCmpFunc_int)

-- NOT PRINTED: function 97 (slices_partialInsertionSortCmpFunc_int)

-- NOT PRINTED: function 98 (slices_partitionEqualCmpFunc_int)

-- NOT PRINTED: function 99 (slices_partitionCmpFunc_int)

-- NOT PRINTED: function 79 (slices_pdqsortCmpFunc_int)

-- NOT PRINTED: function 65 (slices_SortFunc_int_int)


/-! ### slices_SortFunc_66: slices.SortFunc at the literal 66, which compares suffixes of what it captures -/
def slices_SortFunc_66.f (l0 : List Int) (l1 : List Int) : Option (List Int) := if (l1.all Fv.isB && l0.all (fun x => decide (0 ≤ x ∧ x ≤ (l1.length : Int))) && decide (l0.length < 4611686018427387904)) = true then some (l0.mergeSort (Fv.sufLe l1)) else none
theorem slices_SortFunc_66.calls {g : Nat} (P0_ : Nat → Prop) (u9000_ : Value) (l0 : List Int) (A1 : Option Addr) (c1 : Nat) (l1 : List Int) (r : List Int) (w0 w : World) (hB : Below w0.heap.size w0 w) (ho0 : Kd.R (Kd.int .i64) 3 w w0.heap.size P0_ u9000_ l0)
    (hr1 : ∀ W', Kept w W' (fun k_ => P0_ k_) → Kd.C (Kd.int .u8) W' A1 l1.length l1) (hc1 : l1.length ≤ c1) (hb : w.heap[g]? = some (.cells #[.slice A1 l1.length c1] 22 (0, 0))) (h : slices_SortFunc_66.f l0 l1 = some r) :
    Calls Try.prog 65 #[u9000_, .func (.func 66) #[] #[.pointer (some ⟨g, 0, none⟩)]] w fun e w' => e = .returned (.tuple #[]) ∧ Kd.R (Kd.int .i64) 3 w' w0.heap.size (fun k_ => (P0_ k_ ∨ w.heap.size ≤ k_)) u9000_ r ∧ Below w0.heap.size w0 w' ∧ Kept w w' (fun k_ => P0_ k_) := by
  unfold slices_SortFunc_66.f at h
  split at h
  · rename_i hc
    obtain rfl := Option.some.inj h
    simp only [Bool.and_eq_true, List.all_eq_true, decide_eq_true_eq, Fv.isB] at hc
    exact Fv.sortSuf P0_ u9000_ l0 A1 c1 l1 w0 w hB ho0 hr1 hc1 hb hc.1.1 hc.1.2 hc.2
  · exact absurd h (by simp)

/-! ### impl_suffixRows: function 44 -/
def impl_suffixRows.l0 : Nat → List Int → Int → Int → List Int → Option (List Int)
 | 0, _, _, _, _ => none
 | k + 1, x3, x7, x8, x200000 => if x8 < x7 then (if x3.length < 17592186044416 then (impl_suffixRows.l0 k (x3 ++ [x8]) x7 (wrap64 (x8 + 1)) x200000) else (none)) else ((slices_SortFunc_66.f x3 x200000).bind fun t203 => (some t203))
def impl_suffixRows.f (k : Nat) (l0 : List Int) : Option (List Int) := impl_suffixRows.l0 k ([] : List Int) (wrap64 ((l0.length : Int) + 1)) 0 l0
theorem impl_suffixRows.mono_l : ∀ k, (∀ y0 y1 y2 y3, LeO (impl_suffixRows.l0 k y0 y1 y2 y3) (impl_suffixRows.l0 (k + 1) y0 y1 y2 y3))
 | 0 => fun _ _ _ _ r h => by simp [impl_suffixRows.l0] at h
 | k + 1 => by
  have ih0 := impl_suffixRows.mono_l k
  ·intro y0 y1 y2 y3
   unfold impl_suffixRows.l0
   repeat' first|(with_reducible first|exact ih0 _ _ _ _|exact LeO.refl _|exact LeO.none _|refine LeO.ite ?_ ?_|refine LeO.bind ?_ (fun _ => ?_))|exact LeO.none _|refine LeO.ite ?_ ?_|refine LeO.bind ?_ (fun _ => ?_)
theorem impl_suffixRows.mono : ∀ a0 k, LeO (impl_suffixRows.f k a0) (impl_suffixRows.f (k + 1) a0) := by
 intro a0 k
 have ih0 := impl_suffixRows.mono_l k
 unfold impl_suffixRows.f
 repeat' first|(with_reducible first|exact ih0 _ _ _ _|exact LeO.refl _|exact LeO.none _|refine LeO.ite ?_ ?_|refine LeO.bind ?_ (fun _ => ?_))|exact LeO.none _|refine LeO.ite ?_ ?_|refine LeO.bind ?_ (fun _ => ?_)
set_option maxHeartbeats 8000000 in
set_option maxRecDepth 100000 in
theorem impl_suffixRows.calls (k : Nat) (A0 : Option Addr) (c0 : Nat) (l0 : List Int) (r : List Int) (w : World) (hr0 : Kd.C (Kd.int .u8) w A0 l0.length l0) (hc0 : l0.length ≤ c0) (h : impl_suffixRows.f k l0 = some r) :
  Calls Try.prog 44 #[.slice A0 l0.length c0] w fun e w' => ∃ v0_ : Value, e = .returned (v0_) ∧ Kd.R (Kd.int .i64) 3 w' w.heap.size (fun _ => True) v0_ r ∧ Below w.heap.size w w' := by
 have HR0:=mk0 hr0
 have HC0:=mk0 hc0
 clear hr0 hc0
 have HB:=mk0 (Below.refl w.heap.size w)
 have H:(impl_suffixRows.l0 k ([]:List Int) (wrap64 ((l0.length:Int) + 1)) 0 l0) = some r:=h
 clear h
 have H':=mk0 H
 clear H
 go_enter Try.func44,Try.ntmps44
 go_wp2_with (first|((with_reducible refine gate_dst (N:=1) rfl ?_);refine box_event ?hg (N:=1) ?hd (cs:=#[.slice A0 l0.length c0]) (t:=22) ?hr ?_;(case hd=>rfl);(case hg=>rfl);(case hr=>first|(go_simp;done)|(go_simp;rfl));intro gb199 hg w2 hbox hb;have BK199:=mk0 (hbox);have GW199:=mk0 ((by rw [hg];exact (kZ HB.out):w.heap.size ≤ gb199));have GE199:=mk0 ((by rw [hg];exact (kZ HB.out):w.heap.size ≤ gb199));replace HB:=mk0 (kS HB.out hb);clear hb hbox hg;have hcz3_0:w2.cell? ⟨gb199,0,none⟩ = some (.slice A0 l0.length c0):=(blk_cell BK199.out 0).trans rfl;have hfz3_0:=blk_frozen BK199.out 0))
 go_loopg [3,8] k (fun kq v3 v8 w'=>∃ (x3_1:List Int) (x8_1:Int),v8 = .int .i64 x8_1 ∧ Aside0 (impl_suffixRows.l0 kq x3_1 (wrap64 ((l0.length:Int) + 1)) x8_1 l0 = some r) ∧ Aside0 (kq ≤ k) ∧ Aside0 (Kd.R (Kd.int .i64) 3 w' w.heap.size (fun _=>True) v3 x3_1) ∧ Aside0 (w'.heap[gb199]? = some (.cells #[(.slice A0 l0.length c0)] 22 (0,0))) ∧ Aside0 (Below w.heap.size w w'))
 case atStart=>exact⟨(([]:List Int)),(0),(by first|rfl|(simp;done)|(simp [*];done)),H',⟨Nat.le_refl _⟩,⟨by first|exact Kd.R_nil _ _ _ _ _|exact Kd.N_nil _ _ _ _ _|exact Kd.V_nil _ _ _ _ _|exact Kd.Q_nil _ _ _ _ _|exact Kd.S_nil _ _ _ _ _⟩,⟨kN BK199.out⟩,⟨kB HB.out⟩⟩
 case round =>
  clear H'
  try clear p2
  try clear hcz3_0
  try clear hfz3_0
  obtain⟨x3_1,x8_1,rfl,HA,HK1,HO_3,BK199,HB⟩:=hrel
  cases gk with
  | zero=>exact absurd HA.out (by simp [impl_suffixRows.l0])
  | succ k1 =>
   have H:=HA.out
   clear HA
   simp only [impl_suffixRows.l0] at H
   by_cases c4:x8_1 < (wrap64 ((l0.length:Int) + 1))
   ·rw [if_pos c4] at H
    have c4b0:decide (x8_1 < (wrap64 ((l0.length:Int) + 1))) = true:=decide_eq_true c4
    clear c4
    by_cases c5:x3_1.length < 17592186044416
    ·rw [if_pos c5] at H
     have LMc5:=mk0 c5
     clear c5
     obtain⟨y200,hy200⟩:∃ y_:List Int,y_ = (x3_1 ++ [x8_1]):=⟨_,rfl⟩
     replace H:(impl_suffixRows.l0 k1 y200 (wrap64 ((l0.length:Int) + 1)) (wrap64 (x8_1 + 1)) l0) = some r:=by first|(rw [hy200];with_reducible exact H)|(have H2_:=(Option.bind_some _ _).symm.trans H;rw [hy200];with_reducible exact H2_)|(have H2_:=(Option.bind_some _ _).symm.trans H;with_reducible exact H2_)|with_reducible exact H|(rw [hy200];exact H)|exact H
     have Ny200:=mk0 hy200
     clear hy200
     have H':=mk0 H
     clear H
     go_wp2_with (first|((with_reducible refine gate_builtin (b:=.append) (xs:=#[.tmp 11,.tmp 13]) rfl ?_);at_builtin;refine Kd.R_append (Kd.int .i64) (w0:=w) w.heap.size rfl (.tmp 11) (.tmp 13) 48 3 (.int .i64 0) 8 rfl Try.underlying48 info3 rfl (by decide) (by omega) u3 x3_1 x8_1 [.int .i64 x8_1] (fun _=>True) (fun _=>False) rfl rfl ?aP (fun _ hk=>hk.elim) ?aF ?aO ?aB ?aS ?aL ?_;(case aP=>exact rfl);(case aB=>exact (kB HB.out));(case aF=>exact (fun _ _=>trivial));(case aO=>exact (rR HO_3.out));(case aS=>exact (kZ HB.out));(case aL=>have:=LMc5.out;omega);intro v201 w6 ho hb hg hat;rw [← Ny200.out] at ho;replace BK199:=mk0 (blk_grown (kN BK199.out) hg (Kd.R_ne HO_3.out BK199.out (by decide)));replace HB:=mk0 (hb);have HO202:=mk0 (ho);clear HO_3 ho hb hg hat))
     go_roundg k1
     case measure=>have:=HK1.out;omega
     case rel=>exact⟨(y200),(wrap64 (x8_1 + 1)),(by first|rfl|(simp;done)|(simp [*];done)),H',⟨by have:=HK1.out;omega⟩,⟨rR HO202.out⟩,⟨kN BK199.out⟩,⟨kB HB.out⟩⟩
    ·rw [if_neg c5] at H
     exact absurd H (by simp)
   ·rw [if_neg c4] at H
    have c4b0:decide (x8_1 < (wrap64 ((l0.length:Int) + 1))) = false:=decide_eq_false c4
    clear c4
    replace H:=Option.bind_eq_some_iff.mp H
    obtain⟨t203,A70,H⟩:=H
    replace H:(some t203) = some r:=H
    have A7:=mk0 A70
    clear A70
    obtain rfl:=Option.some.inj H
    obtain⟨Ao8,co8,eo8⟩:=Kd.R_slice HO_3.out
    subst eo8
    go_wp2_with (first|((with_reducible refine gate_callee (f:=65) rfl ?_);refine goesL_ (some 18) rfl rfl Try.func65 (by kernel_rfl) rfl #[.slice Ao8 x3_1.length co8,.func (.func 66) #[] #[.pointer (some ⟨gb199,0,none⟩)]] rfl (by (try simp only [mA,mC,mN]);first|done|rfl|(simp only [List.length_drop,List.length_take];done)|(simp only [List.length_drop,List.length_take];rfl)) ?_;(with_reducible refine (slices_SortFunc_66.calls (fun k_=>some k_ = (.slice Ao8 x3_1.length co8:Value).ownBlock) (.slice Ao8 x3_1.length co8) x3_1 A0 c0 l0 t203 w _ ?side1 ?side2 ?side3 ?side4 ?side5 A7.out).mono ?_);(case side1=>repeat (first|(with_reducible first|exact HB.out|apply aZ|apply nZ|apply dZ|refine sZ ?_ GE199.out)|exact HB.out));(case side2=>exact Kd.R_tight rfl HO_3.out);(case side3=>exact Kd.C_kept_came (Kd.heap_int .u8) HR0.out (kB HB.out) (fun k_ hs_=>(fun e_=>Kd.R_base HO_3.out k_ e_.symm) hs_));(case side4=>exact HC0.out);(case side5=>exact by (with_reducible repeat (first|apply nB|apply dB|apply aB));exact BK199.out);rintro e w9 ⟨rfl,hy0,hb,hkp⟩;refine⟨_,rfl,?_⟩;replace BK199:=mk0 (blk_kept (kN BK199.out) hkp (fun hs_=>(fun e_=>(Kd.R_ne HO_3.out BK199.out (by decide)) e_) hs_));replace HO_3:=mk0 (Kd.R_reok rfl hy0 (fun k_ e_=>HO_3.out.1 k_ e_));replace HB:=mk0 (hb);(try clear hb);(try clear hkp);(try clear hy0)))
    go_ret
    exact⟨_,by first|rfl|(simp [errW_none,errW_some] <;> rfl)|(simp [*,errW_none,errW_some] <;> rfl),rR HO_3.out,kB HB.out⟩

/-! ### impl_common: function 63 -/
def impl_common.l0 : Nat → List Int → List Int → Int → Option (Int)
 | 0, _, _, _ => none
 | k + 1, x0, x1, x5 => if x5 < (mn (x0.length : Int) (x1.length : Int)) then (if 0 ≤ x5 then (if x5 < (x0.length : Int) then (if x5 < (x1.length : Int) then (if (rd x0 x5) = (rd x1 x5) then (impl_common.l0 k x0 x1 (wrap64 (x5 + 1))) else (some x5)) else (none)) else (none)) else (none)) else (some x5)
def impl_common.f (k : Nat) (l0 : List Int) (l1 : List Int) : Option (Int) := impl_common.l0 k l0 l1 0
theorem impl_common.mono_l : ∀ k, (∀ y0 y1 y2, LeO (impl_common.l0 k y0 y1 y2) (impl_common.l0 (k + 1) y0 y1 y2))
 | 0 => fun _ _ _ r h => by simp [impl_common.l0] at h
 | k + 1 => by
  have ih0 := impl_common.mono_l k
  ·intro y0 y1 y2
   unfold impl_common.l0
   repeat' first|(with_reducible first|exact ih0 _ _ _|exact LeO.refl _|exact LeO.none _|refine LeO.ite ?_ ?_|refine LeO.bind ?_ (fun _ => ?_))|exact LeO.none _|refine LeO.ite ?_ ?_|refine LeO.bind ?_ (fun _ => ?_)
theorem impl_common.mono : ∀ a0 a1 k, LeO (impl_common.f k a0 a1) (impl_common.f (k + 1) a0 a1) := by
 intro a0 a1 k
 have ih0 := impl_common.mono_l k
 unfold impl_common.f
 repeat' first|(with_reducible first|exact ih0 _ _ _|exact LeO.refl _|exact LeO.none _|refine LeO.ite ?_ ?_|refine LeO.bind ?_ (fun _ => ?_))|exact LeO.none _|refine LeO.ite ?_ ?_|refine LeO.bind ?_ (fun _ => ?_)
set_option maxHeartbeats 8000000 in
set_option maxRecDepth 100000 in
theorem impl_common.calls (k : Nat) (A0 : Option Addr) (c0 : Nat) (l0 : List Int) (A1 : Option Addr) (c1 : Nat) (l1 : List Int) (r : Int) (w : World) (hr0 : Kd.C (Kd.int .u8) w A0 l0.length l0) (hc0 : l0.length ≤ c0) (hr1 : Kd.C (Kd.int .u8) w A1 l1.length l1) (hc1 : l1.length ≤ c1) (h : impl_common.f k l0 l1 = some r) :
  Calls Try.prog 63 #[.slice A0 l0.length c0, .slice A1 l1.length c1] w fun e w' => e = .returned (.int .i64 r) ∧ Below w.heap.size w w' := by
 have HR0:=mk0 hr0
 have HC0:=mk0 hc0
 clear hr0 hc0
 have HR1:=mk0 hr1
 have HC1:=mk0 hc1
 clear hr1 hc1
 have HB:=mk0 (Below.refl w.heap.size w)
 have H:(impl_common.l0 k l0 l1 0) = some r:=h
 clear h
 have H':=mk0 H
 clear H
 go_enter Try.func63,Try.ntmps63
 go_wp2
 repeat (go_quiet (fail);try go_wp2)
 go_loopg [5] k (fun kq v5 w'=>∃ (x5_1:Int),v5 = .int .i64 x5_1 ∧ Aside0 (impl_common.l0 kq l0 l1 x5_1 = some r) ∧ Aside0 (kq ≤ k) ∧ Aside0 (Below w.heap.size w w'))
 case atStart=>exact⟨(0),(by first|rfl|(simp;done)|(simp [*];done)),H',⟨Nat.le_refl _⟩,⟨kB HB.out⟩⟩
 case round =>
  clear H'
  try clear c1
  try clear p2
  obtain⟨x5_1,rfl,HA,HK1,HB⟩:=hrel
  cases gk with
  | zero=>exact absurd HA.out (by simp [impl_common.l0])
  | succ k1 =>
   have H:=HA.out
   clear HA
   simp only [impl_common.l0] at H
   obtain⟨ji3,hji3⟩:∃ j_:Int,(mn (l0.length:Int) (l1.length:Int)) = j_:=⟨_,rfl⟩
   replace H:(if x5_1 < (ji3) then (if 0 ≤ x5_1 then (if x5_1 < (l0.length:Int) then (if x5_1 < (l1.length:Int) then (if (rd l0 x5_1) = (rd l1 x5_1) then (impl_common.l0 k1 l0 l1 (wrap64 (x5_1 + 1))) else (some x5_1)) else (none)) else (none)) else (none)) else (some x5_1)) = some r:=by first|(rw [hji3] at H;exact H)|(simp only [hji3] at H ⊢;exact H)
   have hji3_:(if (l1.length:Int) < (l0.length:Int) then (l1.length:Int) else (l0.length:Int)) = ji3:=hji3
   have hji3n : (if l1.length < l0.length then (l1.length : Int) else (l0.length : Int)) = ji3 := by have e_ := hji3_; simp only [Int.ofNat_lt] at e_; exact e_
   by_cases c4:x5_1 < (ji3)
   ·rw [if_pos c4] at H
    have c4b0:decide (x5_1 < (ji3)) = true:=decide_eq_true c4
    clear c4
    by_cases c5:0 ≤ x5_1
    ·rw [if_pos c5] at H
     have c5b0:decide (0 ≤ x5_1) = true:=decide_eq_true c5
     clear c5
     by_cases c6:x5_1 < (l0.length:Int)
     ·rw [if_pos c6] at H
      have c6b0:decide (x5_1 < (l0.length:Int)) = true:=decide_eq_true c6
      clear c6
      by_cases c7:x5_1 < (l1.length:Int)
      ·rw [if_pos c7] at H
       have c7b0:decide (x5_1 < (l1.length:Int)) = true:=decide_eq_true c7
       clear c7
       by_cases c8:(rd l0 x5_1) = (rd l1 x5_1)
       ·rw [if_pos c8] at H
        have c8b0:((rd l0 x5_1) == (rd l1 x5_1)) = true:=beq_iff_eq.mpr c8
        have c8b1:((rd l0 x5_1) != (rd l1 x5_1)) = false:=bne_eq_false_iff_eq.mpr c8
        clear c8
        have H':=mk0 H
        clear H
        have p204:0 ≤ (x5_1:Int):=of_decide_eq_true (by first|(with_reducible assumption)|assumption)
        have q204:x5_1 < (l0.length:Int):=of_decide_eq_true (by first|(with_reducible assumption)|assumption)
        obtain⟨ad204,e204,hx204_0⟩:=Kd.at_int HR0.out x5_1 p204 q204
        cases e204
        replace hx204_0:=(HB.out.cell (World.block_lt_of_cell? w _ hx204_0)).trans hx204_0
        replace p204:=eq_true p204
        replace q204:=eq_true q204
        have p205:0 ≤ (x5_1:Int):=of_decide_eq_true (by first|(with_reducible assumption)|assumption)
        have q205:x5_1 < (l1.length:Int):=of_decide_eq_true (by first|(with_reducible assumption)|assumption)
        obtain⟨ad205,e205,hx205_0⟩:=Kd.at_int HR1.out x5_1 p205 q205
        cases e205
        replace hx205_0:=(HB.out.cell (World.block_lt_of_cell? w _ hx205_0)).trans hx205_0
        replace p205:=eq_true p205
        replace q205:=eq_true q205
        go_wp2
        repeat (go_quiet (fail);try go_wp2)
        go_roundg k1
        case measure=>have:=HK1.out;omega
        case rel=>exact⟨(wrap64 (x5_1 + 1)),(by first|rfl|(simp;done)|(simp [*];done)),H',⟨by have:=HK1.out;omega⟩,⟨kB HB.out⟩⟩
       ·rw [if_neg c8] at H
        have c8b0:((rd l0 x5_1) == (rd l1 x5_1)) = false:=beq_eq_false_iff_ne.mpr c8
        have c8b1:((rd l0 x5_1) != (rd l1 x5_1)) = true:=bne_iff_ne.mpr c8
        obtain rfl:=Option.some.inj H
        have p204:0 ≤ (x5_1:Int):=of_decide_eq_true (by first|(with_reducible assumption)|assumption)
        have q204:x5_1 < (l0.length:Int):=of_decide_eq_true (by first|(with_reducible assumption)|assumption)
        obtain⟨ad204,e204,hx204_0⟩:=Kd.at_int HR0.out x5_1 p204 q204
        cases e204
        replace hx204_0:=(HB.out.cell (World.block_lt_of_cell? w _ hx204_0)).trans hx204_0
        replace p204:=eq_true p204
        replace q204:=eq_true q204
        have p205:0 ≤ (x5_1:Int):=of_decide_eq_true (by first|(with_reducible assumption)|assumption)
        have q205:x5_1 < (l1.length:Int):=of_decide_eq_true (by first|(with_reducible assumption)|assumption)
        obtain⟨ad205,e205,hx205_0⟩:=Kd.at_int HR1.out x5_1 p205 q205
        cases e205
        replace hx205_0:=(HB.out.cell (World.block_lt_of_cell? w _ hx205_0)).trans hx205_0
        replace p205:=eq_true p205
        replace q205:=eq_true q205
        go_wp2
        repeat (go_quiet (fail);try go_wp2)
        go_ret
        exact⟨by first|rfl|(simp [errW_none,errW_some] <;> rfl)|(simp only [← hji3];first|rfl|(simp [errW_none,errW_some] <;> rfl))|(simp [*,errW_none,errW_some] <;> rfl),kB HB.out⟩
      ·rw [if_neg c7] at H
       exact absurd H (by simp)
     ·rw [if_neg c6] at H
      exact absurd H (by simp)
    ·rw [if_neg c5] at H
     exact absurd H (by simp)
   ·rw [if_neg c4] at H
    have c4b0:decide (x5_1 < (ji3)) = false:=decide_eq_false c4
    clear c4
    obtain rfl:=Option.some.inj H
    go_wp2
    repeat (go_quiet (fail);try go_wp2)
    go_ret
    exact⟨by first|rfl|(simp [errW_none,errW_some] <;> rfl)|(simp only [← hji3];first|rfl|(simp [errW_none,errW_some] <;> rfl))|(simp [*,errW_none,errW_some] <;> rfl),kB HB.out⟩

end Go.Proofs.Ytoinagnieobbpaa.QFnExactStretchAll
