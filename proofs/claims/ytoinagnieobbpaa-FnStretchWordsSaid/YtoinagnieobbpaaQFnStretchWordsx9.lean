-- A walk, made by walk.py, a program of this session's.
import Derived.Test.YtoinagnieobbpaaQFnStretchWordsx0
import Derived.Test.YtoinagnieobbpaaQFnStretchWordsx2
import Derived.Test.YtoinagnieobbpaaQFnStretchWordsx5
namespace Go.Proofs.Ytoinagnieobbpaa.QFnStretchWords
open Go.RowKit Go.Proofs.YtoinagnieobbpaaW.PrintWords Go.Proofs.YtoinagnieobbpaaW.PrintLast Go.Proofs.YtoinagnieobbpaaW.PrintMore
attribute [local go_sem] max2_int min2_int max_two min_two max_three min_three max_four min_four   -- for this text's walks alone
set_option linter.unusedVariables false
set_option linter.unusedSimpArgs false

/-! ### spec_l11All: function 52 -/
mutual
def spec_l11All.l0 : Nat → List Int → List (S27) → Int → Option ((List (S27)))
 | 0, _, _, _ => none
 | k + 1, x0, x3, x4 => if x4 < (x0.length : Int) then (spec_l11All.l1 k x0 x3 x4 (([] : List (S27))) 301 (wrap64 (x4 + 2))) else (some x3)
def spec_l11All.l1 : Nat → List Int → List (S27) → Int → List (S27) → Int → Int → Option ((List (S27)))
 | 0, _, _, _, _, _, _ => none
 | k + 1, x0, x3, x4, x5, x6, x7 => if x7 ≤ (x0.length : Int) then (if 0 ≤ (wrap64 (x7 - 1)) then (if (wrap64 (x7 - 1)) < (x0.length : Int) then (spec_l11All.j2 k x0 x3 x4 x5 x6 x7 (decide ((rd x0 (wrap64 (x7 - 1))) ≥ 0))) else (none)) else (none)) else (spec_l11All.j2 k x0 x3 x4 x5 x6 x7 false)
def spec_l11All.j2 : Nat → List Int → List (S27) → Int → List (S27) → Int → Int → Bool → Option ((List (S27)))
 | 0, _, _, _, _, _, _, _ => none
 | k + 1, x0, x3, x4, x5, x6, x7, x30 => if x30 = true then (if 0 ≤ (wrap64 (x7 - 1)) then (if (wrap64 (x7 - 1)) < (x0.length : Int) then (if x4 > 0 then (if 0 ≤ x4 then (if x4 < (x0.length : Int) then (spec_l11All.j3 k x0 x3 x4 x5 (mn x6 (rd x0 (wrap64 (x7 - 1)))) x7 (decide ((rd x0 x4) ≥ (mn x6 (rd x0 (wrap64 (x7 - 1))))))) else (none)) else (none)) else (spec_l11All.j3 k x0 x3 x4 x5 (mn x6 (rd x0 (wrap64 (x7 - 1)))) x7 false)) else (none)) else (none)) else (if x3.length + x5.length < 5864062014805 then (spec_l11All.l0 k x0 (x3 ++ x5) (wrap64 (x4 + 1))) else (none))
def spec_l11All.j3 : Nat → List Int → List (S27) → Int → List (S27) → Int → Int → Bool → Option ((List (S27)))
 | 0, _, _, _, _, _, _, _ => none
 | k + 1, x0, x3, x4, x5, x6, x7, x49 => if x49 = true then (if x3.length + x5.length < 5864062014805 then (spec_l11All.l0 k x0 (x3 ++ x5) (wrap64 (x4 + 1))) else (none)) else (if x7 = (x0.length : Int) then ((some (([(⟨x4, x7, x6⟩ : S27)] : List (S27)) : List (S27))).bind fun y250 => (if y250.length + x5.length < 5864062014805 then (spec_l11All.l1 k x0 x3 x4 (y250 ++ x5) x6 (wrap64 (x7 + 1))) else (none))) else (if 0 ≤ x7 then (if x7 < (x0.length : Int) then (if (rd x0 x7) < x6 then ((some (([(⟨x4, x7, x6⟩ : S27)] : List (S27)) : List (S27))).bind fun y256 => (if y256.length + x5.length < 5864062014805 then (spec_l11All.l1 k x0 x3 x4 (y256 ++ x5) x6 (wrap64 (x7 + 1))) else (none))) else (spec_l11All.l1 k x0 x3 x4 x5 x6 (wrap64 (x7 + 1)))) else (none)) else (none)))
end
def spec_l11All.f (k : Nat) (l0 : List Int) : Option ((List (S27))) := spec_l11All.l0 k l0 (([] : List (S27))) 0
theorem spec_l11All.mono_l : ∀ k, (∀ y0 y1 y2, LeO (spec_l11All.l0 k y0 y1 y2) (spec_l11All.l0 (k + 1) y0 y1 y2)) ∧ (∀ y0 y1 y2 y3 y4 y5, LeO (spec_l11All.l1 k y0 y1 y2 y3 y4 y5) (spec_l11All.l1 (k + 1) y0 y1 y2 y3 y4 y5)) ∧ (∀ y0 y1 y2 y3 y4 y5 y6, LeO (spec_l11All.j2 k y0 y1 y2 y3 y4 y5 y6) (spec_l11All.j2 (k + 1) y0 y1 y2 y3 y4 y5 y6)) ∧ (∀ y0 y1 y2 y3 y4 y5 y6, LeO (spec_l11All.j3 k y0 y1 y2 y3 y4 y5 y6) (spec_l11All.j3 (k + 1) y0 y1 y2 y3 y4 y5 y6))
 | 0 => ⟨fun _ _ _ r h => by simp [spec_l11All.l0] at h, fun _ _ _ _ _ _ r h => by simp [spec_l11All.l1] at h, fun _ _ _ _ _ _ _ r h => by simp [spec_l11All.j2] at h, fun _ _ _ _ _ _ _ r h => by simp [spec_l11All.j3] at h⟩
 | k + 1 => by
  obtain ⟨ih0, ih1, ih2, ih3⟩ := spec_l11All.mono_l k
  refine ⟨?_, ?_, ?_, ?_⟩
  ·intro y0 y1 y2
   unfold spec_l11All.l0
   repeat' first|(with_reducible first|exact ih0 _ _ _|exact ih1 _ _ _ _ _ _|exact ih2 _ _ _ _ _ _ _|exact ih3 _ _ _ _ _ _ _|exact LeO.refl _|exact LeO.none _|refine LeO.ite ?_ ?_|refine LeO.bind ?_ (fun _ => ?_))|exact LeO.none _|refine LeO.ite ?_ ?_|refine LeO.bind ?_ (fun _ => ?_)
  ·intro y0 y1 y2 y3 y4 y5
   unfold spec_l11All.l1
   repeat' first|(with_reducible first|exact ih0 _ _ _|exact ih1 _ _ _ _ _ _|exact ih2 _ _ _ _ _ _ _|exact ih3 _ _ _ _ _ _ _|exact LeO.refl _|exact LeO.none _|refine LeO.ite ?_ ?_|refine LeO.bind ?_ (fun _ => ?_))|exact LeO.none _|refine LeO.ite ?_ ?_|refine LeO.bind ?_ (fun _ => ?_)
  ·intro y0 y1 y2 y3 y4 y5 y6
   unfold spec_l11All.j2
   repeat' first|(with_reducible first|exact ih0 _ _ _|exact ih1 _ _ _ _ _ _|exact ih2 _ _ _ _ _ _ _|exact ih3 _ _ _ _ _ _ _|exact LeO.refl _|exact LeO.none _|refine LeO.ite ?_ ?_|refine LeO.bind ?_ (fun _ => ?_))|exact LeO.none _|refine LeO.ite ?_ ?_|refine LeO.bind ?_ (fun _ => ?_)
  ·intro y0 y1 y2 y3 y4 y5 y6
   unfold spec_l11All.j3
   repeat' first|(with_reducible first|exact ih0 _ _ _|exact ih1 _ _ _ _ _ _|exact ih2 _ _ _ _ _ _ _|exact ih3 _ _ _ _ _ _ _|exact LeO.refl _|exact LeO.none _|refine LeO.ite ?_ ?_|refine LeO.bind ?_ (fun _ => ?_))|exact LeO.none _|refine LeO.ite ?_ ?_|refine LeO.bind ?_ (fun _ => ?_)
theorem spec_l11All.mono : ∀ a0 k, LeO (spec_l11All.f k a0) (spec_l11All.f (k + 1) a0) := by
 intro a0 k
 obtain ⟨ih0, ih1, ih2, ih3⟩ := spec_l11All.mono_l k
 unfold spec_l11All.f
 repeat' first|(with_reducible first|exact ih0 _ _ _|exact ih1 _ _ _ _ _ _|exact ih2 _ _ _ _ _ _ _|exact ih3 _ _ _ _ _ _ _|exact LeO.refl _|exact LeO.none _|refine LeO.ite ?_ ?_|refine LeO.bind ?_ (fun _ => ?_))|exact LeO.none _|refine LeO.ite ?_ ?_|refine LeO.bind ?_ (fun _ => ?_)
set_option maxHeartbeats 8000000 in
set_option maxRecDepth 100000 in
theorem spec_l11All.calls (k : Nat) (A0 : Option Addr) (c0 : Nat) (l0 : List Int) (r : List (S27)) (w : World) (hr0 : Kd.C (Kd.int .i64) w A0 l0.length l0) (hc0 : l0.length ≤ c0) (h : spec_l11All.f k l0 = some r) :
  Calls Try.prog 52 #[.slice A0 l0.length c0] w fun e w' => ∃ v0_ : Value, e = .returned (v0_) ∧ Kd.R k27 27 w' w.heap.size (fun _ => True) v0_ r ∧ Below w.heap.size w w' := by
 have hu27:=Try.underlying27
 have HR0:=mk0 hr0
 have HC0:=mk0 hc0
 clear hr0 hc0
 have HB:=mk0 (Below.refl w.heap.size w)
 have H:(spec_l11All.l0 k l0 (([]:List (S27))) 0) = some r:=h
 clear h
 obtain⟨y233,hy233⟩:∃ y_:List (S27),y_ = (([]:List (S27))):=⟨_,rfl⟩
 replace H:(spec_l11All.l0 k l0 y233 0) = some r:=by first|(rw [hy233];with_reducible exact H)|(have H2_:=(Option.bind_some _ _).symm.trans H;rw [hy233];with_reducible exact H2_)|(have H2_:=(Option.bind_some _ _).symm.trans H;with_reducible exact H2_)|with_reducible exact H|(rw [hy233];exact H)|exact H
 have Ny233:=mk0 hy233
 clear hy233
 have H':=mk0 H
 clear H
 go_enter Try.func52,Try.ntmps52
 go_wp2_with (first|((with_reducible refine gate_dst (N:=9) rfl ?_);refine Kd.R_lit k27 _ 27 ?hg (N:=9) ?hd (xs:=([]:List (S27))) (inner:=[]) (ok:=fun _=>True) (okp:=fun _=>True) ?hr ?hp (fun _ hk=>hk) trivial (Below.refl _ _) (Nat.le_refl _) (by simp) ?_;(case hd=>rfl);(case hg=>rfl);(case hr=>first|(go_simp;done)|(go_simp;rfl));(case hp=>exact (Reps.none _ _));intro v234 w2 ho3 hb hg_ hnew_;clear hg_ hnew_;(first|rw [← Ny233.out] at ho3|(simp only [Int.reduceToNat] at ho3;rw [← Ny233.out] at ho3));have HO235:=mk0 (Kd.R_lower ho3 (kZ HB.out));replace HB:=mk0 (kS HB.out hb);clear hb ho3))
 go_loopg [3,4] k (fun kq v3 v4 w'=>∃ (x3_1:List (S27)) (x4_1:Int),v4 = .int .i64 x4_1 ∧ Aside0 (spec_l11All.l0 kq l0 x3_1 x4_1 = some r) ∧ Aside0 (kq ≤ k) ∧ Aside0 (Kd.R k27 27 w' w.heap.size (fun _=>True) v3 x3_1) ∧ Aside0 (Below w.heap.size w w'))
 case atStart=>exact⟨(y233),(0),(by first|rfl|(simp;done)|(simp [*];done)),H',⟨Nat.le_refl _⟩,⟨rR HO235.out⟩,⟨kB HB.out⟩⟩
 case round =>
  clear H'
  try clear p2
  obtain⟨x3_1,x4_1,rfl,HA,HK1,HO_3,HB⟩:=hrel
  cases gk with
  | zero=>exact absurd HA.out (by simp [spec_l11All.l0])
  | succ k1 =>
   have H:=HA.out
   clear HA
   simp only [spec_l11All.l0] at H
   by_cases c4:x4_1 < (l0.length:Int)
   rotate_left
   ·rw [if_neg c4] at H
    have c4b0:decide (x4_1 < (l0.length:Int)) = false:=decide_eq_false c4
    clear c4
    obtain rfl:=Option.some.inj H
    go_wp2
    go_ret
    exact⟨_,by first|rfl|(simp [errW_none,errW_some] <;> rfl)|(simp [*,errW_none,errW_some] <;> rfl),rR HO_3.out,kB HB.out⟩

   rw [if_pos c4] at H
   have c4b0:decide (x4_1 < (l0.length:Int)) = true:=decide_eq_true c4
   clear c4
   obtain⟨y236,hy236⟩:∃ y_:List (S27),y_ = (([]:List (S27))):=⟨_,rfl⟩
   replace H:(spec_l11All.l1 k1 l0 x3_1 x4_1 y236 301 (wrap64 (x4_1 + 2))) = some r:=by first|(rw [hy236];with_reducible exact H)|(have H2_:=(Option.bind_some _ _).symm.trans H;rw [hy236];with_reducible exact H2_)|(have H2_:=(Option.bind_some _ _).symm.trans H;with_reducible exact H2_)|with_reducible exact H|(rw [hy236];exact H)|exact H
   have Ny236:=mk0 hy236
   clear hy236
   have H':=mk0 H
   clear H
   go_wp2_with (first|((with_reducible refine gate_dst (N:=16) rfl ?_);refine Kd.R_lit k27 _ 27 ?hg (N:=16) ?hd (xs:=([]:List (S27))) (inner:=[]) (ok:=fun _=>True) (okp:=fun _=>True) ?hr ?hp (fun _ hk=>hk) trivial (Below.refl _ _) (Nat.le_refl _) (by simp) ?_;(case hd=>rfl);(case hg=>rfl);(case hr=>first|(go_simp;done)|(go_simp;rfl));(case hp=>exact (Reps.none _ _));intro v237 w5 ho6 hb hg_ hnew_;clear hg_ hnew_;(first|rw [← Ny236.out] at ho6|(simp only [Int.reduceToNat] at ho6;rw [← Ny236.out] at ho6));have HO238:=mk0 (Kd.R_lower (Kd.R_new' ho6 (Kd.R_lt (rR HO_3.out))) (kZ HB.out));replace HO_3:=mk0 (Kd.R_elder' (rR HO_3.out) (Kd.R_base ho6) hb);replace HB:=mk0 (kS HB.out hb);clear hb ho6))
   go_loopg [5,6,7] k1 (fun kq v5 v6 v7 w'=>∃ (x5_2:List (S27)) (x6_2:Int) (x7_2:Int),v6 = .int .i64 x6_2 ∧ v7 = .int .i64 x7_2 ∧ Aside0 (spec_l11All.l1 kq l0 x3_1 x4_1 x5_2 x6_2 x7_2 = some r) ∧ Aside0 (kq ≤ k1) ∧ Aside0 (Kd.R k27 27 w' w.heap.size (fun k_=>some k_ ≠ (v5:Value).ownBlock) u3 x3_1) ∧ Aside0 (Kd.R k27 27 w' w.heap.size (fun k_=>some k_ ≠ (u3:Value).ownBlock) v5 x5_2) ∧ Aside0 (Below w.heap.size w w'))
   case atStart=>exact⟨(y236),(301),(wrap64 (x4_1 + 2)),(by first|rfl|(simp;done)|(simp [*];done)),(by first|rfl|(simp;done)|(simp [*];done)),H',⟨Nat.le_refl _⟩,⟨rR (Kd.R_mono HO_3.out (fun _ hk=>hk.2))⟩,⟨rR (Kd.R_mono HO238.out (fun _ hk=>hk.2))⟩,⟨kB HB.out⟩⟩
   case round =>
    clear H'
    try clear p2
    try clear c4
    try clear c4b0
    try clear c5
    try clear p6
    try clear p2
    obtain⟨x5_2,x6_2,x7_2,rfl,rfl,HA,HK2,HO_3,HO_5,HB⟩:=hrel
    cases gk with
    | zero=>exact absurd HA.out (by simp [spec_l11All.l1])
    | succ k2 =>
     have H:=HA.out
     clear HA
     simp only [spec_l11All.l1] at H
     have HC7:=mk0 H
     clear H
     go_upto_region 8 with (fail)
     go_cut [30] (fun v30 wc=>∃ (kq:Nat) (x30_6:Bool),v30 = .bool x30_6 ∧ Aside0 (spec_l11All.j2 kq l0 x3_1 x4_1 x5_2 x6_2 x7_2 x30_6 = some r) ∧ Aside0 (kq ≤ k2) ∧ Aside0 (Kd.R k27 27 wc w.heap.size (fun k_=>some k_ ≠ (u5:Value).ownBlock) u3 x3_1) ∧ Aside0 (Kd.R k27 27 wc w.heap.size (fun k_=>some k_ ≠ (u3:Value).ownBlock) u5 x5_2) ∧ Aside0 (Below w.heap.size w wc))
     case first =>
      have H:=HC7.out
      clear HC7
      by_cases c8:x7_2 ≤ (l0.length:Int)
      rotate_left
      ·rw [if_neg c8] at H
       have c8b0:decide (x7_2 ≤ (l0.length:Int)) = false:=decide_eq_false c8
       clear c8
       (first|rw [c8b0]|(simp only [i64_w,i32_w];rw [c8b0])|skip)
       have H':=mk0 H
       clear H
       go_wp2
       go_meet
       case rel=>exact⟨_,(false),(by first|rfl|(simp;done)|(simp [*];done)),H',⟨by have:=HK1.out;have:=HK2.out;first|omega|exact Nat.le_refl _⟩,⟨rR HO_3.out⟩,⟨rR HO_5.out⟩,⟨kB HB.out⟩⟩
      rw [if_pos c8] at H
      have c8b0:decide (x7_2 ≤ (l0.length:Int)) = true:=decide_eq_true c8
      clear c8
      (first|rw [c8b0]|(simp only [i64_w,i32_w];rw [c8b0])|skip)
      obtain⟨ji9,hji9⟩:∃ j_:Int,(wrap64 (x7_2 - 1)) = j_:=⟨_,rfl⟩
      replace H:(if 0 ≤ (ji9) then (if (ji9) < (l0.length:Int) then (spec_l11All.j2 k2 l0 x3_1 x4_1 x5_2 x6_2 x7_2 (decide ((rd l0 (ji9)) ≥ 0))) else (none)) else (none)) = some r:=by first|(rw [hji9] at H;exact H)|(simp only [hji9] at H ⊢;exact H)
      have hji9w:(IntKind.i64.wrap (x7_2 - 1)) = ji9:=(i64_w _).trans hji9
      by_cases c10:0 ≤ (ji9)
      rotate_left
      ·rw [if_neg c10] at H
       exact absurd H (by simp)
      rw [if_pos c10] at H
      have c10b0:decide (0 ≤ (ji9)) = true:=decide_eq_true c10
      clear c10
      by_cases c11:(ji9) < (l0.length:Int)
      rotate_left
      ·rw [if_neg c11] at H
       exact absurd H (by simp)
      rw [if_pos c11] at H
      have c11b0:decide ((ji9) < (l0.length:Int)) = true:=decide_eq_true c11
      clear c11
      have H':=mk0 H
      clear H
      have p239:0 ≤ ((ji9):Int):=of_decide_eq_true (by first|(with_reducible assumption)|assumption)
      have q239:(ji9) < (l0.length:Int):=of_decide_eq_true (by first|(with_reducible assumption)|assumption)
      obtain⟨ad239,e239,hx239_0⟩:=Kd.at_int HR0.out (ji9) p239 q239
      cases e239
      replace hx239_0:=(HB.out.cell (World.block_lt_of_cell? w _ hx239_0)).trans hx239_0
      replace p239:=eq_true p239
      replace q239:=eq_true q239
      go_wp2
      go_meet
      case rel=>exact⟨_,(decide ((rd l0 (ji9)) ≥ 0)),(by first|rfl|(simp;done)|(simp only [← hji9] <;> (first|rfl|simp))|(simp [*];done)),H',⟨by have:=HK1.out;have:=HK2.out;first|omega|exact Nat.le_refl _⟩,⟨rR HO_3.out⟩,⟨rR HO_5.out⟩,⟨kB HB.out⟩⟩
     case rest =>
      clear HC7
      try clear c1
      try clear p2
      try clear q2
      try clear hx2
      try clear c4
      try clear c4b0
      try clear c5
      try clear p6
      try clear c8
      try clear c8b0
      try clear c10
      try clear c10b0
      try clear c11
      try clear c11b0
      try clear hx239_0
      try clear p2
      try clear p239
      try clear p6
      try clear q239
      obtain⟨kq,x30_6,rfl,HA,HJ6,HO_3,HO_5,HB⟩:=hcut
      cases kq with
      | zero=>exact absurd HA.out (by simp [spec_l11All.j2])
      | succ kj6 =>
       have H:=HA.out
       clear HA
       simp only [spec_l11All.j2] at H
       by_cases c12:x30_6 = true
       rotate_left
       ·replace c12:=Bool.eq_false_iff.mpr c12
        subst c12
        have H1:(if x3_1.length + x5_2.length < 5864062014805 then (spec_l11All.l0 kj6 l0 (x3_1 ++ x5_2) (wrap64 (x4_1 + 1))) else (none)) = some r:=by rw [if_neg (show ¬ (false = true) by decide)] at H;exact H
        clear H
        have H:=H1
        clear H1
        by_cases c45:x3_1.length + x5_2.length < 5864062014805
        rotate_left
        ·rw [if_neg c45] at H
         exact absurd H (by simp)
        rw [if_pos c45] at H
        have LMc45:=mk0 c45
        clear c45
        obtain⟨y240,hy240⟩:∃ y_:List (S27),y_ = (x3_1 ++ x5_2):=⟨_,rfl⟩
        replace H:(spec_l11All.l0 kj6 l0 y240 (wrap64 (x4_1 + 1))) = some r:=by first|(rw [hy240];with_reducible exact H)|(have H2_:=(Option.bind_some _ _).symm.trans H;rw [hy240];with_reducible exact H2_)|(have H2_:=(Option.bind_some _ _).symm.trans H;with_reducible exact H2_)|with_reducible exact H|(rw [hy240];exact H)|exact H
        have Ny240:=mk0 hy240
        clear hy240
        have H':=mk0 H
        clear H
        obtain⟨Ao47,co47,eo47⟩:=Kd.R_slice HO_5.out
        subst eo47
        go_wp2_with (first|((with_reducible refine gate_builtin (b:=.append) (xs:=#[.tmp 70,.tmp 71]) rfl ?_);at_builtin;refine Kd.R_append_rows k27 (w0:=w) w.heap.size rfl (.tmp 70) (.tmp 71) 39 27 (.agg #[(.int .i64 0),(.int .i64 0),(.int .i64 0)]) 24 rfl Try.underlying39 info27 rfl (by decide) (by omega) u3 x3_1 x5_2 _ _ _ (fun k_=>some k_ ≠ (.slice Ao47 x5_2.length co47:Value).ownBlock) (fun _=>False) rfl rfl ?aO ?aR (fun _ _ h=>h) (fun _ h=>h.elim) ?aF ?aB ?aS ?aL ?_;(case aR=>repeat (first|exact (Kd.R_reads' HO_5.out).2.2|(with_reducible first|apply aC|apply nC|apply dC)));(case aB=>exact (kB HB.out));(case aF=>exact (fun k_ hk=>Kd.fresh' (Kd.R_lt (rR HO_5.out)) k_ hk));(case aO=>exact (rR HO_3.out));(case aS=>exact (kZ HB.out));(case aL=>have:=LMc45.out;omega);intro v241 w46 ho hb hg hat;rw [← Ny240.out] at ho;replace HO_5:=mk0 (Kd.R_after (ok:=(fun _=>True)) (rR (Kd.R_mono HO_5.out (fun _ hk=>⟨trivial,hk⟩))) hg hat);replace HB:=mk0 (hb);have HO242:=mk0 (ho);clear HO_3 ho hb hg hat))
        go_roundg kj6
        case measure=>have:=HK1.out;have:=HK2.out;have:=HJ6.out;omega
        case rel=>exact⟨(y240),(wrap64 (x4_1 + 1)),(by first|rfl|(simp;done)|(simp [*];done)),H',⟨by have:=HK1.out;have:=HK2.out;have:=HJ6.out;omega⟩,⟨rR (Kd.R_mono HO242.out (fun _ hk=>trivial))⟩,⟨kB HB.out⟩⟩
       subst c12
       have H1:(if 0 ≤ (wrap64 (x7_2 - 1)) then (if (wrap64 (x7_2 - 1)) < (l0.length:Int) then (if x4_1 > 0 then (if 0 ≤ x4_1 then (if x4_1 < (l0.length:Int) then (spec_l11All.j3 kj6 l0 x3_1 x4_1 x5_2 (mn x6_2 (rd l0 (wrap64 (x7_2 - 1)))) x7_2 (decide ((rd l0 x4_1) ≥ (mn x6_2 (rd l0 (wrap64 (x7_2 - 1))))))) else (none)) else (none)) else (spec_l11All.j3 kj6 l0 x3_1 x4_1 x5_2 (mn x6_2 (rd l0 (wrap64 (x7_2 - 1)))) x7_2 false)) else (none)) else (none)) = some r:=by rw [if_pos rfl] at H;exact H
       clear H
       have H:=H1
       clear H1
       try clear hji9w
       try clear hji9
       obtain⟨ji13,hji13⟩:∃ j_:Int,(wrap64 (x7_2 - 1)) = j_:=⟨_,rfl⟩
       replace H:(if 0 ≤ (ji13) then (if (ji13) < (l0.length:Int) then (if x4_1 > 0 then (if 0 ≤ x4_1 then (if x4_1 < (l0.length:Int) then (spec_l11All.j3 kj6 l0 x3_1 x4_1 x5_2 (mn x6_2 (rd l0 (ji13))) x7_2 (decide ((rd l0 x4_1) ≥ (mn x6_2 (rd l0 (ji13)))))) else (none)) else (none)) else (spec_l11All.j3 kj6 l0 x3_1 x4_1 x5_2 (mn x6_2 (rd l0 (ji13))) x7_2 false)) else (none)) else (none)) = some r:=by first|(rw [hji13] at H;exact H)|(simp only [hji13] at H ⊢;exact H)
       have hji13w:(IntKind.i64.wrap (x7_2 - 1)) = ji13:=(i64_w _).trans hji13
       by_cases c14:0 ≤ (ji13)
       rotate_left
       ·rw [if_neg c14] at H
        exact absurd H (by simp)
       rw [if_pos c14] at H
       have c14b0:decide (0 ≤ (ji13)) = true:=decide_eq_true c14
       clear c14
       by_cases c15:(ji13) < (l0.length:Int)
       rotate_left
       ·rw [if_neg c15] at H
        exact absurd H (by simp)
       rw [if_pos c15] at H
       have c15b0:decide ((ji13) < (l0.length:Int)) = true:=decide_eq_true c15
       clear c15
       obtain⟨ji16,hji16⟩:∃ j_:Int,(mn x6_2 (rd l0 (ji13))) = j_:=⟨_,rfl⟩
       replace H:(if x4_1 > 0 then (if 0 ≤ x4_1 then (if x4_1 < (l0.length:Int) then (spec_l11All.j3 kj6 l0 x3_1 x4_1 x5_2 ji16 x7_2 (decide ((rd l0 x4_1) ≥ (ji16)))) else (none)) else (none)) else (spec_l11All.j3 kj6 l0 x3_1 x4_1 x5_2 ji16 x7_2 false)) = some r:=by first|(rw [hji16] at H;exact H)|(simp only [hji16] at H ⊢;exact H)
       have hji16_:(if (rd l0 (ji13)) < x6_2 then (rd l0 (ji13)) else x6_2) = ji16:=hji16
       have HC17:=mk0 H
       clear H
       have p243:0 ≤ ((ji13):Int):=of_decide_eq_true (by first|(with_reducible assumption)|assumption)
       have q243:(ji13) < (l0.length:Int):=of_decide_eq_true (by first|(with_reducible assumption)|assumption)
       obtain⟨ad243,e243,hx243_0⟩:=Kd.at_int HR0.out (ji13) p243 q243
       cases e243
       replace hx243_0:=(HB.out.cell (World.block_lt_of_cell? w _ hx243_0)).trans hx243_0
       replace p243:=eq_true p243
       replace q243:=eq_true q243
       go_upto_region 11 with (fail)
       go_cut [49] (fun v49 wc=>∃ (kq:Nat) (x49_16:Bool),v49 = .bool x49_16 ∧ Aside0 (spec_l11All.j3 kq l0 x3_1 x4_1 x5_2 ji16 x7_2 x49_16 = some r) ∧ Aside0 (kq ≤ kj6) ∧ Aside0 (Kd.R k27 27 wc w.heap.size (fun k_=>some k_ ≠ (u5:Value).ownBlock) u3 x3_1) ∧ Aside0 (Kd.R k27 27 wc w.heap.size (fun k_=>some k_ ≠ (u3:Value).ownBlock) u5 x5_2) ∧ Aside0 (Below w.heap.size w wc))
       case first =>
        have H:=HC17.out
        clear HC17
        by_cases c18:x4_1 > 0
        rotate_left
        ·rw [if_neg c18] at H
         have c18b0:decide (0 < x4_1) = false:=decide_eq_false c18
         clear c18
         (first|rw [c18b0]|(simp only [i64_w,i32_w];rw [c18b0])|skip)
         have H':=mk0 H
         clear H
         go_wp2
         go_meet
         case rel=>exact⟨_,(false),(by first|rfl|(simp;done)|(simp [*];done)),H',⟨by have:=HK1.out;have:=HK2.out;have:=HJ6.out;first|omega|exact Nat.le_refl _⟩,⟨rR HO_3.out⟩,⟨rR HO_5.out⟩,⟨kB HB.out⟩⟩
        rw [if_pos c18] at H
        have c18b0:decide (0 < x4_1) = true:=decide_eq_true c18
        clear c18
        (first|rw [c18b0]|(simp only [i64_w,i32_w];rw [c18b0])|skip)
        by_cases c19:0 ≤ x4_1
        rotate_left
        ·rw [if_neg c19] at H
         exact absurd H (by simp)
        rw [if_pos c19] at H
        have c19b0:decide (0 ≤ x4_1) = true:=decide_eq_true c19
        clear c19
        by_cases c20:x4_1 < (l0.length:Int)
        rotate_left
        ·rw [if_neg c20] at H
         exact absurd H (by simp)
        rw [if_pos c20] at H
        have c20b0:decide (x4_1 < (l0.length:Int)) = true:=decide_eq_true c20
        clear c20
        have H':=mk0 H
        clear H
        have p244:0 ≤ (x4_1:Int):=of_decide_eq_true (by first|(with_reducible assumption)|assumption)
        have q244:x4_1 < (l0.length:Int):=of_decide_eq_true (by first|(with_reducible assumption)|assumption)
        obtain⟨ad244,e244,hx244_0⟩:=Kd.at_int HR0.out x4_1 p244 q244
        obtain rfl:ad243 = ad244:=(by injection e244)
        replace hx244_0:=(HB.out.cell (World.block_lt_of_cell? w _ hx244_0)).trans hx244_0
        replace p244:=eq_true p244
        replace q244:=eq_true q244
        go_wp2
        go_meet
        case rel=>exact⟨_,(decide ((rd l0 x4_1) ≥ (ji16))),(by first|rfl|(simp;done)|(simp only [← hji16] <;> (first|rfl|simp))|(simp [*];done)),H',⟨by have:=HK1.out;have:=HK2.out;have:=HJ6.out;first|omega|exact Nat.le_refl _⟩,⟨rR HO_3.out⟩,⟨rR HO_5.out⟩,⟨kB HB.out⟩⟩
       case rest =>
        clear HC17
        try clear c1
        try clear c2
        try clear p2
        try clear q2
        try clear hx2
        try clear c4
        try clear c4b0
        try clear c5
        try clear p6
        try clear c8
        try clear c8b0
        try clear c10
        try clear c10b0
        try clear c11
        try clear c11b0
        try clear c12
        try clear c14
        try clear c14b0
        try clear c15
        try clear c15b0
        try clear c18
        try clear c18b0
        try clear c19
        try clear c19b0
        try clear c20
        try clear c20b0
        try clear hx239_0
        try clear hx243_0
        try clear hx244_0
        try clear p2
        try clear p239
        try clear p243
        try clear p244
        try clear p6
        try clear q2
        try clear q239
        try clear q243
        try clear q244
        obtain⟨kq,x49_16,rfl,HA,HJ16,HO_3,HO_5,HB⟩:=hcut
        cases kq with
        | zero=>exact absurd HA.out (by simp [spec_l11All.j3])
        | succ kj16 =>
         have H:=HA.out
         clear HA
         simp only [spec_l11All.j3] at H
         by_cases c21:x49_16 = true
         ·subst c21
          have H1:(if x3_1.length + x5_2.length < 5864062014805 then (spec_l11All.l0 kj16 l0 (x3_1 ++ x5_2) (wrap64 (x4_1 + 1))) else (none)) = some r:=by rw [if_pos rfl] at H;exact H
          clear H
          have H:=H1
          clear H1
          by_cases c22:x3_1.length + x5_2.length < 5864062014805
          rotate_left
          ·rw [if_neg c22] at H
           exact absurd H (by simp)
          rw [if_pos c22] at H
          have LMc22:=mk0 c22
          clear c22
          obtain⟨y245,hy245⟩:∃ y_:List (S27),y_ = (x3_1 ++ x5_2):=⟨_,rfl⟩
          replace H:(spec_l11All.l0 kj16 l0 y245 (wrap64 (x4_1 + 1))) = some r:=by first|(rw [hy245];with_reducible exact H)|(have H2_:=(Option.bind_some _ _).symm.trans H;rw [hy245];with_reducible exact H2_)|(have H2_:=(Option.bind_some _ _).symm.trans H;with_reducible exact H2_)|with_reducible exact H|(rw [hy245];exact H)|exact H
          have Ny245:=mk0 hy245
          clear hy245
          have H':=mk0 H
          clear H
          obtain⟨Ao24,co24,eo24⟩:=Kd.R_slice HO_5.out
          subst eo24
          go_wp2_with (first|((with_reducible refine gate_builtin (b:=.append) (xs:=#[.tmp 70,.tmp 71]) rfl ?_);at_builtin;refine Kd.R_append_rows k27 (w0:=w) w.heap.size rfl (.tmp 70) (.tmp 71) 39 27 (.agg #[(.int .i64 0),(.int .i64 0),(.int .i64 0)]) 24 rfl Try.underlying39 info27 rfl (by decide) (by omega) u3 x3_1 x5_2 _ _ _ (fun k_=>some k_ ≠ (.slice Ao24 x5_2.length co24:Value).ownBlock) (fun _=>False) rfl rfl ?aO ?aR (fun _ _ h=>h) (fun _ h=>h.elim) ?aF ?aB ?aS ?aL ?_;(case aR=>repeat (first|exact (Kd.R_reads' HO_5.out).2.2|(with_reducible first|apply aC|apply nC|apply dC)));(case aB=>exact (kB HB.out));(case aF=>exact (fun k_ hk=>Kd.fresh' (Kd.R_lt (rR HO_5.out)) k_ hk));(case aO=>exact (rR HO_3.out));(case aS=>exact (kZ HB.out));(case aL=>have:=LMc22.out;omega);intro v246 w23 ho hb hg hat;rw [← Ny245.out] at ho;replace HO_5:=mk0 (Kd.R_after (ok:=(fun _=>True)) (rR (Kd.R_mono HO_5.out (fun _ hk=>⟨trivial,hk⟩))) hg hat);replace HB:=mk0 (hb);have HO247:=mk0 (ho);clear HO_3 ho hb hg hat))
          go_roundg kj16
          case measure=>have:=HK1.out;have:=HK2.out;have:=HJ6.out;have:=HJ16.out;omega
          case rel=>exact⟨(y245),(wrap64 (x4_1 + 1)),(by first|rfl|(simp;done)|(simp [*];done)),H',⟨by have:=HK1.out;have:=HK2.out;have:=HJ6.out;have:=HJ16.out;omega⟩,⟨rR (Kd.R_mono HO247.out (fun _ hk=>trivial))⟩,⟨kB HB.out⟩⟩
         replace c21:=Bool.eq_false_iff.mpr c21
         subst c21
         have H1:(if x7_2 = (l0.length:Int) then ((some (([(⟨x4_1,x7_2,ji16⟩:S27)]:List (S27)):List (S27))).bind fun y250=>(if y250.length + x5_2.length < 5864062014805 then (spec_l11All.l1 kj16 l0 x3_1 x4_1 (y250 ++ x5_2) ji16 (wrap64 (x7_2 + 1))) else (none))) else (if 0 ≤ x7_2 then (if x7_2 < (l0.length:Int) then (if (rd l0 x7_2) < ji16 then ((some (([(⟨x4_1,x7_2,ji16⟩:S27)]:List (S27)):List (S27))).bind fun y256=>(if y256.length + x5_2.length < 5864062014805 then (spec_l11All.l1 kj16 l0 x3_1 x4_1 (y256 ++ x5_2) ji16 (wrap64 (x7_2 + 1))) else (none))) else (spec_l11All.l1 kj16 l0 x3_1 x4_1 x5_2 ji16 (wrap64 (x7_2 + 1)))) else (none)) else (none))) = some r:=by rw [if_neg (show ¬ (false = true) by decide)] at H;exact H
         clear H
         have H:=H1
         clear H1
         by_cases c25:x7_2 = (l0.length:Int)
         ·rw [if_pos c25] at H
          have c25b0:(x7_2 == (l0.length:Int)) = true:=beq_iff_eq.mpr c25
          have c25b1:(x7_2 != (l0.length:Int)) = false:=bne_eq_false_iff_eq.mpr c25
          clear c25
          obtain⟨y250,hy250⟩:∃ y_:List (S27),y_ = (([(⟨x4_1,x7_2,ji16⟩:S27)]:List (S27))):=⟨_,rfl⟩
          replace H:(if y250.length + x5_2.length < 5864062014805 then (spec_l11All.l1 kj16 l0 x3_1 x4_1 (y250 ++ x5_2) ji16 (wrap64 (x7_2 + 1))) else (none)) = some r:=by first|(rw [hy250];with_reducible exact H)|(have H2_:=(Option.bind_some _ _).symm.trans H;rw [hy250];with_reducible exact H2_)|(have H2_:=(Option.bind_some _ _).symm.trans H;with_reducible exact H2_)|with_reducible exact H|(rw [hy250];exact H)|exact H
          have Ny250:=mk0 hy250
          clear hy250
          by_cases c26:y250.length + x5_2.length < 5864062014805
          rotate_left
          ·rw [if_neg c26] at H
           exact absurd H (by simp)
          rw [if_pos c26] at H
          have LMc26:=mk0 c26
          clear c26
          obtain⟨y253,hy253⟩:∃ y_:List (S27),y_ = (y250 ++ x5_2):=⟨_,rfl⟩
          replace H:(spec_l11All.l1 kj16 l0 x3_1 x4_1 y253 ji16 (wrap64 (x7_2 + 1))) = some r:=by first|(rw [hy253];with_reducible exact H)|(have H2_:=(Option.bind_some _ _).symm.trans H;rw [hy253];with_reducible exact H2_)|(have H2_:=(Option.bind_some _ _).symm.trans H;with_reducible exact H2_)|with_reducible exact H|(rw [hy253];exact H)|exact H
          have Ny253:=mk0 hy253
          clear hy253
          have H':=mk0 H
          clear H
          go_wp2_with (first|((with_reducible refine gate_dst (N:=8) rfl ?_);refine box_event ?hg (N:=8) ?hd (cs:=#[.int .i64 0,.int .i64 0,.int .i64 0]) (t:=27) ?hr ?_;(case hd=>rfl);(case hg=>rfl);(case hr=>first|(go_simp;done)|(go_simp;rfl));intro gb248 hg w27 hbox hb;replace HO_3:=mk0 (Kd.R_below (Kd.R_elderB (rR HO_3.out) gb248 (Nat.le_of_eq hg.symm)) hb);replace HO_5:=mk0 (Kd.R_below (Kd.R_elderB (rR HO_5.out) gb248 (Nat.le_of_eq hg.symm)) hb);have BK248:=mk0 (hbox);have GW248:=mk0 ((by rw [hg];exact (kZ HB.out):w.heap.size ≤ gb248));have GE248:=mk0 ((by rw [hg];exact (kZ HB.out):w.heap.size ≤ gb248));replace HB:=mk0 (kS HB.out hb);clear hb hbox hg;obtain⟨hcz28_0,hcz28_1,hcz28_2,hfz28_0,hfz28_1,hfz28_2⟩:=cz3 BK248.out)|((with_reducible refine gate_dst (N:=67) rfl ?_);refine Kd.R_lit k27 _ 27 ?hg (N:=67) ?hd (xs:=([(⟨x4_1,x7_2,ji16⟩:S27)]:List (S27))) (inner:=[.int .i64 x4_1,.int .i64 x7_2,.int .i64 ji16]) (ok:=fun _=>True) (okp:=fun _=>True) ?hr ?hp (fun _ hk=>hk) trivial (Below.refl _ _) (Nat.le_refl _) (by simp) ?_;(case hd=>rfl);(case hg=>rfl);(case hr=>first|(go_simp;done)|(go_simp;rfl));(case hp=>exact (Reps.c3 (show Kd.M k27 _ _ _ (⟨x4_1,x7_2,ji16⟩:S27) [.int .i64 x4_1,.int .i64 x7_2,.int .i64 ji16] from (k27_mkM _ _ _ (⟨x4_1,x7_2,ji16⟩:S27) )) (Reps.none _ _)));intro v251 w29 ho30 hb hg_ hnew_;clear hg_ hnew_;(first|rw [← Ny250.out] at ho30|(simp only [Int.reduceToNat] at ho30;rw [← Ny250.out] at ho30));have HO252:=mk0 (Kd.R_lower (Kd.R_newB (Kd.R_new' (Kd.R_new' ho30 (Kd.R_lt (by (with_reducible repeat (first|apply aR|apply nR|apply dR));exact (Kd.R_mono (Kd.R_far (p:=⟨gb248,2,none⟩) (Kd.R_far (p:=⟨gb248,1,none⟩) (Kd.R_far (p:=⟨gb248,0,none⟩) (Kd.R_mono HO_3.out (fun k_ hk=>(⟨hk,hk.2⟩:_ ∧ k_ ≠ gb248))) (fun _ hk=>hk.2) (.int .i64 x4_1)) (fun _ hk=>hk.2) (.int .i64 x7_2)) (fun _ hk=>hk.2) (.int .i64 ji16)) (fun _ h_=>h_.1))))) (Kd.R_lt (by (with_reducible repeat (first|apply aR|apply nR|apply dR));exact (Kd.R_mono (Kd.R_far (p:=⟨gb248,2,none⟩) (Kd.R_far (p:=⟨gb248,1,none⟩) (Kd.R_far (p:=⟨gb248,0,none⟩) (Kd.R_mono HO_5.out (fun k_ hk=>(⟨hk,hk.2⟩:_ ∧ k_ ≠ gb248))) (fun _ hk=>hk.2) (.int .i64 x4_1)) (fun _ hk=>hk.2) (.int .i64 x7_2)) (fun _ hk=>hk.2) (.int .i64 ji16)) (fun _ h_=>h_.1))))) (g:=gb248) (o:=.cells #[.int .i64 x4_1,.int .i64 x7_2,.int .i64 ji16] 27 (0,0)) (by (with_reducible repeat (first|apply nB|apply dB|apply aB));refine blk_put (cs:=#[.int .i64 x4_1,.int .i64 x7_2,.int .i64 0]) ?_ 2 _ rfl;(with_reducible repeat (first|apply nB|apply dB|apply aB));refine blk_put (cs:=#[.int .i64 x4_1,.int .i64 0,.int .i64 0]) ?_ 1 _ rfl;(with_reducible repeat (first|apply nB|apply dB|apply aB));refine blk_put (cs:=#[.int .i64 0,.int .i64 0,.int .i64 0]) ?_ 0 _ rfl;(with_reducible repeat (first|apply nB|apply dB|apply aB));exact BK248.out)) (kZ HB.out));replace HO_3:=mk0 (Kd.R_elder' (by (with_reducible repeat (first|apply aR|apply nR|apply dR));exact (Kd.R_mono (Kd.R_far (p:=⟨gb248,2,none⟩) (Kd.R_far (p:=⟨gb248,1,none⟩) (Kd.R_far (p:=⟨gb248,0,none⟩) (Kd.R_mono HO_3.out (fun k_ hk=>(⟨hk,hk.2⟩:_ ∧ k_ ≠ gb248))) (fun _ hk=>hk.2) (.int .i64 x4_1)) (fun _ hk=>hk.2) (.int .i64 x7_2)) (fun _ hk=>hk.2) (.int .i64 ji16)) (fun _ h_=>h_.1))) (Kd.R_base ho30) hb);replace HO_5:=mk0 (Kd.R_elder' (by (with_reducible repeat (first|apply aR|apply nR|apply dR));exact (Kd.R_mono (Kd.R_far (p:=⟨gb248,2,none⟩) (Kd.R_far (p:=⟨gb248,1,none⟩) (Kd.R_far (p:=⟨gb248,0,none⟩) (Kd.R_mono HO_5.out (fun k_ hk=>(⟨hk,hk.2⟩:_ ∧ k_ ≠ gb248))) (fun _ hk=>hk.2) (.int .i64 x4_1)) (fun _ hk=>hk.2) (.int .i64 x7_2)) (fun _ hk=>hk.2) (.int .i64 ji16)) (fun _ h_=>h_.1))) (Kd.R_base ho30) hb);replace BK248:=mk0 (blk_below (g:=gb248) (o:=.cells #[.int .i64 x4_1,.int .i64 x7_2,.int .i64 ji16] 27 (0,0)) (by (with_reducible repeat (first|apply nB|apply dB|apply aB));refine blk_put (cs:=#[.int .i64 x4_1,.int .i64 x7_2,.int .i64 0]) ?_ 2 _ rfl;(with_reducible repeat (first|apply nB|apply dB|apply aB));refine blk_put (cs:=#[.int .i64 x4_1,.int .i64 0,.int .i64 0]) ?_ 1 _ rfl;(with_reducible repeat (first|apply nB|apply dB|apply aB));refine blk_put (cs:=#[.int .i64 0,.int .i64 0,.int .i64 0]) ?_ 0 _ rfl;(with_reducible repeat (first|apply nB|apply dB|apply aB));exact BK248.out) hb);replace HB:=mk0 (kS HB.out hb);clear hb ho30;obtain⟨Ao32,co32,eo32⟩:=Kd.R_slice HO_5.out;subst eo32)|((with_reducible refine gate_builtin (b:=.append) (xs:=#[.tmp 67,.tmp 68]) rfl ?_);at_builtin;refine Kd.R_append_rows k27 (w0:=w) w.heap.size rfl (.tmp 67) (.tmp 68) 39 27 (.agg #[(.int .i64 0),(.int .i64 0),(.int .i64 0)]) 24 rfl Try.underlying39 info27 rfl (by decide) (by omega) v251 y250 x5_2 _ _ _ (fun k_=>some k_ ≠ (u3:Value).ownBlock ∧ some k_ ≠ (.slice Ao32 x5_2.length co32:Value).ownBlock ∧ k_ ≠ gb248) (fun _=>False) rfl rfl ?aO ?aR (fun _ _ h=>h) (fun _ h=>h.elim) ?aF ?aB ?aS ?aL ?_;(case aR=>repeat (first|exact (Kd.R_reads' HO_5.out).2.2|(with_reducible first|apply aC|apply nC|apply dC)));(case aB=>exact (kB HB.out));(case aF=>exact (fun k_ hk=>⟨Kd.fresh' (Kd.R_lt (rR HO_3.out)) k_ hk,Kd.fresh' (Kd.R_lt (rR HO_5.out)) k_ hk,Kd.freshB (g:=gb248) (kN BK248.out) k_ hk⟩));(case aO=>exact (rR (Kd.R_mono HO252.out (fun _ hk=>⟨hk.1.1.2,⟨hk.1.2,hk.2⟩⟩))));(case aS=>exact (kZ HB.out));(case aL=>have:=LMc26.out;omega);intro v254 w31 ho hb hg hat;rw [← Ny253.out] at ho;replace HO_3:=mk0 (Kd.R_after (ok:=(fun k_=>some k_ ≠ (.slice Ao32 x5_2.length co32:Value).ownBlock ∧ k_ ≠ gb248)) (rR HO_3.out) hg hat);replace HO_5:=mk0 (Kd.R_after (ok:=(fun k_=>some k_ ≠ (u3:Value).ownBlock ∧ k_ ≠ gb248)) (rR HO_5.out) hg hat);replace BK248:=mk0 (blk_grown (kN BK248.out) hg (Kd.R_away HO252.out (fun _ hk=>hk.2)));replace HB:=mk0 (hb);have HO255:=mk0 (ho);clear HO252 ho hb hg hat))
          go_roundg kj16
          case measure=>have:=HK1.out;have:=HK2.out;have:=HJ6.out;have:=HJ16.out;omega
          case rel=>exact⟨(y253),(ji16),(wrap64 (x7_2 + 1)),(by first|rfl|(simp;done)|(simp only [← hji16] <;> (first|rfl|simp))|(simp [*];done)),(by first|rfl|(simp;done)|(simp [*];done)),H',⟨by have:=HK1.out;have:=HK2.out;have:=HJ6.out;have:=HJ16.out;omega⟩,⟨rR (Kd.R_mono HO_3.out (fun _ hk=>hk.2))⟩,⟨rR (Kd.R_mono HO255.out (fun _ hk=>hk.1))⟩,⟨kB HB.out⟩⟩
         rw [if_neg c25] at H
         have c25b0:(x7_2 == (l0.length:Int)) = false:=beq_eq_false_iff_ne.mpr c25
         have c25b1:(x7_2 != (l0.length:Int)) = true:=bne_iff_ne.mpr c25
         by_cases c33:0 ≤ x7_2
         rotate_left
         ·rw [if_neg c33] at H
          exact absurd H (by simp)
         rw [if_pos c33] at H
         have c33b0:decide (0 ≤ x7_2) = true:=decide_eq_true c33
         clear c33
         by_cases c34:x7_2 < (l0.length:Int)
         rotate_left
         ·rw [if_neg c34] at H
          exact absurd H (by simp)
         rw [if_pos c34] at H
         have c34b0:decide (x7_2 < (l0.length:Int)) = true:=decide_eq_true c34
         clear c34
         by_cases c35:(rd l0 x7_2) < ji16
         rotate_left
         ·rw [if_neg c35] at H
          have c35b0:decide ((rd l0 x7_2) < ji16) = false:=decide_eq_false c35
          clear c35
          have H':=mk0 H
          clear H
          go_wp2_with (first|((with_reducible refine gate_dst (N:=8) rfl ?_);refine box_event ?hg (N:=8) ?hd (cs:=#[.int .i64 0,.int .i64 0,.int .i64 0]) (t:=27) ?hr ?_;(case hd=>rfl);(case hg=>rfl);(case hr=>first|(go_simp;done)|(go_simp;rfl));intro gb248 hg w43 hbox hb;replace HO_3:=mk0 (Kd.R_below (Kd.R_elderB (rR HO_3.out) gb248 (Nat.le_of_eq hg.symm)) hb);replace HO_5:=mk0 (Kd.R_below (Kd.R_elderB (rR HO_5.out) gb248 (Nat.le_of_eq hg.symm)) hb);have BK248:=mk0 (hbox);have GW248:=mk0 ((by rw [hg];exact (kZ HB.out):w.heap.size ≤ gb248));have GE248:=mk0 ((by rw [hg];exact (kZ HB.out):w.heap.size ≤ gb248));replace HB:=mk0 (kS HB.out hb);clear hb hbox hg;obtain⟨hcz44_0,hcz44_1,hcz44_2,hfz44_0,hfz44_1,hfz44_2⟩:=cz3 BK248.out;have p249:0 ≤ (x7_2:Int):=of_decide_eq_true (by first|(with_reducible assumption)|assumption);have q249:x7_2 < (l0.length:Int):=of_decide_eq_true (by first|(with_reducible assumption)|assumption);obtain⟨ad249,e249,hx249_0⟩:=Kd.at_int HR0.out x7_2 p249 q249;obtain rfl:ad243 = ad249:=(by injection e249);have hn249_0:ad243.block ≠ gb248:=Nat.ne_of_lt (Nat.lt_of_lt_of_le (by have:=World.block_lt_of_cell? _ _ hx249_0;first|rwa [add_block] at this|exact this) GW248.out);have hn249_1:ad243.block ≠ gb248:=Nat.ne_of_lt (Nat.lt_of_lt_of_le (by have:=World.block_lt_of_cell? _ _ hx249_0;first|rwa [add_block] at this|exact this) GW248.out);have hn249_2:ad243.block ≠ gb248:=Nat.ne_of_lt (Nat.lt_of_lt_of_le (by have:=World.block_lt_of_cell? _ _ hx249_0;first|rwa [add_block] at this|exact this) GW248.out);replace hx249_0:=(HB.out.cell (World.block_lt_of_cell? w _ hx249_0)).trans hx249_0;replace hx249_0:=(cell_far (p:=⟨gb248,0,none⟩) (by first|(rw [add_block];exact hn249_0)|(show (Addr.add _ _).block ≠ _;rw [add_block];exact hn249_0)|exact hn249_0) (.int .i64 x4_1)).trans hx249_0;replace hx249_0:=(cell_far (p:=⟨gb248,1,none⟩) (by first|(rw [add_block];exact hn249_1)|(show (Addr.add _ _).block ≠ _;rw [add_block];exact hn249_1)|exact hn249_1) (.int .i64 x7_2)).trans hx249_0;replace hx249_0:=(cell_far (p:=⟨gb248,2,none⟩) (by first|(rw [add_block];exact hn249_2)|(show (Addr.add _ _).block ≠ _;rw [add_block];exact hn249_2)|exact hn249_2) (.int .i64 ji16)).trans hx249_0;clear hn249_0 hn249_1 hn249_2;replace p249:=eq_true p249;replace q249:=eq_true q249))
          go_roundg kj16
          case measure=>have:=HK1.out;have:=HK2.out;have:=HJ6.out;have:=HJ16.out;omega
          case rel=>exact⟨(x5_2),(ji16),(wrap64 (x7_2 + 1)),(by first|rfl|(simp;done)|(simp only [← hji16] <;> (first|rfl|simp))|(simp [*];done)),(by first|rfl|(simp;done)|(simp [*];done)),H',⟨by have:=HK1.out;have:=HK2.out;have:=HJ6.out;have:=HJ16.out;omega⟩,⟨by (with_reducible repeat (first|apply aR|apply nR|apply dR));exact Kd.R_mono (Kd.R_far (p:=⟨gb248,2,none⟩) (Kd.R_far (p:=⟨gb248,1,none⟩) (Kd.R_far (p:=⟨gb248,0,none⟩) (Kd.R_mono HO_3.out (fun k_ hk=>(⟨hk,hk.2⟩:_ ∧ k_ ≠ gb248))) (fun _ hk=>hk.2) (.int .i64 x4_1)) (fun _ hk=>hk.2) (.int .i64 x7_2)) (fun _ hk=>hk.2) (.int .i64 ji16)) (fun _ hk=>hk.1.1)⟩,⟨by (with_reducible repeat (first|apply aR|apply nR|apply dR));exact Kd.R_mono (Kd.R_far (p:=⟨gb248,2,none⟩) (Kd.R_far (p:=⟨gb248,1,none⟩) (Kd.R_far (p:=⟨gb248,0,none⟩) (Kd.R_mono HO_5.out (fun k_ hk=>(⟨hk,hk.2⟩:_ ∧ k_ ≠ gb248))) (fun _ hk=>hk.2) (.int .i64 x4_1)) (fun _ hk=>hk.2) (.int .i64 x7_2)) (fun _ hk=>hk.2) (.int .i64 ji16)) (fun _ hk=>hk.1.1)⟩,⟨kB HB.out⟩⟩
         rw [if_pos c35] at H
         have c35b0:decide ((rd l0 x7_2) < ji16) = true:=decide_eq_true c35
         clear c35
         obtain⟨y256,hy256⟩:∃ y_:List (S27),y_ = (([(⟨x4_1,x7_2,ji16⟩:S27)]:List (S27))):=⟨_,rfl⟩
         replace H:(if y256.length + x5_2.length < 5864062014805 then (spec_l11All.l1 kj16 l0 x3_1 x4_1 (y256 ++ x5_2) ji16 (wrap64 (x7_2 + 1))) else (none)) = some r:=by first|(rw [hy256];with_reducible exact H)|(have H2_:=(Option.bind_some _ _).symm.trans H;rw [hy256];with_reducible exact H2_)|(have H2_:=(Option.bind_some _ _).symm.trans H;with_reducible exact H2_)|with_reducible exact H|(rw [hy256];exact H)|exact H
         have Ny256:=mk0 hy256
         clear hy256
         by_cases c36:y256.length + x5_2.length < 5864062014805
         rotate_left
         ·rw [if_neg c36] at H
          exact absurd H (by simp)
         rw [if_pos c36] at H
         have LMc36:=mk0 c36
         clear c36
         obtain⟨y259,hy259⟩:∃ y_:List (S27),y_ = (y256 ++ x5_2):=⟨_,rfl⟩
         replace H:(spec_l11All.l1 kj16 l0 x3_1 x4_1 y259 ji16 (wrap64 (x7_2 + 1))) = some r:=by first|(rw [hy259];with_reducible exact H)|(have H2_:=(Option.bind_some _ _).symm.trans H;rw [hy259];with_reducible exact H2_)|(have H2_:=(Option.bind_some _ _).symm.trans H;with_reducible exact H2_)|with_reducible exact H|(rw [hy259];exact H)|exact H
         have Ny259:=mk0 hy259
         clear hy259
         have H':=mk0 H
         clear H
         go_wp2_with (first|((with_reducible refine gate_dst (N:=8) rfl ?_);refine box_event ?hg (N:=8) ?hd (cs:=#[.int .i64 0,.int .i64 0,.int .i64 0]) (t:=27) ?hr ?_;(case hd=>rfl);(case hg=>rfl);(case hr=>first|(go_simp;done)|(go_simp;rfl));intro gb248 hg w37 hbox hb;replace HO_3:=mk0 (Kd.R_below (Kd.R_elderB (rR HO_3.out) gb248 (Nat.le_of_eq hg.symm)) hb);replace HO_5:=mk0 (Kd.R_below (Kd.R_elderB (rR HO_5.out) gb248 (Nat.le_of_eq hg.symm)) hb);have BK248:=mk0 (hbox);have GW248:=mk0 ((by rw [hg];exact (kZ HB.out):w.heap.size ≤ gb248));have GE248:=mk0 ((by rw [hg];exact (kZ HB.out):w.heap.size ≤ gb248));replace HB:=mk0 (kS HB.out hb);clear hb hbox hg;obtain⟨hcz38_0,hcz38_1,hcz38_2,hfz38_0,hfz38_1,hfz38_2⟩:=cz3 BK248.out;have p249:0 ≤ (x7_2:Int):=of_decide_eq_true (by first|(with_reducible assumption)|assumption);have q249:x7_2 < (l0.length:Int):=of_decide_eq_true (by first|(with_reducible assumption)|assumption);obtain⟨ad249,e249,hx249_0⟩:=Kd.at_int HR0.out x7_2 p249 q249;obtain rfl:ad243 = ad249:=(by injection e249);have hn249_0:ad243.block ≠ gb248:=Nat.ne_of_lt (Nat.lt_of_lt_of_le (by have:=World.block_lt_of_cell? _ _ hx249_0;first|rwa [add_block] at this|exact this) GW248.out);have hn249_1:ad243.block ≠ gb248:=Nat.ne_of_lt (Nat.lt_of_lt_of_le (by have:=World.block_lt_of_cell? _ _ hx249_0;first|rwa [add_block] at this|exact this) GW248.out);have hn249_2:ad243.block ≠ gb248:=Nat.ne_of_lt (Nat.lt_of_lt_of_le (by have:=World.block_lt_of_cell? _ _ hx249_0;first|rwa [add_block] at this|exact this) GW248.out);replace hx249_0:=(HB.out.cell (World.block_lt_of_cell? w _ hx249_0)).trans hx249_0;replace hx249_0:=(cell_far (p:=⟨gb248,0,none⟩) (by first|(rw [add_block];exact hn249_0)|(show (Addr.add _ _).block ≠ _;rw [add_block];exact hn249_0)|exact hn249_0) (.int .i64 x4_1)).trans hx249_0;replace hx249_0:=(cell_far (p:=⟨gb248,1,none⟩) (by first|(rw [add_block];exact hn249_1)|(show (Addr.add _ _).block ≠ _;rw [add_block];exact hn249_1)|exact hn249_1) (.int .i64 x7_2)).trans hx249_0;replace hx249_0:=(cell_far (p:=⟨gb248,2,none⟩) (by first|(rw [add_block];exact hn249_2)|(show (Addr.add _ _).block ≠ _;rw [add_block];exact hn249_2)|exact hn249_2) (.int .i64 ji16)).trans hx249_0;clear hn249_0 hn249_1 hn249_2;replace p249:=eq_true p249;replace q249:=eq_true q249)|((with_reducible refine gate_dst (N:=67) rfl ?_);refine Kd.R_lit k27 _ 27 ?hg (N:=67) ?hd (xs:=([(⟨x4_1,x7_2,ji16⟩:S27)]:List (S27))) (inner:=[.int .i64 x4_1,.int .i64 x7_2,.int .i64 ji16]) (ok:=fun _=>True) (okp:=fun _=>True) ?hr ?hp (fun _ hk=>hk) trivial (Below.refl _ _) (Nat.le_refl _) (by simp) ?_;(case hd=>rfl);(case hg=>rfl);(case hr=>first|(go_simp;done)|(go_simp;rfl));(case hp=>exact (Reps.c3 (show Kd.M k27 _ _ _ (⟨x4_1,x7_2,ji16⟩:S27) [.int .i64 x4_1,.int .i64 x7_2,.int .i64 ji16] from (k27_mkM _ _ _ (⟨x4_1,x7_2,ji16⟩:S27) )) (Reps.none _ _)));intro v257 w39 ho40 hb hg_ hnew_;clear hg_ hnew_;(first|rw [← Ny256.out] at ho40|(simp only [Int.reduceToNat] at ho40;rw [← Ny256.out] at ho40));have HO258:=mk0 (Kd.R_lower (Kd.R_newB (Kd.R_new' (Kd.R_new' ho40 (Kd.R_lt (by (with_reducible repeat (first|apply aR|apply nR|apply dR));exact (Kd.R_mono (Kd.R_far (p:=⟨gb248,2,none⟩) (Kd.R_far (p:=⟨gb248,1,none⟩) (Kd.R_far (p:=⟨gb248,0,none⟩) (Kd.R_mono HO_3.out (fun k_ hk=>(⟨hk,hk.2⟩:_ ∧ k_ ≠ gb248))) (fun _ hk=>hk.2) (.int .i64 x4_1)) (fun _ hk=>hk.2) (.int .i64 x7_2)) (fun _ hk=>hk.2) (.int .i64 ji16)) (fun _ h_=>h_.1))))) (Kd.R_lt (by (with_reducible repeat (first|apply aR|apply nR|apply dR));exact (Kd.R_mono (Kd.R_far (p:=⟨gb248,2,none⟩) (Kd.R_far (p:=⟨gb248,1,none⟩) (Kd.R_far (p:=⟨gb248,0,none⟩) (Kd.R_mono HO_5.out (fun k_ hk=>(⟨hk,hk.2⟩:_ ∧ k_ ≠ gb248))) (fun _ hk=>hk.2) (.int .i64 x4_1)) (fun _ hk=>hk.2) (.int .i64 x7_2)) (fun _ hk=>hk.2) (.int .i64 ji16)) (fun _ h_=>h_.1))))) (g:=gb248) (o:=.cells #[.int .i64 x4_1,.int .i64 x7_2,.int .i64 ji16] 27 (0,0)) (by (with_reducible repeat (first|apply nB|apply dB|apply aB));refine blk_put (cs:=#[.int .i64 x4_1,.int .i64 x7_2,.int .i64 0]) ?_ 2 _ rfl;(with_reducible repeat (first|apply nB|apply dB|apply aB));refine blk_put (cs:=#[.int .i64 x4_1,.int .i64 0,.int .i64 0]) ?_ 1 _ rfl;(with_reducible repeat (first|apply nB|apply dB|apply aB));refine blk_put (cs:=#[.int .i64 0,.int .i64 0,.int .i64 0]) ?_ 0 _ rfl;(with_reducible repeat (first|apply nB|apply dB|apply aB));exact BK248.out)) (kZ HB.out));replace HO_3:=mk0 (Kd.R_elder' (by (with_reducible repeat (first|apply aR|apply nR|apply dR));exact (Kd.R_mono (Kd.R_far (p:=⟨gb248,2,none⟩) (Kd.R_far (p:=⟨gb248,1,none⟩) (Kd.R_far (p:=⟨gb248,0,none⟩) (Kd.R_mono HO_3.out (fun k_ hk=>(⟨hk,hk.2⟩:_ ∧ k_ ≠ gb248))) (fun _ hk=>hk.2) (.int .i64 x4_1)) (fun _ hk=>hk.2) (.int .i64 x7_2)) (fun _ hk=>hk.2) (.int .i64 ji16)) (fun _ h_=>h_.1))) (Kd.R_base ho40) hb);replace HO_5:=mk0 (Kd.R_elder' (by (with_reducible repeat (first|apply aR|apply nR|apply dR));exact (Kd.R_mono (Kd.R_far (p:=⟨gb248,2,none⟩) (Kd.R_far (p:=⟨gb248,1,none⟩) (Kd.R_far (p:=⟨gb248,0,none⟩) (Kd.R_mono HO_5.out (fun k_ hk=>(⟨hk,hk.2⟩:_ ∧ k_ ≠ gb248))) (fun _ hk=>hk.2) (.int .i64 x4_1)) (fun _ hk=>hk.2) (.int .i64 x7_2)) (fun _ hk=>hk.2) (.int .i64 ji16)) (fun _ h_=>h_.1))) (Kd.R_base ho40) hb);replace BK248:=mk0 (blk_below (g:=gb248) (o:=.cells #[.int .i64 x4_1,.int .i64 x7_2,.int .i64 ji16] 27 (0,0)) (by (with_reducible repeat (first|apply nB|apply dB|apply aB));refine blk_put (cs:=#[.int .i64 x4_1,.int .i64 x7_2,.int .i64 0]) ?_ 2 _ rfl;(with_reducible repeat (first|apply nB|apply dB|apply aB));refine blk_put (cs:=#[.int .i64 x4_1,.int .i64 0,.int .i64 0]) ?_ 1 _ rfl;(with_reducible repeat (first|apply nB|apply dB|apply aB));refine blk_put (cs:=#[.int .i64 0,.int .i64 0,.int .i64 0]) ?_ 0 _ rfl;(with_reducible repeat (first|apply nB|apply dB|apply aB));exact BK248.out) hb);replace HB:=mk0 (kS HB.out hb);clear hb ho40;obtain⟨Ao42,co42,eo42⟩:=Kd.R_slice HO_5.out;subst eo42)|((with_reducible refine gate_builtin (b:=.append) (xs:=#[.tmp 67,.tmp 68]) rfl ?_);at_builtin;refine Kd.R_append_rows k27 (w0:=w) w.heap.size rfl (.tmp 67) (.tmp 68) 39 27 (.agg #[(.int .i64 0),(.int .i64 0),(.int .i64 0)]) 24 rfl Try.underlying39 info27 rfl (by decide) (by omega) v257 y256 x5_2 _ _ _ (fun k_=>some k_ ≠ (u3:Value).ownBlock ∧ some k_ ≠ (.slice Ao42 x5_2.length co42:Value).ownBlock ∧ k_ ≠ gb248) (fun _=>False) rfl rfl ?aO ?aR (fun _ _ h=>h) (fun _ h=>h.elim) ?aF ?aB ?aS ?aL ?_;(case aR=>repeat (first|exact (Kd.R_reads' HO_5.out).2.2|(with_reducible first|apply aC|apply nC|apply dC)));(case aB=>exact (kB HB.out));(case aF=>exact (fun k_ hk=>⟨Kd.fresh' (Kd.R_lt (rR HO_3.out)) k_ hk,Kd.fresh' (Kd.R_lt (rR HO_5.out)) k_ hk,Kd.freshB (g:=gb248) (kN BK248.out) k_ hk⟩));(case aO=>exact (rR (Kd.R_mono HO258.out (fun _ hk=>⟨hk.1.1.2,⟨hk.1.2,hk.2⟩⟩))));(case aS=>exact (kZ HB.out));(case aL=>have:=LMc36.out;omega);intro v260 w41 ho hb hg hat;rw [← Ny259.out] at ho;replace HO_3:=mk0 (Kd.R_after (ok:=(fun k_=>some k_ ≠ (.slice Ao42 x5_2.length co42:Value).ownBlock ∧ k_ ≠ gb248)) (rR HO_3.out) hg hat);replace HO_5:=mk0 (Kd.R_after (ok:=(fun k_=>some k_ ≠ (u3:Value).ownBlock ∧ k_ ≠ gb248)) (rR HO_5.out) hg hat);replace BK248:=mk0 (blk_grown (kN BK248.out) hg (Kd.R_away HO258.out (fun _ hk=>hk.2)));replace HB:=mk0 (hb);have HO261:=mk0 (ho);clear HO258 ho hb hg hat))
         go_roundg kj16
         case measure=>have:=HK1.out;have:=HK2.out;have:=HJ6.out;have:=HJ16.out;omega
         case rel=>exact⟨(y259),(ji16),(wrap64 (x7_2 + 1)),(by first|rfl|(simp;done)|(simp only [← hji16] <;> (first|rfl|simp))|(simp [*];done)),(by first|rfl|(simp;done)|(simp [*];done)),H',⟨by have:=HK1.out;have:=HK2.out;have:=HJ6.out;have:=HJ16.out;omega⟩,⟨rR (Kd.R_mono HO_3.out (fun _ hk=>hk.2))⟩,⟨rR (Kd.R_mono HO261.out (fun _ hk=>hk.1))⟩,⟨kB HB.out⟩⟩
/-! ### spec_StretchAll: function 25 -/
def spec_StretchAll.f (k : Nat) (l0 : List Int) : Option ((List (S27))) := (spec_TextOk.f l0).bind fun t262 => (if t262 = true then ((spec_LcpRows.f k l0).bind fun t263 => ((spec_l11All.f k t263).bind fun t266 => (some t266))) else (some ([] : List (S27))))
theorem spec_StretchAll.mono : ∀ a0 k, LeO (spec_StretchAll.f k a0) (spec_StretchAll.f (k + 1) a0) := by
 intro a0 k
 unfold spec_StretchAll.f
 repeat' first|(with_reducible first|exact spec_LcpRows.mono _ _|exact spec_l11All.mono _ _|exact LeO.refl _|exact LeO.none _|refine LeO.ite ?_ ?_|refine LeO.bind ?_ (fun _ => ?_))|exact LeO.none _|refine LeO.ite ?_ ?_|refine LeO.bind ?_ (fun _ => ?_)
set_option maxHeartbeats 8000000 in
set_option maxRecDepth 100000 in
theorem spec_StretchAll.calls (k : Nat) (A0 : Option Addr) (c0 : Nat) (l0 : List Int) (r : List (S27)) (w : World) (hr0 : Kd.C (Kd.int .u8) w A0 l0.length l0) (hc0 : l0.length ≤ c0) (h : spec_StretchAll.f k l0 = some r) :
  Calls Try.prog 25 #[.slice A0 l0.length c0] w fun e w' => ∃ v0_ : Value, e = .returned (v0_) ∧ Kd.R k27 27 w' w.heap.size (fun _ => True) v0_ r ∧ Below w.heap.size w w' := by
 have HR0:=mk0 hr0
 have HC0:=mk0 hc0
 clear hr0 hc0
 have HB:=mk0 (Below.refl w.heap.size w)
 have H:((spec_TextOk.f l0).bind fun t262=>(if t262 = true then ((spec_LcpRows.f k l0).bind fun t263=>((spec_l11All.f k t263).bind fun t266=>(some t266))) else (some ([]:List (S27))))) = some r:=h
 clear h
 replace H:=Option.bind_eq_some_iff.mp H
 obtain⟨t262,A20,H⟩:=H
 replace H:(if t262 = true then ((spec_LcpRows.f k l0).bind fun t263=>((spec_l11All.f k t263).bind fun t266=>(some t266))) else (some ([]:List (S27)))) = some r:=H
 have A2:=mk0 A20
 clear A20
 by_cases c3:t262 = true
 ·subst c3
  have H1:((spec_LcpRows.f k l0).bind fun t263=>((spec_l11All.f k t263).bind fun t266=>(some t266))) = some r:=by rw [if_pos rfl] at H;exact H
  clear H
  have H:=H1
  clear H1
  replace H:=Option.bind_eq_some_iff.mp H
  obtain⟨t263,A40,H⟩:=H
  replace H:((spec_l11All.f k t263).bind fun t266=>(some t266)) = some r:=H
  have A4:=mk0 A40
  clear A40
  replace H:=Option.bind_eq_some_iff.mp H
  obtain⟨t266,A50,H⟩:=H
  replace H:(some t266) = some r:=H
  have A5:=mk0 A50
  clear A50
  obtain rfl:=Option.some.inj H
  go_enter Try.func25,Try.ntmps25
  go_wp2_with (first|((with_reducible refine gate_callee (f:=36) rfl ?_);refine goesL_ (some 4) rfl rfl Try.func36 (by kernel_rfl) rfl #[.slice A0 l0.length c0] rfl (by (try simp only [mA,mC,mN]);first|done|rfl|(simp only [lD,lT];done)|(simp only [lD,lT];rfl)) ?_;(with_reducible refine (spec_TextOk.calls _ _ l0 true _ ?side1 ?side2 A2.out).mono ?_);(case side1=>repeat (first|exact HR0.out|(with_reducible first|apply aC|apply nC|apply dC)));(case side2=>exact HC0.out);rintro e w' ⟨rfl,⟨nd,rfl⟩⟩;refine⟨_,rfl,?_⟩)|((with_reducible refine gate_callee (f:=38) rfl ?_);refine goesL_ (some 7) rfl rfl Try.func38 (by kernel_rfl) rfl #[.slice A0 l0.length c0] rfl (by (try simp only [mA,mC,mN]);first|done|rfl|(simp only [lD,lT];done)|(simp only [lD,lT];rfl)) ?_;(with_reducible refine (spec_LcpRows.calls k _ _ l0 t263 _ ?side1 ?side2 A4.out).mono ?_);(case side1=>repeat (first|exact HR0.out|(with_reducible first|apply aC|apply nC|apply dC)));(case side2=>exact HC0.out);rintro e w6 ⟨v264,rfl,ho0,hb⟩;refine⟨_,rfl,?_⟩;have HO265:=mk0 (Kd.R_lower ho0 (kZ HB.out));replace HB:=mk0 (kS HB.out hb);(try clear hb);(try clear ho0);obtain⟨Ao7,co7,eo7⟩:=Kd.R_slice HO265.out;subst eo7)|((with_reducible refine gate_callee (f:=52) rfl ?_);refine goesL_ (some 8) rfl rfl Try.func52 (by kernel_rfl) rfl #[.slice Ao7 t263.length co7] rfl (by (try simp only [mA,mC,mN]);first|done|rfl|(simp only [lD,lT];done)|(simp only [lD,lT];rfl)) ?_;(with_reducible refine (spec_l11All.calls k _ _ t263 t266 _ ?side1 ?side2 A5.out).mono ?_);(case side1=>exact kC (Kd.R_reads' HO265.out).2.2);(case side2=>exact (Kd.R_reads' HO265.out).2.1);rintro e w8 ⟨v267,rfl,ho0,hb⟩;refine⟨_,rfl,?_⟩;replace HO265:=mk0 (bR HO265.out hb);have HO268:=mk0 (Kd.R_lower ho0 (kZ HB.out));replace HB:=mk0 (kS HB.out hb);(try clear hb);(try clear ho0)))
  go_ret
  exact⟨_,by first|rfl|(simp [errW_none,errW_some] <;> rfl)|(simp [*,errW_none,errW_some] <;> rfl),rR HO268.out,kB HB.out⟩
 ·replace c3:=Bool.eq_false_iff.mpr c3
  subst c3
  have H1:(some ([]:List (S27))) = some r:=by rw [if_neg (show ¬ (false = true) by decide)] at H;exact H
  clear H
  have H:=H1
  clear H1
  obtain rfl:=Option.some.inj H
  go_enter Try.func25,Try.ntmps25
  go_wp2_with (first|((with_reducible refine gate_callee (f:=36) rfl ?_);refine goesL_ (some 4) rfl rfl Try.func36 (by kernel_rfl) rfl #[.slice A0 l0.length c0] rfl (by (try simp only [mA,mC,mN]);first|done|rfl|(simp only [lD,lT];done)|(simp only [lD,lT];rfl)) ?_;(with_reducible refine (spec_TextOk.calls _ _ l0 false _ ?side1 ?side2 A2.out).mono ?_);(case side1=>repeat (first|exact HR0.out|(with_reducible first|apply aC|apply nC|apply dC)));(case side2=>exact HC0.out);rintro e w' ⟨rfl,⟨nd,rfl⟩⟩;refine⟨_,rfl,?_⟩))
  go_ret
  exact⟨_,by first|rfl|(simp [errW_none,errW_some] <;> rfl)|(simp [*,errW_none,errW_some] <;> rfl),by first|exact Kd.R_nil _ _ _ _ _|exact Kd.N_nil _ _ _ _ _|exact Kd.V_nil _ _ _ _ _|exact Kd.Q_nil _ _ _ _ _|exact Kd.S_nil _ _ _ _ _,kB HB.out⟩

end Go.Proofs.Ytoinagnieobbpaa.QFnStretchWords
