-- A walk, made by walk.py, a program of this session's.
import Derived.Test.YtoinagnieobbpaaQFnExactStretchAllx0
import Derived.Test.YtoinagnieobbpaaQFnExactStretchAllx1
namespace Go.Proofs.Ytoinagnieobbpaa.QFnExactStretchAll
open Go.RowKit Go.Proofs.YtoinagnieobbpaaW.PrintWords Go.Proofs.YtoinagnieobbpaaW.PrintLast Go.Proofs.YtoinagnieobbpaaW.PrintMore
attribute [local go_sem] max2_int min2_int max_two min_two max_three min_three max_four min_four   -- for this text's walks alone
set_option linter.unusedVariables false
set_option linter.unusedSimpArgs false

/-! ### spec_SuffixRows: function 42 -/
mutual
def spec_SuffixRows.l0 : Nat → List Int → List Int → Int → Option (List Int)
 | 0, _, _, _ => none
 | k + 1, x0, x3, x4 => if x4 ≥ 0 then (spec_SuffixRows.l1 k x0 x3 x4 0 (x3.length : Int)) else (some x3)
def spec_SuffixRows.l1 : Nat → List Int → List Int → Int → Int → Int → Option (List Int)
 | 0, _, _, _, _, _ => none
 | k + 1, x0, x3, x4, x5, x6 => if x5 < x6 then (if 0 ≤ (wrap64 (Int.tdiv (wrap64 (x5 + x6)) 2)) then (if (wrap64 (Int.tdiv (wrap64 (x5 + x6)) 2)) < (x3.length : Int) then (if 0 ≤ (rd x3 (wrap64 (Int.tdiv (wrap64 (x5 + x6)) 2))) then (if (rd x3 (wrap64 (Int.tdiv (wrap64 (x5 + x6)) 2))) ≤ (x0.length : Int) then (if 0 ≤ x4 then (if x4 ≤ (x0.length : Int) then ((spec_l05Cmp.f k (x0.drop ((rd x3 (wrap64 (Int.tdiv (wrap64 (x5 + x6)) 2))) : Int).toNat) (x0.drop (x4 : Int).toNat)).bind fun t143 => (if t143 < 0 then (spec_SuffixRows.l1 k x0 x3 x4 (wrap64 ((wrap64 (Int.tdiv (wrap64 (x5 + x6)) 2)) + 1)) x6) else (spec_SuffixRows.l1 k x0 x3 x4 x5 (wrap64 (Int.tdiv (wrap64 (x5 + x6)) 2))))) else (none)) else (none)) else (none)) else (none)) else (none)) else (none)) else ((some (([x4] : List Int) : List Int)).bind fun y117 => (if 0 ≤ x5 then (if x5 ≤ (x3.length : Int) then ((some (x3.drop (x5 : Int).toNat : List Int)).bind fun y120 => (if y117.length + y120.length < 17592186044416 then ((some (y117 ++ y120 : List Int)).bind fun y124 => ((some (([] : List Int) : List Int)).bind fun y127 => ((some (x3.take (x5 : Int).toNat : List Int)).bind fun y130 => (if y127.length + y130.length < 17592186044416 then ((some (y127 ++ y130 : List Int)).bind fun y134 => (if y134.length + y124.length < 17592186044416 then (spec_SuffixRows.l0 k x0 (y134 ++ y124) (wrap64 (x4 - 1))) else (none))) else (none))))) else (none))) else (none)) else (none)))
end
def spec_SuffixRows.f (k : Nat) (l0 : List Int) : Option (List Int) := (spec_TextOk.f l0).bind fun t113 => (if t113 = true then (spec_SuffixRows.l0 k l0 (([] : List Int)) (l0.length : Int)) else (some ([] : List Int)))
theorem spec_SuffixRows.mono_l : ∀ k, (∀ y0 y1 y2, LeO (spec_SuffixRows.l0 k y0 y1 y2) (spec_SuffixRows.l0 (k + 1) y0 y1 y2)) ∧ (∀ y0 y1 y2 y3 y4, LeO (spec_SuffixRows.l1 k y0 y1 y2 y3 y4) (spec_SuffixRows.l1 (k + 1) y0 y1 y2 y3 y4))
 | 0 => ⟨fun _ _ _ r h => by simp [spec_SuffixRows.l0] at h, fun _ _ _ _ _ r h => by simp [spec_SuffixRows.l1] at h⟩
 | k + 1 => by
  obtain ⟨ih0, ih1⟩ := spec_SuffixRows.mono_l k
  refine ⟨?_, ?_⟩
  ·intro y0 y1 y2
   unfold spec_SuffixRows.l0
   repeat' first|(with_reducible first|exact ih0 _ _ _|exact ih1 _ _ _ _ _|exact spec_l05Cmp.mono _ _ _|exact LeO.refl _|exact LeO.none _|refine LeO.ite ?_ ?_|refine LeO.bind ?_ (fun _ => ?_))|exact LeO.none _|refine LeO.ite ?_ ?_|refine LeO.bind ?_ (fun _ => ?_)
  ·intro y0 y1 y2 y3 y4
   unfold spec_SuffixRows.l1
   repeat' first|(with_reducible first|exact ih0 _ _ _|exact ih1 _ _ _ _ _|exact spec_l05Cmp.mono _ _ _|exact LeO.refl _|exact LeO.none _|refine LeO.ite ?_ ?_|refine LeO.bind ?_ (fun _ => ?_))|exact LeO.none _|refine LeO.ite ?_ ?_|refine LeO.bind ?_ (fun _ => ?_)
theorem spec_SuffixRows.mono : ∀ a0 k, LeO (spec_SuffixRows.f k a0) (spec_SuffixRows.f (k + 1) a0) := by
 intro a0 k
 obtain ⟨ih0, ih1⟩ := spec_SuffixRows.mono_l k
 unfold spec_SuffixRows.f
 repeat' first|(with_reducible first|exact ih0 _ _ _|exact ih1 _ _ _ _ _|exact spec_l05Cmp.mono _ _ _|exact LeO.refl _|exact LeO.none _|refine LeO.ite ?_ ?_|refine LeO.bind ?_ (fun _ => ?_))|exact LeO.none _|refine LeO.ite ?_ ?_|refine LeO.bind ?_ (fun _ => ?_)
set_option maxHeartbeats 8000000 in
set_option maxRecDepth 100000 in
theorem spec_SuffixRows.calls (k : Nat) (A0 : Option Addr) (c0 : Nat) (l0 : List Int) (r : List Int) (w : World) (hr0 : Kd.C (Kd.int .u8) w A0 l0.length l0) (hc0 : l0.length ≤ c0) (h : spec_SuffixRows.f k l0 = some r) :
  Calls Try.prog 42 #[.slice A0 l0.length c0] w fun e w' => ∃ v0_ : Value, e = .returned (v0_) ∧ Kd.R (Kd.int .i64) 3 w' w.heap.size (fun _ => True) v0_ r ∧ Below w.heap.size w w' := by
 have HR0:=mk0 hr0
 have HC0:=mk0 hc0
 clear hr0 hc0
 have HB:=mk0 (Below.refl w.heap.size w)
 have H:((spec_TextOk.f l0).bind fun t113=>(if t113 = true then (spec_SuffixRows.l0 k l0 (([]:List Int)) (l0.length:Int)) else (some ([]:List Int)))) = some r:=h
 clear h
 replace H:=Option.bind_eq_some_iff.mp H
 obtain⟨t113,A20,H⟩:=H
 replace H:(if t113 = true then (spec_SuffixRows.l0 k l0 (([]:List Int)) (l0.length:Int)) else (some ([]:List Int))) = some r:=H
 have A2:=mk0 A20
 clear A20
 by_cases c3:t113 = true
 rotate_left
 ·replace c3:=Bool.eq_false_iff.mpr c3
  subst c3
  have H1:(some ([]:List Int)) = some r:=by rw [if_neg (show ¬ (false = true) by decide)] at H;exact H
  clear H
  have H:=H1
  clear H1
  obtain rfl:=Option.some.inj H
  go_enter Try.func42,Try.ntmps42
  go_wp2_with (first|(go_at_call 36;(with_reducible refine (spec_TextOk.calls _ _ l0 false _ ?side1 ?side2 A2.out).mono ?_);(case side1=>repeat (first|exact HR0.out|(with_reducible first|apply aC|apply nC|apply dC)));(case side2=>exact HC0.out);rintro e w' ⟨rfl,⟨nd,rfl⟩⟩;(try first|exact⟨rfl,_,World.drewN_drewN _ _ _⟩|exact⟨rfl,_,Eq.trans (World.drewN_drewN _ _ _) (congrArg (World.drewN _) (Nat.add_assoc _ _ _))⟩)))
  repeat (go_quiet (first|(go_at_call 36;(with_reducible refine (spec_TextOk.calls _ _ l0 false _ ?side1 ?side2 A2.out).mono ?_);(case side1=>repeat (first|exact HR0.out|(with_reducible first|apply aC|apply nC|apply dC)));(case side2=>exact HC0.out);rintro e w' ⟨rfl,⟨nd,rfl⟩⟩;(try first|exact⟨rfl,_,World.drewN_drewN _ _ _⟩|exact⟨rfl,_,Eq.trans (World.drewN_drewN _ _ _) (congrArg (World.drewN _) (Nat.add_assoc _ _ _))⟩)));try go_wp2_with (first|(go_at_call 36;(with_reducible refine (spec_TextOk.calls _ _ l0 false _ ?side1 ?side2 A2.out).mono ?_);(case side1=>repeat (first|exact HR0.out|(with_reducible first|apply aC|apply nC|apply dC)));(case side2=>exact HC0.out);rintro e w' ⟨rfl,⟨nd,rfl⟩⟩;(try first|exact⟨rfl,_,World.drewN_drewN _ _ _⟩|exact⟨rfl,_,Eq.trans (World.drewN_drewN _ _ _) (congrArg (World.drewN _) (Nat.add_assoc _ _ _))⟩))))
  go_ret
  exact⟨_,by first|rfl|(simp [errW_none,errW_some] <;> rfl)|(simp [*,errW_none,errW_some] <;> rfl),by first|exact Kd.R_nil _ _ _ _ _|exact Kd.N_nil _ _ _ _ _|exact Kd.V_nil _ _ _ _ _|exact Kd.Q_nil _ _ _ _ _|exact Kd.S_nil _ _ _ _ _,kB HB.out⟩

 subst c3
 have H1:(spec_SuffixRows.l0 k l0 (([]:List Int)) (l0.length:Int)) = some r:=by rw [if_pos rfl] at H;exact H
 clear H
 have H:=H1
 clear H1
 obtain⟨y114,hy114⟩:∃ y_:List Int,y_ = (([]:List Int)):=⟨_,rfl⟩
 replace H:(spec_SuffixRows.l0 k l0 y114 (l0.length:Int)) = some r:=by first|(rw [hy114];with_reducible exact H)|(have H2_:=(Option.bind_some _ _).symm.trans H;rw [hy114];with_reducible exact H2_)|(have H2_:=(Option.bind_some _ _).symm.trans H;with_reducible exact H2_)|with_reducible exact H|(rw [hy114];exact H)|exact H
 have Ny114:=mk0 hy114
 clear hy114
 have H':=mk0 H
 clear H
 go_enter Try.func42,Try.ntmps42
 go_wp2_with (first|(go_at_call 36;(with_reducible refine (spec_TextOk.calls _ _ l0 true _ ?side1 ?side2 A2.out).mono ?_);(case side1=>repeat (first|exact HR0.out|(with_reducible first|apply aC|apply nC|apply dC)));(case side2=>exact HC0.out);rintro e w' ⟨rfl,⟨nd,rfl⟩⟩;(try first|exact⟨rfl,_,World.drewN_drewN _ _ _⟩|exact⟨rfl,_,Eq.trans (World.drewN_drewN _ _ _) (congrArg (World.drewN _) (Nat.add_assoc _ _ _))⟩))|((with_reducible refine gate_dst (N:=12) rfl ?_);refine Kd.R_lit (Kd.int .i64) _ 3 ?hg (N:=12) ?hd (xs:=([]:List Int)) (inner:=[]) (ok:=fun _=>True) (okp:=fun _=>True) ?hr ?hp (fun _ hk=>hk) trivial (Below.refl _ _) (Nat.le_refl _) (by simp) ?_;(case hd=>rfl);(case hg=>rfl);(case hr=>first|(go_simp;done)|(go_simp;rfl));(case hp=>exact (Reps.none _ _));intro v115 w4 ho5 hb hg_ hnew_;clear hg_ hnew_;(first|rw [← Ny114.out] at ho5|(simp only [Int.reduceToNat] at ho5;rw [← Ny114.out] at ho5));have HO116:=mk0 (Kd.R_lower ho5 (kZ HB.out));replace HB:=mk0 (kS HB.out hb);clear hb ho5))
 repeat (go_quiet (first|(go_at_call 36;(with_reducible refine (spec_TextOk.calls _ _ l0 true _ ?side1 ?side2 A2.out).mono ?_);(case side1=>repeat (first|exact HR0.out|(with_reducible first|apply aC|apply nC|apply dC)));(case side2=>exact HC0.out);rintro e w' ⟨rfl,⟨nd,rfl⟩⟩;(try first|exact⟨rfl,_,World.drewN_drewN _ _ _⟩|exact⟨rfl,_,Eq.trans (World.drewN_drewN _ _ _) (congrArg (World.drewN _) (Nat.add_assoc _ _ _))⟩))|((with_reducible refine gate_dst (N:=12) rfl ?_);refine Kd.R_lit (Kd.int .i64) _ 3 ?hg (N:=12) ?hd (xs:=([]:List Int)) (inner:=[]) (ok:=fun _=>True) (okp:=fun _=>True) ?hr ?hp (fun _ hk=>hk) trivial (Below.refl _ _) (Nat.le_refl _) (by simp) ?_;(case hd=>rfl);(case hg=>rfl);(case hr=>first|(go_simp;done)|(go_simp;rfl));(case hp=>exact (Reps.none _ _));intro v115 w4 ho5 hb hg_ hnew_;clear hg_ hnew_;(first|rw [← Ny114.out] at ho5|(simp only [Int.reduceToNat] at ho5;rw [← Ny114.out] at ho5));have HO116:=mk0 (Kd.R_lower ho5 (kZ HB.out));replace HB:=mk0 (kS HB.out hb);clear hb ho5));try go_wp2_with (first|(go_at_call 36;(with_reducible refine (spec_TextOk.calls _ _ l0 true _ ?side1 ?side2 A2.out).mono ?_);(case side1=>repeat (first|exact HR0.out|(with_reducible first|apply aC|apply nC|apply dC)));(case side2=>exact HC0.out);rintro e w' ⟨rfl,⟨nd,rfl⟩⟩;(try first|exact⟨rfl,_,World.drewN_drewN _ _ _⟩|exact⟨rfl,_,Eq.trans (World.drewN_drewN _ _ _) (congrArg (World.drewN _) (Nat.add_assoc _ _ _))⟩))|((with_reducible refine gate_dst (N:=12) rfl ?_);refine Kd.R_lit (Kd.int .i64) _ 3 ?hg (N:=12) ?hd (xs:=([]:List Int)) (inner:=[]) (ok:=fun _=>True) (okp:=fun _=>True) ?hr ?hp (fun _ hk=>hk) trivial (Below.refl _ _) (Nat.le_refl _) (by simp) ?_;(case hd=>rfl);(case hg=>rfl);(case hr=>first|(go_simp;done)|(go_simp;rfl));(case hp=>exact (Reps.none _ _));intro v115 w4 ho5 hb hg_ hnew_;clear hg_ hnew_;(first|rw [← Ny114.out] at ho5|(simp only [Int.reduceToNat] at ho5;rw [← Ny114.out] at ho5));have HO116:=mk0 (Kd.R_lower ho5 (kZ HB.out));replace HB:=mk0 (kS HB.out hb);clear hb ho5)))
 go_loopg [3,4] k (fun kq v3 v4 w'=>∃ (x3_1:List Int) (x4_1:Int),v4 = .int .i64 x4_1 ∧ Aside0 (spec_SuffixRows.l0 kq l0 x3_1 x4_1 = some r) ∧ Aside0 (kq ≤ k) ∧ Aside0 (Kd.R (Kd.int .i64) 3 w' w.heap.size (fun _=>True) v3 x3_1) ∧ Aside0 (Below w.heap.size w w'))
 case atStart=>exact⟨(y114),((l0.length:Int)),(by first|rfl|(simp;done)|(simp [*];done)),H',⟨Nat.le_refl _⟩,⟨rR HO116.out⟩,⟨kB HB.out⟩⟩
 case round =>
  clear H'
  try clear p2
  try clear c3
  try clear c4
  obtain⟨x3_1,x4_1,rfl,HA,HK1,HO_3,HB⟩:=hrel
  cases gk with
  | zero=>exact absurd HA.out (by simp [spec_SuffixRows.l0])
  | succ k1 =>
   have H:=HA.out
   clear HA
   simp only [spec_SuffixRows.l0] at H
   by_cases c6:x4_1 ≥ 0
   rotate_left
   ·rw [if_neg c6] at H
    have c6b0:decide (0 ≤ x4_1) = false:=decide_eq_false c6
    clear c6
    obtain rfl:=Option.some.inj H
    go_wp2
    repeat (go_quiet (fail);try go_wp2)
    go_ret
    exact⟨_,by first|rfl|(simp [errW_none,errW_some] <;> rfl)|(simp [*,errW_none,errW_some] <;> rfl),rR HO_3.out,kB HB.out⟩
   rw [if_pos c6] at H
   have c6b0:decide (0 ≤ x4_1) = true:=decide_eq_true c6
   clear c6
   have H':=mk0 H
   clear H
   obtain⟨Ao7,co7,eo7⟩:=Kd.R_slice HO_3.out
   subst eo7
   go_wp2
   repeat (go_quiet (fail);try go_wp2)
   go_loopg [5,6] k1 (fun kq v5 v6 w'=>∃ (x5_2:Int) (x6_2:Int),v5 = .int .i64 x5_2 ∧ v6 = .int .i64 x6_2 ∧ Aside0 (spec_SuffixRows.l1 kq l0 x3_1 x4_1 x5_2 x6_2 = some r) ∧ Aside0 (kq ≤ k1) ∧ Aside0 (Kd.R (Kd.int .i64) 3 w' w.heap.size (fun _=>True) (.slice Ao7 x3_1.length co7) x3_1) ∧ Aside0 (Below w.heap.size w w'))
   case atStart=>exact⟨(0),((x3_1.length:Int)),(by first|rfl|(simp;done)|(simp [*];done)),(by first|rfl|(simp;done)|(simp [*];done)),H',⟨Nat.le_refl _⟩,⟨rR HO_3.out⟩,⟨kB HB.out⟩⟩
   case round =>
    clear H'
    try clear p2
    try clear c3
    try clear c4
    try clear c6
    try clear c6b0
    try clear p2
    obtain⟨x5_2,x6_2,rfl,rfl,HA,HK2,HO_3,HB⟩:=hrel
    cases gk with
    | zero=>exact absurd HA.out (by simp [spec_SuffixRows.l1])
    | succ k2 =>
     have H:=HA.out
     clear HA
     simp only [spec_SuffixRows.l1] at H
     by_cases c8:x5_2 < x6_2
     ·rw [if_pos c8] at H
      have c8b0:decide (x5_2 < x6_2) = true:=decide_eq_true c8
      clear c8
      obtain⟨ji9,hji9⟩:∃ j_:Int,(wrap64 (Int.tdiv (wrap64 (x5_2 + x6_2)) 2)) = j_:=⟨_,rfl⟩
      replace H:(if 0 ≤ (ji9) then (if (ji9) < (x3_1.length:Int) then (if 0 ≤ (rd x3_1 (ji9)) then (if (rd x3_1 (ji9)) ≤ (l0.length:Int) then (if 0 ≤ x4_1 then (if x4_1 ≤ (l0.length:Int) then ((spec_l05Cmp.f k2 (l0.drop ((rd x3_1 (ji9)):Int).toNat) (l0.drop (x4_1:Int).toNat)).bind fun t143=>(if t143 < 0 then (spec_SuffixRows.l1 k2 l0 x3_1 x4_1 (wrap64 ((ji9) + 1)) x6_2) else (spec_SuffixRows.l1 k2 l0 x3_1 x4_1 x5_2 ji9))) else (none)) else (none)) else (none)) else (none)) else (none)) else (none)) = some r:=by first|(rw [hji9] at H;exact H)|(simp only [hji9] at H ⊢;exact H)
      have hji9w:(IntKind.i64.wrap (Int.tdiv (wrap64 (x5_2 + x6_2)) 2)) = ji9:=(i64_w _).trans hji9
      by_cases c10:0 ≤ (ji9)
      rotate_left
      ·rw [if_neg c10] at H
       exact absurd H (by simp)
      rw [if_pos c10] at H
      have c10b0:decide (0 ≤ (ji9)) = true:=decide_eq_true c10
      clear c10
      by_cases c11:(ji9) < (x3_1.length:Int)
      rotate_left
      ·rw [if_neg c11] at H
       exact absurd H (by simp)
      rw [if_pos c11] at H
      have c11b0:decide ((ji9) < (x3_1.length:Int)) = true:=decide_eq_true c11
      clear c11
      by_cases c12:0 ≤ (rd x3_1 (ji9))
      rotate_left
      ·rw [if_neg c12] at H
       exact absurd H (by simp)
      rw [if_pos c12] at H
      have c12b0:=eq_true c12
      have c12b1:decide (0 ≤ (rd x3_1 (ji9))) = true:=decide_eq_true c12
      clear c12
      by_cases c13:(rd x3_1 (ji9)) ≤ (l0.length:Int)
      rotate_left
      ·rw [if_neg c13] at H
       exact absurd H (by simp)
      rw [if_pos c13] at H
      have c13b0:=eq_true c13
      have c13b1:decide ((rd x3_1 (ji9)) ≤ (l0.length:Int)) = true:=decide_eq_true c13
      clear c13
      by_cases c14:0 ≤ x4_1
      rotate_left
      ·rw [if_neg c14] at H
       exact absurd H (by simp)
      rw [if_pos c14] at H
      have c14b0:=eq_true c14
      have c14b1:decide (0 ≤ x4_1) = true:=decide_eq_true c14
      clear c14
      by_cases c15:x4_1 ≤ (l0.length:Int)
      rotate_left
      ·rw [if_neg c15] at H
       exact absurd H (by simp)
      rw [if_pos c15] at H
      have c15b0:=eq_true c15
      have c15b1:decide (x4_1 ≤ (l0.length:Int)) = true:=decide_eq_true c15
      clear c15
      replace H:=Option.bind_eq_some_iff.mp H
      obtain⟨t143,A160,H⟩:=H
      replace H:(if t143 < 0 then (spec_SuffixRows.l1 k2 l0 x3_1 x4_1 (wrap64 ((ji9) + 1)) x6_2) else (spec_SuffixRows.l1 k2 l0 x3_1 x4_1 x5_2 ji9)) = some r:=H
      have A16:=mk0 A160
      clear A160
      by_cases c17:t143 < 0
      rotate_left
      ·rw [if_neg c17] at H
       have c17b0:decide (t143 < 0) = false:=decide_eq_false c17
       clear c17
       have H':=mk0 H
       clear H
       have p140:0 ≤ ((ji9):Int):=of_decide_eq_true (by first|(with_reducible assumption)|assumption)
       have q140:(ji9) < (x3_1.length:Int):=of_decide_eq_true (by first|(with_reducible assumption)|assumption)
       obtain⟨ad140,e140,hx140_0⟩:=Kd.at_int (Kd.R_reads' HO_3.out).2.2 (ji9) p140 q140
       cases e140
       replace p140:=eq_true p140
       replace q140:=eq_true q140
       obtain⟨i020,hi020,_,hsz20,_⟩:=info_parts info5
       obtain⟨A20,hcut20,hA20,hC20⟩:=print_drop_of (P:=Try.prog) (Value.int .u8) 0 22 5 .i64 Try.underlying22 hi020 hsz20 A0 c0 l0 (rd x3_1 (ji9)) (of_decide_eq_true (by first|(with_reducible assumption)|assumption)) (of_decide_eq_true (by first|(with_reducible assumption)|assumption)) HC0.out
       have HR141:=mk0 (Kd.C_of_reads (h1:=fun _=>rfl) (hA20 _ (Kd.reads_of_C HR0.out)))
       have HC141:=mk0 hC20
       clear hA20 hC20 hi020 hsz20
       obtain⟨i021,hi021,_,hsz21,_⟩:=info_parts info5
       obtain⟨A21,hcut21,hA21,hC21⟩:=print_drop_of (P:=Try.prog) (Value.int .u8) 0 22 5 .i64 Try.underlying22 hi021 hsz21 A0 c0 l0 x4_1 (of_decide_eq_true (by first|(with_reducible assumption)|assumption)) (of_decide_eq_true (by first|(with_reducible assumption)|assumption)) HC0.out
       have HR142:=mk0 (Kd.C_of_reads (h1:=fun _=>rfl) (hA21 _ (Kd.reads_of_C HR0.out)))
       have HC142:=mk0 hC21
       clear hA21 hC21 hi021 hsz21
       go_wp2_with (first|(go_at_call 64;refine calls_of_args (args':=#[.slice A20 (l0.drop ((rd x3_1 (ji9)):Int).toNat).length (c0 - (rd x3_1 (ji9)).toNat),.slice A21 (l0.drop (x4_1:Int).toNat).length (c0 - x4_1.toNat)]) (by first|(rw [show (l0.drop ((rd x3_1 (ji9)):Int).toNat).length = (l0.length - (rd x3_1 (ji9)).toNat) from List.length_drop] <;> rfl)|(rw [show (l0.drop (x4_1:Int).toNat).length = (l0.length - x4_1.toNat) from List.length_drop] <;> rfl)|rfl|(simp only [List.length_drop,List.length_take];done)|(simp only [List.length_drop,List.length_take];rfl)) ?_;(with_reducible refine (spec_l05Cmp.calls k2 _ _ (l0.drop ((rd x3_1 (ji9)):Int).toNat) _ _ (l0.drop (x4_1:Int).toNat) t143 _ ?side1 ?side2 ?side3 ?side4 A16.out).mono ?_);(case side1=>exact kC (Kd.C_below HR141.out HB.out));(case side2=>exact HC141.out);(case side3=>exact kC (Kd.C_below HR142.out HB.out));(case side4=>exact HC142.out);rintro e w' ⟨rfl,⟨nd,rfl⟩⟩;(try first|exact⟨rfl,_,World.drewN_drewN _ _ _⟩|exact⟨rfl,_,Eq.trans (World.drewN_drewN _ _ _) (congrArg (World.drewN _) (Nat.add_assoc _ _ _))⟩)))
       repeat (go_quiet (first|(go_at_call 64;refine calls_of_args (args':=#[.slice A20 (l0.drop ((rd x3_1 (ji9)):Int).toNat).length (c0 - (rd x3_1 (ji9)).toNat),.slice A21 (l0.drop (x4_1:Int).toNat).length (c0 - x4_1.toNat)]) (by first|(rw [show (l0.drop ((rd x3_1 (ji9)):Int).toNat).length = (l0.length - (rd x3_1 (ji9)).toNat) from List.length_drop] <;> rfl)|(rw [show (l0.drop (x4_1:Int).toNat).length = (l0.length - x4_1.toNat) from List.length_drop] <;> rfl)|rfl|(simp only [List.length_drop,List.length_take];done)|(simp only [List.length_drop,List.length_take];rfl)) ?_;(with_reducible refine (spec_l05Cmp.calls k2 _ _ (l0.drop ((rd x3_1 (ji9)):Int).toNat) _ _ (l0.drop (x4_1:Int).toNat) t143 _ ?side1 ?side2 ?side3 ?side4 A16.out).mono ?_);(case side1=>exact kC (Kd.C_below HR141.out HB.out));(case side2=>exact HC141.out);(case side3=>exact kC (Kd.C_below HR142.out HB.out));(case side4=>exact HC142.out);rintro e w' ⟨rfl,⟨nd,rfl⟩⟩;(try first|exact⟨rfl,_,World.drewN_drewN _ _ _⟩|exact⟨rfl,_,Eq.trans (World.drewN_drewN _ _ _) (congrArg (World.drewN _) (Nat.add_assoc _ _ _))⟩)));try go_wp2_with (first|(go_at_call 64;refine calls_of_args (args':=#[.slice A20 (l0.drop ((rd x3_1 (ji9)):Int).toNat).length (c0 - (rd x3_1 (ji9)).toNat),.slice A21 (l0.drop (x4_1:Int).toNat).length (c0 - x4_1.toNat)]) (by first|(rw [show (l0.drop ((rd x3_1 (ji9)):Int).toNat).length = (l0.length - (rd x3_1 (ji9)).toNat) from List.length_drop] <;> rfl)|(rw [show (l0.drop (x4_1:Int).toNat).length = (l0.length - x4_1.toNat) from List.length_drop] <;> rfl)|rfl|(simp only [List.length_drop,List.length_take];done)|(simp only [List.length_drop,List.length_take];rfl)) ?_;(with_reducible refine (spec_l05Cmp.calls k2 _ _ (l0.drop ((rd x3_1 (ji9)):Int).toNat) _ _ (l0.drop (x4_1:Int).toNat) t143 _ ?side1 ?side2 ?side3 ?side4 A16.out).mono ?_);(case side1=>exact kC (Kd.C_below HR141.out HB.out));(case side2=>exact HC141.out);(case side3=>exact kC (Kd.C_below HR142.out HB.out));(case side4=>exact HC142.out);rintro e w' ⟨rfl,⟨nd,rfl⟩⟩;(try first|exact⟨rfl,_,World.drewN_drewN _ _ _⟩|exact⟨rfl,_,Eq.trans (World.drewN_drewN _ _ _) (congrArg (World.drewN _) (Nat.add_assoc _ _ _))⟩))))
       go_roundg k2
       case measure=>have:=HK1.out;have:=HK2.out;omega
       case rel=>exact⟨(x5_2),(ji9),(by first|rfl|(simp;done)|(simp [*];done)),(by first|rfl|(simp;done)|(simp only [← hji9] <;> (first|rfl|simp))|(simp [*];done)),H',⟨by have:=HK1.out;have:=HK2.out;omega⟩,⟨rR HO_3.out⟩,⟨kB HB.out⟩⟩
      rw [if_pos c17] at H
      have c17b0:decide (t143 < 0) = true:=decide_eq_true c17
      clear c17
      have H':=mk0 H
      clear H
      have p140:0 ≤ ((ji9):Int):=of_decide_eq_true (by first|(with_reducible assumption)|assumption)
      have q140:(ji9) < (x3_1.length:Int):=of_decide_eq_true (by first|(with_reducible assumption)|assumption)
      obtain⟨ad140,e140,hx140_0⟩:=Kd.at_int (Kd.R_reads' HO_3.out).2.2 (ji9) p140 q140
      cases e140
      replace p140:=eq_true p140
      replace q140:=eq_true q140
      obtain⟨i018,hi018,_,hsz18,_⟩:=info_parts info5
      obtain⟨A18,hcut18,hA18,hC18⟩:=print_drop_of (P:=Try.prog) (Value.int .u8) 0 22 5 .i64 Try.underlying22 hi018 hsz18 A0 c0 l0 (rd x3_1 (ji9)) (of_decide_eq_true (by first|(with_reducible assumption)|assumption)) (of_decide_eq_true (by first|(with_reducible assumption)|assumption)) HC0.out
      have HR141:=mk0 (Kd.C_of_reads (h1:=fun _=>rfl) (hA18 _ (Kd.reads_of_C HR0.out)))
      have HC141:=mk0 hC18
      clear hA18 hC18 hi018 hsz18
      obtain⟨i019,hi019,_,hsz19,_⟩:=info_parts info5
      obtain⟨A19,hcut19,hA19,hC19⟩:=print_drop_of (P:=Try.prog) (Value.int .u8) 0 22 5 .i64 Try.underlying22 hi019 hsz19 A0 c0 l0 x4_1 (of_decide_eq_true (by first|(with_reducible assumption)|assumption)) (of_decide_eq_true (by first|(with_reducible assumption)|assumption)) HC0.out
      have HR142:=mk0 (Kd.C_of_reads (h1:=fun _=>rfl) (hA19 _ (Kd.reads_of_C HR0.out)))
      have HC142:=mk0 hC19
      clear hA19 hC19 hi019 hsz19
      go_wp2_with (first|(go_at_call 64;refine calls_of_args (args':=#[.slice A18 (l0.drop ((rd x3_1 (ji9)):Int).toNat).length (c0 - (rd x3_1 (ji9)).toNat),.slice A19 (l0.drop (x4_1:Int).toNat).length (c0 - x4_1.toNat)]) (by first|(rw [show (l0.drop ((rd x3_1 (ji9)):Int).toNat).length = (l0.length - (rd x3_1 (ji9)).toNat) from List.length_drop] <;> rfl)|(rw [show (l0.drop (x4_1:Int).toNat).length = (l0.length - x4_1.toNat) from List.length_drop] <;> rfl)|rfl|(simp only [List.length_drop,List.length_take];done)|(simp only [List.length_drop,List.length_take];rfl)) ?_;(with_reducible refine (spec_l05Cmp.calls k2 _ _ (l0.drop ((rd x3_1 (ji9)):Int).toNat) _ _ (l0.drop (x4_1:Int).toNat) t143 _ ?side1 ?side2 ?side3 ?side4 A16.out).mono ?_);(case side1=>exact kC (Kd.C_below HR141.out HB.out));(case side2=>exact HC141.out);(case side3=>exact kC (Kd.C_below HR142.out HB.out));(case side4=>exact HC142.out);rintro e w' ⟨rfl,⟨nd,rfl⟩⟩;(try first|exact⟨rfl,_,World.drewN_drewN _ _ _⟩|exact⟨rfl,_,Eq.trans (World.drewN_drewN _ _ _) (congrArg (World.drewN _) (Nat.add_assoc _ _ _))⟩)))
      repeat (go_quiet (first|(go_at_call 64;refine calls_of_args (args':=#[.slice A18 (l0.drop ((rd x3_1 (ji9)):Int).toNat).length (c0 - (rd x3_1 (ji9)).toNat),.slice A19 (l0.drop (x4_1:Int).toNat).length (c0 - x4_1.toNat)]) (by first|(rw [show (l0.drop ((rd x3_1 (ji9)):Int).toNat).length = (l0.length - (rd x3_1 (ji9)).toNat) from List.length_drop] <;> rfl)|(rw [show (l0.drop (x4_1:Int).toNat).length = (l0.length - x4_1.toNat) from List.length_drop] <;> rfl)|rfl|(simp only [List.length_drop,List.length_take];done)|(simp only [List.length_drop,List.length_take];rfl)) ?_;(with_reducible refine (spec_l05Cmp.calls k2 _ _ (l0.drop ((rd x3_1 (ji9)):Int).toNat) _ _ (l0.drop (x4_1:Int).toNat) t143 _ ?side1 ?side2 ?side3 ?side4 A16.out).mono ?_);(case side1=>exact kC (Kd.C_below HR141.out HB.out));(case side2=>exact HC141.out);(case side3=>exact kC (Kd.C_below HR142.out HB.out));(case side4=>exact HC142.out);rintro e w' ⟨rfl,⟨nd,rfl⟩⟩;(try first|exact⟨rfl,_,World.drewN_drewN _ _ _⟩|exact⟨rfl,_,Eq.trans (World.drewN_drewN _ _ _) (congrArg (World.drewN _) (Nat.add_assoc _ _ _))⟩)));try go_wp2_with (first|(go_at_call 64;refine calls_of_args (args':=#[.slice A18 (l0.drop ((rd x3_1 (ji9)):Int).toNat).length (c0 - (rd x3_1 (ji9)).toNat),.slice A19 (l0.drop (x4_1:Int).toNat).length (c0 - x4_1.toNat)]) (by first|(rw [show (l0.drop ((rd x3_1 (ji9)):Int).toNat).length = (l0.length - (rd x3_1 (ji9)).toNat) from List.length_drop] <;> rfl)|(rw [show (l0.drop (x4_1:Int).toNat).length = (l0.length - x4_1.toNat) from List.length_drop] <;> rfl)|rfl|(simp only [List.length_drop,List.length_take];done)|(simp only [List.length_drop,List.length_take];rfl)) ?_;(with_reducible refine (spec_l05Cmp.calls k2 _ _ (l0.drop ((rd x3_1 (ji9)):Int).toNat) _ _ (l0.drop (x4_1:Int).toNat) t143 _ ?side1 ?side2 ?side3 ?side4 A16.out).mono ?_);(case side1=>exact kC (Kd.C_below HR141.out HB.out));(case side2=>exact HC141.out);(case side3=>exact kC (Kd.C_below HR142.out HB.out));(case side4=>exact HC142.out);rintro e w' ⟨rfl,⟨nd,rfl⟩⟩;(try first|exact⟨rfl,_,World.drewN_drewN _ _ _⟩|exact⟨rfl,_,Eq.trans (World.drewN_drewN _ _ _) (congrArg (World.drewN _) (Nat.add_assoc _ _ _))⟩))))
      go_roundg k2
      case measure=>have:=HK1.out;have:=HK2.out;omega
      case rel=>exact⟨(wrap64 ((ji9) + 1)),(x6_2),(by first|rfl|(simp;done)|(simp only [← hji9] <;> (first|rfl|simp))|(simp [*];done)),(by first|rfl|(simp;done)|(simp [*];done)),H',⟨by have:=HK1.out;have:=HK2.out;omega⟩,⟨rR HO_3.out⟩,⟨kB HB.out⟩⟩
     rw [if_neg c8] at H
     have c8b0:decide (x5_2 < x6_2) = false:=decide_eq_false c8
     clear c8
     obtain⟨y117,hy117⟩:∃ y_:List Int,y_ = (([x4_1]:List Int)):=⟨_,rfl⟩
     replace H:(if 0 ≤ x5_2 then (if x5_2 ≤ (x3_1.length:Int) then ((some (x3_1.drop (x5_2:Int).toNat:List Int)).bind fun y120=>(if y117.length + y120.length < 17592186044416 then ((some (y117 ++ y120:List Int)).bind fun y124=>((some (([]:List Int):List Int)).bind fun y127=>((some (x3_1.take (x5_2:Int).toNat:List Int)).bind fun y130=>(if y127.length + y130.length < 17592186044416 then ((some (y127 ++ y130:List Int)).bind fun y134=>(if y134.length + y124.length < 17592186044416 then (spec_SuffixRows.l0 k2 l0 (y134 ++ y124) (wrap64 (x4_1 - 1))) else (none))) else (none))))) else (none))) else (none)) else (none)) = some r:=by first|(rw [hy117];with_reducible exact H)|(have H2_:=(Option.bind_some _ _).symm.trans H;rw [hy117];with_reducible exact H2_)|(have H2_:=(Option.bind_some _ _).symm.trans H;with_reducible exact H2_)|with_reducible exact H|(rw [hy117];exact H)|exact H
     have Ny117:=mk0 hy117
     clear hy117
     by_cases c22:0 ≤ x5_2
     rotate_left
     ·rw [if_neg c22] at H
      exact absurd H (by simp)
     rw [if_pos c22] at H
     have c22b0:=eq_true c22
     have c22b1:decide (0 ≤ x5_2) = true:=decide_eq_true c22
     clear c22
     by_cases c23:x5_2 ≤ (x3_1.length:Int)
     rotate_left
     ·rw [if_neg c23] at H
      exact absurd H (by simp)
     rw [if_pos c23] at H
     have c23b0:=eq_true c23
     have c23b1:decide (x5_2 ≤ (x3_1.length:Int)) = true:=decide_eq_true c23
     clear c23
     obtain⟨y120,hy120⟩:∃ y_:List Int,y_ = (x3_1.drop (x5_2:Int).toNat):=⟨_,rfl⟩
     replace H:(if y117.length + y120.length < 17592186044416 then ((some (y117 ++ y120:List Int)).bind fun y124=>((some (([]:List Int):List Int)).bind fun y127=>((some (x3_1.take (x5_2:Int).toNat:List Int)).bind fun y130=>(if y127.length + y130.length < 17592186044416 then ((some (y127 ++ y130:List Int)).bind fun y134=>(if y134.length + y124.length < 17592186044416 then (spec_SuffixRows.l0 k2 l0 (y134 ++ y124) (wrap64 (x4_1 - 1))) else (none))) else (none))))) else (none)) = some r:=by first|(rw [hy120];with_reducible exact H)|(have H2_:=(Option.bind_some _ _).symm.trans H;rw [hy120];with_reducible exact H2_)|(have H2_:=(Option.bind_some _ _).symm.trans H;with_reducible exact H2_)|with_reducible exact H|(rw [hy120];exact H)|exact H
     have Ny120:=mk0 hy120
     clear hy120
     by_cases c24:y117.length + y120.length < 17592186044416
     rotate_left
     ·rw [if_neg c24] at H
      exact absurd H (by simp)
     rw [if_pos c24] at H
     have LMc24:=mk0 c24
     clear c24
     obtain⟨y124,hy124⟩:∃ y_:List Int,y_ = (y117 ++ y120):=⟨_,rfl⟩
     replace H:((some (([]:List Int):List Int)).bind fun y127=>((some (x3_1.take (x5_2:Int).toNat:List Int)).bind fun y130=>(if y127.length + y130.length < 17592186044416 then ((some (y127 ++ y130:List Int)).bind fun y134=>(if y134.length + y124.length < 17592186044416 then (spec_SuffixRows.l0 k2 l0 (y134 ++ y124) (wrap64 (x4_1 - 1))) else (none))) else (none)))) = some r:=by first|(rw [hy124];with_reducible exact H)|(have H2_:=(Option.bind_some _ _).symm.trans H;rw [hy124];with_reducible exact H2_)|(have H2_:=(Option.bind_some _ _).symm.trans H;with_reducible exact H2_)|with_reducible exact H|(rw [hy124];exact H)|exact H
     have Ny124:=mk0 hy124
     clear hy124
     obtain⟨y127,hy127⟩:∃ y_:List Int,y_ = (([]:List Int)):=⟨_,rfl⟩
     replace H:((some (x3_1.take (x5_2:Int).toNat:List Int)).bind fun y130=>(if y127.length + y130.length < 17592186044416 then ((some (y127 ++ y130:List Int)).bind fun y134=>(if y134.length + y124.length < 17592186044416 then (spec_SuffixRows.l0 k2 l0 (y134 ++ y124) (wrap64 (x4_1 - 1))) else (none))) else (none))) = some r:=by first|(rw [hy127];with_reducible exact H)|(have H2_:=(Option.bind_some _ _).symm.trans H;rw [hy127];with_reducible exact H2_)|(have H2_:=(Option.bind_some _ _).symm.trans H;with_reducible exact H2_)|with_reducible exact H|(rw [hy127];exact H)|exact H
     have Ny127:=mk0 hy127
     clear hy127
     have c25b0:=eq_true (of_decide_eq_true (by first|(with_reducible assumption)|assumption):0 ≤ x5_2)
     have c26b0:=eq_true (of_decide_eq_true (by first|(with_reducible assumption)|assumption):x5_2 ≤ (x3_1.length:Int))
     obtain⟨y130,hy130⟩:∃ y_:List Int,y_ = (x3_1.take (x5_2:Int).toNat):=⟨_,rfl⟩
     replace H:(if y127.length + y130.length < 17592186044416 then ((some (y127 ++ y130:List Int)).bind fun y134=>(if y134.length + y124.length < 17592186044416 then (spec_SuffixRows.l0 k2 l0 (y134 ++ y124) (wrap64 (x4_1 - 1))) else (none))) else (none)) = some r:=by first|(rw [hy130];with_reducible exact H)|(have H2_:=(Option.bind_some _ _).symm.trans H;rw [hy130];with_reducible exact H2_)|(have H2_:=(Option.bind_some _ _).symm.trans H;with_reducible exact H2_)|with_reducible exact H|(rw [hy130];exact H)|exact H
     have Ny130:=mk0 hy130
     clear hy130
     by_cases c27:y127.length + y130.length < 17592186044416
     rotate_left
     ·rw [if_neg c27] at H
      exact absurd H (by simp)
     rw [if_pos c27] at H
     have LMc27:=mk0 c27
     clear c27
     obtain⟨y134,hy134⟩:∃ y_:List Int,y_ = (y127 ++ y130):=⟨_,rfl⟩
     replace H:(if y134.length + y124.length < 17592186044416 then (spec_SuffixRows.l0 k2 l0 (y134 ++ y124) (wrap64 (x4_1 - 1))) else (none)) = some r:=by first|(rw [hy134];with_reducible exact H)|(have H2_:=(Option.bind_some _ _).symm.trans H;rw [hy134];with_reducible exact H2_)|(have H2_:=(Option.bind_some _ _).symm.trans H;with_reducible exact H2_)|with_reducible exact H|(rw [hy134];exact H)|exact H
     have Ny134:=mk0 hy134
     clear hy134
     by_cases c28:y134.length + y124.length < 17592186044416
     rotate_left
     ·rw [if_neg c28] at H
      exact absurd H (by simp)
     rw [if_pos c28] at H
     have LMc28:=mk0 c28
     clear c28
     obtain⟨y137,hy137⟩:∃ y_:List Int,y_ = (y134 ++ y124):=⟨_,rfl⟩
     replace H:(spec_SuffixRows.l0 k2 l0 y137 (wrap64 (x4_1 - 1))) = some r:=by first|(rw [hy137];with_reducible exact H)|(have H2_:=(Option.bind_some _ _).symm.trans H;rw [hy137];with_reducible exact H2_)|(have H2_:=(Option.bind_some _ _).symm.trans H;with_reducible exact H2_)|with_reducible exact H|(rw [hy137];exact H)|exact H
     have Ny137:=mk0 hy137
     clear hy137
     have H':=mk0 H
     clear H
     go_wp2_with (first|((with_reducible refine gate_dst (N:=43) rfl ?_);refine Kd.R_lit (Kd.int .i64) _ 3 ?hg (N:=43) ?hd (xs:=([x4_1]:List Int)) (inner:=[.int .i64 x4_1]) (ok:=fun _=>True) (okp:=fun _=>True) ?hr ?hp (fun _ hk=>hk) trivial (Below.refl _ _) (Nat.le_refl _) (by simp) ?_;(case hd=>rfl);(case hg=>rfl);(case hr=>first|(go_simp;done)|(go_simp;rfl));(case hp=>exact (Reps.one (show Kd.M (Kd.int .i64) _ _ _ x4_1 [.int .i64 x4_1] from rfl) (Reps.none _ _)));intro v118 w29 ho30 hb hg_ hnew_;clear hg_ hnew_;(first|rw [← Ny117.out] at ho30|(simp only [Int.reduceToNat] at ho30;rw [← Ny117.out] at ho30));have HO119:=mk0 (Kd.R_lower (Kd.R_new' ho30 (Kd.R_lt (rR HO_3.out))) (kZ HB.out));replace HO_3:=mk0 (Kd.R_elder' (rR HO_3.out) (Kd.R_base ho30) hb);replace HB:=mk0 (kS HB.out hb);clear hb ho30;have q31:(x5_2:Int) ≤ ((x3_1.length:Int):Int):=of_decide_eq_true (by first|(with_reducible assumption)|assumption);obtain⟨i031,hi031,_,hsz31,_⟩:=info_parts info3;have hroom31:x3_1.length ≤ co7:=(Kd.R_reads' HO_3.out).2.1;have hC31:Kd.C (Kd.int .i64) _ Ao7 x3_1.length x3_1:=(Kd.R_reads' HO_3.out).2.2;have q031:(0:Int) ≤ (x5_2:Int):=of_decide_eq_true (by first|(with_reducible assumption)|assumption);have hcut31:=cut_from (P:=Try.prog) 48 3 .i64 Try.underlying48 hi031 1 hsz31 Ao7 x3_1.length co7 x5_2 q031 q31;have hr31:=Kd.C_drop (m:=(x5_2:Int).toNat) (c:=co7) hC31 (by omega) hroom31;obtain⟨A31,hA31⟩:∃ A1,A1 = (if co7 = (x5_2:Int).toNat then Ao7 else (Ao7:Option Addr).map (·.add ((x5_2:Int).toNat * 1))):=⟨_,rfl⟩;obtain⟨c31,hc31⟩:∃ c1,c1 = co7 - (x5_2:Int).toNat:=⟨_,rfl⟩;have hy31:y120.length = x3_1.length - (x5_2:Int).toNat:=(by rw [Ny120.out,List.length_drop] <;> omega);rw [show (x3_1).drop (x5_2:Int).toNat = y120 from Ny120.out.symm] at hr31;replace hr31:Kd.C (Kd.int .i64) _ A31 y120.length y120:=(by rw [hA31];exact hr31);rw [← hy31, ← hA31, ← hc31] at hcut31;have HR123:=mk0 hr31;have HC123:=mk0 (show y120.length ≤ c31 from by rw [hy31,hc31];exact Nat.sub_le_sub_right hroom31 _);clear hr31 hC31 hroom31 hi031 hsz31 hc31;have KY31:=mk0 hy31;have KA31:=mk0 hA31;clear hy31 hA31;have KL31:=mk0 (show (x5_2:Int).toNat ≤ x3_1.length from by omega);replace q31:=eq_true q31)|((with_reducible refine gate_builtin (b:=.append) (xs:=#[.tmp 43,.tmp 46]) rfl ?_);at_builtin;refine Kd.R_append_rows (Kd.int .i64) (w0:=w) w.heap.size rfl (.tmp 43) (.tmp 46) 48 3 (.int .i64 0) 8 rfl Try.underlying48 info3 rfl (by decide) (by omega) v118 y117 y120 _ _ _ (fun k_=>some k_ ≠ (.slice Ao7 x3_1.length co7:Value).ownBlock) (fun _=>False) rfl rfl ?aO ?aR (fun _ _ h=>h) (fun _ h=>h.elim) ?aF ?aB ?aS ?aL ?_;(case aR=>repeat (first|exact (by repeat (first|(with_reducible exact HR123.out)|(with_reducible first|apply aC|apply nC|apply dC)|exact HR123.out))|(with_reducible first|apply aC|apply nC|apply dC)));(case aB=>exact (kB HB.out));(case aF=>exact (fun k_ hk=>Kd.fresh' (Kd.R_lt (rR HO_3.out)) k_ hk));(case aO=>exact (rR (Kd.R_mono HO119.out (fun _ hk=>hk.2))));(case aS=>exact (kZ HB.out));(case aL=>have:=LMc24.out;omega);intro v125 w32 ho hb hg hat;rw [← Ny124.out] at ho;replace HB:=mk0 (hb);replace HR123:=mk0 ((show Kd.C (Kd.int .i64) w32 A31 y120.length y120 from by rw [Ny120.out,KA31.out];exact Kd.C_drop (m:=(x5_2:Int).toNat) (c:=co7) ((Kd.R_reads' (Kd.R_after (ok:=(fun _=>True)) (rR HO_3.out) hg hat)).2.2) KL31.out ((Kd.R_reads' (Kd.R_after (ok:=(fun _=>True)) (rR HO_3.out) hg hat)).2.1)));replace HO_3:=mk0 (Kd.R_after (ok:=(fun _=>True)) (rR HO_3.out) hg hat);have HO126:=mk0 (ho);clear HO119 ho hb hg hat)|((with_reducible refine gate_dst (N:=48) rfl ?_);refine Kd.R_lit (Kd.int .i64) _ 3 ?hg (N:=48) ?hd (xs:=([]:List Int)) (inner:=[]) (ok:=fun _=>True) (okp:=fun _=>True) ?hr ?hp (fun _ hk=>hk) trivial (Below.refl _ _) (Nat.le_refl _) (by simp) ?_;(case hd=>rfl);(case hg=>rfl);(case hr=>first|(go_simp;done)|(go_simp;rfl));(case hp=>exact (Reps.none _ _));intro v128 w33 ho34 hb hg_ hnew_;clear hg_ hnew_;(first|rw [← Ny127.out] at ho34|(simp only [Int.reduceToNat] at ho34;rw [← Ny127.out] at ho34));have HO129:=mk0 (Kd.R_lower (Kd.R_new' (Kd.R_new' ho34 (Kd.R_lt (rR HO_3.out))) (Kd.R_lt (rR HO126.out))) (kZ HB.out));replace HO_3:=mk0 (Kd.R_elder' (rR HO_3.out) (Kd.R_base ho34) hb);replace HO126:=mk0 (Kd.R_elder' (rR HO126.out) (Kd.R_base ho34) hb);replace HR123:=mk0 (Kd.C_below (by repeat (first|(with_reducible exact HR123.out)|(with_reducible first|apply aC|apply nC|apply dC)|exact HR123.out)) hb);replace HB:=mk0 (kS HB.out hb);clear hb ho34;have q35:(x5_2:Int) ≤ ((x3_1.length:Int):Int):=of_decide_eq_true (by first|(with_reducible assumption)|assumption);obtain⟨i035,hi035,_,hsz35,_⟩:=info_parts info3;have hroom35:x3_1.length ≤ co7:=(Kd.R_reads' HO_3.out).2.1;have hC35:Kd.C (Kd.int .i64) _ Ao7 x3_1.length x3_1:=(Kd.R_reads' HO_3.out).2.2;have hcut35:=cut_to (P:=Try.prog) 48 3 .i64 Try.underlying48 hi035 Ao7 x3_1.length co7 x5_2 (of_decide_eq_true (by first|(with_reducible assumption)|assumption)) q35 hroom35;have hr35:=Kd.C_take (m:=(x5_2:Int).toNat) hC35 (by omega);have hy35:y130.length = (x5_2:Int).toNat:=(by rw [Ny130.out,List.length_take];omega);rw [← Ny130.out] at hr35;rw [← hy35] at hcut35;have HR133:=mk0 hr35;have HC133:=mk0 (show y130.length ≤ co7 from by omega);clear hr35 hC35 hroom35 hi035 hsz35;have KY35:=mk0 hy35;clear hy35;have KL35:=mk0 (show (x5_2:Int).toNat ≤ x3_1.length from by omega);replace q35:=eq_true q35)|((with_reducible refine gate_builtin (b:=.append) (xs:=#[.tmp 48,.tmp 51]) rfl ?_);at_builtin;refine Kd.R_append_rows (Kd.int .i64) (w0:=w) w.heap.size rfl (.tmp 48) (.tmp 51) 48 3 (.int .i64 0) 8 rfl Try.underlying48 info3 rfl (by decide) (by omega) v128 y127 y130 _ _ _ (fun k_=>some k_ ≠ (.slice Ao7 x3_1.length co7:Value).ownBlock ∧ some k_ ≠ (v125:Value).ownBlock) (fun _=>False) rfl rfl ?aO ?aR (fun _ _ h=>h) (fun _ h=>h.elim) ?aF ?aB ?aS ?aL ?_;(case aR=>repeat (first|exact (by repeat (first|(with_reducible exact HR133.out)|(with_reducible first|apply aC|apply nC|apply dC)|exact HR133.out))|(with_reducible first|apply aC|apply nC|apply dC)));(case aB=>exact (kB HB.out));(case aF=>exact (fun k_ hk=>⟨Kd.fresh' (Kd.R_lt (rR HO_3.out)) k_ hk,Kd.fresh' (Kd.R_lt (rR HO126.out)) k_ hk⟩));(case aO=>exact (rR (Kd.R_mono HO129.out (fun _ hk=>⟨hk.1.2,hk.2⟩))));(case aS=>exact (kZ HB.out));(case aL=>have:=LMc27.out;omega);intro v135 w36 ho hb hg hat;rw [← Ny134.out] at ho;replace HO126:=mk0 (Kd.R_after (ok:=(fun k_=>some k_ ≠ (.slice Ao7 x3_1.length co7:Value).ownBlock)) (rR HO126.out) hg hat);replace HB:=mk0 (hb);replace HR123:=mk0 ((show Kd.C (Kd.int .i64) w36 A31 y120.length y120 from by rw [Ny120.out,KA31.out];exact Kd.C_drop (m:=(x5_2:Int).toNat) (c:=co7) ((Kd.R_reads' (Kd.R_after (ok:=(fun k_=>some k_ ≠ (v125:Value).ownBlock)) (rR (Kd.R_mono HO_3.out (fun _ hk=>⟨hk.1.2,hk.2⟩))) hg hat)).2.2) KL31.out ((Kd.R_reads' (Kd.R_after (ok:=(fun k_=>some k_ ≠ (v125:Value).ownBlock)) (rR (Kd.R_mono HO_3.out (fun _ hk=>⟨hk.1.2,hk.2⟩))) hg hat)).2.1)));replace HR133:=mk0 ((show Kd.C (Kd.int .i64) w36 Ao7 y130.length y130 from by rw [Ny130.out];exact Kd.C_take (m:=(x5_2:Int).toNat) ((Kd.R_reads' (Kd.R_after (ok:=(fun k_=>some k_ ≠ (v125:Value).ownBlock)) (rR (Kd.R_mono HO_3.out (fun _ hk=>⟨hk.1.2,hk.2⟩))) hg hat)).2.2) KL35.out));replace HO_3:=mk0 (Kd.R_after (ok:=(fun k_=>some k_ ≠ (v125:Value).ownBlock)) (rR (Kd.R_mono HO_3.out (fun _ hk=>⟨hk.1.2,hk.2⟩))) hg hat);have HO136:=mk0 (ho);clear HO129 ho hb hg hat;obtain⟨Ao38,co38,eo38⟩:=Kd.R_slice HO126.out;subst eo38)|((with_reducible refine gate_builtin (b:=.append) (xs:=#[.tmp 52,.tmp 53]) rfl ?_);at_builtin;refine Kd.R_append_rows (Kd.int .i64) (w0:=w) w.heap.size rfl (.tmp 52) (.tmp 53) 48 3 (.int .i64 0) 8 rfl Try.underlying48 info3 rfl (by decide) (by omega) v135 y134 y124 _ _ _ (fun k_=>some k_ ≠ (.slice Ao7 x3_1.length co7:Value).ownBlock ∧ some k_ ≠ (.slice Ao38 y124.length co38:Value).ownBlock) (fun _=>False) rfl rfl ?aO ?aR (fun _ _ h=>h) (fun _ h=>h.elim) ?aF ?aB ?aS ?aL ?_;(case aR=>repeat (first|exact (Kd.R_reads' HO126.out).2.2|(with_reducible first|apply aC|apply nC|apply dC)));(case aB=>exact (kB HB.out));(case aF=>exact (fun k_ hk=>⟨Kd.fresh' (Kd.R_lt (rR HO_3.out)) k_ hk,Kd.fresh' (Kd.R_lt (rR HO126.out)) k_ hk⟩));(case aO=>exact (rR HO136.out));(case aS=>exact (kZ HB.out));(case aL=>have:=LMc28.out;omega);intro v138 w37 ho hb hg hat;rw [← Ny137.out] at ho;replace HO126:=mk0 (Kd.R_after (ok:=(fun k_=>some k_ ≠ (.slice Ao7 x3_1.length co7:Value).ownBlock)) (rR HO126.out) hg hat);replace HB:=mk0 (hb);replace HR123:=mk0 ((show Kd.C (Kd.int .i64) w37 A31 y120.length y120 from by rw [Ny120.out,KA31.out];exact Kd.C_drop (m:=(x5_2:Int).toNat) (c:=co7) ((Kd.R_reads' (Kd.R_after (ok:=(fun k_=>some k_ ≠ (.slice Ao38 y124.length co38:Value).ownBlock)) (rR HO_3.out) hg hat)).2.2) KL31.out ((Kd.R_reads' (Kd.R_after (ok:=(fun k_=>some k_ ≠ (.slice Ao38 y124.length co38:Value).ownBlock)) (rR HO_3.out) hg hat)).2.1)));replace HR133:=mk0 ((show Kd.C (Kd.int .i64) w37 Ao7 y130.length y130 from by rw [Ny130.out];exact Kd.C_take (m:=(x5_2:Int).toNat) ((Kd.R_reads' (Kd.R_after (ok:=(fun k_=>some k_ ≠ (.slice Ao38 y124.length co38:Value).ownBlock)) (rR HO_3.out) hg hat)).2.2) KL35.out));replace HO_3:=mk0 (Kd.R_after (ok:=(fun k_=>some k_ ≠ (.slice Ao38 y124.length co38:Value).ownBlock)) (rR HO_3.out) hg hat);have HO139:=mk0 (ho);clear HO136 ho hb hg hat))
     repeat (go_quiet (first|((with_reducible refine gate_dst (N:=43) rfl ?_);refine Kd.R_lit (Kd.int .i64) _ 3 ?hg (N:=43) ?hd (xs:=([x4_1]:List Int)) (inner:=[.int .i64 x4_1]) (ok:=fun _=>True) (okp:=fun _=>True) ?hr ?hp (fun _ hk=>hk) trivial (Below.refl _ _) (Nat.le_refl _) (by simp) ?_;(case hd=>rfl);(case hg=>rfl);(case hr=>first|(go_simp;done)|(go_simp;rfl));(case hp=>exact (Reps.one (show Kd.M (Kd.int .i64) _ _ _ x4_1 [.int .i64 x4_1] from rfl) (Reps.none _ _)));intro v118 w29 ho30 hb hg_ hnew_;clear hg_ hnew_;(first|rw [← Ny117.out] at ho30|(simp only [Int.reduceToNat] at ho30;rw [← Ny117.out] at ho30));have HO119:=mk0 (Kd.R_lower (Kd.R_new' ho30 (Kd.R_lt (rR HO_3.out))) (kZ HB.out));replace HO_3:=mk0 (Kd.R_elder' (rR HO_3.out) (Kd.R_base ho30) hb);replace HB:=mk0 (kS HB.out hb);clear hb ho30;have q31:(x5_2:Int) ≤ ((x3_1.length:Int):Int):=of_decide_eq_true (by first|(with_reducible assumption)|assumption);obtain⟨i031,hi031,_,hsz31,_⟩:=info_parts info3;have hroom31:x3_1.length ≤ co7:=(Kd.R_reads' HO_3.out).2.1;have hC31:Kd.C (Kd.int .i64) _ Ao7 x3_1.length x3_1:=(Kd.R_reads' HO_3.out).2.2;have q031:(0:Int) ≤ (x5_2:Int):=of_decide_eq_true (by first|(with_reducible assumption)|assumption);have hcut31:=cut_from (P:=Try.prog) 48 3 .i64 Try.underlying48 hi031 1 hsz31 Ao7 x3_1.length co7 x5_2 q031 q31;have hr31:=Kd.C_drop (m:=(x5_2:Int).toNat) (c:=co7) hC31 (by omega) hroom31;obtain⟨A31,hA31⟩:∃ A1,A1 = (if co7 = (x5_2:Int).toNat then Ao7 else (Ao7:Option Addr).map (·.add ((x5_2:Int).toNat * 1))):=⟨_,rfl⟩;obtain⟨c31,hc31⟩:∃ c1,c1 = co7 - (x5_2:Int).toNat:=⟨_,rfl⟩;have hy31:y120.length = x3_1.length - (x5_2:Int).toNat:=(by rw [Ny120.out,List.length_drop] <;> omega);rw [show (x3_1).drop (x5_2:Int).toNat = y120 from Ny120.out.symm] at hr31;replace hr31:Kd.C (Kd.int .i64) _ A31 y120.length y120:=(by rw [hA31];exact hr31);rw [← hy31, ← hA31, ← hc31] at hcut31;have HR123:=mk0 hr31;have HC123:=mk0 (show y120.length ≤ c31 from by rw [hy31,hc31];exact Nat.sub_le_sub_right hroom31 _);clear hr31 hC31 hroom31 hi031 hsz31 hc31;have KY31:=mk0 hy31;have KA31:=mk0 hA31;clear hy31 hA31;have KL31:=mk0 (show (x5_2:Int).toNat ≤ x3_1.length from by omega);replace q31:=eq_true q31)|((with_reducible refine gate_builtin (b:=.append) (xs:=#[.tmp 43,.tmp 46]) rfl ?_);at_builtin;refine Kd.R_append_rows (Kd.int .i64) (w0:=w) w.heap.size rfl (.tmp 43) (.tmp 46) 48 3 (.int .i64 0) 8 rfl Try.underlying48 info3 rfl (by decide) (by omega) v118 y117 y120 _ _ _ (fun k_=>some k_ ≠ (.slice Ao7 x3_1.length co7:Value).ownBlock) (fun _=>False) rfl rfl ?aO ?aR (fun _ _ h=>h) (fun _ h=>h.elim) ?aF ?aB ?aS ?aL ?_;(case aR=>repeat (first|exact (by repeat (first|(with_reducible exact HR123.out)|(with_reducible first|apply aC|apply nC|apply dC)|exact HR123.out))|(with_reducible first|apply aC|apply nC|apply dC)));(case aB=>exact (kB HB.out));(case aF=>exact (fun k_ hk=>Kd.fresh' (Kd.R_lt (rR HO_3.out)) k_ hk));(case aO=>exact (rR (Kd.R_mono HO119.out (fun _ hk=>hk.2))));(case aS=>exact (kZ HB.out));(case aL=>have:=LMc24.out;omega);intro v125 w32 ho hb hg hat;rw [← Ny124.out] at ho;replace HB:=mk0 (hb);replace HR123:=mk0 ((show Kd.C (Kd.int .i64) w32 A31 y120.length y120 from by rw [Ny120.out,KA31.out];exact Kd.C_drop (m:=(x5_2:Int).toNat) (c:=co7) ((Kd.R_reads' (Kd.R_after (ok:=(fun _=>True)) (rR HO_3.out) hg hat)).2.2) KL31.out ((Kd.R_reads' (Kd.R_after (ok:=(fun _=>True)) (rR HO_3.out) hg hat)).2.1)));replace HO_3:=mk0 (Kd.R_after (ok:=(fun _=>True)) (rR HO_3.out) hg hat);have HO126:=mk0 (ho);clear HO119 ho hb hg hat)|((with_reducible refine gate_dst (N:=48) rfl ?_);refine Kd.R_lit (Kd.int .i64) _ 3 ?hg (N:=48) ?hd (xs:=([]:List Int)) (inner:=[]) (ok:=fun _=>True) (okp:=fun _=>True) ?hr ?hp (fun _ hk=>hk) trivial (Below.refl _ _) (Nat.le_refl _) (by simp) ?_;(case hd=>rfl);(case hg=>rfl);(case hr=>first|(go_simp;done)|(go_simp;rfl));(case hp=>exact (Reps.none _ _));intro v128 w33 ho34 hb hg_ hnew_;clear hg_ hnew_;(first|rw [← Ny127.out] at ho34|(simp only [Int.reduceToNat] at ho34;rw [← Ny127.out] at ho34));have HO129:=mk0 (Kd.R_lower (Kd.R_new' (Kd.R_new' ho34 (Kd.R_lt (rR HO_3.out))) (Kd.R_lt (rR HO126.out))) (kZ HB.out));replace HO_3:=mk0 (Kd.R_elder' (rR HO_3.out) (Kd.R_base ho34) hb);replace HO126:=mk0 (Kd.R_elder' (rR HO126.out) (Kd.R_base ho34) hb);replace HR123:=mk0 (Kd.C_below (by repeat (first|(with_reducible exact HR123.out)|(with_reducible first|apply aC|apply nC|apply dC)|exact HR123.out)) hb);replace HB:=mk0 (kS HB.out hb);clear hb ho34;have q35:(x5_2:Int) ≤ ((x3_1.length:Int):Int):=of_decide_eq_true (by first|(with_reducible assumption)|assumption);obtain⟨i035,hi035,_,hsz35,_⟩:=info_parts info3;have hroom35:x3_1.length ≤ co7:=(Kd.R_reads' HO_3.out).2.1;have hC35:Kd.C (Kd.int .i64) _ Ao7 x3_1.length x3_1:=(Kd.R_reads' HO_3.out).2.2;have hcut35:=cut_to (P:=Try.prog) 48 3 .i64 Try.underlying48 hi035 Ao7 x3_1.length co7 x5_2 (of_decide_eq_true (by first|(with_reducible assumption)|assumption)) q35 hroom35;have hr35:=Kd.C_take (m:=(x5_2:Int).toNat) hC35 (by omega);have hy35:y130.length = (x5_2:Int).toNat:=(by rw [Ny130.out,List.length_take];omega);rw [← Ny130.out] at hr35;rw [← hy35] at hcut35;have HR133:=mk0 hr35;have HC133:=mk0 (show y130.length ≤ co7 from by omega);clear hr35 hC35 hroom35 hi035 hsz35;have KY35:=mk0 hy35;clear hy35;have KL35:=mk0 (show (x5_2:Int).toNat ≤ x3_1.length from by omega);replace q35:=eq_true q35)|((with_reducible refine gate_builtin (b:=.append) (xs:=#[.tmp 48,.tmp 51]) rfl ?_);at_builtin;refine Kd.R_append_rows (Kd.int .i64) (w0:=w) w.heap.size rfl (.tmp 48) (.tmp 51) 48 3 (.int .i64 0) 8 rfl Try.underlying48 info3 rfl (by decide) (by omega) v128 y127 y130 _ _ _ (fun k_=>some k_ ≠ (.slice Ao7 x3_1.length co7:Value).ownBlock ∧ some k_ ≠ (v125:Value).ownBlock) (fun _=>False) rfl rfl ?aO ?aR (fun _ _ h=>h) (fun _ h=>h.elim) ?aF ?aB ?aS ?aL ?_;(case aR=>repeat (first|exact (by repeat (first|(with_reducible exact HR133.out)|(with_reducible first|apply aC|apply nC|apply dC)|exact HR133.out))|(with_reducible first|apply aC|apply nC|apply dC)));(case aB=>exact (kB HB.out));(case aF=>exact (fun k_ hk=>⟨Kd.fresh' (Kd.R_lt (rR HO_3.out)) k_ hk,Kd.fresh' (Kd.R_lt (rR HO126.out)) k_ hk⟩));(case aO=>exact (rR (Kd.R_mono HO129.out (fun _ hk=>⟨hk.1.2,hk.2⟩))));(case aS=>exact (kZ HB.out));(case aL=>have:=LMc27.out;omega);intro v135 w36 ho hb hg hat;rw [← Ny134.out] at ho;replace HO126:=mk0 (Kd.R_after (ok:=(fun k_=>some k_ ≠ (.slice Ao7 x3_1.length co7:Value).ownBlock)) (rR HO126.out) hg hat);replace HB:=mk0 (hb);replace HR123:=mk0 ((show Kd.C (Kd.int .i64) w36 A31 y120.length y120 from by rw [Ny120.out,KA31.out];exact Kd.C_drop (m:=(x5_2:Int).toNat) (c:=co7) ((Kd.R_reads' (Kd.R_after (ok:=(fun k_=>some k_ ≠ (v125:Value).ownBlock)) (rR (Kd.R_mono HO_3.out (fun _ hk=>⟨hk.1.2,hk.2⟩))) hg hat)).2.2) KL31.out ((Kd.R_reads' (Kd.R_after (ok:=(fun k_=>some k_ ≠ (v125:Value).ownBlock)) (rR (Kd.R_mono HO_3.out (fun _ hk=>⟨hk.1.2,hk.2⟩))) hg hat)).2.1)));replace HR133:=mk0 ((show Kd.C (Kd.int .i64) w36 Ao7 y130.length y130 from by rw [Ny130.out];exact Kd.C_take (m:=(x5_2:Int).toNat) ((Kd.R_reads' (Kd.R_after (ok:=(fun k_=>some k_ ≠ (v125:Value).ownBlock)) (rR (Kd.R_mono HO_3.out (fun _ hk=>⟨hk.1.2,hk.2⟩))) hg hat)).2.2) KL35.out));replace HO_3:=mk0 (Kd.R_after (ok:=(fun k_=>some k_ ≠ (v125:Value).ownBlock)) (rR (Kd.R_mono HO_3.out (fun _ hk=>⟨hk.1.2,hk.2⟩))) hg hat);have HO136:=mk0 (ho);clear HO129 ho hb hg hat;obtain⟨Ao38,co38,eo38⟩:=Kd.R_slice HO126.out;subst eo38)|((with_reducible refine gate_builtin (b:=.append) (xs:=#[.tmp 52,.tmp 53]) rfl ?_);at_builtin;refine Kd.R_append_rows (Kd.int .i64) (w0:=w) w.heap.size rfl (.tmp 52) (.tmp 53) 48 3 (.int .i64 0) 8 rfl Try.underlying48 info3 rfl (by decide) (by omega) v135 y134 y124 _ _ _ (fun k_=>some k_ ≠ (.slice Ao7 x3_1.length co7:Value).ownBlock ∧ some k_ ≠ (.slice Ao38 y124.length co38:Value).ownBlock) (fun _=>False) rfl rfl ?aO ?aR (fun _ _ h=>h) (fun _ h=>h.elim) ?aF ?aB ?aS ?aL ?_;(case aR=>repeat (first|exact (Kd.R_reads' HO126.out).2.2|(with_reducible first|apply aC|apply nC|apply dC)));(case aB=>exact (kB HB.out));(case aF=>exact (fun k_ hk=>⟨Kd.fresh' (Kd.R_lt (rR HO_3.out)) k_ hk,Kd.fresh' (Kd.R_lt (rR HO126.out)) k_ hk⟩));(case aO=>exact (rR HO136.out));(case aS=>exact (kZ HB.out));(case aL=>have:=LMc28.out;omega);intro v138 w37 ho hb hg hat;rw [← Ny137.out] at ho;replace HO126:=mk0 (Kd.R_after (ok:=(fun k_=>some k_ ≠ (.slice Ao7 x3_1.length co7:Value).ownBlock)) (rR HO126.out) hg hat);replace HB:=mk0 (hb);replace HR123:=mk0 ((show Kd.C (Kd.int .i64) w37 A31 y120.length y120 from by rw [Ny120.out,KA31.out];exact Kd.C_drop (m:=(x5_2:Int).toNat) (c:=co7) ((Kd.R_reads' (Kd.R_after (ok:=(fun k_=>some k_ ≠ (.slice Ao38 y124.length co38:Value).ownBlock)) (rR HO_3.out) hg hat)).2.2) KL31.out ((Kd.R_reads' (Kd.R_after (ok:=(fun k_=>some k_ ≠ (.slice Ao38 y124.length co38:Value).ownBlock)) (rR HO_3.out) hg hat)).2.1)));replace HR133:=mk0 ((show Kd.C (Kd.int .i64) w37 Ao7 y130.length y130 from by rw [Ny130.out];exact Kd.C_take (m:=(x5_2:Int).toNat) ((Kd.R_reads' (Kd.R_after (ok:=(fun k_=>some k_ ≠ (.slice Ao38 y124.length co38:Value).ownBlock)) (rR HO_3.out) hg hat)).2.2) KL35.out));replace HO_3:=mk0 (Kd.R_after (ok:=(fun k_=>some k_ ≠ (.slice Ao38 y124.length co38:Value).ownBlock)) (rR HO_3.out) hg hat);have HO139:=mk0 (ho);clear HO136 ho hb hg hat));try go_wp2_with (first|((with_reducible refine gate_dst (N:=43) rfl ?_);refine Kd.R_lit (Kd.int .i64) _ 3 ?hg (N:=43) ?hd (xs:=([x4_1]:List Int)) (inner:=[.int .i64 x4_1]) (ok:=fun _=>True) (okp:=fun _=>True) ?hr ?hp (fun _ hk=>hk) trivial (Below.refl _ _) (Nat.le_refl _) (by simp) ?_;(case hd=>rfl);(case hg=>rfl);(case hr=>first|(go_simp;done)|(go_simp;rfl));(case hp=>exact (Reps.one (show Kd.M (Kd.int .i64) _ _ _ x4_1 [.int .i64 x4_1] from rfl) (Reps.none _ _)));intro v118 w29 ho30 hb hg_ hnew_;clear hg_ hnew_;(first|rw [← Ny117.out] at ho30|(simp only [Int.reduceToNat] at ho30;rw [← Ny117.out] at ho30));have HO119:=mk0 (Kd.R_lower (Kd.R_new' ho30 (Kd.R_lt (rR HO_3.out))) (kZ HB.out));replace HO_3:=mk0 (Kd.R_elder' (rR HO_3.out) (Kd.R_base ho30) hb);replace HB:=mk0 (kS HB.out hb);clear hb ho30;have q31:(x5_2:Int) ≤ ((x3_1.length:Int):Int):=of_decide_eq_true (by first|(with_reducible assumption)|assumption);obtain⟨i031,hi031,_,hsz31,_⟩:=info_parts info3;have hroom31:x3_1.length ≤ co7:=(Kd.R_reads' HO_3.out).2.1;have hC31:Kd.C (Kd.int .i64) _ Ao7 x3_1.length x3_1:=(Kd.R_reads' HO_3.out).2.2;have q031:(0:Int) ≤ (x5_2:Int):=of_decide_eq_true (by first|(with_reducible assumption)|assumption);have hcut31:=cut_from (P:=Try.prog) 48 3 .i64 Try.underlying48 hi031 1 hsz31 Ao7 x3_1.length co7 x5_2 q031 q31;have hr31:=Kd.C_drop (m:=(x5_2:Int).toNat) (c:=co7) hC31 (by omega) hroom31;obtain⟨A31,hA31⟩:∃ A1,A1 = (if co7 = (x5_2:Int).toNat then Ao7 else (Ao7:Option Addr).map (·.add ((x5_2:Int).toNat * 1))):=⟨_,rfl⟩;obtain⟨c31,hc31⟩:∃ c1,c1 = co7 - (x5_2:Int).toNat:=⟨_,rfl⟩;have hy31:y120.length = x3_1.length - (x5_2:Int).toNat:=(by rw [Ny120.out,List.length_drop] <;> omega);rw [show (x3_1).drop (x5_2:Int).toNat = y120 from Ny120.out.symm] at hr31;replace hr31:Kd.C (Kd.int .i64) _ A31 y120.length y120:=(by rw [hA31];exact hr31);rw [← hy31, ← hA31, ← hc31] at hcut31;have HR123:=mk0 hr31;have HC123:=mk0 (show y120.length ≤ c31 from by rw [hy31,hc31];exact Nat.sub_le_sub_right hroom31 _);clear hr31 hC31 hroom31 hi031 hsz31 hc31;have KY31:=mk0 hy31;have KA31:=mk0 hA31;clear hy31 hA31;have KL31:=mk0 (show (x5_2:Int).toNat ≤ x3_1.length from by omega);replace q31:=eq_true q31)|((with_reducible refine gate_builtin (b:=.append) (xs:=#[.tmp 43,.tmp 46]) rfl ?_);at_builtin;refine Kd.R_append_rows (Kd.int .i64) (w0:=w) w.heap.size rfl (.tmp 43) (.tmp 46) 48 3 (.int .i64 0) 8 rfl Try.underlying48 info3 rfl (by decide) (by omega) v118 y117 y120 _ _ _ (fun k_=>some k_ ≠ (.slice Ao7 x3_1.length co7:Value).ownBlock) (fun _=>False) rfl rfl ?aO ?aR (fun _ _ h=>h) (fun _ h=>h.elim) ?aF ?aB ?aS ?aL ?_;(case aR=>repeat (first|exact (by repeat (first|(with_reducible exact HR123.out)|(with_reducible first|apply aC|apply nC|apply dC)|exact HR123.out))|(with_reducible first|apply aC|apply nC|apply dC)));(case aB=>exact (kB HB.out));(case aF=>exact (fun k_ hk=>Kd.fresh' (Kd.R_lt (rR HO_3.out)) k_ hk));(case aO=>exact (rR (Kd.R_mono HO119.out (fun _ hk=>hk.2))));(case aS=>exact (kZ HB.out));(case aL=>have:=LMc24.out;omega);intro v125 w32 ho hb hg hat;rw [← Ny124.out] at ho;replace HB:=mk0 (hb);replace HR123:=mk0 ((show Kd.C (Kd.int .i64) w32 A31 y120.length y120 from by rw [Ny120.out,KA31.out];exact Kd.C_drop (m:=(x5_2:Int).toNat) (c:=co7) ((Kd.R_reads' (Kd.R_after (ok:=(fun _=>True)) (rR HO_3.out) hg hat)).2.2) KL31.out ((Kd.R_reads' (Kd.R_after (ok:=(fun _=>True)) (rR HO_3.out) hg hat)).2.1)));replace HO_3:=mk0 (Kd.R_after (ok:=(fun _=>True)) (rR HO_3.out) hg hat);have HO126:=mk0 (ho);clear HO119 ho hb hg hat)|((with_reducible refine gate_dst (N:=48) rfl ?_);refine Kd.R_lit (Kd.int .i64) _ 3 ?hg (N:=48) ?hd (xs:=([]:List Int)) (inner:=[]) (ok:=fun _=>True) (okp:=fun _=>True) ?hr ?hp (fun _ hk=>hk) trivial (Below.refl _ _) (Nat.le_refl _) (by simp) ?_;(case hd=>rfl);(case hg=>rfl);(case hr=>first|(go_simp;done)|(go_simp;rfl));(case hp=>exact (Reps.none _ _));intro v128 w33 ho34 hb hg_ hnew_;clear hg_ hnew_;(first|rw [← Ny127.out] at ho34|(simp only [Int.reduceToNat] at ho34;rw [← Ny127.out] at ho34));have HO129:=mk0 (Kd.R_lower (Kd.R_new' (Kd.R_new' ho34 (Kd.R_lt (rR HO_3.out))) (Kd.R_lt (rR HO126.out))) (kZ HB.out));replace HO_3:=mk0 (Kd.R_elder' (rR HO_3.out) (Kd.R_base ho34) hb);replace HO126:=mk0 (Kd.R_elder' (rR HO126.out) (Kd.R_base ho34) hb);replace HR123:=mk0 (Kd.C_below (by repeat (first|(with_reducible exact HR123.out)|(with_reducible first|apply aC|apply nC|apply dC)|exact HR123.out)) hb);replace HB:=mk0 (kS HB.out hb);clear hb ho34;have q35:(x5_2:Int) ≤ ((x3_1.length:Int):Int):=of_decide_eq_true (by first|(with_reducible assumption)|assumption);obtain⟨i035,hi035,_,hsz35,_⟩:=info_parts info3;have hroom35:x3_1.length ≤ co7:=(Kd.R_reads' HO_3.out).2.1;have hC35:Kd.C (Kd.int .i64) _ Ao7 x3_1.length x3_1:=(Kd.R_reads' HO_3.out).2.2;have hcut35:=cut_to (P:=Try.prog) 48 3 .i64 Try.underlying48 hi035 Ao7 x3_1.length co7 x5_2 (of_decide_eq_true (by first|(with_reducible assumption)|assumption)) q35 hroom35;have hr35:=Kd.C_take (m:=(x5_2:Int).toNat) hC35 (by omega);have hy35:y130.length = (x5_2:Int).toNat:=(by rw [Ny130.out,List.length_take];omega);rw [← Ny130.out] at hr35;rw [← hy35] at hcut35;have HR133:=mk0 hr35;have HC133:=mk0 (show y130.length ≤ co7 from by omega);clear hr35 hC35 hroom35 hi035 hsz35;have KY35:=mk0 hy35;clear hy35;have KL35:=mk0 (show (x5_2:Int).toNat ≤ x3_1.length from by omega);replace q35:=eq_true q35)|((with_reducible refine gate_builtin (b:=.append) (xs:=#[.tmp 48,.tmp 51]) rfl ?_);at_builtin;refine Kd.R_append_rows (Kd.int .i64) (w0:=w) w.heap.size rfl (.tmp 48) (.tmp 51) 48 3 (.int .i64 0) 8 rfl Try.underlying48 info3 rfl (by decide) (by omega) v128 y127 y130 _ _ _ (fun k_=>some k_ ≠ (.slice Ao7 x3_1.length co7:Value).ownBlock ∧ some k_ ≠ (v125:Value).ownBlock) (fun _=>False) rfl rfl ?aO ?aR (fun _ _ h=>h) (fun _ h=>h.elim) ?aF ?aB ?aS ?aL ?_;(case aR=>repeat (first|exact (by repeat (first|(with_reducible exact HR133.out)|(with_reducible first|apply aC|apply nC|apply dC)|exact HR133.out))|(with_reducible first|apply aC|apply nC|apply dC)));(case aB=>exact (kB HB.out));(case aF=>exact (fun k_ hk=>⟨Kd.fresh' (Kd.R_lt (rR HO_3.out)) k_ hk,Kd.fresh' (Kd.R_lt (rR HO126.out)) k_ hk⟩));(case aO=>exact (rR (Kd.R_mono HO129.out (fun _ hk=>⟨hk.1.2,hk.2⟩))));(case aS=>exact (kZ HB.out));(case aL=>have:=LMc27.out;omega);intro v135 w36 ho hb hg hat;rw [← Ny134.out] at ho;replace HO126:=mk0 (Kd.R_after (ok:=(fun k_=>some k_ ≠ (.slice Ao7 x3_1.length co7:Value).ownBlock)) (rR HO126.out) hg hat);replace HB:=mk0 (hb);replace HR123:=mk0 ((show Kd.C (Kd.int .i64) w36 A31 y120.length y120 from by rw [Ny120.out,KA31.out];exact Kd.C_drop (m:=(x5_2:Int).toNat) (c:=co7) ((Kd.R_reads' (Kd.R_after (ok:=(fun k_=>some k_ ≠ (v125:Value).ownBlock)) (rR (Kd.R_mono HO_3.out (fun _ hk=>⟨hk.1.2,hk.2⟩))) hg hat)).2.2) KL31.out ((Kd.R_reads' (Kd.R_after (ok:=(fun k_=>some k_ ≠ (v125:Value).ownBlock)) (rR (Kd.R_mono HO_3.out (fun _ hk=>⟨hk.1.2,hk.2⟩))) hg hat)).2.1)));replace HR133:=mk0 ((show Kd.C (Kd.int .i64) w36 Ao7 y130.length y130 from by rw [Ny130.out];exact Kd.C_take (m:=(x5_2:Int).toNat) ((Kd.R_reads' (Kd.R_after (ok:=(fun k_=>some k_ ≠ (v125:Value).ownBlock)) (rR (Kd.R_mono HO_3.out (fun _ hk=>⟨hk.1.2,hk.2⟩))) hg hat)).2.2) KL35.out));replace HO_3:=mk0 (Kd.R_after (ok:=(fun k_=>some k_ ≠ (v125:Value).ownBlock)) (rR (Kd.R_mono HO_3.out (fun _ hk=>⟨hk.1.2,hk.2⟩))) hg hat);have HO136:=mk0 (ho);clear HO129 ho hb hg hat;obtain⟨Ao38,co38,eo38⟩:=Kd.R_slice HO126.out;subst eo38)|((with_reducible refine gate_builtin (b:=.append) (xs:=#[.tmp 52,.tmp 53]) rfl ?_);at_builtin;refine Kd.R_append_rows (Kd.int .i64) (w0:=w) w.heap.size rfl (.tmp 52) (.tmp 53) 48 3 (.int .i64 0) 8 rfl Try.underlying48 info3 rfl (by decide) (by omega) v135 y134 y124 _ _ _ (fun k_=>some k_ ≠ (.slice Ao7 x3_1.length co7:Value).ownBlock ∧ some k_ ≠ (.slice Ao38 y124.length co38:Value).ownBlock) (fun _=>False) rfl rfl ?aO ?aR (fun _ _ h=>h) (fun _ h=>h.elim) ?aF ?aB ?aS ?aL ?_;(case aR=>repeat (first|exact (Kd.R_reads' HO126.out).2.2|(with_reducible first|apply aC|apply nC|apply dC)));(case aB=>exact (kB HB.out));(case aF=>exact (fun k_ hk=>⟨Kd.fresh' (Kd.R_lt (rR HO_3.out)) k_ hk,Kd.fresh' (Kd.R_lt (rR HO126.out)) k_ hk⟩));(case aO=>exact (rR HO136.out));(case aS=>exact (kZ HB.out));(case aL=>have:=LMc28.out;omega);intro v138 w37 ho hb hg hat;rw [← Ny137.out] at ho;replace HO126:=mk0 (Kd.R_after (ok:=(fun k_=>some k_ ≠ (.slice Ao7 x3_1.length co7:Value).ownBlock)) (rR HO126.out) hg hat);replace HB:=mk0 (hb);replace HR123:=mk0 ((show Kd.C (Kd.int .i64) w37 A31 y120.length y120 from by rw [Ny120.out,KA31.out];exact Kd.C_drop (m:=(x5_2:Int).toNat) (c:=co7) ((Kd.R_reads' (Kd.R_after (ok:=(fun k_=>some k_ ≠ (.slice Ao38 y124.length co38:Value).ownBlock)) (rR HO_3.out) hg hat)).2.2) KL31.out ((Kd.R_reads' (Kd.R_after (ok:=(fun k_=>some k_ ≠ (.slice Ao38 y124.length co38:Value).ownBlock)) (rR HO_3.out) hg hat)).2.1)));replace HR133:=mk0 ((show Kd.C (Kd.int .i64) w37 Ao7 y130.length y130 from by rw [Ny130.out];exact Kd.C_take (m:=(x5_2:Int).toNat) ((Kd.R_reads' (Kd.R_after (ok:=(fun k_=>some k_ ≠ (.slice Ao38 y124.length co38:Value).ownBlock)) (rR HO_3.out) hg hat)).2.2) KL35.out));replace HO_3:=mk0 (Kd.R_after (ok:=(fun k_=>some k_ ≠ (.slice Ao38 y124.length co38:Value).ownBlock)) (rR HO_3.out) hg hat);have HO139:=mk0 (ho);clear HO136 ho hb hg hat)))
     go_roundg k2
     case measure=>have:=HK1.out;have:=HK2.out;omega
     case rel=>exact⟨(y137),(wrap64 (x4_1 - 1)),(by first|rfl|(simp;done)|(simp [*];done)),H',⟨by have:=HK1.out;have:=HK2.out;omega⟩,⟨rR (Kd.R_mono HO139.out (fun _ hk=>trivial))⟩,⟨kB HB.out⟩⟩
/-! ### spec_l05Common: function 49 -/
mutual
def spec_l05Common.l0 : Nat → List Int → List Int → Int → Option (Int)
 | 0, _, _, _ => none
 | k + 1, x0, x1, x5 => if x5 < (x0.length : Int) then (if x5 < (x1.length : Int) then (if 0 ≤ x5 then (spec_l05Common.j1 k x0 x1 x5 ((rd x0 x5) == (rd x1 x5))) else (none)) else (spec_l05Common.j1 k x0 x1 x5 false)) else (spec_l05Common.j1 k x0 x1 x5 false)
def spec_l05Common.j1 : Nat → List Int → List Int → Int → Bool → Option (Int)
 | 0, _, _, _, _ => none
 | k + 1, x0, x1, x5, x26 => if x26 = true then (spec_l05Common.l0 k x0 x1 (wrap64 (x5 + 1))) else (some x5)
end
def spec_l05Common.f (k : Nat) (l0 : List Int) (l1 : List Int) : Option (Int) := spec_l05Common.l0 k l0 l1 0
theorem spec_l05Common.mono_l : ∀ k, (∀ y0 y1 y2, LeO (spec_l05Common.l0 k y0 y1 y2) (spec_l05Common.l0 (k + 1) y0 y1 y2)) ∧ (∀ y0 y1 y2 y3, LeO (spec_l05Common.j1 k y0 y1 y2 y3) (spec_l05Common.j1 (k + 1) y0 y1 y2 y3))
 | 0 => ⟨fun _ _ _ r h => by simp [spec_l05Common.l0] at h, fun _ _ _ _ r h => by simp [spec_l05Common.j1] at h⟩
 | k + 1 => by
  obtain ⟨ih0, ih1⟩ := spec_l05Common.mono_l k
  refine ⟨?_, ?_⟩
  ·intro y0 y1 y2
   unfold spec_l05Common.l0
   repeat' first|(with_reducible first|exact ih0 _ _ _|exact ih1 _ _ _ _|exact LeO.refl _|exact LeO.none _|refine LeO.ite ?_ ?_|refine LeO.bind ?_ (fun _ => ?_))|exact LeO.none _|refine LeO.ite ?_ ?_|refine LeO.bind ?_ (fun _ => ?_)
  ·intro y0 y1 y2 y3
   unfold spec_l05Common.j1
   repeat' first|(with_reducible first|exact ih0 _ _ _|exact ih1 _ _ _ _|exact LeO.refl _|exact LeO.none _|refine LeO.ite ?_ ?_|refine LeO.bind ?_ (fun _ => ?_))|exact LeO.none _|refine LeO.ite ?_ ?_|refine LeO.bind ?_ (fun _ => ?_)
theorem spec_l05Common.mono : ∀ a0 a1 k, LeO (spec_l05Common.f k a0 a1) (spec_l05Common.f (k + 1) a0 a1) := by
 intro a0 a1 k
 obtain ⟨ih0, ih1⟩ := spec_l05Common.mono_l k
 unfold spec_l05Common.f
 repeat' first|(with_reducible first|exact ih0 _ _ _|exact ih1 _ _ _ _|exact LeO.refl _|exact LeO.none _|refine LeO.ite ?_ ?_|refine LeO.bind ?_ (fun _ => ?_))|exact LeO.none _|refine LeO.ite ?_ ?_|refine LeO.bind ?_ (fun _ => ?_)
set_option maxHeartbeats 8000000 in
set_option maxRecDepth 100000 in
theorem spec_l05Common.calls (k : Nat) (A0 : Option Addr) (c0 : Nat) (l0 : List Int) (A1 : Option Addr) (c1 : Nat) (l1 : List Int) (r : Int) (w : World) (hr0 : Kd.C (Kd.int .u8) w A0 l0.length l0) (hc0 : l0.length ≤ c0) (hr1 : Kd.C (Kd.int .u8) w A1 l1.length l1) (hc1 : l1.length ≤ c1) (h : spec_l05Common.f k l0 l1 = some r) :
  Calls Try.prog 49 #[.slice A0 l0.length c0, .slice A1 l1.length c1] w fun e w' => e = .returned (.int .i64 r) ∧ Drawn0 w w' := by
 have HR0:=mk0 hr0
 have HC0:=mk0 hc0
 clear hr0 hc0
 have HR1:=mk0 hr1
 have HC1:=mk0 hc1
 clear hr1 hc1
 have H:(spec_l05Common.l0 k l0 l1 0) = some r:=h
 clear h
 have H':=mk0 H
 clear H
 go_enter Try.func49,Try.ntmps49
 go_wp2
 repeat (go_quiet (fail);try go_wp2)
 go_loopg [5] k (fun kq v5 w'=>∃ (x5_1:Int),v5 = .int .i64 x5_1 ∧ Aside0 (spec_l05Common.l0 kq l0 l1 x5_1 = some r) ∧ Aside0 (kq ≤ k) ∧ Drawn0 w w')
 case atStart=>exact⟨(0),(by first|rfl|(simp;done)|(simp [*];done)),H',⟨Nat.le_refl _⟩,by repeat (first|exact Drawn0.refl _|apply Drawn0.step)⟩
 case round =>
  clear H'
  try clear c1
  try clear p2
  obtain⟨x5_1,rfl,HA,HK1,⟨m1,rfl⟩⟩:=hrel
  cases gk with
  | zero=>exact absurd HA.out (by simp [spec_l05Common.l0])
  | succ k1 =>
   have H:=HA.out
   clear HA
   simp only [spec_l05Common.l0] at H
   have HC3:=mk0 H
   clear H
   go_upto_region 2 with (fail)
   repeat (go_quiet (fail);go_upto_region 2 with (fail))
   go_cut [26] (fun v26 wc=>∃ (kq:Nat) (x26_2:Bool),v26 = .bool x26_2 ∧ Aside0 (spec_l05Common.j1 kq l0 l1 x5_1 x26_2 = some r) ∧ Aside0 (kq ≤ k1) ∧ Drawn0 w wc)
   case first =>
    have H:=HC3.out
    clear HC3
    by_cases c4:x5_1 < (l0.length:Int)
    ·rw [if_pos c4] at H
     have c4b0:decide (x5_1 < (l0.length:Int)) = true:=decide_eq_true c4
     clear c4
     (first|rw [c4b0]|(simp only [i64_w,i32_w];rw [c4b0])|skip)
     by_cases c5:x5_1 < (l1.length:Int)
     ·rw [if_pos c5] at H
      have c5b0:decide (x5_1 < (l1.length:Int)) = true:=decide_eq_true c5
      clear c5
      by_cases c6:0 ≤ x5_1
      ·rw [if_pos c6] at H
       have c6b0:decide (0 ≤ x5_1) = true:=decide_eq_true c6
       clear c6
       have H':=mk0 H
       clear H
       have p144:0 ≤ (x5_1:Int):=of_decide_eq_true (by first|(with_reducible assumption)|assumption)
       have q144:x5_1 < (l0.length:Int):=of_decide_eq_true (by first|(with_reducible assumption)|assumption)
       obtain⟨ad144,e144,hx144_0⟩:=Kd.at_int HR0.out x5_1 p144 q144
       cases e144
       replace p144:=eq_true p144
       replace q144:=eq_true q144
       have p145:0 ≤ (x5_1:Int):=of_decide_eq_true (by first|(with_reducible assumption)|assumption)
       have q145:x5_1 < (l1.length:Int):=of_decide_eq_true (by first|(with_reducible assumption)|assumption)
       obtain⟨ad145,e145,hx145_0⟩:=Kd.at_int HR1.out x5_1 p145 q145
       cases e145
       replace p145:=eq_true p145
       replace q145:=eq_true q145
       go_wp2
       repeat (go_quiet (fail);try go_wp2)
       go_meet
       case rel=>exact⟨_,(((rd l0 x5_1) == (rd l1 x5_1))),(by first|rfl|(simp;done)|(simp [*];done)),H',⟨by have:=HK1.out;first|omega|exact Nat.le_refl _⟩,by repeat (first|exact Drawn0.refl _|apply Drawn0.step)⟩
      ·rw [if_neg c6] at H
       exact absurd H (by simp)
     ·rw [if_neg c5] at H
      have c5b0:decide (x5_1 < (l1.length:Int)) = false:=decide_eq_false c5
      clear c5
      have H':=mk0 H
      clear H
      go_wp2
      repeat (go_quiet (fail);try go_wp2)
      go_meet
      case rel=>exact⟨_,(false),(by first|rfl|(simp;done)|(simp [*];done)),H',⟨by have:=HK1.out;first|omega|exact Nat.le_refl _⟩,by repeat (first|exact Drawn0.refl _|apply Drawn0.step)⟩
    ·rw [if_neg c4] at H
     have c4b0:decide (x5_1 < (l0.length:Int)) = false:=decide_eq_false c4
     clear c4
     (first|rw [c4b0]|(simp only [i64_w,i32_w];rw [c4b0])|skip)
     have H':=mk0 H
     clear H
     go_wp2
     repeat (go_quiet (fail);try go_wp2)
     go_meet
     case rel=>exact⟨_,(false),(by first|rfl|(simp;done)|(simp [*];done)),H',⟨by have:=HK1.out;first|omega|exact Nat.le_refl _⟩,by repeat (first|exact Drawn0.refl _|apply Drawn0.step)⟩
   case rest =>
    clear HC3
    try clear c1
    try clear p1
    try clear q1
    try clear hx1
    try clear p2
    try clear c4
    try clear c4b0
    try clear c5
    try clear c5b0
    try clear c6
    try clear c6b0
    try clear hx144_0
    try clear hx145_0
    try clear p144
    try clear p145
    try clear p2
    try clear q144
    try clear q145
    obtain⟨kq,x26_2,rfl,HA,HJ2,⟨mc2,rfl⟩⟩:=hcut
    cases kq with
    | zero=>exact absurd HA.out (by simp [spec_l05Common.j1])
    | succ kj2 =>
     have H:=HA.out
     clear HA
     simp only [spec_l05Common.j1] at H
     by_cases c7:x26_2 = true
     ·subst c7
      have H1:(spec_l05Common.l0 kj2 l0 l1 (wrap64 (x5_1 + 1))) = some r:=by rw [if_pos rfl] at H;exact H
      clear H
      have H:=H1
      clear H1
      have H':=mk0 H
      clear H
      go_wp2
      repeat (go_quiet (fail);try go_wp2)
      go_roundg kj2
      case measure=>have:=HK1.out;have:=HJ2.out;omega
      case rel=>exact⟨(wrap64 (x5_1 + 1)),(by first|rfl|(simp;done)|(simp [*];done)),H',⟨by have:=HK1.out;have:=HJ2.out;omega⟩,by repeat (first|exact Drawn0.refl _|apply Drawn0.step)⟩
     ·replace c7:=Bool.eq_false_iff.mpr c7
      subst c7
      have H1:(some x5_1) = some r:=by rw [if_neg (show ¬ (false = true) by decide)] at H;exact H
      clear H
      have H:=H1
      clear H1
      obtain rfl:=Option.some.inj H
      go_wp2
      repeat (go_quiet (fail);try go_wp2)
      go_ret
      exact⟨by first|rfl|(simp;done)|(simp [*];done),by repeat (first|exact Drawn0.refl _|apply Drawn0.step)⟩

/-! ### spec_LcpRows: function 38 -/
def spec_LcpRows.l0 : Nat → List Int → List Int → Int → List Int → Option (List Int)
 | 0, _, _, _, _ => none
 | k + 1, x0, x4, x5, x7 => if x5 < (x7.length : Int) then (if x5 = 0 then (if x4.length < 17592186044416 then (spec_LcpRows.l0 k x0 (x4 ++ [0]) (wrap64 (x5 + 1)) x7) else (none)) else (if 0 ≤ (wrap64 (x5 - 1)) then (if (wrap64 (x5 - 1)) < (x7.length : Int) then (if 0 ≤ (rd x7 (wrap64 (x5 - 1))) then (if (rd x7 (wrap64 (x5 - 1))) ≤ (x0.length : Int) then (if 0 ≤ x5 then (if 0 ≤ (rd x7 x5) then (if (rd x7 x5) ≤ (x0.length : Int) then ((spec_l05Common.f k (x0.drop ((rd x7 (wrap64 (x5 - 1))) : Int).toNat) (x0.drop ((rd x7 x5) : Int).toNat)).bind fun t159 => (if x4.length < 17592186044416 then (spec_LcpRows.l0 k x0 (x4 ++ [t159]) (wrap64 (x5 + 1)) x7) else (none))) else (none)) else (none)) else (none)) else (none)) else (none)) else (none)) else (none))) else (some x4)
def spec_LcpRows.f (k : Nat) (l0 : List Int) : Option (List Int) := (spec_SuffixRows.f k l0).bind fun t146 => (spec_LcpRows.l0 k l0 (([] : List Int)) 0 t146)
theorem spec_LcpRows.mono_l : ∀ k, (∀ y0 y1 y2 y3, LeO (spec_LcpRows.l0 k y0 y1 y2 y3) (spec_LcpRows.l0 (k + 1) y0 y1 y2 y3))
 | 0 => fun _ _ _ _ r h => by simp [spec_LcpRows.l0] at h
 | k + 1 => by
  have ih0 := spec_LcpRows.mono_l k
  ·intro y0 y1 y2 y3
   unfold spec_LcpRows.l0
   repeat' first|(with_reducible first|exact ih0 _ _ _ _|exact spec_SuffixRows.mono _ _|exact spec_l05Common.mono _ _ _|exact LeO.refl _|exact LeO.none _|refine LeO.ite ?_ ?_|refine LeO.bind ?_ (fun _ => ?_))|exact LeO.none _|refine LeO.ite ?_ ?_|refine LeO.bind ?_ (fun _ => ?_)
theorem spec_LcpRows.mono : ∀ a0 k, LeO (spec_LcpRows.f k a0) (spec_LcpRows.f (k + 1) a0) := by
 intro a0 k
 have ih0 := spec_LcpRows.mono_l k
 unfold spec_LcpRows.f
 repeat' first|(with_reducible first|exact ih0 _ _ _ _|exact spec_SuffixRows.mono _ _|exact spec_l05Common.mono _ _ _|exact LeO.refl _|exact LeO.none _|refine LeO.ite ?_ ?_|refine LeO.bind ?_ (fun _ => ?_))|exact LeO.none _|refine LeO.ite ?_ ?_|refine LeO.bind ?_ (fun _ => ?_)
def spec_LcpRows.T8 : Bool × List (List Nat × List Nat) := (true, [([], []), ([], []), ([], []), ([], []), ([3], [3]), ([2, 4], [2, 4]), ([5], [5]), ([1, 6], [1, 6]), ([], []), ([], []), ([], []), ([9, 10], [9, 10]), ([11], [11]), ([8, 12], [8, 12]), ([7, 13], [7, 13]), ([14], [14]), ([0, 15, 14], [0, 15]), ([16, 16, 0, 1, 2, 3, 4, 5, 6, 7, 8, 9, 10, 11, 12, 13, 14, 15, 16], [0, 16])])
def spec_LcpRows.B8 : List Nat := [0, 0, 0, 0, 8, 28, 60, 126, 0, 0, 0, 1536, 3584, 7936, 16382, 32766, 65535, 131071]
theorem spec_LcpRows.tab8 : rtab .any (opsOf Try.f38 8) = spec_LcpRows.T8 := by kernel_rfl
theorem spec_LcpRows.bits8 : waitsOk spec_LcpRows.T8.2 spec_LcpRows.B8 = true := by kernel_rfl
abbrev spec_LcpRows.m0 : Array Bool := #[F,F,F,F,F,F,F,F,F,F,F,F,F,F,F,F,F,F]
abbrev spec_LcpRows.m1 : Array Bool := #[T,F,F,F,F,F,F,F,F,F,F,F,F,F,F,F,F,F]
abbrev spec_LcpRows.m2 : Array Bool := #[T,T,F,F,F,F,F,F,F,F,F,F,F,F,F,F,F,F]
abbrev spec_LcpRows.m3 : Array Bool := #[T,T,T,F,F,F,F,F,F,F,F,F,F,F,F,F,F,F]
abbrev spec_LcpRows.m4 : Array Bool := #[T,T,T,T,F,F,F,F,F,F,F,F,F,F,F,F,F,F]
abbrev spec_LcpRows.m5 : Array Bool := #[T,T,T,T,T,F,F,F,F,F,F,F,F,F,F,F,F,F]
abbrev spec_LcpRows.m6 : Array Bool := #[T,T,T,T,T,T,F,F,F,F,F,F,F,F,F,F,F,F]
abbrev spec_LcpRows.m7 : Array Bool := #[T,T,T,T,T,T,F,F,T,F,F,F,F,F,F,F,F,F]
abbrev spec_LcpRows.m8 : Array Bool := #[T,T,T,T,T,T,F,F,T,T,F,F,F,F,F,F,F,F]
abbrev spec_LcpRows.m9 : Array Bool := #[T,T,T,T,T,T,F,F,T,T,T,F,F,F,F,F,F,F]
abbrev spec_LcpRows.m10 : Array Bool := #[T,T,T,T,T,T,F,F,T,T,T,T,F,F,F,F,F,F]
abbrev spec_LcpRows.m11 : Array Bool := #[T,T,T,T,T,T,T,F,T,T,T,T,F,F,F,F,F,F]
abbrev spec_LcpRows.m12 : Array Bool := #[T,T,T,T,T,T,T,T,T,T,T,T,F,F,F,F,F,F]
abbrev spec_LcpRows.m13 : Array Bool := #[T,T,T,T,T,T,T,T,T,T,T,T,T,F,F,F,F,F]
abbrev spec_LcpRows.m14 : Array Bool := #[T,T,T,T,T,T,T,T,T,T,T,T,T,T,F,F,F,F]
abbrev spec_LcpRows.m15 : Array Bool := #[T,T,T,T,T,T,T,T,T,T,T,T,T,T,T,F,F,F]
abbrev spec_LcpRows.m16 : Array Bool := #[T,T,T,T,T,T,T,T,T,T,T,T,T,T,T,T,F,F]
abbrev spec_LcpRows.m17 : Array Bool := #[T,T,T,T,T,T,T,T,T,T,T,T,T,T,T,T,T,F]
abbrev spec_LcpRows.m18 : Array Bool := #[T,T,T,T,T,T,T,T,T,T,T,T,T,T,T,T,T,T]
set_option maxHeartbeats 8000000 in
set_option maxRecDepth 100000 in
theorem spec_LcpRows.calls (k : Nat) (A0 : Option Addr) (c0 : Nat) (l0 : List Int) (r : List Int) (w : World) (hr0 : Kd.C (Kd.int .u8) w A0 l0.length l0) (hc0 : l0.length ≤ c0) (h : spec_LcpRows.f k l0 = some r) :
  Calls Try.prog 38 #[.slice A0 l0.length c0] w fun e w' => ∃ v0_ : Value, e = .returned (v0_) ∧ Kd.R (Kd.int .i64) 3 w' w.heap.size (fun _ => True) v0_ r ∧ Below w.heap.size w w' := by
 have HR0:=mk0 hr0
 have HC0:=mk0 hc0
 clear hr0 hc0
 have HB:=mk0 (Below.refl w.heap.size w)
 have H:((spec_SuffixRows.f k l0).bind fun t146=>(spec_LcpRows.l0 k l0 (([]:List Int)) 0 t146)) = some r:=h
 clear h
 replace H:=Option.bind_eq_some_iff.mp H
 obtain⟨t146,A20,H⟩:=H
 replace H:(spec_LcpRows.l0 k l0 (([]:List Int)) 0 t146) = some r:=H
 have A2:=mk0 A20
 clear A20
 obtain⟨y149,hy149⟩:∃ y_:List Int,y_ = (([]:List Int)):=⟨_,rfl⟩
 replace H:(spec_LcpRows.l0 k l0 y149 0 t146) = some r:=by first|(rw [hy149];with_reducible exact H)|(have H2_:=(Option.bind_some _ _).symm.trans H;rw [hy149];with_reducible exact H2_)|(have H2_:=(Option.bind_some _ _).symm.trans H;with_reducible exact H2_)|with_reducible exact H|(rw [hy149];exact H)|exact H
 have Ny149:=mk0 hy149
 clear hy149
 have H':=mk0 H
 clear H
 go_enter Try.func38,Try.ntmps38
 go_wp2_with (first|((with_reducible refine gate_callee (f:=42) rfl ?_);refine goesL_ (some 7) rfl rfl Try.func42 (by kernel_rfl) rfl #[.slice A0 l0.length c0] rfl (by (try simp only [mA,mC,mN]);first|done|rfl|(simp only [List.length_drop,List.length_take];done)|(simp only [List.length_drop,List.length_take];rfl)) ?_;(with_reducible refine (spec_SuffixRows.calls k _ _ l0 t146 _ ?side1 ?side2 A2.out).mono ?_);(case side1=>repeat (first|exact HR0.out|(with_reducible first|apply aC|apply nC|apply dC)));(case side2=>exact HC0.out);rintro e w3 ⟨v147,rfl,ho0,hb⟩;refine⟨_,rfl,?_⟩;have HO148:=mk0 (Kd.R_lower ho0 (kZ HB.out));replace HB:=mk0 (kS HB.out hb);(try clear hb);(try clear ho0))|((with_reducible refine gate_dst (N:=8) rfl ?_);refine Kd.R_lit (Kd.int .i64) _ 3 ?hg (N:=8) ?hd (xs:=([]:List Int)) (inner:=[]) (ok:=fun _=>True) (okp:=fun _=>True) ?hr ?hp (fun _ hk=>hk) trivial (Below.refl _ _) (Nat.le_refl _) (by simp) ?_;(case hd=>rfl);(case hg=>rfl);(case hr=>first|(go_simp;done)|(go_simp;rfl));(case hp=>exact (Reps.none _ _));intro v150 w4 ho5 hb hg_ hnew_;clear hg_ hnew_;(first|rw [← Ny149.out] at ho5|(simp only [Int.reduceToNat] at ho5;rw [← Ny149.out] at ho5));have HO151:=mk0 (Kd.R_lower (Kd.R_new' ho5 (Kd.R_lt (rR HO148.out))) (kZ HB.out));replace HO148:=mk0 (Kd.R_elder' (rR HO148.out) (Kd.R_base ho5) hb);replace HB:=mk0 (kS HB.out hb);clear hb ho5))
 go_loopg [4,5] k (fun kq v4 v5 w'=>∃ (x4_1:List Int) (x5_1:Int),v5 = .int .i64 x5_1 ∧ Aside0 (spec_LcpRows.l0 kq l0 x4_1 x5_1 t146 = some r) ∧ Aside0 (kq ≤ k) ∧ Aside0 (Kd.R (Kd.int .i64) 3 w' w.heap.size (fun k_=>some k_ ≠ (v147:Value).ownBlock) v4 x4_1) ∧ Aside0 (Kd.R (Kd.int .i64) 3 w' w.heap.size (fun k_=>some k_ ≠ (v4:Value).ownBlock) v147 t146) ∧ Aside0 (Below w.heap.size w w'))
 case atStart=>exact⟨(y149),(0),(by first|rfl|(simp;done)|(simp [*];done)),H',⟨Nat.le_refl _⟩,⟨rR (Kd.R_mono HO151.out (fun _ hk=>hk.2))⟩,⟨rR (Kd.R_mono HO148.out (fun _ hk=>hk.2))⟩,⟨kB HB.out⟩⟩
 case round =>
  clear H'
  try clear p2
  try clear c3
  try clear c4
  obtain⟨x4_1,x5_1,rfl,HA,HK1,HO_4,HO_7,HB⟩:=hrel
  cases gk with
  | zero=>exact absurd HA.out (by simp [spec_LcpRows.l0])
  | succ k1 =>
   have H:=HA.out
   clear HA
   simp only [spec_LcpRows.l0] at H
   by_cases c6:x5_1 < (t146.length:Int)
   rotate_left
   ·rw [if_neg c6] at H
    have c6b0:decide (x5_1 < (t146.length:Int)) = false:=decide_eq_false c6
    clear c6
    obtain rfl:=Option.some.inj H
    obtain⟨Ao26,co26,eo26⟩:=Kd.R_slice HO_7.out
    subst eo26
    go_wp2
    go_ret
    exact⟨_,by first|rfl|(simp [errW_none,errW_some] <;> rfl)|(simp [*,errW_none,errW_some] <;> rfl),rR (Kd.R_mono HO_4.out (fun _ hk=>trivial)),kB HB.out⟩

   rw [if_pos c6] at H
   have c6b0:decide (x5_1 < (t146.length:Int)) = true:=decide_eq_true c6
   clear c6
   by_cases c7:x5_1 = 0
   ·rw [if_pos c7] at H
    have c7b0:(x5_1 == 0) = true:=beq_iff_eq.mpr c7
    have c7b1:(x5_1 != 0) = false:=bne_eq_false_iff_eq.mpr c7
    clear c7
    by_cases c8:x4_1.length < 17592186044416
    rotate_left
    ·rw [if_neg c8] at H
     exact absurd H (by simp)
    rw [if_pos c8] at H
    have LMc8:=mk0 c8
    clear c8
    obtain⟨y152,hy152⟩:∃ y_:List Int,y_ = (x4_1 ++ [0]):=⟨_,rfl⟩
    replace H:(spec_LcpRows.l0 k1 l0 y152 (wrap64 (x5_1 + 1)) t146) = some r:=by first|(rw [hy152];with_reducible exact H)|(have H2_:=(Option.bind_some _ _).symm.trans H;rw [hy152];with_reducible exact H2_)|(have H2_:=(Option.bind_some _ _).symm.trans H;with_reducible exact H2_)|with_reducible exact H|(rw [hy152];exact H)|exact H
    have Ny152:=mk0 hy152
    clear hy152
    have H':=mk0 H
    clear H
    obtain⟨Ao9,co9,eo9⟩:=Kd.R_slice HO_7.out
    subst eo9
    go_wp2_with (first|((with_reducible refine gate_builtin (b:=.append) (xs:=#[.tmp 17,.tmp 18]) rfl ?_);at_builtin;refine Kd.R_append (Kd.int .i64) (w0:=w) w.heap.size rfl (.tmp 17) (.tmp 18) 48 3 (.int .i64 0) 8 rfl Try.underlying48 info3 rfl (by decide) (by omega) u4 x4_1 0 [.int .i64 0] (fun k_=>some k_ ≠ (.slice Ao9 t146.length co9:Value).ownBlock) (fun _=>False) rfl rfl ?aP (fun _ hk=>hk.elim) ?aF ?aO ?aB ?aS ?aL ?_;(case aP=>exact rfl);(case aB=>exact (kB HB.out));(case aF=>exact (fun k_ hk=>Kd.fresh' (Kd.R_lt (rR HO_7.out)) k_ hk));(case aO=>exact (rR HO_4.out));(case aS=>exact (kZ HB.out));(case aL=>have:=LMc8.out;omega);intro v153 w10 ho hb hg hat;rw [← Ny152.out] at ho;replace HO_7:=mk0 (Kd.R_after (ok:=(fun _=>True)) (rR (Kd.R_mono HO_7.out (fun _ hk=>⟨trivial,hk⟩))) hg hat);replace HB:=mk0 (hb);have HO154:=mk0 (ho);clear HO_4 ho hb hg hat))
    go_roundg k1
    case measure=>have:=HK1.out;omega
    case rel=>exact⟨(y152),(wrap64 (x5_1 + 1)),(by first|rfl|(simp;done)|(simp [*];done)),H',⟨by have:=HK1.out;omega⟩,⟨rR HO154.out⟩,⟨rR (Kd.R_mono HO_7.out (fun _ hk=>hk.2))⟩,⟨kB HB.out⟩⟩
   rw [if_neg c7] at H
   have c7b0:(x5_1 == 0) = false:=beq_eq_false_iff_ne.mpr c7
   have c7b1:(x5_1 != 0) = true:=bne_iff_ne.mpr c7
   obtain⟨ji11,hji11⟩:∃ j_:Int,(wrap64 (x5_1 - 1)) = j_:=⟨_,rfl⟩
   replace H:(if 0 ≤ (ji11) then (if (ji11) < (t146.length:Int) then (if 0 ≤ (rd t146 (ji11)) then (if (rd t146 (ji11)) ≤ (l0.length:Int) then (if 0 ≤ x5_1 then (if 0 ≤ (rd t146 x5_1) then (if (rd t146 x5_1) ≤ (l0.length:Int) then ((spec_l05Common.f k1 (l0.drop ((rd t146 (ji11)):Int).toNat) (l0.drop ((rd t146 x5_1):Int).toNat)).bind fun t159=>(if x4_1.length < 17592186044416 then (spec_LcpRows.l0 k1 l0 (x4_1 ++ [t159]) (wrap64 (x5_1 + 1)) t146) else (none))) else (none)) else (none)) else (none)) else (none)) else (none)) else (none)) else (none)) = some r:=by first|(rw [hji11] at H;exact H)|(simp only [hji11] at H ⊢;exact H)
   have hji11w:(IntKind.i64.wrap (x5_1 - 1)) = ji11:=(i64_w _).trans hji11
   by_cases c12:0 ≤ (ji11)
   rotate_left
   ·rw [if_neg c12] at H
    exact absurd H (by simp)
   rw [if_pos c12] at H
   have c12b0:decide (0 ≤ (ji11)) = true:=decide_eq_true c12
   clear c12
   by_cases c13:(ji11) < (t146.length:Int)
   rotate_left
   ·rw [if_neg c13] at H
    exact absurd H (by simp)
   rw [if_pos c13] at H
   have c13b0:decide ((ji11) < (t146.length:Int)) = true:=decide_eq_true c13
   clear c13
   by_cases c14:0 ≤ (rd t146 (ji11))
   rotate_left
   ·rw [if_neg c14] at H
    exact absurd H (by simp)
   rw [if_pos c14] at H
   have c14b0:=eq_true c14
   have c14b1:decide (0 ≤ (rd t146 (ji11))) = true:=decide_eq_true c14
   clear c14
   by_cases c15:(rd t146 (ji11)) ≤ (l0.length:Int)
   rotate_left
   ·rw [if_neg c15] at H
    exact absurd H (by simp)
   rw [if_pos c15] at H
   have c15b0:=eq_true c15
   have c15b1:decide ((rd t146 (ji11)) ≤ (l0.length:Int)) = true:=decide_eq_true c15
   clear c15
   by_cases c16:0 ≤ x5_1
   rotate_left
   ·rw [if_neg c16] at H
    exact absurd H (by simp)
   rw [if_pos c16] at H
   have c16b0:decide (0 ≤ x5_1) = true:=decide_eq_true c16
   clear c16
   by_cases c17:0 ≤ (rd t146 x5_1)
   rotate_left
   ·rw [if_neg c17] at H
    exact absurd H (by simp)
   rw [if_pos c17] at H
   have c17b0:=eq_true c17
   have c17b1:decide (0 ≤ (rd t146 x5_1)) = true:=decide_eq_true c17
   clear c17
   by_cases c18:(rd t146 x5_1) ≤ (l0.length:Int)
   rotate_left
   ·rw [if_neg c18] at H
    exact absurd H (by simp)
   rw [if_pos c18] at H
   have c18b0:=eq_true c18
   have c18b1:decide ((rd t146 x5_1) ≤ (l0.length:Int)) = true:=decide_eq_true c18
   clear c18
   replace H:=Option.bind_eq_some_iff.mp H
   obtain⟨t159,A190,H⟩:=H
   replace H:(if x4_1.length < 17592186044416 then (spec_LcpRows.l0 k1 l0 (x4_1 ++ [t159]) (wrap64 (x5_1 + 1)) t146) else (none)) = some r:=H
   have A19:=mk0 A190
   clear A190
   by_cases c20:x4_1.length < 17592186044416
   rotate_left
   ·rw [if_neg c20] at H
    exact absurd H (by simp)
   rw [if_pos c20] at H
   have LMc20:=mk0 c20
   clear c20
   obtain⟨y160,hy160⟩:∃ y_:List Int,y_ = (x4_1 ++ [t159]):=⟨_,rfl⟩
   replace H:(spec_LcpRows.l0 k1 l0 y160 (wrap64 (x5_1 + 1)) t146) = some r:=by first|(rw [hy160];with_reducible exact H)|(have H2_:=(Option.bind_some _ _).symm.trans H;rw [hy160];with_reducible exact H2_)|(have H2_:=(Option.bind_some _ _).symm.trans H;with_reducible exact H2_)|with_reducible exact H|(rw [hy160];exact H)|exact H
   have Ny160:=mk0 hy160
   clear hy160
   have H':=mk0 H
   clear H
   obtain⟨Ao21,co21,eo21⟩:=Kd.R_slice HO_7.out
   subst eo21
   try go_wp2
   replace HO_4:=mk0 (dR HO_4.out)
   replace HO_7:=mk0 (dR HO_7.out)
   replace HB:=mk0 (dZ HB.out)
   have p155:0 ≤ ((ji11):Int):=of_decide_eq_true (by first|(with_reducible assumption)|assumption)
   have q155:(ji11) < (t146.length:Int):=of_decide_eq_true (by first|(with_reducible assumption)|assumption)
   obtain⟨ad155,e155,hx155_0⟩:=Kd.at_int (Kd.R_reads' HO_7.out).2.2 (ji11) p155 q155
   cases e155
   replace p155:=eq_true p155
   replace q155:=eq_true q155
   obtain⟨i023,hi023,_,hsz23,_⟩:=info_parts info5
   obtain⟨A23,hcut23,hA23,hC23⟩:=print_drop_of (P:=Try.prog) (Value.int .u8) 0 22 5 .i64 Try.underlying22 hi023 hsz23 A0 c0 l0 (rd t146 (ji11)) (of_decide_eq_true (by first|(with_reducible assumption)|assumption)) (of_decide_eq_true (by first|(with_reducible assumption)|assumption)) HC0.out
   have HR156:=mk0 (Kd.C_of_reads (h1:=fun _=>rfl) (hA23 _ (Kd.reads_of_C HR0.out)))
   have HC156:=mk0 hC23
   clear hA23 hC23 hi023 hsz23
   have p157:0 ≤ (x5_1:Int):=of_decide_eq_true (by first|(with_reducible assumption)|assumption)
   have q157:x5_1 < (t146.length:Int):=of_decide_eq_true (by first|(with_reducible assumption)|assumption)
   obtain⟨ad157,e157,hx157_0⟩:=Kd.at_int (Kd.R_reads' HO_7.out).2.2 x5_1 p157 q157
   obtain rfl:ad155 = ad157:=(by injection e157)
   replace p157:=eq_true p157
   replace q157:=eq_true q157
   obtain⟨i024,hi024,_,hsz24,_⟩:=info_parts info5
   obtain⟨A24,hcut24,hA24,hC24⟩:=print_drop_of (P:=Try.prog) (Value.int .u8) 0 22 5 .i64 Try.underlying22 hi024 hsz24 A0 c0 l0 (rd t146 x5_1) (of_decide_eq_true (by first|(with_reducible assumption)|assumption)) (of_decide_eq_true (by first|(with_reducible assumption)|assumption)) HC0.out
   have HR158:=mk0 (Kd.C_of_reads (h1:=fun _=>rfl) (hA24 _ (Kd.reads_of_C HR0.out)))
   have HC158:=mk0 hC24
   clear hA24 hC24 hi024 hsz24
   refine start_ (n:=18) (S:=fun w'=>w'.cell? (ad155.add ((ji11)).toNat) = some (.int .i64 (rd t146 (ji11))) ∧ w'.cell? (ad155.add (x5_1).toNat) = some (.int .i64 (rd t146 x5_1))) (ds:=[15,16]) spec_LcpRows.m0 (by kernel_rfl) rfl rfl ⟨hx155_0,hx157_0⟩ (fun hHeld=>?_);refine with_tabW spec_LcpRows.tab8 spec_LcpRows.bits8 (fun HT_ HW_=>?_)
   generalize wr.drew = w22 at HO_4 HO_7 HB HR156 HR158 hx155_0 hx157_0 hHeld ⊢
   refine pure_ (i:=0) (N:=some 20) (v:=?_) (a':=?_) spec_LcpRows.m1 rfl rfl (any_of HT_.out (by kernel_rfl)) (fun _ _ _ h=>h) (Or.inl ⟨by rfl,?_⟩) ?_ ?_
   rotate_left
   ·intro w'
    go_simp
    with_reducible rfl
   rotate_left
   ·simp only [Act.put,sA,sO,sS,i64_w,i32_w]
    rfl
   refine pure_ (i:=1) (N:=some 21) (v:=?_) (a':=?_) spec_LcpRows.m2 rfl rfl (any_of HT_.out (by kernel_rfl)) (fun _ _ _ h=>h) (Or.inl ⟨by rfl,?_⟩) ?_ ?_
   rotate_left
   ·intro w'
    go_simp
    with_reducible rfl
   rotate_left
   ·simp only [Act.put,sA,sO,sS,i64_w,i32_w]
    rfl
   refine pure_ (i:=2) (N:=some 22) (v:=?_) (a':=?_) spec_LcpRows.m3 rfl rfl (any_of HT_.out (by kernel_rfl)) (fun _ _ _ h=>h) (Or.inl ⟨by rfl,?_⟩) ?_ ?_
   rotate_left
   ·intro w'
    go_simp
    with_reducible rfl
   rotate_left
   ·simp only [Act.put,sA,sO,sS,i64_w,i32_w]
    rfl
   refine pure_ (i:=3) (N:=some 23) (v:=?_) (a':=?_) spec_LcpRows.m4 rfl rfl (any_of HT_.out (by kernel_rfl)) (fun _ _ _ h=>h) (Or.inl ⟨by rfl,?_⟩) ?_ ?_
   rotate_left
   ·intro w'
    go_simp
    with_reducible rfl
   rotate_left
   ·simp only [Act.put,sA,sO,sS,i64_w,i32_w]
    rfl
   refine pure_ (i:=4) (N:=some 24) (v:=?_) (a':=?_) spec_LcpRows.m5 rfl rfl (any_of HT_.out (by kernel_rfl)) (fun _ _ _ h=>h) (Or.inl ⟨by rfl,?_⟩) ?_ ?_
   rotate_left
   ·intro w'
    go_simp
    with_reducible rfl
   rotate_left
   ·simp only [Act.put,sA,sO,sS,i64_w,i32_w]
    rfl
   refine pure_ (i:=5) (N:=some 25) (v:=?_) (a':=?_) spec_LcpRows.m6 rfl rfl (any_of HT_.out (by kernel_rfl)) (fun _ _ _ h=>h) (Or.inl ⟨by rfl,?_⟩) ?_ ?_
   rotate_left
   ·intro w'
    go_simp
    with_reducible rfl
   rotate_left
   ·simp only [Act.put,sA,sO,sS,i64_w,i32_w]
    rfl
   refine pure_ (i:=8) (N:=some 28) (v:=?_) (a':=?_) spec_LcpRows.m7 rfl rfl (any_of HT_.out (by kernel_rfl)) (fun _ _ _ h=>h) (Or.inl ⟨by rfl,?_⟩) ?_ ?_
   rotate_left
   ·intro w'
    go_simp
    with_reducible rfl
   rotate_left
   ·simp only [Act.put,sA,sO,sS,i64_w,i32_w]
    rfl
   refine pure_ (i:=9) (N:=some 29) (v:=?_) (a':=?_) spec_LcpRows.m8 rfl rfl (any_of HT_.out (by kernel_rfl)) (fun _ _ _ h=>h) (Or.inl ⟨by rfl,?_⟩) ?_ ?_
   rotate_left
   ·intro w'
    go_simp
    with_reducible rfl
   rotate_left
   ·simp only [Act.put,sA,sO,sS,i64_w,i32_w]
    rfl
   refine pure_ (i:=10) (N:=some 30) (v:=?_) (a':=?_) spec_LcpRows.m9 rfl rfl (any_of HT_.out (by kernel_rfl)) (fun _ _ _ h=>h) (Or.inl ⟨by rfl,?_⟩) ?_ ?_
   rotate_left
   ·intro w'
    go_simp
    with_reducible rfl
   rotate_left
   ·simp only [Act.put,sA,sO,sS,i64_w,i32_w]
    rfl
   refine pure_ (i:=11) (N:=some 31) (v:=?_) (a':=?_) spec_LcpRows.m10 rfl rfl (any_of HT_.out (by kernel_rfl)) (fun _ _ _ h=>h) (Or.inl ⟨by rfl,?_⟩) ?_ ?_
   rotate_left
   ·intro w'
    go_simp
    with_reducible rfl
   rotate_left
   ·simp only [Act.put,sA,sO,sS,i64_w,i32_w]
    rfl
   refine take_ (i:=6) (N:=some 26) (v:=?_) (a':=?_) spec_LcpRows.m11 rfl rfl (take_ofW HT_.out HW_.out (by kernel_rfl)) (fun _ _ _ h=>h) (Or.inl ⟨by rfl,?_⟩) hHeld ?_ ?_
   rotate_left
   ·rintro w' ⟨s0,s1⟩
    go_simp
    with_reducible rfl
   rotate_left
   ·simp only [Act.put,sA,sO,sS,i64_w,i32_w]
    rfl
   refine pure_ (i:=7) (N:=some 27) (v:=?_) (a':=?_) spec_LcpRows.m12 rfl rfl (any_of HT_.out (by kernel_rfl)) (fun _ _ _ h=>h) (Or.inl ⟨by rfl,?_⟩) ?_ ?_
   rotate_left
   ·intro w'
    go_simp
    with_reducible rfl
   rotate_left
   ·simp only [Act.put,sA,sO,sS,i64_w,i32_w]
    rfl
   refine take_ (i:=12) (N:=some 32) (v:=?_) (a':=?_) spec_LcpRows.m13 rfl rfl (take_ofW HT_.out HW_.out (by kernel_rfl)) (fun _ _ _ h=>h) (Or.inl ⟨by rfl,?_⟩) hHeld ?_ ?_
   rotate_left
   ·rintro w' ⟨s0,s1⟩
    go_simp
    with_reducible rfl
   rotate_left
   ·simp only [Act.put,sA,sO,sS,i64_w,i32_w]
    rfl
   refine pure_ (i:=13) (N:=some 33) (v:=?_) (a':=?_) spec_LcpRows.m14 rfl rfl (any_of HT_.out (by kernel_rfl)) (fun _ _ _ h=>h) (Or.inl ⟨by rfl,?_⟩) ?_ ?_
   rotate_left
   ·intro w'
    go_simp
    with_reducible rfl
   rotate_left
   ·simp only [Act.put,sA,sO,sS,i64_w,i32_w]
    rfl
   refine one_ (i:=14) (N:=some 34) spec_LcpRows.m15 rfl rfl (one_of HT_.out (by kernel_rfl)) (by decide) (fun K hK=>?_)
   refine goes_ Try.func49 (by kernel_rfl) rfl #[.slice A23 (l0.drop ((rd t146 (ji11)):Int).toNat).length (c0 - (rd t146 (ji11)).toNat),.slice A24 (l0.drop ((rd t146 x5_1):Int).toNat).length (c0 - (rd t146 x5_1).toNat)] (by rfl) rfl rfl (by (try simp only [mA,mC,mN]);first|done|(rw [show (l0.drop ((rd t146 (ji11)):Int).toNat).length = (l0.length - (rd t146 (ji11)).toNat) from List.length_drop] <;> rfl)|(rw [show (l0.drop ((rd t146 x5_1):Int).toNat).length = (l0.length - (rd t146 x5_1).toNat) from List.length_drop] <;> rfl)|(simp only [hji11];rfl)|rfl|(simp only [List.length_drop,List.length_take];done)|(simp only [List.length_drop,List.length_take];rfl)) ?_
   with_reducible refine (spec_l05Common.calls k1 _ _ (l0.drop ((rd t146 (ji11)):Int).toNat) _ _ (l0.drop ((rd t146 x5_1):Int).toNat) t159 _ ?side1 ?side2 ?side3 ?side4 A19.out).mono ?_
   (case side1=>exact kC (Kd.C_below HR156.out HB.out))
   (case side2=>exact HC156.out)
   (case side3=>exact kC (Kd.C_below HR158.out HB.out))
   (case side4=>exact HC158.out)
   rintro e w' ⟨rfl,⟨nd,rfl⟩⟩
   refine⟨_,rfl,?_⟩
   refine hK.out _ _ ⟨hHeld.1,hHeld.2⟩ (fun hHeld=>?_)
   clear hK K
   refine norm_ (a':=?_) ?_ ?_
   rotate_left
   ·show Act.put _ (some 34) _ = _
    simp only [Act.put,sA,sO,sS,i64_w,i32_w]
    rfl
   refine last_ (i:=15) (N:=some 35) spec_LcpRows.m16 rfl rfl (one_of HT_.out (by kernel_rfl)) (by decide) (fun K hK=>?_)
   refine value_ (w1:=?_) (v:=?_) (by rfl) rfl ?_ ?_
   rotate_left 2
   ·go_simp
    constructor
    ·rfl
    ·rfl
   refine hK.out _ _ ?_
   clear hK K
   refine norm_ (a':=?_) ?_ ?_
   rotate_left
   ·show Act.put _ (some 35) _ = _
    simp only [Act.put,sA,sO,sS,i64_w,i32_w]
    rfl
   refine last_ (i:=16) (N:=some 36) spec_LcpRows.m17 rfl rfl (one_of HT_.out (by kernel_rfl)) (by decide) (fun K hK=>?_)
   refine Kd.R_append_step (Kd.int .i64) (w0:=w) w.heap.size (by rfl) (.tmp 20) (.tmp 35) 48 3 (.int .i64 0) 8 rfl Try.underlying48 info3 rfl (by decide) (by omega) u4 x4_1 t159 [.int .i64 t159] (fun k_=>some k_ ≠ (.slice (some ad155) t146.length co21:Value).ownBlock) (fun _=>False) rfl rfl ?aP (fun _ hk=>hk.elim) ?aF ?aO ?aB ?aS ?aL ?_
   (case aP=>exact rfl)
   (case aB=>exact (kB HB.out))
   (case aF=>exact (fun k_ hk=>Kd.fresh' (Kd.R_lt (rR HO_7.out)) k_ hk))
   (case aO=>exact (rR HO_4.out))
   (case aS=>exact (kZ HB.out))
   (case aL=>have:=LMc20.out;omega)
   intro v161 w25 ho hb hg hat
   rw [← Ny160.out] at ho
   replace HO_7:=mk0 (Kd.R_after (ok:=(fun _=>True)) (rR (Kd.R_mono HO_7.out (fun _ hk=>⟨trivial,hk⟩))) hg hat)
   replace HB:=mk0 (hb)
   have HO162:=mk0 (ho)
   clear HO_4
   clear ho hb hg hat
   refine hK.out _ _ ?_
   clear hK K
   refine norm_ (a':=?_) ?_ ?_
   rotate_left
   ·show Act.put _ (some 36) _ = _
    simp only [Act.put,sA,sO,sS,i64_w,i32_w]
    rfl
   refine pure_ (i:=17) (N:=some 4) (v:=?_) (a':=?_) spec_LcpRows.m18 rfl rfl (any_of HT_.out (by kernel_rfl)) (fun _ _ _ h=>h) (Or.inl ⟨by rfl,?_⟩) ?_ ?_
   rotate_left
   ·intro w'
    go_simp
    with_reducible rfl
   rotate_left
   ·simp only [Act.put,sA,sO,sS,i64_w,i32_w]
    rfl
   refine done_ (done_of HT_.out (by kernel_rfl)) ?_
   try go_wp2
   go_roundg k1
   case measure=>have:=HK1.out;omega
   case rel=>exact⟨(y160),(wrap64 (x5_1 + 1)),(by first|rfl|(simp;done)|(simp [*];done)),H',⟨by have:=HK1.out;omega⟩,⟨rR HO162.out⟩,⟨rR (Kd.R_mono HO_7.out (fun _ hk=>hk.2))⟩,⟨kB HB.out⟩⟩
end Go.Proofs.Ytoinagnieobbpaa.QFnExactStretchAll
