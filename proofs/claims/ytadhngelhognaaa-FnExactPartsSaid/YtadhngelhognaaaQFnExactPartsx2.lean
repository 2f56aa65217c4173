-- A walk, made by walk.py, a program of this session's.
import Derived.Test.YtadhngelhognaaaQFnExactPartsx0
import Derived.Test.YtadhngelhognaaaQFnExactPartsx1
namespace Go.Proofs.Ytadhngelhognaaa.QFnExactParts
open Go.RowKit Go.Proofs.YtadhngelhognaaaW.PrintWords Go.Proofs.YtadhngelhognaaaW.PrintLast Go.Proofs.YtadhngelhognaaaW.PrintMore
attribute [local go_sem] max2_int min2_int max_two min_two max_three min_three max_four min_four   -- for this text's walks alone
set_option linter.unusedVariables false
set_option linter.unusedSimpArgs false

/-! ### spec_SuffixRows: function 30 -/
mutual
def spec_SuffixRows.l0 : Nat → List Int → List Int → Int → Option (List Int)
 | 0, _, _, _ => none
 | k + 1, x0, x3, x4 => if x4 ≥ 0 then (spec_SuffixRows.l1 k x0 x3 x4 0 (x3.length : Int)) else (some x3)
def spec_SuffixRows.l1 : Nat → List Int → List Int → Int → Int → Int → Option (List Int)
 | 0, _, _, _, _, _ => none
 | k + 1, x0, x3, x4, x5, x6 => if x5 < x6 then (if 0 ≤ (wrap64 (Int.tdiv (wrap64 (x5 + x6)) 2)) then (if (wrap64 (Int.tdiv (wrap64 (x5 + x6)) 2)) < (x3.length : Int) then (if 0 ≤ (rd x3 (wrap64 (Int.tdiv (wrap64 (x5 + x6)) 2))) then (if (rd x3 (wrap64 (Int.tdiv (wrap64 (x5 + x6)) 2))) ≤ (x0.length : Int) then (if 0 ≤ x4 then (if x4 ≤ (x0.length : Int) then ((spec_l05Cmp.f k (x0.drop ((rd x3 (wrap64 (Int.tdiv (wrap64 (x5 + x6)) 2))) : Int).toNat) (x0.drop (x4 : Int).toNat)).bind fun t145 => (if t145 < 0 then (spec_SuffixRows.l1 k x0 x3 x4 (wrap64 ((wrap64 (Int.tdiv (wrap64 (x5 + x6)) 2)) + 1)) x6) else (spec_SuffixRows.l1 k x0 x3 x4 x5 (wrap64 (Int.tdiv (wrap64 (x5 + x6)) 2))))) else (none)) else (none)) else (none)) else (none)) else (none)) else (none)) else ((some (([x4] : List Int) : List Int)).bind fun y119 => (if 0 ≤ x5 then (if x5 ≤ (x3.length : Int) then ((some (x3.drop (x5 : Int).toNat : List Int)).bind fun y122 => (if y119.length + y122.length < 17592186044416 then ((some (y119 ++ y122 : List Int)).bind fun y126 => ((some (([] : List Int) : List Int)).bind fun y129 => ((some (x3.take (x5 : Int).toNat : List Int)).bind fun y132 => (if y129.length + y132.length < 17592186044416 then ((some (y129 ++ y132 : List Int)).bind fun y136 => (if y136.length + y126.length < 17592186044416 then (spec_SuffixRows.l0 k x0 (y136 ++ y126) (wrap64 (x4 - 1))) else (none))) else (none))))) else (none))) else (none)) else (none)))
end
def spec_SuffixRows.f (k : Nat) (l0 : List Int) : Option (List Int) := (spec_TextOk.f l0).bind fun t115 => (if t115 = true then (spec_SuffixRows.l0 k l0 (([] : List Int)) (l0.length : Int)) else (some ([] : List Int)))
theorem spec_SuffixRows.mono_l : ∀ k, (∀ y0 y1 y2, LeO (spec_SuffixRows.l0 k y0 y1 y2) (spec_SuffixRows.l0 (k + 1) y0 y1 y2)) ∧ (∀ y0 y1 y2 y3 y4, LeO (spec_SuffixRows.l1 k y0 y1 y2 y3 y4) (spec_SuffixRows.l1 (k + 1) y0 y1 y2 y3 y4))
 | 0 => ⟨fun _ _ _ r h => by simp [spec_SuffixRows.l0] at h, fun _ _ _ _ _ r h => by simp [spec_SuffixRows.l1] at h⟩
 | k + 1 => by
  obtain ⟨ih0, ih1⟩ := spec_SuffixRows.mono_l k
  refine ⟨?_, ?_⟩
  ·intro y0 y1 y2
   unfold spec_SuffixRows.l0
   repeat' first|(with_reducible first|exact ih0 _ _ _|exact ih1 _ _ _ _ _|exact spec_l05Cmp.mono _ _ _|exact LeO.refl _|exact LeO.none _|refine LeO.ite ?_ ?_|refine LeO.bind ?_ (fun _ => ?_))|exact LeO.none _|refine LeO.ite ?_ ?_|refine LeO.bind ?_ (fun _ => ?_)
  ·intro y0 y1 y2 y3 y4
   unfold spec_SuffixRows.l1
   repeat' first|(with_reducible first|exact ih0 _ _ _|exact ih1 _ _ _ _ _|exact spec_l05Cmp.mono _ _ _|exact LeO.refl _|exact LeO.none _|refine LeO.ite ?_ ?_|refine LeO.bind ?_ (fun _ => ?_))|exact LeO.none _|refine LeO.ite ?_ ?_|refine LeO.bind ?_ (fun _ => ?_)
theorem spec_SuffixRows.mono : ∀ a0 k, LeO (spec_SuffixRows.f k a0) (spec_SuffixRows.f (k + 1) a0) := by
 intro a0 k
 obtain ⟨ih0, ih1⟩ := spec_SuffixRows.mono_l k
 unfold spec_SuffixRows.f
 repeat' first|(with_reducible first|exact ih0 _ _ _|exact ih1 _ _ _ _ _|exact spec_l05Cmp.mono _ _ _|exact LeO.refl _|exact LeO.none _|refine LeO.ite ?_ ?_|refine LeO.bind ?_ (fun _ => ?_))|exact LeO.none _|refine LeO.ite ?_ ?_|refine LeO.bind ?_ (fun _ => ?_)
set_option maxHeartbeats 8000000 in
set_option maxRecDepth 100000 in
theorem spec_SuffixRows.calls (k : Nat) (A0 : Option Addr) (c0 : Nat) (l0 : List Int) (r : List Int) (w : World) (hr0 : Kd.C (Kd.int .u8) w A0 l0.length l0) (hc0 : l0.length ≤ c0) (h : spec_SuffixRows.f k l0 = some r) :
  Calls Try.prog 30 #[.slice A0 l0.length c0] w fun e w' => ∃ v0_ : Value, e = .returned (v0_) ∧ Kd.R (Kd.int .i64) 3 w' w.heap.size (fun _ => True) v0_ r ∧ Below w.heap.size w w' := by
 have HR0:=mk0 hr0
 have HC0:=mk0 hc0
 clear hr0 hc0
 have HB:=mk0 (Below.refl w.heap.size w)
 have H:((spec_TextOk.f l0).bind fun t115=>(if t115 = true then (spec_SuffixRows.l0 k l0 (([]:List Int)) (l0.length:Int)) else (some ([]:List Int)))) = some r:=h
 clear h
 replace H:=Option.bind_eq_some_iff.mp H
 obtain⟨t115,A20,H⟩:=H
 replace H:(if t115 = true then (spec_SuffixRows.l0 k l0 (([]:List Int)) (l0.length:Int)) else (some ([]:List Int))) = some r:=H
 have A2:=mk0 A20
 clear A20
 by_cases c3:t115 = true
 rotate_left
 ·replace c3:=Bool.eq_false_iff.mpr c3
  subst c3
  have H1:(some ([]:List Int)) = some r:=by rw [if_neg (show ¬ (false = true) by decide)] at H;exact H
  clear H
  have H:=H1
  clear H1
  obtain rfl:=Option.some.inj H
  go_enter Try.func30,Try.ntmps30
  go_wp2_with (first|(go_at_call 48;(with_reducible refine (spec_TextOk.calls _ _ l0 false _ ?side1 ?side2 A2.out).mono ?_);(case side1=>repeat (first|exact HR0.out|(with_reducible first|apply aC|apply nC|apply dC)));(case side2=>exact HC0.out);rintro e w' ⟨rfl,⟨nd,rfl⟩⟩;(try first|exact⟨rfl,_,World.drewN_drewN _ _ _⟩|exact⟨rfl,_,Eq.trans (World.drewN_drewN _ _ _) (congrArg (World.drewN _) (Nat.add_assoc _ _ _))⟩)))
  repeat (go_quiet (first|(go_at_call 48;(with_reducible refine (spec_TextOk.calls _ _ l0 false _ ?side1 ?side2 A2.out).mono ?_);(case side1=>repeat (first|exact HR0.out|(with_reducible first|apply aC|apply nC|apply dC)));(case side2=>exact HC0.out);rintro e w' ⟨rfl,⟨nd,rfl⟩⟩;(try first|exact⟨rfl,_,World.drewN_drewN _ _ _⟩|exact⟨rfl,_,Eq.trans (World.drewN_drewN _ _ _) (congrArg (World.drewN _) (Nat.add_assoc _ _ _))⟩)));try go_wp2_with (first|(go_at_call 48;(with_reducible refine (spec_TextOk.calls _ _ l0 false _ ?side1 ?side2 A2.out).mono ?_);(case side1=>repeat (first|exact HR0.out|(with_reducible first|apply aC|apply nC|apply dC)));(case side2=>exact HC0.out);rintro e w' ⟨rfl,⟨nd,rfl⟩⟩;(try first|exact⟨rfl,_,World.drewN_drewN _ _ _⟩|exact⟨rfl,_,Eq.trans (World.drewN_drewN _ _ _) (congrArg (World.drewN _) (Nat.add_assoc _ _ _))⟩))))
  go_ret
  exact⟨_,by first|rfl|(simp [errW_none,errW_some] <;> rfl)|(simp [*,errW_none,errW_some] <;> rfl),by first|exact Kd.R_nil _ _ _ _ _|exact Kd.N_nil _ _ _ _ _|exact Kd.V_nil _ _ _ _ _|exact Kd.Q_nil _ _ _ _ _|exact Kd.S_nil _ _ _ _ _,kB HB.out⟩

 subst c3
 have H1:(spec_SuffixRows.l0 k l0 (([]:List Int)) (l0.length:Int)) = some r:=by rw [if_pos rfl] at H;exact H
 clear H
 have H:=H1
 clear H1
 obtain⟨y116,hy116⟩:∃ y_:List Int,y_ = (([]:List Int)):=⟨_,rfl⟩
 replace H:(spec_SuffixRows.l0 k l0 y116 (l0.length:Int)) = some r:=by first|(rw [hy116];with_reducible exact H)|(have H2_:=(Option.bind_some _ _).symm.trans H;rw [hy116];with_reducible exact H2_)|(have H2_:=(Option.bind_some _ _).symm.trans H;with_reducible exact H2_)|with_reducible exact H|(rw [hy116];exact H)|exact H
 have Ny116:=mk0 hy116
 clear hy116
 have H':=mk0 H
 clear H
 go_enter Try.func30,Try.ntmps30
 go_wp2_with (first|(go_at_call 48;(with_reducible refine (spec_TextOk.calls _ _ l0 true _ ?side1 ?side2 A2.out).mono ?_);(case side1=>repeat (first|exact HR0.out|(with_reducible first|apply aC|apply nC|apply dC)));(case side2=>exact HC0.out);rintro e w' ⟨rfl,⟨nd,rfl⟩⟩;(try first|exact⟨rfl,_,World.drewN_drewN _ _ _⟩|exact⟨rfl,_,Eq.trans (World.drewN_drewN _ _ _) (congrArg (World.drewN _) (Nat.add_assoc _ _ _))⟩))|((with_reducible refine gate_dst (N:=12) rfl ?_);refine Kd.R_lit (Kd.int .i64) _ 3 ?hg (N:=12) ?hd (xs:=([]:List Int)) (inner:=[]) (ok:=fun _=>True) (okp:=fun _=>True) ?hr ?hp (fun _ hk=>hk) trivial (Below.refl _ _) (Nat.le_refl _) (by simp) ?_;(case hd=>rfl);(case hg=>rfl);(case hr=>first|(go_simp;done)|(go_simp;rfl));(case hp=>exact (Reps.none _ _));intro v117 w4 ho5 hb hg_ hnew_;clear hg_ hnew_;(first|rw [← Ny116.out] at ho5|(simp only [Int.reduceToNat] at ho5;rw [← Ny116.out] at ho5));have HO118:=mk0 (Kd.R_lower ho5 (kZ HB.out));replace HB:=mk0 (kS HB.out hb);clear hb ho5))
 repeat (go_quiet (first|(go_at_call 48;(with_reducible refine (spec_TextOk.calls _ _ l0 true _ ?side1 ?side2 A2.out).mono ?_);(case side1=>repeat (first|exact HR0.out|(with_reducible first|apply aC|apply nC|apply dC)));(case side2=>exact HC0.out);rintro e w' ⟨rfl,⟨nd,rfl⟩⟩;(try first|exact⟨rfl,_,World.drewN_drewN _ _ _⟩|exact⟨rfl,_,Eq.trans (World.drewN_drewN _ _ _) (congrArg (World.drewN _) (Nat.add_assoc _ _ _))⟩))|((with_reducible refine gate_dst (N:=12) rfl ?_);refine Kd.R_lit (Kd.int .i64) _ 3 ?hg (N:=12) ?hd (xs:=([]:List Int)) (inner:=[]) (ok:=fun _=>True) (okp:=fun _=>True) ?hr ?hp (fun _ hk=>hk) trivial (Below.refl _ _) (Nat.le_refl _) (by simp) ?_;(case hd=>rfl);(case hg=>rfl);(case hr=>first|(go_simp;done)|(go_simp;rfl));(case hp=>exact (Reps.none _ _));intro v117 w4 ho5 hb hg_ hnew_;clear hg_ hnew_;(first|rw [← Ny116.out] at ho5|(simp only [Int.reduceToNat] at ho5;rw [← Ny116.out] at ho5));have HO118:=mk0 (Kd.R_lower ho5 (kZ HB.out));replace HB:=mk0 (kS HB.out hb);clear hb ho5));try go_wp2_with (first|(go_at_call 48;(with_reducible refine (spec_TextOk.calls _ _ l0 true _ ?side1 ?side2 A2.out).mono ?_);(case side1=>repeat (first|exact HR0.out|(with_reducible first|apply aC|apply nC|apply dC)));(case side2=>exact HC0.out);rintro e w' ⟨rfl,⟨nd,rfl⟩⟩;(try first|exact⟨rfl,_,World.drewN_drewN _ _ _⟩|exact⟨rfl,_,Eq.trans (World.drewN_drewN _ _ _) (congrArg (World.drewN _) (Nat.add_assoc _ _ _))⟩))|((with_reducible refine gate_dst (N:=12) rfl ?_);refine Kd.R_lit (Kd.int .i64) _ 3 ?hg (N:=12) ?hd (xs:=([]:List Int)) (inner:=[]) (ok:=fun _=>True) (okp:=fun _=>True) ?hr ?hp (fun _ hk=>hk) trivial (Below.refl _ _) (Nat.le_refl _) (by simp) ?_;(case hd=>rfl);(case hg=>rfl);(case hr=>first|(go_simp;done)|(go_simp;rfl));(case hp=>exact (Reps.none _ _));intro v117 w4 ho5 hb hg_ hnew_;clear hg_ hnew_;(first|rw [← Ny116.out] at ho5|(simp only [Int.reduceToNat] at ho5;rw [← Ny116.out] at ho5));have HO118:=mk0 (Kd.R_lower ho5 (kZ HB.out));replace HB:=mk0 (kS HB.out hb);clear hb ho5)))
 go_loopg [3,4] k (fun kq v3 v4 w'=>∃ (x3_1:List Int) (x4_1:Int),v4 = .int .i64 x4_1 ∧ Aside0 (spec_SuffixRows.l0 kq l0 x3_1 x4_1 = some r) ∧ Aside0 (kq ≤ k) ∧ Aside0 (Kd.R (Kd.int .i64) 3 w' w.heap.size (fun _=>True) v3 x3_1) ∧ Aside0 (Below w.heap.size w w'))
 case atStart=>exact⟨(y116),((l0.length:Int)),(by first|rfl|(simp;done)|(simp [*];done)),H',⟨Nat.le_refl _⟩,⟨rR HO118.out⟩,⟨kB HB.out⟩⟩
 case round =>
  clear H'
  try clear p2
  try clear c3
  obtain⟨x3_1,x4_1,rfl,HA,HK1,HO_3,HB⟩:=hrel
  cases gk with
  | zero=>exact absurd HA.out (by simp [spec_SuffixRows.l0])
  | succ k1 =>
   have H:=HA.out
   clear HA
   simp only [spec_SuffixRows.l0] at H
   by_cases c6:x4_1 ≥ 0
   rotate_left
   ·rw [if_neg c6] at H
    have c6b0:decide (0 ≤ x4_1) = false:=decide_eq_false c6
    clear c6
    obtain rfl:=Option.some.inj H
    go_wp2
    repeat (go_quiet (fail);try go_wp2)
    go_ret
    exact⟨_,by first|rfl|(simp [errW_none,errW_some] <;> rfl)|(simp [*,errW_none,errW_some] <;> rfl),rR HO_3.out,kB HB.out⟩
   rw [if_pos c6] at H
   have c6b0:decide (0 ≤ x4_1) = true:=decide_eq_true c6
   clear c6
   have H':=mk0 H
   clear H
   obtain⟨Ao7,co7,eo7⟩:=Kd.R_slice HO_3.out
   subst eo7
   go_wp2
   repeat (go_quiet (fail);try go_wp2)
   go_loopg [5,6] k1 (fun kq v5 v6 w'=>∃ (x5_2:Int) (x6_2:Int),v5 = .int .i64 x5_2 ∧ v6 = .int .i64 x6_2 ∧ Aside0 (spec_SuffixRows.l1 kq l0 x3_1 x4_1 x5_2 x6_2 = some r) ∧ Aside0 (kq ≤ k1) ∧ Aside0 (Kd.R (Kd.int .i64) 3 w' w.heap.size (fun _=>True) (.slice Ao7 x3_1.length co7) x3_1) ∧ Aside0 (Below w.heap.size w w'))
   case atStart=>exact⟨(0),((x3_1.length:Int)),(by first|rfl|(simp;done)|(simp [*];done)),(by first|rfl|(simp;done)|(simp [*];done)),H',⟨Nat.le_refl _⟩,⟨rR HO_3.out⟩,⟨kB HB.out⟩⟩
   case round =>
    clear H'
    try clear p2
    try clear c3
    try clear c6
    try clear c6b0
    try clear p2
    obtain⟨x5_2,x6_2,rfl,rfl,HA,HK2,HO_3,HB⟩:=hrel
    cases gk with
    | zero=>exact absurd HA.out (by simp [spec_SuffixRows.l1])
    | succ k2 =>
     have H:=HA.out
     clear HA
     simp only [spec_SuffixRows.l1] at H
     by_cases c8:x5_2 < x6_2
     ·rw [if_pos c8] at H
      have c8b0:decide (x5_2 < x6_2) = true:=decide_eq_true c8
      clear c8
      obtain⟨ji9,hji9⟩:∃ j_:Int,(wrap64 (Int.tdiv (wrap64 (x5_2 + x6_2)) 2)) = j_:=⟨_,rfl⟩
      replace H:(if 0 ≤ (ji9) then (if (ji9) < (x3_1.length:Int) then (if 0 ≤ (rd x3_1 (ji9)) then (if (rd x3_1 (ji9)) ≤ (l0.length:Int) then (if 0 ≤ x4_1 then (if x4_1 ≤ (l0.length:Int) then ((spec_l05Cmp.f k2 (l0.drop ((rd x3_1 (ji9)):Int).toNat) (l0.drop (x4_1:Int).toNat)).bind fun t145=>(if t145 < 0 then (spec_SuffixRows.l1 k2 l0 x3_1 x4_1 (wrap64 ((ji9) + 1)) x6_2) else (spec_SuffixRows.l1 k2 l0 x3_1 x4_1 x5_2 ji9))) else (none)) else (none)) else (none)) else (none)) else (none)) else (none)) = some r:=by first|(rw [hji9] at H;exact H)|(simp only [hji9] at H ⊢;exact H)
      have hji9w:(IntKind.i64.wrap (Int.tdiv (wrap64 (x5_2 + x6_2)) 2)) = ji9:=(i64_w _).trans hji9
      by_cases c10:0 ≤ (ji9)
      rotate_left
      ·rw [if_neg c10] at H
       exact absurd H (by simp)
      rw [if_pos c10] at H
      have c10b0:decide (0 ≤ (ji9)) = true:=decide_eq_true c10
      clear c10
      by_cases c11:(ji9) < (x3_1.length:Int)
      rotate_left
      ·rw [if_neg c11] at H
       exact absurd H (by simp)
      rw [if_pos c11] at H
      have c11b0:decide ((ji9) < (x3_1.length:Int)) = true:=decide_eq_true c11
      clear c11
      by_cases c12:0 ≤ (rd x3_1 (ji9))
      rotate_left
      ·rw [if_neg c12] at H
       exact absurd H (by simp)
      rw [if_pos c12] at H
      have c12b0:=eq_true c12
      have c12b1:decide (0 ≤ (rd x3_1 (ji9))) = true:=decide_eq_true c12
      clear c12
      by_cases c13:(rd x3_1 (ji9)) ≤ (l0.length:Int)
      rotate_left
      ·rw [if_neg c13] at H
       exact absurd H (by simp)
      rw [if_pos c13] at H
      have c13b0:=eq_true c13
      have c13b1:decide ((rd x3_1 (ji9)) ≤ (l0.length:Int)) = true:=decide_eq_true c13
      clear c13
      by_cases c14:0 ≤ x4_1
      rotate_left
      ·rw [if_neg c14] at H
       exact absurd H (by simp)
      rw [if_pos c14] at H
      have c14b0:=eq_true c14
      have c14b1:decide (0 ≤ x4_1) = true:=decide_eq_true c14
      clear c14
      by_cases c15:x4_1 ≤ (l0.length:Int)
      rotate_left
      ·rw [if_neg c15] at H
       exact absurd H (by simp)
      rw [if_pos c15] at H
      have c15b0:=eq_true c15
      have c15b1:decide (x4_1 ≤ (l0.length:Int)) = true:=decide_eq_true c15
      clear c15
      replace H:=Option.bind_eq_some_iff.mp H
      obtain⟨t145,A160,H⟩:=H
      replace H:(if t145 < 0 then (spec_SuffixRows.l1 k2 l0 x3_1 x4_1 (wrap64 ((ji9) + 1)) x6_2) else (spec_SuffixRows.l1 k2 l0 x3_1 x4_1 x5_2 ji9)) = some r:=H
      have A16:=mk0 A160
      clear A160
      by_cases c17:t145 < 0
      rotate_left
      ·rw [if_neg c17] at H
       have c17b0:decide (t145 < 0) = false:=decide_eq_false c17
       clear c17
       have H':=mk0 H
       clear H
       have p142:0 ≤ ((ji9):Int):=of_decide_eq_true (by first|(with_reducible assumption)|assumption)
       have q142:(ji9) < (x3_1.length:Int):=of_decide_eq_true (by first|(with_reducible assumption)|assumption)
       obtain⟨ad142,e142,hx142_0⟩:=Kd.at_int (Kd.R_reads' HO_3.out).2.2 (ji9) p142 q142
       cases e142
       replace p142:=eq_true p142
       replace q142:=eq_true q142
       obtain⟨i020,hi020,_,hsz20,_⟩:=info_parts info5
       obtain⟨A20,hcut20,hA20,hC20⟩:=print_drop_of (P:=Try.prog) (Value.int .u8) 0 22 5 .i64 Try.underlying22 hi020 hsz20 A0 c0 l0 (rd x3_1 (ji9)) (of_decide_eq_true (by first|(with_reducible assumption)|assumption)) (of_decide_eq_true (by first|(with_reducible assumption)|assumption)) HC0.out
       have HR143:=mk0 (Kd.C_of_reads (h1:=fun _=>rfl) (hA20 _ (Kd.reads_of_C HR0.out)))
       have HC143:=mk0 hC20
       clear hA20 hC20 hi020 hsz20
       obtain⟨i021,hi021,_,hsz21,_⟩:=info_parts info5
       obtain⟨A21,hcut21,hA21,hC21⟩:=print_drop_of (P:=Try.prog) (Value.int .u8) 0 22 5 .i64 Try.underlying22 hi021 hsz21 A0 c0 l0 x4_1 (of_decide_eq_true (by first|(with_reducible assumption)|assumption)) (of_decide_eq_true (by first|(with_reducible assumption)|assumption)) HC0.out
       have HR144:=mk0 (Kd.C_of_reads (h1:=fun _=>rfl) (hA21 _ (Kd.reads_of_C HR0.out)))
       have HC144:=mk0 hC21
       clear hA21 hC21 hi021 hsz21
       go_wp2_with (first|(go_at_call 53;refine calls_of_args (args':=#[.slice A20 (l0.drop ((rd x3_1 (ji9)):Int).toNat).length (c0 - (rd x3_1 (ji9)).toNat),.slice A21 (l0.drop (x4_1:Int).toNat).length (c0 - x4_1.toNat)]) (by first|(rw [show (l0.drop ((rd x3_1 (ji9)):Int).toNat).length = (l0.length - (rd x3_1 (ji9)).toNat) from List.length_drop] <;> rfl)|(rw [show (l0.drop (x4_1:Int).toNat).length = (l0.length - x4_1.toNat) from List.length_drop] <;> rfl)|rfl|(simp only [List.length_drop,List.length_take];done)|(simp only [List.length_drop,List.length_take];rfl)) ?_;(with_reducible refine (spec_l05Cmp.calls k2 _ _ (l0.drop ((rd x3_1 (ji9)):Int).toNat) _ _ (l0.drop (x4_1:Int).toNat) t145 _ ?side1 ?side2 ?side3 ?side4 A16.out).mono ?_);(case side1=>exact kC (Kd.C_below HR143.out HB.out));(case side2=>exact HC143.out);(case side3=>exact kC (Kd.C_below HR144.out HB.out));(case side4=>exact HC144.out);rintro e w' ⟨rfl,⟨nd,rfl⟩⟩;(try first|exact⟨rfl,_,World.drewN_drewN _ _ _⟩|exact⟨rfl,_,Eq.trans (World.drewN_drewN _ _ _) (congrArg (World.drewN _) (Nat.add_assoc _ _ _))⟩)))
       repeat (go_quiet (first|(go_at_call 53;refine calls_of_args (args':=#[.slice A20 (l0.drop ((rd x3_1 (ji9)):Int).toNat).length (c0 - (rd x3_1 (ji9)).toNat),.slice A21 (l0.drop (x4_1:Int).toNat).length (c0 - x4_1.toNat)]) (by first|(rw [show (l0.drop ((rd x3_1 (ji9)):Int).toNat).length = (l0.length - (rd x3_1 (ji9)).toNat) from List.length_drop] <;> rfl)|(rw [show (l0.drop (x4_1:Int).toNat).length = (l0.length - x4_1.toNat) from List.length_drop] <;> rfl)|rfl|(simp only [List.length_drop,List.length_take];done)|(simp only [List.length_drop,List.length_take];rfl)) ?_;(with_reducible refine (spec_l05Cmp.calls k2 _ _ (l0.drop ((rd x3_1 (ji9)):Int).toNat) _ _ (l0.drop (x4_1:Int).toNat) t145 _ ?side1 ?side2 ?side3 ?side4 A16.out).mono ?_);(case side1=>exact kC (Kd.C_below HR143.out HB.out));(case side2=>exact HC143.out);(case side3=>exact kC (Kd.C_below HR144.out HB.out));(case side4=>exact HC144.out);rintro e w' ⟨rfl,⟨nd,rfl⟩⟩;(try first|exact⟨rfl,_,World.drewN_drewN _ _ _⟩|exact⟨rfl,_,Eq.trans (World.drewN_drewN _ _ _) (congrArg (World.drewN _) (Nat.add_assoc _ _ _))⟩)));try go_wp2_with (first|(go_at_call 53;refine calls_of_args (args':=#[.slice A20 (l0.drop ((rd x3_1 (ji9)):Int).toNat).length (c0 - (rd x3_1 (ji9)).toNat),.slice A21 (l0.drop (x4_1:Int).toNat).length (c0 - x4_1.toNat)]) (by first|(rw [show (l0.drop ((rd x3_1 (ji9)):Int).toNat).length = (l0.length - (rd x3_1 (ji9)).toNat) from List.length_drop] <;> rfl)|(rw [show (l0.drop (x4_1:Int).toNat).length = (l0.length - x4_1.toNat) from List.length_drop] <;> rfl)|rfl|(simp only [List.length_drop,List.length_take];done)|(simp only [List.length_drop,List.length_take];rfl)) ?_;(with_reducible refine (spec_l05Cmp.calls k2 _ _ (l0.drop ((rd x3_1 (ji9)):Int).toNat) _ _ (l0.drop (x4_1:Int).toNat) t145 _ ?side1 ?side2 ?side3 ?side4 A16.out).mono ?_);(case side1=>exact kC (Kd.C_below HR143.out HB.out));(case side2=>exact HC143.out);(case side3=>exact kC (Kd.C_below HR144.out HB.out));(case side4=>exact HC144.out);rintro e w' ⟨rfl,⟨nd,rfl⟩⟩;(try first|exact⟨rfl,_,World.drewN_drewN _ _ _⟩|exact⟨rfl,_,Eq.trans (World.drewN_drewN _ _ _) (congrArg (World.drewN _) (Nat.add_assoc _ _ _))⟩))))
       go_roundg k2
       case measure=>have:=HK1.out;have:=HK2.out;omega
       case rel=>exact⟨(x5_2),(ji9),(by first|rfl|(simp;done)|(simp [*];done)),(by first|rfl|(simp;done)|(simp only [← hji9] <;> (first|rfl|simp))|(simp [*];done)),H',⟨by have:=HK1.out;have:=HK2.out;omega⟩,⟨rR HO_3.out⟩,⟨kB HB.out⟩⟩
      rw [if_pos c17] at H
      have c17b0:decide (t145 < 0) = true:=decide_eq_true c17
      clear c17
      have H':=mk0 H
      clear H
      have p142:0 ≤ ((ji9):Int):=of_decide_eq_true (by first|(with_reducible assumption)|assumption)
      have q142:(ji9) < (x3_1.length:Int):=of_decide_eq_true (by first|(with_reducible assumption)|assumption)
      obtain⟨ad142,e142,hx142_0⟩:=Kd.at_int (Kd.R_reads' HO_3.out).2.2 (ji9) p142 q142
      cases e142
      replace p142:=eq_true p142
      replace q142:=eq_true q142
      obtain⟨i018,hi018,_,hsz18,_⟩:=info_parts info5
      obtain⟨A18,hcut18,hA18,hC18⟩:=print_drop_of (P:=Try.prog) (Value.int .u8) 0 22 5 .i64 Try.underlying22 hi018 hsz18 A0 c0 l0 (rd x3_1 (ji9)) (of_decide_eq_true (by first|(with_reducible assumption)|assumption)) (of_decide_eq_true (by first|(with_reducible assumption)|assumption)) HC0.out
      have HR143:=mk0 (Kd.C_of_reads (h1:=fun _=>rfl) (hA18 _ (Kd.reads_of_C HR0.out)))
      have HC143:=mk0 hC18
      clear hA18 hC18 hi018 hsz18
      obtain⟨i019,hi019,_,hsz19,_⟩:=info_parts info5
      obtain⟨A19,hcut19,hA19,hC19⟩:=print_drop_of (P:=Try.prog) (Value.int .u8) 0 22 5 .i64 Try.underlying22 hi019 hsz19 A0 c0 l0 x4_1 (of_decide_eq_true (by first|(with_reducible assumption)|assumption)) (of_decide_eq_true (by first|(with_reducible assumption)|assumption)) HC0.out
      have HR144:=mk0 (Kd.C_of_reads (h1:=fun _=>rfl) (hA19 _ (Kd.reads_of_C HR0.out)))
      have HC144:=mk0 hC19
      clear hA19 hC19 hi019 hsz19
      go_wp2_with (first|(go_at_call 53;refine calls_of_args (args':=#[.slice A18 (l0.drop ((rd x3_1 (ji9)):Int).toNat).length (c0 - (rd x3_1 (ji9)).toNat),.slice A19 (l0.drop (x4_1:Int).toNat).length (c0 - x4_1.toNat)]) (by first|(rw [show (l0.drop ((rd x3_1 (ji9)):Int).toNat).length = (l0.length - (rd x3_1 (ji9)).toNat) from List.length_drop] <;> rfl)|(rw [show (l0.drop (x4_1:Int).toNat).length = (l0.length - x4_1.toNat) from List.length_drop] <;> rfl)|rfl|(simp only [List.length_drop,List.length_take];done)|(simp only [List.length_drop,List.length_take];rfl)) ?_;(with_reducible refine (spec_l05Cmp.calls k2 _ _ (l0.drop ((rd x3_1 (ji9)):Int).toNat) _ _ (l0.drop (x4_1:Int).toNat) t145 _ ?side1 ?side2 ?side3 ?side4 A16.out).mono ?_);(case side1=>exact kC (Kd.C_below HR143.out HB.out));(case side2=>exact HC143.out);(case side3=>exact kC (Kd.C_below HR144.out HB.out));(case side4=>exact HC144.out);rintro e w' ⟨rfl,⟨nd,rfl⟩⟩;(try first|exact⟨rfl,_,World.drewN_drewN _ _ _⟩|exact⟨rfl,_,Eq.trans (World.drewN_drewN _ _ _) (congrArg (World.drewN _) (Nat.add_assoc _ _ _))⟩)))
      repeat (go_quiet (first|(go_at_call 53;refine calls_of_args (args':=#[.slice A18 (l0.drop ((rd x3_1 (ji9)):Int).toNat).length (c0 - (rd x3_1 (ji9)).toNat),.slice A19 (l0.drop (x4_1:Int).toNat).length (c0 - x4_1.toNat)]) (by first|(rw [show (l0.drop ((rd x3_1 (ji9)):Int).toNat).length = (l0.length - (rd x3_1 (ji9)).toNat) from List.length_drop] <;> rfl)|(rw [show (l0.drop (x4_1:Int).toNat).length = (l0.length - x4_1.toNat) from List.length_drop] <;> rfl)|rfl|(simp only [List.length_drop,List.length_take];done)|(simp only [List.length_drop,List.length_take];rfl)) ?_;(with_reducible refine (spec_l05Cmp.calls k2 _ _ (l0.drop ((rd x3_1 (ji9)):Int).toNat) _ _ (l0.drop (x4_1:Int).toNat) t145 _ ?side1 ?side2 ?side3 ?side4 A16.out).mono ?_);(case side1=>exact kC (Kd.C_below HR143.out HB.out));(case side2=>exact HC143.out);(case side3=>exact kC (Kd.C_below HR144.out HB.out));(case side4=>exact HC144.out);rintro e w' ⟨rfl,⟨nd,rfl⟩⟩;(try first|exact⟨rfl,_,World.drewN_drewN _ _ _⟩|exact⟨rfl,_,Eq.trans (World.drewN_drewN _ _ _) (congrArg (World.drewN _) (Nat.add_assoc _ _ _))⟩)));try go_wp2_with (first|(go_at_call 53;refine calls_of_args (args':=#[.slice A18 (l0.drop ((rd x3_1 (ji9)):Int).toNat).length (c0 - (rd x3_1 (ji9)).toNat),.slice A19 (l0.drop (x4_1:Int).toNat).length (c0 - x4_1.toNat)]) (by first|(rw [show (l0.drop ((rd x3_1 (ji9)):Int).toNat).length = (l0.length - (rd x3_1 (ji9)).toNat) from List.length_drop] <;> rfl)|(rw [show (l0.drop (x4_1:Int).toNat).length = (l0.length - x4_1.toNat) from List.length_drop] <;> rfl)|rfl|(simp only [List.length_drop,List.length_take];done)|(simp only [List.length_drop,List.length_take];rfl)) ?_;(with_reducible refine (spec_l05Cmp.calls k2 _ _ (l0.drop ((rd x3_1 (ji9)):Int).toNat) _ _ (l0.drop (x4_1:Int).toNat) t145 _ ?side1 ?side2 ?side3 ?side4 A16.out).mono ?_);(case side1=>exact kC (Kd.C_below HR143.out HB.out));(case side2=>exact HC143.out);(case side3=>exact kC (Kd.C_below HR144.out HB.out));(case side4=>exact HC144.out);rintro e w' ⟨rfl,⟨nd,rfl⟩⟩;(try first|exact⟨rfl,_,World.drewN_drewN _ _ _⟩|exact⟨rfl,_,Eq.trans (World.drewN_drewN _ _ _) (congrArg (World.drewN _) (Nat.add_assoc _ _ _))⟩))))
      go_roundg k2
      case measure=>have:=HK1.out;have:=HK2.out;omega
      case rel=>exact⟨(wrap64 ((ji9) + 1)),(x6_2),(by first|rfl|(simp;done)|(simp only [← hji9] <;> (first|rfl|simp))|(simp [*];done)),(by first|rfl|(simp;done)|(simp [*];done)),H',⟨by have:=HK1.out;have:=HK2.out;omega⟩,⟨rR HO_3.out⟩,⟨kB HB.out⟩⟩
     rw [if_neg c8] at H
     have c8b0:decide (x5_2 < x6_2) = false:=decide_eq_false c8
     clear c8
     obtain⟨y119,hy119⟩:∃ y_:List Int,y_ = (([x4_1]:List Int)):=⟨_,rfl⟩
     replace H:(if 0 ≤ x5_2 then (if x5_2 ≤ (x3_1.length:Int) then ((some (x3_1.drop (x5_2:Int).toNat:List Int)).bind fun y122=>(if y119.length + y122.length < 17592186044416 then ((some (y119 ++ y122:List Int)).bind fun y126=>((some (([]:List Int):List Int)).bind fun y129=>((some (x3_1.take (x5_2:Int).toNat:List Int)).bind fun y132=>(if y129.length + y132.length < 17592186044416 then ((some (y129 ++ y132:List Int)).bind fun y136=>(if y136.length + y126.length < 17592186044416 then (spec_SuffixRows.l0 k2 l0 (y136 ++ y126) (wrap64 (x4_1 - 1))) else (none))) else (none))))) else (none))) else (none)) else (none)) = some r:=by first|(rw [hy119];with_reducible exact H)|(have H2_:=(Option.bind_some _ _).symm.trans H;rw [hy119];with_reducible exact H2_)|(have H2_:=(Option.bind_some _ _).symm.trans H;with_reducible exact H2_)|with_reducible exact H|(rw [hy119];exact H)|exact H
     have Ny119:=mk0 hy119
     clear hy119
     by_cases c22:0 ≤ x5_2
     rotate_left
     ·rw [if_neg c22] at H
      exact absurd H (by simp)
     rw [if_pos c22] at H
     have c22b0:=eq_true c22
     have c22b1:decide (0 ≤ x5_2) = true:=decide_eq_true c22
     clear c22
     by_cases c23:x5_2 ≤ (x3_1.length:Int)
     rotate_left
     ·rw [if_neg c23] at H
      exact absurd H (by simp)
     rw [if_pos c23] at H
     have c23b0:=eq_true c23
     have c23b1:decide (x5_2 ≤ (x3_1.length:Int)) = true:=decide_eq_true c23
     clear c23
     obtain⟨y122,hy122⟩:∃ y_:List Int,y_ = (x3_1.drop (x5_2:Int).toNat):=⟨_,rfl⟩
     replace H:(if y119.length + y122.length < 17592186044416 then ((some (y119 ++ y122:List Int)).bind fun y126=>((some (([]:List Int):List Int)).bind fun y129=>((some (x3_1.take (x5_2:Int).toNat:List Int)).bind fun y132=>(if y129.length + y132.length < 17592186044416 then ((some (y129 ++ y132:List Int)).bind fun y136=>(if y136.length + y126.length < 17592186044416 then (spec_SuffixRows.l0 k2 l0 (y136 ++ y126) (wrap64 (x4_1 - 1))) else (none))) else (none))))) else (none)) = some r:=by first|(rw [hy122];with_reducible exact H)|(have H2_:=(Option.bind_some _ _).symm.trans H;rw [hy122];with_reducible exact H2_)|(have H2_:=(Option.bind_some _ _).symm.trans H;with_reducible exact H2_)|with_reducible exact H|(rw [hy122];exact H)|exact H
     have Ny122:=mk0 hy122
     clear hy122
     by_cases c24:y119.length + y122.length < 17592186044416
     rotate_left
     ·rw [if_neg c24] at H
      exact absurd H (by simp)
     rw [if_pos c24] at H
     have LMc24:=mk0 c24
     clear c24
     obtain⟨y126,hy126⟩:∃ y_:List Int,y_ = (y119 ++ y122):=⟨_,rfl⟩
     replace H:((some (([]:List Int):List Int)).bind fun y129=>((some (x3_1.take (x5_2:Int).toNat:List Int)).bind fun y132=>(if y129.length + y132.length < 17592186044416 then ((some (y129 ++ y132:List Int)).bind fun y136=>(if y136.length + y126.length < 17592186044416 then (spec_SuffixRows.l0 k2 l0 (y136 ++ y126) (wrap64 (x4_1 - 1))) else (none))) else (none)))) = some r:=by first|(rw [hy126];with_reducible exact H)|(have H2_:=(Option.bind_some _ _).symm.trans H;rw [hy126];with_reducible exact H2_)|(have H2_:=(Option.bind_some _ _).symm.trans H;with_reducible exact H2_)|with_reducible exact H|(rw [hy126];exact H)|exact H
     have Ny126:=mk0 hy126
     clear hy126
     obtain⟨y129,hy129⟩:∃ y_:List Int,y_ = (([]:List Int)):=⟨_,rfl⟩
     replace H:((some (x3_1.take (x5_2:Int).toNat:List Int)).bind fun y132=>(if y129.length + y132.length < 17592186044416 then ((some (y129 ++ y132:List Int)).bind fun y136=>(if y136.length + y126.length < 17592186044416 then (spec_SuffixRows.l0 k2 l0 (y136 ++ y126) (wrap64 (x4_1 - 1))) else (none))) else (none))) = some r:=by first|(rw [hy129];with_reducible exact H)|(have H2_:=(Option.bind_some _ _).symm.trans H;rw [hy129];with_reducible exact H2_)|(have H2_:=(Option.bind_some _ _).symm.trans H;with_reducible exact H2_)|with_reducible exact H|(rw [hy129];exact H)|exact H
     have Ny129:=mk0 hy129
     clear hy129
     have c25b0:=eq_true (of_decide_eq_true (by first|(with_reducible assumption)|assumption):0 ≤ x5_2)
     have c26b0:=eq_true (of_decide_eq_true (by first|(with_reducible assumption)|assumption):x5_2 ≤ (x3_1.length:Int))
     obtain⟨y132,hy132⟩:∃ y_:List Int,y_ = (x3_1.take (x5_2:Int).toNat):=⟨_,rfl⟩
     replace H:(if y129.length + y132.length < 17592186044416 then ((some (y129 ++ y132:List Int)).bind fun y136=>(if y136.length + y126.length < 17592186044416 then (spec_SuffixRows.l0 k2 l0 (y136 ++ y126) (wrap64 (x4_1 - 1))) else (none))) else (none)) = some r:=by first|(rw [hy132];with_reducible exact H)|(have H2_:=(Option.bind_some _ _).symm.trans H;rw [hy132];with_reducible exact H2_)|(have H2_:=(Option.bind_some _ _).symm.trans H;with_reducible exact H2_)|with_reducible exact H|(rw [hy132];exact H)|exact H
     have Ny132:=mk0 hy132
     clear hy132
     by_cases c27:y129.length + y132.length < 17592186044416
     rotate_left
     ·rw [if_neg c27] at H
      exact absurd H (by simp)
     rw [if_pos c27] at H
     have LMc27:=mk0 c27
     clear c27
     obtain⟨y136,hy136⟩:∃ y_:List Int,y_ = (y129 ++ y132):=⟨_,rfl⟩
     replace H:(if y136.length + y126.length < 17592186044416 then (spec_SuffixRows.l0 k2 l0 (y136 ++ y126) (wrap64 (x4_1 - 1))) else (none)) = some r:=by first|(rw [hy136];with_reducible exact H)|(have H2_:=(Option.bind_some _ _).symm.trans H;rw [hy136];with_reducible exact H2_)|(have H2_:=(Option.bind_some _ _).symm.trans H;with_reducible exact H2_)|with_reducible exact H|(rw [hy136];exact H)|exact H
     have Ny136:=mk0 hy136
     clear hy136
     by_cases c28:y136.length + y126.length < 17592186044416
     rotate_left
     ·rw [if_neg c28] at H
      exact absurd H (by simp)
     rw [if_pos c28] at H
     have LMc28:=mk0 c28
     clear c28
     obtain⟨y139,hy139⟩:∃ y_:List Int,y_ = (y136 ++ y126):=⟨_,rfl⟩
     replace H:(spec_SuffixRows.l0 k2 l0 y139 (wrap64 (x4_1 - 1))) = some r:=by first|(rw [hy139];with_reducible exact H)|(have H2_:=(Option.bind_some _ _).symm.trans H;rw [hy139];with_reducible exact H2_)|(have H2_:=(Option.bind_some _ _).symm.trans H;with_reducible exact H2_)|with_reducible exact H|(rw [hy139];exact H)|exact H
     have Ny139:=mk0 hy139
     clear hy139
     have H':=mk0 H
     clear H
     go_wp2_with (first|((with_reducible refine gate_dst (N:=43) rfl ?_);refine Kd.R_lit (Kd.int .i64) _ 3 ?hg (N:=43) ?hd (xs:=([x4_1]:List Int)) (inner:=[.int .i64 x4_1]) (ok:=fun _=>True) (okp:=fun _=>True) ?hr ?hp (fun _ hk=>hk) trivial (Below.refl _ _) (Nat.le_refl _) (by simp) ?_;(case hd=>rfl);(case hg=>rfl);(case hr=>first|(go_simp;done)|(go_simp;rfl));(case hp=>exact (Reps.one (show Kd.M (Kd.int .i64) _ _ _ x4_1 [.int .i64 x4_1] from rfl) (Reps.none _ _)));intro v120 w29 ho30 hb hg_ hnew_;clear hg_ hnew_;(first|rw [← Ny119.out] at ho30|(simp only [Int.reduceToNat] at ho30;rw [← Ny119.out] at ho30));have HO121:=mk0 (Kd.R_lower (Kd.R_new' ho30 (Kd.R_lt (rR HO_3.out))) (kZ HB.out));replace HO_3:=mk0 (Kd.R_elder' (rR HO_3.out) (Kd.R_base ho30) hb);replace HB:=mk0 (kS HB.out hb);clear hb ho30;have q31:(x5_2:Int) ≤ ((x3_1.length:Int):Int):=of_decide_eq_true (by first|(with_reducible assumption)|assumption);obtain⟨i031,hi031,_,hsz31,_⟩:=info_parts info3;have hroom31:x3_1.length ≤ co7:=(Kd.R_reads' HO_3.out).2.1;have hC31:Kd.C (Kd.int .i64) _ Ao7 x3_1.length x3_1:=(Kd.R_reads' HO_3.out).2.2;have q031:(0:Int) ≤ (x5_2:Int):=of_decide_eq_true (by first|(with_reducible assumption)|assumption);have hcut31:=cut_from (P:=Try.prog) 45 3 .i64 Try.underlying45 hi031 1 hsz31 Ao7 x3_1.length co7 x5_2 q031 q31;have hr31:=Kd.C_drop (m:=(x5_2:Int).toNat) (c:=co7) hC31 (by omega) hroom31;obtain⟨A31,hA31⟩:∃ A1,A1 = (if co7 = (x5_2:Int).toNat then Ao7 else (Ao7:Option Addr).map (·.add ((x5_2:Int).toNat * 1))):=⟨_,rfl⟩;obtain⟨c31,hc31⟩:∃ c1,c1 = co7 - (x5_2:Int).toNat:=⟨_,rfl⟩;have hy31:y122.length = x3_1.length - (x5_2:Int).toNat:=(by rw [Ny122.out,List.length_drop] <;> omega);rw [show (x3_1).drop (x5_2:Int).toNat = y122 from Ny122.out.symm] at hr31;replace hr31:Kd.C (Kd.int .i64) _ A31 y122.length y122:=(by rw [hA31];exact hr31);rw [← hy31, ← hA31, ← hc31] at hcut31;have HR125:=mk0 hr31;have HC125:=mk0 (show y122.length ≤ c31 from by rw [hy31,hc31];exact Nat.sub_le_sub_right hroom31 _);clear hr31 hC31 hroom31 hi031 hsz31 hc31;have KY31:=mk0 hy31;have KA31:=mk0 hA31;clear hy31 hA31;have KL31:=mk0 (show (x5_2:Int).toNat ≤ x3_1.length from by omega);replace q31:=eq_true q31)|((with_reducible refine gate_builtin (b:=.append) (xs:=#[.tmp 43,.tmp 46]) rfl ?_);at_builtin;refine Kd.R_append_rows (Kd.int .i64) (w0:=w) w.heap.size rfl (.tmp 43) (.tmp 46) 45 3 (.int .i64 0) 8 rfl Try.underlying45 info3 rfl (by decide) (by omega) v120 y119 y122 _ _ _ (fun k_=>some k_ ≠ (.slice Ao7 x3_1.length co7:Value).ownBlock) (fun _=>False) rfl rfl ?aO ?aR (fun _ _ h=>h) (fun _ h=>h.elim) ?aF ?aB ?aS ?aL ?_;(case aR=>repeat (first|exact (by repeat (first|(with_reducible exact HR125.out)|(with_reducible first|apply aC|apply nC|apply dC)|exact HR125.out))|(with_reducible first|apply aC|apply nC|apply dC)));(case aB=>exact (kB HB.out));(case aF=>exact (fun k_ hk=>Kd.fresh' (Kd.R_lt (rR HO_3.out)) k_ hk));(case aO=>exact (rR (Kd.R_mono HO121.out (fun _ hk=>hk.2))));(case aS=>exact (kZ HB.out));(case aL=>have:=LMc24.out;omega);intro v127 w32 ho hb hg hat;rw [← Ny126.out] at ho;replace HB:=mk0 (hb);replace HR125:=mk0 ((show Kd.C (Kd.int .i64) w32 A31 y122.length y122 from by rw [Ny122.out,KA31.out];exact Kd.C_drop (m:=(x5_2:Int).toNat) (c:=co7) ((Kd.R_reads' (Kd.R_after (ok:=(fun _=>True)) (rR HO_3.out) hg hat)).2.2) KL31.out ((Kd.R_reads' (Kd.R_after (ok:=(fun _=>True)) (rR HO_3.out) hg hat)).2.1)));replace HO_3:=mk0 (Kd.R_after (ok:=(fun _=>True)) (rR HO_3.out) hg hat);have HO128:=mk0 (ho);clear HO121 ho hb hg hat)|((with_reducible refine gate_dst (N:=48) rfl ?_);refine Kd.R_lit (Kd.int .i64) _ 3 ?hg (N:=48) ?hd (xs:=([]:List Int)) (inner:=[]) (ok:=fun _=>True) (okp:=fun _=>True) ?hr ?hp (fun _ hk=>hk) trivial (Below.refl _ _) (Nat.le_refl _) (by simp) ?_;(case hd=>rfl);(case hg=>rfl);(case hr=>first|(go_simp;done)|(go_simp;rfl));(case hp=>exact (Reps.none _ _));intro v130 w33 ho34 hb hg_ hnew_;clear hg_ hnew_;(first|rw [← Ny129.out] at ho34|(simp only [Int.reduceToNat] at ho34;rw [← Ny129.out] at ho34));have HO131:=mk0 (Kd.R_lower (Kd.R_new' (Kd.R_new' ho34 (Kd.R_lt (rR HO_3.out))) (Kd.R_lt (rR HO128.out))) (kZ HB.out));replace HO_3:=mk0 (Kd.R_elder' (rR HO_3.out) (Kd.R_base ho34) hb);replace HO128:=mk0 (Kd.R_elder' (rR HO128.out) (Kd.R_base ho34) hb);replace HR125:=mk0 (Kd.C_below (by repeat (first|(with_reducible exact HR125.out)|(with_reducible first|apply aC|apply nC|apply dC)|exact HR125.out)) hb);replace HB:=mk0 (kS HB.out hb);clear hb ho34;have q35:(x5_2:Int) ≤ ((x3_1.length:Int):Int):=of_decide_eq_true (by first|(with_reducible assumption)|assumption);obtain⟨i035,hi035,_,hsz35,_⟩:=info_parts info3;have hroom35:x3_1.length ≤ co7:=(Kd.R_reads' HO_3.out).2.1;have hC35:Kd.C (Kd.int .i64) _ Ao7 x3_1.length x3_1:=(Kd.R_reads' HO_3.out).2.2;have hcut35:=cut_to (P:=Try.prog) 45 3 .i64 Try.underlying45 hi035 Ao7 x3_1.length co7 x5_2 (of_decide_eq_true (by first|(with_reducible assumption)|assumption)) q35 hroom35;have hr35:=Kd.C_take (m:=(x5_2:Int).toNat) hC35 (by omega);have hy35:y132.length = (x5_2:Int).toNat:=(by rw [Ny132.out,List.length_take];omega);rw [← Ny132.out] at hr35;rw [← hy35] at hcut35;have HR135:=mk0 hr35;have HC135:=mk0 (show y132.length ≤ co7 from by omega);clear hr35 hC35 hroom35 hi035 hsz35;have KY35:=mk0 hy35;clear hy35;have KL35:=mk0 (show (x5_2:Int).toNat ≤ x3_1.length from by omega);replace q35:=eq_true q35)|((with_reducible refine gate_builtin (b:=.append) (xs:=#[.tmp 48,.tmp 51]) rfl ?_);at_builtin;refine Kd.R_append_rows (Kd.int .i64) (w0:=w) w.heap.size rfl (.tmp 48) (.tmp 51) 45 3 (.int .i64 0) 8 rfl Try.underlying45 info3 rfl (by decide) (by omega) v130 y129 y132 _ _ _ (fun k_=>some k_ ≠ (.slice Ao7 x3_1.length co7:Value).ownBlock ∧ some k_ ≠ (v127:Value).ownBlock) (fun _=>False) rfl rfl ?aO ?aR (fun _ _ h=>h) (fun _ h=>h.elim) ?aF ?aB ?aS ?aL ?_;(case aR=>repeat (first|exact (by repeat (first|(with_reducible exact HR135.out)|(with_reducible first|apply aC|apply nC|apply dC)|exact HR135.out))|(with_reducible first|apply aC|apply nC|apply dC)));(case aB=>exact (kB HB.out));(case aF=>exact (fun k_ hk=>⟨Kd.fresh' (Kd.R_lt (rR HO_3.out)) k_ hk,Kd.fresh' (Kd.R_lt (rR HO128.out)) k_ hk⟩));(case aO=>exact (rR (Kd.R_mono HO131.out (fun _ hk=>⟨hk.1.2,hk.2⟩))));(case aS=>exact (kZ HB.out));(case aL=>have:=LMc27.out;omega);intro v137 w36 ho hb hg hat;rw [← Ny136.out] at ho;replace HO128:=mk0 (Kd.R_after (ok:=(fun k_=>some k_ ≠ (.slice Ao7 x3_1.length co7:Value).ownBlock)) (rR HO128.out) hg hat);replace HB:=mk0 (hb);replace HR125:=mk0 ((show Kd.C (Kd.int .i64) w36 A31 y122.length y122 from by rw [Ny122.out,KA31.out];exact Kd.C_drop (m:=(x5_2:Int).toNat) (c:=co7) ((Kd.R_reads' (Kd.R_after (ok:=(fun k_=>some k_ ≠ (v127:Value).ownBlock)) (rR (Kd.R_mono HO_3.out (fun _ hk=>⟨hk.1.2,hk.2⟩))) hg hat)).2.2) KL31.out ((Kd.R_reads' (Kd.R_after (ok:=(fun k_=>some k_ ≠ (v127:Value).ownBlock)) (rR (Kd.R_mono HO_3.out (fun _ hk=>⟨hk.1.2,hk.2⟩))) hg hat)).2.1)));replace HR135:=mk0 ((show Kd.C (Kd.int .i64) w36 Ao7 y132.length y132 from by rw [Ny132.out];exact Kd.C_take (m:=(x5_2:Int).toNat) ((Kd.R_reads' (Kd.R_after (ok:=(fun k_=>some k_ ≠ (v127:Value).ownBlock)) (rR (Kd.R_mono HO_3.out (fun _ hk=>⟨hk.1.2,hk.2⟩))) hg hat)).2.2) KL35.out));replace HO_3:=mk0 (Kd.R_after (ok:=(fun k_=>some k_ ≠ (v127:Value).ownBlock)) (rR (Kd.R_mono HO_3.out (fun _ hk=>⟨hk.1.2,hk.2⟩))) hg hat);have HO138:=mk0 (ho);clear HO131 ho hb hg hat;obtain⟨Ao38,co38,eo38⟩:=Kd.R_slice HO128.out;subst eo38)|((with_reducible refine gate_builtin (b:=.append) (xs:=#[.tmp 52,.tmp 53]) rfl ?_);at_builtin;refine Kd.R_append_rows (Kd.int .i64) (w0:=w) w.heap.size rfl (.tmp 52) (.tmp 53) 45 3 (.int .i64 0) 8 rfl Try.underlying45 info3 rfl (by decide) (by omega) v137 y136 y126 _ _ _ (fun k_=>some k_ ≠ (.slice Ao7 x3_1.length co7:Value).ownBlock ∧ some k_ ≠ (.slice Ao38 y126.length co38:Value).ownBlock) (fun _=>False) rfl rfl ?aO ?aR (fun _ _ h=>h) (fun _ h=>h.elim) ?aF ?aB ?aS ?aL ?_;(case aR=>repeat (first|exact (Kd.R_reads' HO128.out).2.2|(with_reducible first|apply aC|apply nC|apply dC)));(case aB=>exact (kB HB.out));(case aF=>exact (fun k_ hk=>⟨Kd.fresh' (Kd.R_lt (rR HO_3.out)) k_ hk,Kd.fresh' (Kd.R_lt (rR HO128.out)) k_ hk⟩));(case aO=>exact (rR HO138.out));(case aS=>exact (kZ HB.out));(case aL=>have:=LMc28.out;omega);intro v140 w37 ho hb hg hat;rw [← Ny139.out] at ho;replace HO128:=mk0 (Kd.R_after (ok:=(fun k_=>some k_ ≠ (.slice Ao7 x3_1.length co7:Value).ownBlock)) (rR HO128.out) hg hat);replace HB:=mk0 (hb);replace HR125:=mk0 ((show Kd.C (Kd.int .i64) w37 A31 y122.length y122 from by rw [Ny122.out,KA31.out];exact Kd.C_drop (m:=(x5_2:Int).toNat) (c:=co7) ((Kd.R_reads' (Kd.R_after (ok:=(fun k_=>some k_ ≠ (.slice Ao38 y126.length co38:Value).ownBlock)) (rR HO_3.out) hg hat)).2.2) KL31.out ((Kd.R_reads' (Kd.R_after (ok:=(fun k_=>some k_ ≠ (.slice Ao38 y126.length co38:Value).ownBlock)) (rR HO_3.out) hg hat)).2.1)));replace HR135:=mk0 ((show Kd.C (Kd.int .i64) w37 Ao7 y132.length y132 from by rw [Ny132.out];exact Kd.C_take (m:=(x5_2:Int).toNat) ((Kd.R_reads' (Kd.R_after (ok:=(fun k_=>some k_ ≠ (.slice Ao38 y126.length co38:Value).ownBlock)) (rR HO_3.out) hg hat)).2.2) KL35.out));replace HO_3:=mk0 (Kd.R_after (ok:=(fun k_=>some k_ ≠ (.slice Ao38 y126.length co38:Value).ownBlock)) (rR HO_3.out) hg hat);have HO141:=mk0 (ho);clear HO138 ho hb hg hat))
     repeat (go_quiet (first|((with_reducible refine gate_dst (N:=43) rfl ?_);refine Kd.R_lit (Kd.int .i64) _ 3 ?hg (N:=43) ?hd (xs:=([x4_1]:List Int)) (inner:=[.int .i64 x4_1]) (ok:=fun _=>True) (okp:=fun _=>True) ?hr ?hp (fun _ hk=>hk) trivial (Below.refl _ _) (Nat.le_refl _) (by simp) ?_;(case hd=>rfl);(case hg=>rfl);(case hr=>first|(go_simp;done)|(go_simp;rfl));(case hp=>exact (Reps.one (show Kd.M (Kd.int .i64) _ _ _ x4_1 [.int .i64 x4_1] from rfl) (Reps.none _ _)));intro v120 w29 ho30 hb hg_ hnew_;clear hg_ hnew_;(first|rw [← Ny119.out] at ho30|(simp only [Int.reduceToNat] at ho30;rw [← Ny119.out] at ho30));have HO121:=mk0 (Kd.R_lower (Kd.R_new' ho30 (Kd.R_lt (rR HO_3.out))) (kZ HB.out));replace HO_3:=mk0 (Kd.R_elder' (rR HO_3.out) (Kd.R_base ho30) hb);replace HB:=mk0 (kS HB.out hb);clear hb ho30;have q31:(x5_2:Int) ≤ ((x3_1.length:Int):Int):=of_decide_eq_true (by first|(with_reducible assumption)|assumption);obtain⟨i031,hi031,_,hsz31,_⟩:=info_parts info3;have hroom31:x3_1.length ≤ co7:=(Kd.R_reads' HO_3.out).2.1;have hC31:Kd.C (Kd.int .i64) _ Ao7 x3_1.length x3_1:=(Kd.R_reads' HO_3.out).2.2;have q031:(0:Int) ≤ (x5_2:Int):=of_decide_eq_true (by first|(with_reducible assumption)|assumption);have hcut31:=cut_from (P:=Try.prog) 45 3 .i64 Try.underlying45 hi031 1 hsz31 Ao7 x3_1.length co7 x5_2 q031 q31;have hr31:=Kd.C_drop (m:=(x5_2:Int).toNat) (c:=co7) hC31 (by omega) hroom31;obtain⟨A31,hA31⟩:∃ A1,A1 = (if co7 = (x5_2:Int).toNat then Ao7 else (Ao7:Option Addr).map (·.add ((x5_2:Int).toNat * 1))):=⟨_,rfl⟩;obtain⟨c31,hc31⟩:∃ c1,c1 = co7 - (x5_2:Int).toNat:=⟨_,rfl⟩;have hy31:y122.length = x3_1.length - (x5_2:Int).toNat:=(by rw [Ny122.out,List.length_drop] <;> omega);rw [show (x3_1).drop (x5_2:Int).toNat = y122 from Ny122.out.symm] at hr31;replace hr31:Kd.C (Kd.int .i64) _ A31 y122.length y122:=(by rw [hA31];exact hr31);rw [← hy31, ← hA31, ← hc31] at hcut31;have HR125:=mk0 hr31;have HC125:=mk0 (show y122.length ≤ c31 from by rw [hy31,hc31];exact Nat.sub_le_sub_right hroom31 _);clear hr31 hC31 hroom31 hi031 hsz31 hc31;have KY31:=mk0 hy31;have KA31:=mk0 hA31;clear hy31 hA31;have KL31:=mk0 (show (x5_2:Int).toNat ≤ x3_1.length from by omega);replace q31:=eq_true q31)|((with_reducible refine gate_builtin (b:=.append) (xs:=#[.tmp 43,.tmp 46]) rfl ?_);at_builtin;refine Kd.R_append_rows (Kd.int .i64) (w0:=w) w.heap.size rfl (.tmp 43) (.tmp 46) 45 3 (.int .i64 0) 8 rfl Try.underlying45 info3 rfl (by decide) (by omega) v120 y119 y122 _ _ _ (fun k_=>some k_ ≠ (.slice Ao7 x3_1.length co7:Value).ownBlock) (fun _=>False) rfl rfl ?aO ?aR (fun _ _ h=>h) (fun _ h=>h.elim) ?aF ?aB ?aS ?aL ?_;(case aR=>repeat (first|exact (by repeat (first|(with_reducible exact HR125.out)|(with_reducible first|apply aC|apply nC|apply dC)|exact HR125.out))|(with_reducible first|apply aC|apply nC|apply dC)));(case aB=>exact (kB HB.out));(case aF=>exact (fun k_ hk=>Kd.fresh' (Kd.R_lt (rR HO_3.out)) k_ hk));(case aO=>exact (rR (Kd.R_mono HO121.out (fun _ hk=>hk.2))));(case aS=>exact (kZ HB.out));(case aL=>have:=LMc24.out;omega);intro v127 w32 ho hb hg hat;rw [← Ny126.out] at ho;replace HB:=mk0 (hb);replace HR125:=mk0 ((show Kd.C (Kd.int .i64) w32 A31 y122.length y122 from by rw [Ny122.out,KA31.out];exact Kd.C_drop (m:=(x5_2:Int).toNat) (c:=co7) ((Kd.R_reads' (Kd.R_after (ok:=(fun _=>True)) (rR HO_3.out) hg hat)).2.2) KL31.out ((Kd.R_reads' (Kd.R_after (ok:=(fun _=>True)) (rR HO_3.out) hg hat)).2.1)));replace HO_3:=mk0 (Kd.R_after (ok:=(fun _=>True)) (rR HO_3.out) hg hat);have HO128:=mk0 (ho);clear HO121 ho hb hg hat)|((with_reducible refine gate_dst (N:=48) rfl ?_);refine Kd.R_lit (Kd.int .i64) _ 3 ?hg (N:=48) ?hd (xs:=([]:List Int)) (inner:=[]) (ok:=fun _=>True) (okp:=fun _=>True) ?hr ?hp (fun _ hk=>hk) trivial (Below.refl _ _) (Nat.le_refl _) (by simp) ?_;(case hd=>rfl);(case hg=>rfl);(case hr=>first|(go_simp;done)|(go_simp;rfl));(case hp=>exact (Reps.none _ _));intro v130 w33 ho34 hb hg_ hnew_;clear hg_ hnew_;(first|rw [← Ny129.out] at ho34|(simp only [Int.reduceToNat] at ho34;rw [← Ny129.out] at ho34));have HO131:=mk0 (Kd.R_lower (Kd.R_new' (Kd.R_new' ho34 (Kd.R_lt (rR HO_3.out))) (Kd.R_lt (rR HO128.out))) (kZ HB.out));replace HO_3:=mk0 (Kd.R_elder' (rR HO_3.out) (Kd.R_base ho34) hb);replace HO128:=mk0 (Kd.R_elder' (rR HO128.out) (Kd.R_base ho34) hb);replace HR125:=mk0 (Kd.C_below (by repeat (first|(with_reducible exact HR125.out)|(with_reducible first|apply aC|apply nC|apply dC)|exact HR125.out)) hb);replace HB:=mk0 (kS HB.out hb);clear hb ho34;have q35:(x5_2:Int) ≤ ((x3_1.length:Int):Int):=of_decide_eq_true (by first|(with_reducible assumption)|assumption);obtain⟨i035,hi035,_,hsz35,_⟩:=info_parts info3;have hroom35:x3_1.length ≤ co7:=(Kd.R_reads' HO_3.out).2.1;have hC35:Kd.C (Kd.int .i64) _ Ao7 x3_1.length x3_1:=(Kd.R_reads' HO_3.out).2.2;have hcut35:=cut_to (P:=Try.prog) 45 3 .i64 Try.underlying45 hi035 Ao7 x3_1.length co7 x5_2 (of_decide_eq_true (by first|(with_reducible assumption)|assumption)) q35 hroom35;have hr35:=Kd.C_take (m:=(x5_2:Int).toNat) hC35 (by omega);have hy35:y132.length = (x5_2:Int).toNat:=(by rw [Ny132.out,List.length_take];omega);rw [← Ny132.out] at hr35;rw [← hy35] at hcut35;have HR135:=mk0 hr35;have HC135:=mk0 (show y132.length ≤ co7 from by omega);clear hr35 hC35 hroom35 hi035 hsz35;have KY35:=mk0 hy35;clear hy35;have KL35:=mk0 (show (x5_2:Int).toNat ≤ x3_1.length from by omega);replace q35:=eq_true q35)|((with_reducible refine gate_builtin (b:=.append) (xs:=#[.tmp 48,.tmp 51]) rfl ?_);at_builtin;refine Kd.R_append_rows (Kd.int .i64) (w0:=w) w.heap.size rfl (.tmp 48) (.tmp 51) 45 3 (.int .i64 0) 8 rfl Try.underlying45 info3 rfl (by decide) (by omega) v130 y129 y132 _ _ _ (fun k_=>some k_ ≠ (.slice Ao7 x3_1.length co7:Value).ownBlock ∧ some k_ ≠ (v127:Value).ownBlock) (fun _=>False) rfl rfl ?aO ?aR (fun _ _ h=>h) (fun _ h=>h.elim) ?aF ?aB ?aS ?aL ?_;(case aR=>repeat (first|exact (by repeat (first|(with_reducible exact HR135.out)|(with_reducible first|apply aC|apply nC|apply dC)|exact HR135.out))|(with_reducible first|apply aC|apply nC|apply dC)));(case aB=>exact (kB HB.out));(case aF=>exact (fun k_ hk=>⟨Kd.fresh' (Kd.R_lt (rR HO_3.out)) k_ hk,Kd.fresh' (Kd.R_lt (rR HO128.out)) k_ hk⟩));(case aO=>exact (rR (Kd.R_mono HO131.out (fun _ hk=>⟨hk.1.2,hk.2⟩))));(case aS=>exact (kZ HB.out));(case aL=>have:=LMc27.out;omega);intro v137 w36 ho hb hg hat;rw [← Ny136.out] at ho;replace HO128:=mk0 (Kd.R_after (ok:=(fun k_=>some k_ ≠ (.slice Ao7 x3_1.length co7:Value).ownBlock)) (rR HO128.out) hg hat);replace HB:=mk0 (hb);replace HR125:=mk0 ((show Kd.C (Kd.int .i64) w36 A31 y122.length y122 from by rw [Ny122.out,KA31.out];exact Kd.C_drop (m:=(x5_2:Int).toNat) (c:=co7) ((Kd.R_reads' (Kd.R_after (ok:=(fun k_=>some k_ ≠ (v127:Value).ownBlock)) (rR (Kd.R_mono HO_3.out (fun _ hk=>⟨hk.1.2,hk.2⟩))) hg hat)).2.2) KL31.out ((Kd.R_reads' (Kd.R_after (ok:=(fun k_=>some k_ ≠ (v127:Value).ownBlock)) (rR (Kd.R_mono HO_3.out (fun _ hk=>⟨hk.1.2,hk.2⟩))) hg hat)).2.1)));replace HR135:=mk0 ((show Kd.C (Kd.int .i64) w36 Ao7 y132.length y132 from by rw [Ny132.out];exact Kd.C_take (m:=(x5_2:Int).toNat) ((Kd.R_reads' (Kd.R_after (ok:=(fun k_=>some k_ ≠ (v127:Value).ownBlock)) (rR (Kd.R_mono HO_3.out (fun _ hk=>⟨hk.1.2,hk.2⟩))) hg hat)).2.2) KL35.out));replace HO_3:=mk0 (Kd.R_after (ok:=(fun k_=>some k_ ≠ (v127:Value).ownBlock)) (rR (Kd.R_mono HO_3.out (fun _ hk=>⟨hk.1.2,hk.2⟩))) hg hat);have HO138:=mk0 (ho);clear HO131 ho hb hg hat;obtain⟨Ao38,co38,eo38⟩:=Kd.R_slice HO128.out;subst eo38)|((with_reducible refine gate_builtin (b:=.append) (xs:=#[.tmp 52,.tmp 53]) rfl ?_);at_builtin;refine Kd.R_append_rows (Kd.int .i64) (w0:=w) w.heap.size rfl (.tmp 52) (.tmp 53) 45 3 (.int .i64 0) 8 rfl Try.underlying45 info3 rfl (by decide) (by omega) v137 y136 y126 _ _ _ (fun k_=>some k_ ≠ (.slice Ao7 x3_1.length co7:Value).ownBlock ∧ some k_ ≠ (.slice Ao38 y126.length co38:Value).ownBlock) (fun _=>False) rfl rfl ?aO ?aR (fun _ _ h=>h) (fun _ h=>h.elim) ?aF ?aB ?aS ?aL ?_;(case aR=>repeat (first|exact (Kd.R_reads' HO128.out).2.2|(with_reducible first|apply aC|apply nC|apply dC)));(case aB=>exact (kB HB.out));(case aF=>exact (fun k_ hk=>⟨Kd.fresh' (Kd.R_lt (rR HO_3.out)) k_ hk,Kd.fresh' (Kd.R_lt (rR HO128.out)) k_ hk⟩));(case aO=>exact (rR HO138.out));(case aS=>exact (kZ HB.out));(case aL=>have:=LMc28.out;omega);intro v140 w37 ho hb hg hat;rw [← Ny139.out] at ho;replace HO128:=mk0 (Kd.R_after (ok:=(fun k_=>some k_ ≠ (.slice Ao7 x3_1.length co7:Value).ownBlock)) (rR HO128.out) hg hat);replace HB:=mk0 (hb);replace HR125:=mk0 ((show Kd.C (Kd.int .i64) w37 A31 y122.length y122 from by rw [Ny122.out,KA31.out];exact Kd.C_drop (m:=(x5_2:Int).toNat) (c:=co7) ((Kd.R_reads' (Kd.R_after (ok:=(fun k_=>some k_ ≠ (.slice Ao38 y126.length co38:Value).ownBlock)) (rR HO_3.out) hg hat)).2.2) KL31.out ((Kd.R_reads' (Kd.R_after (ok:=(fun k_=>some k_ ≠ (.slice Ao38 y126.length co38:Value).ownBlock)) (rR HO_3.out) hg hat)).2.1)));replace HR135:=mk0 ((show Kd.C (Kd.int .i64) w37 Ao7 y132.length y132 from by rw [Ny132.out];exact Kd.C_take (m:=(x5_2:Int).toNat) ((Kd.R_reads' (Kd.R_after (ok:=(fun k_=>some k_ ≠ (.slice Ao38 y126.length co38:Value).ownBlock)) (rR HO_3.out) hg hat)).2.2) KL35.out));replace HO_3:=mk0 (Kd.R_after (ok:=(fun k_=>some k_ ≠ (.slice Ao38 y126.length co38:Value).ownBlock)) (rR HO_3.out) hg hat);have HO141:=mk0 (ho);clear HO138 ho hb hg hat));try go_wp2_with (first|((with_reducible refine gate_dst (N:=43) rfl ?_);refine Kd.R_lit (Kd.int .i64) _ 3 ?hg (N:=43) ?hd (xs:=([x4_1]:List Int)) (inner:=[.int .i64 x4_1]) (ok:=fun _=>True) (okp:=fun _=>True) ?hr ?hp (fun _ hk=>hk) trivial (Below.refl _ _) (Nat.le_refl _) (by simp) ?_;(case hd=>rfl);(case hg=>rfl);(case hr=>first|(go_simp;done)|(go_simp;rfl));(case hp=>exact (Reps.one (show Kd.M (Kd.int .i64) _ _ _ x4_1 [.int .i64 x4_1] from rfl) (Reps.none _ _)));intro v120 w29 ho30 hb hg_ hnew_;clear hg_ hnew_;(first|rw [← Ny119.out] at ho30|(simp only [Int.reduceToNat] at ho30;rw [← Ny119.out] at ho30));have HO121:=mk0 (Kd.R_lower (Kd.R_new' ho30 (Kd.R_lt (rR HO_3.out))) (kZ HB.out));replace HO_3:=mk0 (Kd.R_elder' (rR HO_3.out) (Kd.R_base ho30) hb);replace HB:=mk0 (kS HB.out hb);clear hb ho30;have q31:(x5_2:Int) ≤ ((x3_1.length:Int):Int):=of_decide_eq_true (by first|(with_reducible assumption)|assumption);obtain⟨i031,hi031,_,hsz31,_⟩:=info_parts info3;have hroom31:x3_1.length ≤ co7:=(Kd.R_reads' HO_3.out).2.1;have hC31:Kd.C (Kd.int .i64) _ Ao7 x3_1.length x3_1:=(Kd.R_reads' HO_3.out).2.2;have q031:(0:Int) ≤ (x5_2:Int):=of_decide_eq_true (by first|(with_reducible assumption)|assumption);have hcut31:=cut_from (P:=Try.prog) 45 3 .i64 Try.underlying45 hi031 1 hsz31 Ao7 x3_1.length co7 x5_2 q031 q31;have hr31:=Kd.C_drop (m:=(x5_2:Int).toNat) (c:=co7) hC31 (by omega) hroom31;obtain⟨A31,hA31⟩:∃ A1,A1 = (if co7 = (x5_2:Int).toNat then Ao7 else (Ao7:Option Addr).map (·.add ((x5_2:Int).toNat * 1))):=⟨_,rfl⟩;obtain⟨c31,hc31⟩:∃ c1,c1 = co7 - (x5_2:Int).toNat:=⟨_,rfl⟩;have hy31:y122.length = x3_1.length - (x5_2:Int).toNat:=(by rw [Ny122.out,List.length_drop] <;> omega);rw [show (x3_1).drop (x5_2:Int).toNat = y122 from Ny122.out.symm] at hr31;replace hr31:Kd.C (Kd.int .i64) _ A31 y122.length y122:=(by rw [hA31];exact hr31);rw [← hy31, ← hA31, ← hc31] at hcut31;have HR125:=mk0 hr31;have HC125:=mk0 (show y122.length ≤ c31 from by rw [hy31,hc31];exact Nat.sub_le_sub_right hroom31 _);clear hr31 hC31 hroom31 hi031 hsz31 hc31;have KY31:=mk0 hy31;have KA31:=mk0 hA31;clear hy31 hA31;have KL31:=mk0 (show (x5_2:Int).toNat ≤ x3_1.length from by omega);replace q31:=eq_true q31)|((with_reducible refine gate_builtin (b:=.append) (xs:=#[.tmp 43,.tmp 46]) rfl ?_);at_builtin;refine Kd.R_append_rows (Kd.int .i64) (w0:=w) w.heap.size rfl (.tmp 43) (.tmp 46) 45 3 (.int .i64 0) 8 rfl Try.underlying45 info3 rfl (by decide) (by omega) v120 y119 y122 _ _ _ (fun k_=>some k_ ≠ (.slice Ao7 x3_1.length co7:Value).ownBlock) (fun _=>False) rfl rfl ?aO ?aR (fun _ _ h=>h) (fun _ h=>h.elim) ?aF ?aB ?aS ?aL ?_;(case aR=>repeat (first|exact (by repeat (first|(with_reducible exact HR125.out)|(with_reducible first|apply aC|apply nC|apply dC)|exact HR125.out))|(with_reducible first|apply aC|apply nC|apply dC)));(case aB=>exact (kB HB.out));(case aF=>exact (fun k_ hk=>Kd.fresh' (Kd.R_lt (rR HO_3.out)) k_ hk));(case aO=>exact (rR (Kd.R_mono HO121.out (fun _ hk=>hk.2))));(case aS=>exact (kZ HB.out));(case aL=>have:=LMc24.out;omega);intro v127 w32 ho hb hg hat;rw [← Ny126.out] at ho;replace HB:=mk0 (hb);replace HR125:=mk0 ((show Kd.C (Kd.int .i64) w32 A31 y122.length y122 from by rw [Ny122.out,KA31.out];exact Kd.C_drop (m:=(x5_2:Int).toNat) (c:=co7) ((Kd.R_reads' (Kd.R_after (ok:=(fun _=>True)) (rR HO_3.out) hg hat)).2.2) KL31.out ((Kd.R_reads' (Kd.R_after (ok:=(fun _=>True)) (rR HO_3.out) hg hat)).2.1)));replace HO_3:=mk0 (Kd.R_after (ok:=(fun _=>True)) (rR HO_3.out) hg hat);have HO128:=mk0 (ho);clear HO121 ho hb hg hat)|((with_reducible refine gate_dst (N:=48) rfl ?_);refine Kd.R_lit (Kd.int .i64) _ 3 ?hg (N:=48) ?hd (xs:=([]:List Int)) (inner:=[]) (ok:=fun _=>True) (okp:=fun _=>True) ?hr ?hp (fun _ hk=>hk) trivial (Below.refl _ _) (Nat.le_refl _) (by simp) ?_;(case hd=>rfl);(case hg=>rfl);(case hr=>first|(go_simp;done)|(go_simp;rfl));(case hp=>exact (Reps.none _ _));intro v130 w33 ho34 hb hg_ hnew_;clear hg_ hnew_;(first|rw [← Ny129.out] at ho34|(simp only [Int.reduceToNat] at ho34;rw [← Ny129.out] at ho34));have HO131:=mk0 (Kd.R_lower (Kd.R_new' (Kd.R_new' ho34 (Kd.R_lt (rR HO_3.out))) (Kd.R_lt (rR HO128.out))) (kZ HB.out));replace HO_3:=mk0 (Kd.R_elder' (rR HO_3.out) (Kd.R_base ho34) hb);replace HO128:=mk0 (Kd.R_elder' (rR HO128.out) (Kd.R_base ho34) hb);replace HR125:=mk0 (Kd.C_below (by repeat (first|(with_reducible exact HR125.out)|(with_reducible first|apply aC|apply nC|apply dC)|exact HR125.out)) hb);replace HB:=mk0 (kS HB.out hb);clear hb ho34;have q35:(x5_2:Int) ≤ ((x3_1.length:Int):Int):=of_decide_eq_true (by first|(with_reducible assumption)|assumption);obtain⟨i035,hi035,_,hsz35,_⟩:=info_parts info3;have hroom35:x3_1.length ≤ co7:=(Kd.R_reads' HO_3.out).2.1;have hC35:Kd.C (Kd.int .i64) _ Ao7 x3_1.length x3_1:=(Kd.R_reads' HO_3.out).2.2;have hcut35:=cut_to (P:=Try.prog) 45 3 .i64 Try.underlying45 hi035 Ao7 x3_1.length co7 x5_2 (of_decide_eq_true (by first|(with_reducible assumption)|assumption)) q35 hroom35;have hr35:=Kd.C_take (m:=(x5_2:Int).toNat) hC35 (by omega);have hy35:y132.length = (x5_2:Int).toNat:=(by rw [Ny132.out,List.length_take];omega);rw [← Ny132.out] at hr35;rw [← hy35] at hcut35;have HR135:=mk0 hr35;have HC135:=mk0 (show y132.length ≤ co7 from by omega);clear hr35 hC35 hroom35 hi035 hsz35;have KY35:=mk0 hy35;clear hy35;have KL35:=mk0 (show (x5_2:Int).toNat ≤ x3_1.length from by omega);replace q35:=eq_true q35)|((with_reducible refine gate_builtin (b:=.append) (xs:=#[.tmp 48,.tmp 51]) rfl ?_);at_builtin;refine Kd.R_append_rows (Kd.int .i64) (w0:=w) w.heap.size rfl (.tmp 48) (.tmp 51) 45 3 (.int .i64 0) 8 rfl Try.underlying45 info3 rfl (by decide) (by omega) v130 y129 y132 _ _ _ (fun k_=>some k_ ≠ (.slice Ao7 x3_1.length co7:Value).ownBlock ∧ some k_ ≠ (v127:Value).ownBlock) (fun _=>False) rfl rfl ?aO ?aR (fun _ _ h=>h) (fun _ h=>h.elim) ?aF ?aB ?aS ?aL ?_;(case aR=>repeat (first|exact (by repeat (first|(with_reducible exact HR135.out)|(with_reducible first|apply aC|apply nC|apply dC)|exact HR135.out))|(with_reducible first|apply aC|apply nC|apply dC)));(case aB=>exact (kB HB.out));(case aF=>exact (fun k_ hk=>⟨Kd.fresh' (Kd.R_lt (rR HO_3.out)) k_ hk,Kd.fresh' (Kd.R_lt (rR HO128.out)) k_ hk⟩));(case aO=>exact (rR (Kd.R_mono HO131.out (fun _ hk=>⟨hk.1.2,hk.2⟩))));(case aS=>exact (kZ HB.out));(case aL=>have:=LMc27.out;omega);intro v137 w36 ho hb hg hat;rw [← Ny136.out] at ho;replace HO128:=mk0 (Kd.R_after (ok:=(fun k_=>some k_ ≠ (.slice Ao7 x3_1.length co7:Value).ownBlock)) (rR HO128.out) hg hat);replace HB:=mk0 (hb);replace HR125:=mk0 ((show Kd.C (Kd.int .i64) w36 A31 y122.length y122 from by rw [Ny122.out,KA31.out];exact Kd.C_drop (m:=(x5_2:Int).toNat) (c:=co7) ((Kd.R_reads' (Kd.R_after (ok:=(fun k_=>some k_ ≠ (v127:Value).ownBlock)) (rR (Kd.R_mono HO_3.out (fun _ hk=>⟨hk.1.2,hk.2⟩))) hg hat)).2.2) KL31.out ((Kd.R_reads' (Kd.R_after (ok:=(fun k_=>some k_ ≠ (v127:Value).ownBlock)) (rR (Kd.R_mono HO_3.out (fun _ hk=>⟨hk.1.2,hk.2⟩))) hg hat)).2.1)));replace HR135:=mk0 ((show Kd.C (Kd.int .i64) w36 Ao7 y132.length y132 from by rw [Ny132.out];exact Kd.C_take (m:=(x5_2:Int).toNat) ((Kd.R_reads' (Kd.R_after (ok:=(fun k_=>some k_ ≠ (v127:Value).ownBlock)) (rR (Kd.R_mono HO_3.out (fun _ hk=>⟨hk.1.2,hk.2⟩))) hg hat)).2.2) KL35.out));replace HO_3:=mk0 (Kd.R_after (ok:=(fun k_=>some k_ ≠ (v127:Value).ownBlock)) (rR (Kd.R_mono HO_3.out (fun _ hk=>⟨hk.1.2,hk.2⟩))) hg hat);have HO138:=mk0 (ho);clear HO131 ho hb hg hat;obtain⟨Ao38,co38,eo38⟩:=Kd.R_slice HO128.out;subst eo38)|((with_reducible refine gate_builtin (b:=.append) (xs:=#[.tmp 52,.tmp 53]) rfl ?_);at_builtin;refine Kd.R_append_rows (Kd.int .i64) (w0:=w) w.heap.size rfl (.tmp 52) (.tmp 53) 45 3 (.int .i64 0) 8 rfl Try.underlying45 info3 rfl (by decide) (by omega) v137 y136 y126 _ _ _ (fun k_=>some k_ ≠ (.slice Ao7 x3_1.length co7:Value).ownBlock ∧ some k_ ≠ (.slice Ao38 y126.length co38:Value).ownBlock) (fun _=>False) rfl rfl ?aO ?aR (fun _ _ h=>h) (fun _ h=>h.elim) ?aF ?aB ?aS ?aL ?_;(case aR=>repeat (first|exact (Kd.R_reads' HO128.out).2.2|(with_reducible first|apply aC|apply nC|apply dC)));(case aB=>exact (kB HB.out));(case aF=>exact (fun k_ hk=>⟨Kd.fresh' (Kd.R_lt (rR HO_3.out)) k_ hk,Kd.fresh' (Kd.R_lt (rR HO128.out)) k_ hk⟩));(case aO=>exact (rR HO138.out));(case aS=>exact (kZ HB.out));(case aL=>have:=LMc28.out;omega);intro v140 w37 ho hb hg hat;rw [← Ny139.out] at ho;replace HO128:=mk0 (Kd.R_after (ok:=(fun k_=>some k_ ≠ (.slice Ao7 x3_1.length co7:Value).ownBlock)) (rR HO128.out) hg hat);replace HB:=mk0 (hb);replace HR125:=mk0 ((show Kd.C (Kd.int .i64) w37 A31 y122.length y122 from by rw [Ny122.out,KA31.out];exact Kd.C_drop (m:=(x5_2:Int).toNat) (c:=co7) ((Kd.R_reads' (Kd.R_after (ok:=(fun k_=>some k_ ≠ (.slice Ao38 y126.length co38:Value).ownBlock)) (rR HO_3.out) hg hat)).2.2) KL31.out ((Kd.R_reads' (Kd.R_after (ok:=(fun k_=>some k_ ≠ (.slice Ao38 y126.length co38:Value).ownBlock)) (rR HO_3.out) hg hat)).2.1)));replace HR135:=mk0 ((show Kd.C (Kd.int .i64) w37 Ao7 y132.length y132 from by rw [Ny132.out];exact Kd.C_take (m:=(x5_2:Int).toNat) ((Kd.R_reads' (Kd.R_after (ok:=(fun k_=>some k_ ≠ (.slice Ao38 y126.length co38:Value).ownBlock)) (rR HO_3.out) hg hat)).2.2) KL35.out));replace HO_3:=mk0 (Kd.R_after (ok:=(fun k_=>some k_ ≠ (.slice Ao38 y126.length co38:Value).ownBlock)) (rR HO_3.out) hg hat);have HO141:=mk0 (ho);clear HO138 ho hb hg hat)))
     go_roundg k2
     case measure=>have:=HK1.out;have:=HK2.out;omega
     case rel=>exact⟨(y139),(wrap64 (x4_1 - 1)),(by first|rfl|(simp;done)|(simp [*];done)),H',⟨by have:=HK1.out;have:=HK2.out;omega⟩,⟨rR (Kd.R_mono HO141.out (fun _ hk=>trivial))⟩,⟨kB HB.out⟩⟩
/-! ### spec_l13Head: function 71 -/
def spec_l13Head.f (l0 : List Int) (a1 : Int) (a2 : Int) : Option (List Int) := if 0 ≤ a1 then (if a1 ≤ (mn (l0.length : Int) (wrap64 (a1 + a2))) then (if (mn (l0.length : Int) (wrap64 (a1 + a2))) ≤ (l0.length : Int) then (some ((l0.take ((mn (l0.length : Int) (wrap64 (a1 + a2))) : Int).toNat).drop (a1 : Int).toNat)) else (none)) else (none)) else (none)
set_option maxHeartbeats 8000000 in
set_option maxRecDepth 100000 in
theorem spec_l13Head.calls (P0_ : Nat → Prop) (A0 : Option Addr) (c0 : Nat) (l0 : List Int) (a1 : Int) (a2 : Int) (r : List Int) (w : World) (hs0 : Kd.V (Kd.int .u8) 5 w w.heap.size (fun k_ => P0_ k_) (.slice A0 l0.length c0) l0) (h : spec_l13Head.f l0 a1 a2 = some r) :
  Calls Try.prog 71 #[.slice A0 l0.length c0, .int .i64 a1, .int .i64 a2] w fun e w' => ∃ v0_ : Value, e = .returned (v0_) ∧ Kd.V (Kd.int .u8) 5 w' w.heap.size (fun k_ => (P0_ k_ ∨ w.heap.size ≤ k_)) v0_ r ∧ Below w.heap.size w w' := by
 have HO0:=mk0 (show Kd.V (Kd.int .u8) 5 w w.heap.size (fun k_=>(P0_ k_ ∨ w.heap.size ≤ k_)) (.slice A0 l0.length c0) l0 from Kd.V_mono hs0 (fun k_ hk=>.inl hk))
 have HB:=mk0 (Below.refl w.heap.size w)
 have H:(if 0 ≤ a1 then (if a1 ≤ (mn (l0.length:Int) (wrap64 (a1 + a2))) then (if (mn (l0.length:Int) (wrap64 (a1 + a2))) ≤ (l0.length:Int) then (some ((l0.take ((mn (l0.length:Int) (wrap64 (a1 + a2))):Int).toNat).drop (a1:Int).toNat)) else (none)) else (none)) else (none)) = some r:=h
 clear h
 obtain⟨ji4,hji4⟩:∃ j_:Int,(mn (l0.length:Int) (wrap64 (a1 + a2))) = j_:=⟨_,rfl⟩
 replace H:(if 0 ≤ a1 then (if a1 ≤ (ji4) then (if (ji4) ≤ (l0.length:Int) then (some ((l0.take ((ji4):Int).toNat).drop (a1:Int).toNat)) else (none)) else (none)) else (none)) = some r:=by first|(rw [hji4] at H;exact H)|(simp only [hji4] at H ⊢;exact H)
 have hji4_:(if (wrap64 (a1 + a2)) < (l0.length:Int) then (wrap64 (a1 + a2)) else (l0.length:Int)) = ji4:=hji4
 by_cases c5:0 ≤ a1
 ·rw [if_pos c5] at H
  have c5b0:=eq_true c5
  have c5b1:decide (0 ≤ a1) = true:=decide_eq_true c5
  clear c5
  by_cases c6:a1 ≤ (ji4)
  ·rw [if_pos c6] at H
   have c6b0:=eq_true c6
   have c6b1:decide (a1 ≤ (ji4)) = true:=decide_eq_true c6
   clear c6
   by_cases c7:(ji4) ≤ (l0.length:Int)
   ·rw [if_pos c7] at H
    have c7b0:=eq_true c7
    have c7b1:decide ((ji4) ≤ (l0.length:Int)) = true:=decide_eq_true c7
    clear c7
    obtain⟨y146,hy146⟩:∃ y_:List Int,y_ = ((l0.take ((ji4):Int).toNat).drop (a1:Int).toNat):=⟨_,rfl⟩
    replace H:(some y146) = some r:=by first|(rw [hy146];with_reducible exact H)|(have H2_:=(Option.bind_some _ _).symm.trans H;rw [hy146];with_reducible exact H2_)|(have H2_:=(Option.bind_some _ _).symm.trans H;with_reducible exact H2_)|with_reducible exact H|(rw [hy146];exact H)|exact H
    have Ny146:=mk0 hy146
    clear hy146
    obtain rfl:=Option.some.inj H
    have q8:((ji4):Int) ≤ ((l0.length:Int):Int):=of_decide_eq_true (by first|(with_reducible assumption)|assumption)
    obtain⟨i08,hi08,_,hsz8,_⟩:=info_parts info5
    have hroom8:l0.length ≤ c0:=(Kd.V_reads' HO0.out).2.1
    have hC8:Kd.F (Kd.int .u8) _ _ A0 l0.length l0:=(Kd.V_at (base:=w.heap.size) HO0.out).2.2
    have ql8:(a1:Int) ≤ ((ji4):Int):=of_decide_eq_true (by first|(with_reducible assumption)|assumption)
    have q08:(0:Int) ≤ (a1:Int):=of_decide_eq_true (by first|(with_reducible assumption)|assumption)
    have hcut8:=cut_mid (P:=Try.prog) 22 5 .i64 .i64 Try.underlying22 hi08 1 hsz8 A0 l0.length c0 a1 (ji4) q08 ql8 q8 hroom8
    have hr8:=Kd.F_mid (lo:=(a1:Int).toNat) (hi:=((ji4):Int).toNat) (c:=c0) hC8 (by omega) (by omega) hroom8
    obtain⟨A8,hA8⟩:∃ A1,A1 = (if c0 = (a1:Int).toNat then A0 else (A0:Option Addr).map (·.add ((a1:Int).toNat * 1))):=⟨_,rfl⟩
    obtain⟨c8,hc8⟩:∃ c1,c1 = c0 - (a1:Int).toNat:=⟨_,rfl⟩
    have hy8:y146.length = ((ji4):Int).toNat - (a1:Int).toNat:=(by rw [Ny146.out,List.length_drop,List.length_take] <;> omega)
    rw [show ((l0).take ((ji4):Int).toNat).drop (a1:Int).toNat = y146 from Ny146.out.symm] at hr8
    replace hr8:Kd.F (Kd.int .u8) _ _ A8 y146.length y146:=(by rw [hA8];exact hr8)
    rw [← hy8, ← hA8, ← hc8] at hcut8
    have HO150:=mk0 (show Kd.V (Kd.int .u8) 5 _ w.heap.size _ (.slice A8 y146.length c8) y146 from Kd.V_mk (by rw [hy8,hc8];exact Nat.sub_le_sub_right (Nat.le_trans (by omega) hroom8) _) hr8)
    have HC150:=mk0 (show y146.length ≤ c8 from by rw [hy8,hc8];exact Nat.sub_le_sub_right (Nat.le_trans (by omega) hroom8) _)
    clear hr8 hC8 hroom8 hi08 hsz8 hc8
    have KY8:=mk0 hy8
    have KA8:=mk0 hA8
    clear hy8 hA8
    replace q8:=eq_true q8
    go_enter Try.func71,Try.ntmps71
    go_wp2
    go_ret
    exact⟨_,by first|rfl|(simp [errW_none,errW_some] <;> rfl)|(simp only [← hji4];first|rfl|(simp [errW_none,errW_some] <;> rfl))|(simp [*,errW_none,errW_some] <;> rfl),rV HO150.out,kB HB.out⟩
   ·rw [if_neg c7] at H
    exact absurd H (by simp)
  ·rw [if_neg c6] at H
   exact absurd H (by simp)
 ·rw [if_neg c5] at H
  exact absurd H (by simp)

/-! ### spec_l13Heads: function 52 -/
def spec_l13Heads.l0 : Nat → List Int → Int → List (List Int) → Int → List Int → Option ((List (List Int)))
 | 0, _, _, _, _, _ => none
 | k + 1, x0, x1, x6, x7, x9 => if x7 < (x9.length : Int) then (if 0 ≤ x7 then ((spec_l13Head.f x0 (rd x9 x7) x1).bind fun t158 => (if x6.length < 5864062014805 then (spec_l13Heads.l0 k x0 x1 (x6 ++ [t158]) (wrap64 (x7 + 1)) x9) else (none))) else (none)) else (some x6)
def spec_l13Heads.f (k : Nat) (l0 : List Int) (a1 : Int) : Option ((List (List Int))) := (spec_SuffixRows.f k l0).bind fun t151 => (spec_l13Heads.l0 k l0 a1 (([] : List (List Int))) 0 t151)
theorem spec_l13Heads.mono_l : ∀ k, (∀ y0 y1 y2 y3 y4, LeO (spec_l13Heads.l0 k y0 y1 y2 y3 y4) (spec_l13Heads.l0 (k + 1) y0 y1 y2 y3 y4))
 | 0 => fun _ _ _ _ _ r h => by simp [spec_l13Heads.l0] at h
 | k + 1 => by
  have ih0 := spec_l13Heads.mono_l k
  ·intro y0 y1 y2 y3 y4
   unfold spec_l13Heads.l0
   repeat' first|(with_reducible first|exact ih0 _ _ _ _ _|exact spec_SuffixRows.mono _ _|exact LeO.refl _|exact LeO.none _|refine LeO.ite ?_ ?_|refine LeO.bind ?_ (fun _ => ?_))|exact LeO.none _|refine LeO.ite ?_ ?_|refine LeO.bind ?_ (fun _ => ?_)
theorem spec_l13Heads.mono : ∀ a0 a1 k, LeO (spec_l13Heads.f k a0 a1) (spec_l13Heads.f (k + 1) a0 a1) := by
 intro a0 a1 k
 have ih0 := spec_l13Heads.mono_l k
 unfold spec_l13Heads.f
 repeat' first|(with_reducible first|exact ih0 _ _ _ _ _|exact spec_SuffixRows.mono _ _|exact LeO.refl _|exact LeO.none _|refine LeO.ite ?_ ?_|refine LeO.bind ?_ (fun _ => ?_))|exact LeO.none _|refine LeO.ite ?_ ?_|refine LeO.bind ?_ (fun _ => ?_)
set_option maxHeartbeats 8000000 in
set_option maxRecDepth 100000 in
theorem spec_l13Heads.calls (k : Nat) (P0_ : Nat → Prop) (A0 : Option Addr) (c0 : Nat) (l0 : List Int) (a1 : Int) (r : List (List Int)) (w : World) (hs0 : Kd.V (Kd.int .u8) 5 w w.heap.size (fun k_ => P0_ k_) (.slice A0 l0.length c0) l0) (h : spec_l13Heads.f k l0 a1 = some r) :
  Calls Try.prog 52 #[.slice A0 l0.length c0, .int .i64 a1] w fun e w' => ∃ v0_ : Value, e = .returned (v0_) ∧ Kd.N (Kd.slice 5 (Kd.int .u8)) 22 w' w.heap.size (fun k_ => (P0_ k_ ∨ w.heap.size ≤ k_)) v0_ r ∧ Below w.heap.size w w' := by
 have HO0:=mk0 (show Kd.V (Kd.int .u8) 5 w w.heap.size (fun k_=>(P0_ k_ ∨ w.heap.size ≤ k_)) (.slice A0 l0.length c0) l0 from Kd.V_mono hs0 (fun k_ hk=>.inl hk))
 have HB:=mk0 (Below.refl w.heap.size w)
 have H:((spec_SuffixRows.f k l0).bind fun t151=>(spec_l13Heads.l0 k l0 a1 (([]:List (List Int))) 0 t151)) = some r:=h
 clear h
 replace H:=Option.bind_eq_some_iff.mp H
 obtain⟨t151,A30,H⟩:=H
 replace H:(spec_l13Heads.l0 k l0 a1 (([]:List (List Int))) 0 t151) = some r:=H
 have A3:=mk0 A30
 clear A30
 obtain⟨y154,hy154⟩:∃ y_:List (List Int),y_ = (([]:List (List Int))):=⟨_,rfl⟩
 replace H:(spec_l13Heads.l0 k l0 a1 y154 0 t151) = some r:=by first|(rw [hy154];with_reducible exact H)|(have H2_:=(Option.bind_some _ _).symm.trans H;rw [hy154];with_reducible exact H2_)|(have H2_:=(Option.bind_some _ _).symm.trans H;with_reducible exact H2_)|with_reducible exact H|(rw [hy154];exact H)|exact H
 have Ny154:=mk0 hy154
 clear hy154
 have H':=mk0 H
 clear H
 go_enter Try.func52,Try.ntmps52
 go_wp2_with (first|((with_reducible refine gate_callee (f:=30) rfl ?_);refine gL (some 9) Try.func30 #[.slice A0 l0.length c0] ?_;(with_reducible refine (spec_SuffixRows.calls k _ _ l0 t151 _ ?side1 ?side2 A3.out).mono ?_);(case side1=>exact kC (Kd.V_reads' HO0.out).2.2);(case side2=>exact (Kd.V_reads' HO0.out).2.1);rintro e w4 ⟨v152,rfl,ho0,hb⟩;refine⟨_,rfl,?_⟩;replace HO0:=mk0 (Kd.V_elder' (rV HO0.out) (Kd.R_base ho0) hb);have HO153:=mk0 (Kd.R_lower (Kd.R_newM (M:=fun k_=>(w.heap.size ≤ k_)) ho0 (kZ HB.out) (fun k_ h_=>h_)) (kZ HB.out));replace HB:=mk0 (kS HB.out hb);(try clear hb);(try clear ho0))|((with_reducible refine gate_dst (N:=10) rfl ?_);refine Kd.N_lit (Kd.slice 5 (Kd.int .u8)) _ 22 ?hg (N':=10) ?hd (xs:=([]:List (List Int))) (inner:=[]) (ok:=(fun k_=>(P0_ k_ ∨ w.heap.size ≤ k_) ∧ some k_ ≠ (v152:Value).ownBlock)) (okp:=(fun k_=>(P0_ k_ ∨ w.heap.size ≤ k_) ∧ some k_ ≠ (v152:Value).ownBlock)) ?hr ?hp (fun _ hk=>hk) ((show ∀ k_,w4.heap.size ≤ k_ → (fun k_=>(P0_ k_ ∨ w.heap.size ≤ k_) ∧ some k_ ≠ (v152:Value).ownBlock) k_ from fun k_ hk=>⟨(.inr (Nat.le_trans (kZ HB.out) hk)),Kd.fresh' (Kd.R_lt (rR HO153.out)) k_ hk⟩) _ (Nat.le_refl _)) (Below.refl _ _) (Nat.le_refl _) (by simp) ?_;(case hd=>rfl);(case hg=>rfl);(case hr=>first|(go_simp;done)|(go_simp;rfl));(case hp=>exact (Reps.none _ _));intro v155 w5 ho6 hb hg_ hnew_;clear hg_ hnew_;(first|rw [← Ny154.out] at ho6|(simp only [Int.reduceToNat] at ho6;rw [← Ny154.out] at ho6));replace HO0:=mk0 (Kd.V_elder' (rV HO0.out) (Kd.N_base ho6) hb);replace HO153:=mk0 (bR HO153.out hb);have HO156:=mk0 (Kd.N_lower ho6 (kZ HB.out));replace HB:=mk0 (kS HB.out hb);clear hb ho6))
 go_loopg [6,7] k (fun kq v6 v7 w'=>∃ (x6_1:List (List Int)) (x7_1:Int),v7 = .int .i64 x7_1 ∧ Aside0 (spec_l13Heads.l0 kq l0 a1 x6_1 x7_1 t151 = some r) ∧ Aside0 (kq ≤ k) ∧ Aside0 (Kd.V (Kd.int .u8) 5 w' w.heap.size (fun k_=>(P0_ k_ ∨ w.heap.size ≤ k_) ∧ some k_ ≠ (v6:Value).ownBlock ∧ some k_ ≠ (v152:Value).ownBlock) (.slice A0 l0.length c0) l0) ∧ Aside0 (Kd.N (Kd.slice 5 (Kd.int .u8)) 22 w' w.heap.size (fun k_=>(P0_ k_ ∨ w.heap.size ≤ k_) ∧ some k_ ≠ (v152:Value).ownBlock) v6 x6_1) ∧ Aside0 (Kd.R (Kd.int .i64) 3 w' w.heap.size (fun k_=>(w.heap.size ≤ k_)) v152 t151) ∧ Aside0 (Below w.heap.size w w'))
 case atStart=>exact⟨(y154),(0),(by first|rfl|(simp;done)|(simp [*];done)),H',⟨Nat.le_refl _⟩,⟨rV (Kd.V_mono HO0.out (fun _ hk=>⟨hk.1.1,⟨hk.2,hk.1.2⟩⟩))⟩,⟨rN HO156.out⟩,⟨rR (Kd.R_mono HO153.out (fun _ hk=>hk.1))⟩,⟨kB HB.out⟩⟩
 case round =>
  clear H'
  try clear p2
  try clear c3
  try clear c5
  obtain⟨x6_1,x7_1,rfl,HA,HK1,HO_0,HO_6,HO_9,HB⟩:=hrel
  cases gk with
  | zero=>exact absurd HA.out (by simp [spec_l13Heads.l0])
  | succ k1 =>
   have H:=HA.out
   clear HA
   simp only [spec_l13Heads.l0] at H
   by_cases c7:x7_1 < (t151.length:Int)
   ·rw [if_pos c7] at H
    have c7b0:decide (x7_1 < (t151.length:Int)) = true:=decide_eq_true c7
    clear c7
    by_cases c8:0 ≤ x7_1
    ·rw [if_pos c8] at H
     have c8b0:decide (0 ≤ x7_1) = true:=decide_eq_true c8
     clear c8
     replace H:=Option.bind_eq_some_iff.mp H
     obtain⟨t158,A90,H⟩:=H
     replace H:(if x6_1.length < 5864062014805 then (spec_l13Heads.l0 k1 l0 a1 (x6_1 ++ [t158]) (wrap64 (x7_1 + 1)) t151) else (none)) = some r:=H
     have A9:=mk0 A90
     clear A90
     by_cases c10:x6_1.length < 5864062014805
     ·rw [if_pos c10] at H
      have LMc10:=mk0 c10
      clear c10
      obtain⟨y161,hy161⟩:∃ y_:List (List Int),y_ = (x6_1 ++ [t158]):=⟨_,rfl⟩
      replace H:(spec_l13Heads.l0 k1 l0 a1 y161 (wrap64 (x7_1 + 1)) t151) = some r:=by first|(rw [hy161];with_reducible exact H)|(have H2_:=(Option.bind_some _ _).symm.trans H;rw [hy161];with_reducible exact H2_)|(have H2_:=(Option.bind_some _ _).symm.trans H;with_reducible exact H2_)|with_reducible exact H|(rw [hy161];exact H)|exact H
      have Ny161:=mk0 hy161
      clear hy161
      have H':=mk0 H
      clear H
      obtain⟨Ao11,co11,eo11⟩:=Kd.R_slice HO_9.out
      subst eo11
      have p157:0 ≤ (x7_1:Int):=of_decide_eq_true (by first|(with_reducible assumption)|assumption)
      have q157:x7_1 < (t151.length:Int):=of_decide_eq_true (by first|(with_reducible assumption)|assumption)
      obtain⟨ad157,e157,hx157_0⟩:=Kd.at_int (Kd.R_reads' HO_9.out).2.2 x7_1 p157 q157
      cases e157
      replace p157:=eq_true p157
      replace q157:=eq_true q157
      go_wp2_with (first|((with_reducible refine gate_callee (f:=71) rfl ?_);refine gL (some 24) Try.func71 #[.slice A0 l0.length c0,.int .i64 (rd t151 x7_1),.int .i64 a1] ?_;(with_reducible refine (spec_l13Head.calls (fun k_=>((P0_ k_ ∨ w.heap.size ≤ k_) ∧ (some k_ ≠ (u6:Value).ownBlock ∧ some k_ ≠ (.slice (some ad157) t151.length co11:Value).ownBlock))) _ _ l0 (rd t151 x7_1) a1 t158 _ ?side1 A9.out).mono ?_);(case side1=>exact HO_0.out);rintro e w12 ⟨v159,rfl,ho0,hb⟩;refine⟨_,rfl,?_⟩;replace HO_0:=mk0 (bV HO_0.out hb);have HO160:=mk0 (Kd.V_lower (Kd.V_mono (ok':=fun k_=>(P0_ k_ ∨ w.heap.size ≤ k_) ∧ some k_ ≠ (u6:Value).ownBlock ∧ some k_ ≠ (.slice (some ad157) t151.length co11:Value).ownBlock) ho0 (fun k_ hk_=>⟨Or.elim hk_ (fun hs_=>hs_.1) (fun hn_=>(.inr (Nat.le_trans (kZ HB.out) hn_))),Or.elim hk_ (fun hs_=>hs_.2.1) (fun hn_=>(Kd.fresh' (Kd.N_lt (rN HO_6.out)) k_ hn_)),Or.elim hk_ (fun hs_=>hs_.2.2) (fun hn_=>(Kd.fresh' (Kd.R_lt (rR HO_9.out)) k_ hn_))⟩)) (kZ HB.out));replace HO_6:=mk0 (bN HO_6.out hb);replace HO_9:=mk0 (bR HO_9.out hb);replace HB:=mk0 (kS HB.out hb);(try clear hb);(try clear ho0);obtain⟨Ao14,co14,eo14⟩:=Kd.V_slice HO160.out;subst eo14)|((with_reducible refine gate_builtin (b:=.append) (xs:=#[.tmp 17,.tmp 25]) rfl ?_);at_builtin;refine Kd.N_append (Kd.slice 5 (Kd.int .u8)) (w0:=w) w.heap.size rfl (.tmp 17) (.tmp 25) 66 22 (.slice none 0 0) 24 rfl Try.underlying66 info22 rfl (by decide) (by omega) u6 x6_1 t158 [.slice Ao14 t158.length co14] (fun k_=>(P0_ k_ ∨ w.heap.size ≤ k_) ∧ some k_ ≠ (.slice (some ad157) t151.length co11:Value).ownBlock) (fun k_=>((fun k_=>(P0_ k_ ∨ w.heap.size ≤ k_) ∧ some k_ ≠ (.slice (some ad157) t151.length co11:Value).ownBlock)) k_ ∧ some k_ ≠ (u6:Value).ownBlock) rfl rfl ?aP (fun _ hk=>hk) ?aF ?aO ?aB ?aS ?aL ?_;(case aP=>exact (Kd.FK_slice_mk (Kd.V_reads' (Kd.V_mono (ok':=(fun k_=>((fun k_=>(P0_ k_ ∨ w.heap.size ≤ k_) ∧ some k_ ≠ (.slice (some ad157) t151.length co11:Value).ownBlock)) k_ ∧ some k_ ≠ (u6:Value).ownBlock)) (HO160.out) (fun k_ hk=>⟨⟨hk.1,hk.2.2⟩,hk.2.1⟩))).2.1 (Kd.V_F (Kd.V_mono (ok':=(fun k_=>((fun k_=>(P0_ k_ ∨ w.heap.size ≤ k_) ∧ some k_ ≠ (.slice (some ad157) t151.length co11:Value).ownBlock)) k_ ∧ some k_ ≠ (u6:Value).ownBlock)) (HO160.out) (fun k_ hk=>⟨⟨hk.1,hk.2.2⟩,hk.2.1⟩)))));(case aB=>exact (kB HB.out));(case aF=>exact (fun k_ hk=>⟨(.inr (Nat.le_trans (kZ HB.out) hk)),Kd.fresh' (Kd.R_lt (rR HO_9.out)) k_ hk⟩));(case aO=>exact (rN HO_6.out));(case aS=>exact (kZ HB.out));(case aL=>have:=LMc10.out;omega);intro v162 w13 ho hb hg hat;rw [← Ny161.out] at ho;replace HO_0:=mk0 (Kd.V_afterv (ok:=(fun k_=>(P0_ k_ ∨ w.heap.size ≤ k_) ∧ some k_ ≠ (.slice (some ad157) t151.length co11:Value).ownBlock)) (rV (Kd.V_mono HO_0.out (fun _ hk=>⟨⟨hk.1,hk.2.2⟩,hk.2.1⟩))) hg hat);replace HO_9:=mk0 (Kd.R_over' (rR HO_9.out) (Kd.N_typed (rN HO_6.out)) (by decide) hg);replace HO160:=mk0 (Kd.V_afterv (ok:=(fun k_=>(P0_ k_ ∨ w.heap.size ≤ k_) ∧ some k_ ≠ (.slice (some ad157) t151.length co11:Value).ownBlock)) (rV (Kd.V_mono HO160.out (fun _ hk=>⟨⟨hk.1,hk.2.2⟩,hk.2.1⟩))) hg hat);replace HB:=mk0 (hb);have HO163:=mk0 (ho);clear HO_6 ho hb hg hat))
      go_roundg k1
      case measure=>have:=HK1.out;omega
      case rel=>exact⟨(y161),(wrap64 (x7_1 + 1)),(by first|rfl|(simp;done)|(simp [*];done)),H',⟨by have:=HK1.out;omega⟩,⟨rV (Kd.V_mono HO_0.out (fun _ hk=>⟨hk.1.1,⟨hk.2,hk.1.2⟩⟩))⟩,⟨rN HO163.out⟩,⟨rR HO_9.out⟩,⟨kB HB.out⟩⟩
     ·rw [if_neg c10] at H
      exact absurd H (by simp)
    ·rw [if_neg c8] at H
     exact absurd H (by simp)
   ·rw [if_neg c7] at H
    have c7b0:decide (x7_1 < (t151.length:Int)) = false:=decide_eq_false c7
    clear c7
    obtain rfl:=Option.some.inj H
    obtain⟨Ao15,co15,eo15⟩:=Kd.R_slice HO_9.out
    subst eo15
    go_wp2
    go_ret
    exact⟨_,by first|rfl|(simp [errW_none,errW_some] <;> rfl)|(simp [*,errW_none,errW_some] <;> rfl),rN (Kd.N_mono HO_6.out (fun _ hk=>hk.1)),kB HB.out⟩

/-! ### spec_l13Span: function 54 -/
mutual
def spec_l13Span.l0 : Nat → List (List Int) → List Int → Int → Int → Int → Option (Int × Int)
 | 0, _, _, _, _, _ => none
 | k + 1, x0, x1, x6, x7, x8 => if x8 < (x0.length : Int) then (if 0 ≤ x8 then ((spec_l05Cmp.f k (rd_L2 x0 x8) x1).bind fun t165 => (if t165 < 0 then (spec_l13Span.j1 k x0 x1 (wrap64 (x6 + 1)) x7 x8 t165) else (spec_l13Span.j1 k x0 x1 x6 x7 x8 t165))) else (none)) else (some (x6, x7))
def spec_l13Span.j1 : Nat → List (List Int) → List Int → Int → Int → Int → Int → Option (Int × Int)
 | 0, _, _, _, _, _, _ => none
 | k + 1, x0, x1, x6, x7, x8, x9 => if x9 ≤ 0 then (spec_l13Span.l0 k x0 x1 x6 (wrap64 (x7 + 1)) (wrap64 (x8 + 1))) else (spec_l13Span.l0 k x0 x1 x6 x7 (wrap64 (x8 + 1)))
end
def spec_l13Span.f (k : Nat) (l0 : List (List Int)) (l1 : List Int) : Option (Int × Int) := spec_l13Span.l0 k l0 l1 0 0 0
theorem spec_l13Span.mono_l : ∀ k, (∀ y0 y1 y2 y3 y4, LeO (spec_l13Span.l0 k y0 y1 y2 y3 y4) (spec_l13Span.l0 (k + 1) y0 y1 y2 y3 y4)) ∧ (∀ y0 y1 y2 y3 y4 y5, LeO (spec_l13Span.j1 k y0 y1 y2 y3 y4 y5) (spec_l13Span.j1 (k + 1) y0 y1 y2 y3 y4 y5))
 | 0 => ⟨fun _ _ _ _ _ r h => by simp [spec_l13Span.l0] at h, fun _ _ _ _ _ _ r h => by simp [spec_l13Span.j1] at h⟩
 | k + 1 => by
  obtain ⟨ih0, ih1⟩ := spec_l13Span.mono_l k
  refine ⟨?_, ?_⟩
  ·intro y0 y1 y2 y3 y4
   unfold spec_l13Span.l0
   repeat' first|(with_reducible first|exact ih0 _ _ _ _ _|exact ih1 _ _ _ _ _ _|exact spec_l05Cmp.mono _ _ _|exact LeO.refl _|exact LeO.none _|refine LeO.ite ?_ ?_|refine LeO.bind ?_ (fun _ => ?_))|exact LeO.none _|refine LeO.ite ?_ ?_|refine LeO.bind ?_ (fun _ => ?_)
  ·intro y0 y1 y2 y3 y4 y5
   unfold spec_l13Span.j1
   repeat' first|(with_reducible first|exact ih0 _ _ _ _ _|exact ih1 _ _ _ _ _ _|exact spec_l05Cmp.mono _ _ _|exact LeO.refl _|exact LeO.none _|refine LeO.ite ?_ ?_|refine LeO.bind ?_ (fun _ => ?_))|exact LeO.none _|refine LeO.ite ?_ ?_|refine LeO.bind ?_ (fun _ => ?_)
theorem spec_l13Span.mono : ∀ a0 a1 k, LeO (spec_l13Span.f k a0 a1) (spec_l13Span.f (k + 1) a0 a1) := by
 intro a0 a1 k
 obtain ⟨ih0, ih1⟩ := spec_l13Span.mono_l k
 unfold spec_l13Span.f
 repeat' first|(with_reducible first|exact ih0 _ _ _ _ _|exact ih1 _ _ _ _ _ _|exact spec_l05Cmp.mono _ _ _|exact LeO.refl _|exact LeO.none _|refine LeO.ite ?_ ?_|refine LeO.bind ?_ (fun _ => ?_))|exact LeO.none _|refine LeO.ite ?_ ?_|refine LeO.bind ?_ (fun _ => ?_)
set_option maxHeartbeats 8000000 in
set_option maxRecDepth 100000 in
theorem spec_l13Span.calls (k : Nat) (A0 : Option Addr) (c0 : Nat) (l0 : List (List Int)) (A1 : Option Addr) (c1 : Nat) (l1 : List Int) (r1 : Int) (r2 : Int) (w : World) (hr0 : Kd.C (Kd.slice 5 (Kd.int .u8)) w A0 l0.length l0) (hc0 : l0.length ≤ c0) (hr1 : Kd.C (Kd.int .u8) w A1 l1.length l1) (hc1 : l1.length ≤ c1) (h : spec_l13Span.f k l0 l1 = some (r1, r2)) :
  Calls Try.prog 54 #[.slice A0 l0.length c0, .slice A1 l1.length c1] w fun e w' => e = .returned (.tuple #[.int .i64 r1, .int .i64 r2]) ∧ Drawn0 w w' := by
 have HR0:=mk0 hr0
 have HC0:=mk0 hc0
 clear hr0 hc0
 have HR1:=mk0 hr1
 have HC1:=mk0 hc1
 clear hr1 hc1
 have H:(spec_l13Span.l0 k l0 l1 0 0 0) = some (r1,r2):=h
 clear h
 have H':=mk0 H
 clear H
 go_enter Try.func54,Try.ntmps54
 go_wp2
 go_loopg [6,7,8] k (fun kq v6 v7 v8 w'=>∃ (x6_1:Int) (x7_1:Int) (x8_1:Int),v6 = .int .i64 x6_1 ∧ v7 = .int .i64 x7_1 ∧ v8 = .int .i64 x8_1 ∧ Aside0 (spec_l13Span.l0 kq l0 l1 x6_1 x7_1 x8_1 = some (r1,r2)) ∧ Aside0 (kq ≤ k) ∧ Drawn0 w w')
 case atStart=>exact⟨(0),(0),(0),(by first|rfl|(simp;done)|(simp [*];done)),(by first|rfl|(simp;done)|(simp [*];done)),(by first|rfl|(simp;done)|(simp [*];done)),H',⟨Nat.le_refl _⟩,by repeat (first|exact Drawn0.refl _|apply Drawn0.step)⟩
 case round =>
  clear H'
  try clear c1
  try clear p2
  obtain⟨x6_1,x7_1,x8_1,rfl,rfl,rfl,HA,HK1,⟨m1,rfl⟩⟩:=hrel
  cases gk with
  | zero=>exact absurd HA.out (by simp [spec_l13Span.l0])
  | succ k1 =>
   have H:=HA.out
   clear HA
   simp only [spec_l13Span.l0] at H
   by_cases c3:x8_1 < (l0.length:Int)
   ·rw [if_pos c3] at H
    have c3b0:decide (x8_1 < (l0.length:Int)) = true:=decide_eq_true c3
    (try simp only [hl164_0] at c3b0)
    clear c3
    by_cases c4:0 ≤ x8_1
    ·rw [if_pos c4] at H
     have c4b0:decide (0 ≤ x8_1) = true:=decide_eq_true c4
     clear c4
     replace H:=Option.bind_eq_some_iff.mp H
     obtain⟨t165,A50,H⟩:=H
     replace H:(if t165 < 0 then (spec_l13Span.j1 k1 l0 l1 (wrap64 (x6_1 + 1)) x7_1 x8_1 t165) else (spec_l13Span.j1 k1 l0 l1 x6_1 x7_1 x8_1 t165)) = some (r1,r2):=H
     have A5:=mk0 A50
     clear A50
     have HC6:=mk0 H
     clear H
     have p164:0 ≤ (x8_1:Int):=of_decide_eq_true (by first|(with_reducible assumption)|assumption)
     have q164:x8_1 < (l0.length:Int):=of_decide_eq_true (by first|(with_reducible assumption)|assumption)
     obtain⟨ad164,A164_0,c164_0,e164,hx164_0,hl164_0,hi164_0⟩:=at_L2 HR0.out x8_1 p164 q164
     cases e164
     have HR164_0:=mk0 hi164_0
     have HC164_0:=mk0 hl164_0
     clear hi164_0 hl164_0
     replace p164:=eq_true p164
     replace q164:=eq_true q164
     go_upto_if 23 with (first|((with_reducible refine gate_callee (f:=53) rfl ?_);refine gL (some 21) Try.func53 #[.slice A164_0 (rd_L2 l0 x8_1).length c164_0,.slice A1 l1.length c1] ?_;(with_reducible refine (spec_l05Cmp.calls k1 _ _ (rd_L2 l0 x8_1) _ _ l1 t165 _ ?side1 ?side2 ?side3 ?side4 A5.out).mono ?_);(case side1=>repeat (first|exact HR164_0.out|(with_reducible first|apply aC|apply nC|apply dC)));(case side2=>exact HC164_0.out);(case side3=>repeat (first|exact HR1.out|(with_reducible first|apply aC|apply nC|apply dC)));(case side4=>exact HC1.out);rintro e w' ⟨rfl,⟨nd,rfl⟩⟩;refine⟨_,rfl,?_⟩))
     (try simp only [Act.put,sA,sO,sS])
     go_cut [6] (fun v6 wc=>∃ (kq:Nat) (x6_5:Int),v6 = .int .i64 x6_5 ∧ Aside0 (spec_l13Span.j1 kq l0 l1 x6_5 x7_1 x8_1 t165 = some (r1,r2)) ∧ Aside0 (kq ≤ k1) ∧ Drawn0 w wc)
     case first =>
      have H:=HC6.out
      clear HC6
      by_cases c7:t165 < 0
      ·rw [if_pos c7] at H
       have c7b0:decide (t165 < 0) = true:=decide_eq_true c7
       clear c7
       (first|rw [c7b0]|(simp only [i64_w,i32_w];rw [c7b0])|skip)
       have H':=mk0 H
       clear H
       go_wp2
       go_meet
       case rel=>exact⟨_,(wrap64 (x6_1 + 1)),(by first|rfl|(simp;done)|(simp [*];done)),H',⟨by have:=HK1.out;first|omega|exact Nat.le_refl _⟩,by repeat (first|exact Drawn0.refl _|apply Drawn0.step)⟩
      ·rw [if_neg c7] at H
       have c7b0:decide (t165 < 0) = false:=decide_eq_false c7
       clear c7
       (first|rw [c7b0]|(simp only [i64_w,i32_w];rw [c7b0])|skip)
       have H':=mk0 H
       clear H
       go_wp2
       go_meet
       case rel=>exact⟨_,(x6_1),(by first|rfl|(simp;done)|(simp [*];done)),H',⟨by have:=HK1.out;first|omega|exact Nat.le_refl _⟩,by repeat (first|exact Drawn0.refl _|apply Drawn0.step)⟩
     case rest =>
      clear HC6
      try clear c1
      try clear p1
      try clear q1
      try clear hx1
      try clear p2
      try clear c3
      try clear c3b0
      try clear c4
      try clear c4b0
      try clear c5
      try clear p6
      try clear c7
      try clear c7b0
      try clear hx164_0
      try clear p164
      try clear p2
      try clear q164
      obtain⟨kq,x6_5,rfl,HA,HJ5,⟨mc5,rfl⟩⟩:=hcut
      cases kq with
      | zero=>exact absurd HA.out (by simp [spec_l13Span.j1])
      | succ kj5 =>
       have H:=HA.out
       clear HA
       simp only [spec_l13Span.j1] at H
       by_cases c8:t165 ≤ 0
       ·rw [if_pos c8] at H
        have c8b0:decide (t165 ≤ 0) = true:=decide_eq_true c8
        clear c8
        have H':=mk0 H
        clear H
        go_wp2
        go_roundg kj5
        case measure=>have:=HK1.out;have:=HJ5.out;omega
        case rel=>exact⟨(x6_5),(wrap64 (x7_1 + 1)),(wrap64 (x8_1 + 1)),(by first|rfl|(simp;done)|(simp [*];done)),(by first|rfl|(simp;done)|(simp [*];done)),(by first|rfl|(simp;done)|(simp [*];done)),H',⟨by have:=HK1.out;have:=HJ5.out;omega⟩,by repeat (first|exact Drawn0.refl _|apply Drawn0.step)⟩
       ·rw [if_neg c8] at H
        have c8b0:decide (t165 ≤ 0) = false:=decide_eq_false c8
        clear c8
        have H':=mk0 H
        clear H
        go_wp2
        go_roundg kj5
        case measure=>have:=HK1.out;have:=HJ5.out;omega
        case rel=>exact⟨(x6_5),(x7_1),(wrap64 (x8_1 + 1)),(by first|rfl|(simp;done)|(simp [*];done)),(by first|rfl|(simp;done)|(simp [*];done)),(by first|rfl|(simp;done)|(simp [*];done)),H',⟨by have:=HK1.out;have:=HJ5.out;omega⟩,by repeat (first|exact Drawn0.refl _|apply Drawn0.step)⟩
    ·rw [if_neg c4] at H
     exact absurd H (by simp)
   ·rw [if_neg c3] at H
    have c3b0:decide (x8_1 < (l0.length:Int)) = false:=decide_eq_false c3
    (try simp only [hl164_0] at c3b0)
    clear c3
    simp only [Option.some.injEq,Prod.mk.injEq] at H
    obtain⟨rfl,rfl⟩:=H
    go_wp2
    go_ret2
    exact⟨by first|rfl|(simp;done)|(simp [*];done),by repeat (first|exact Drawn0.refl _|apply Drawn0.step)⟩

end Go.Proofs.Ytadhngelhognaaa.QFnExactParts
