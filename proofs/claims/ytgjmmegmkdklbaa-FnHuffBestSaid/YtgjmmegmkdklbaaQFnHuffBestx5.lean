-- A walk, made by walk.py, a program of this session's.
import Derived.Test.YtgjmmegmkdklbaaQFnHuffBestx0
namespace Go.Proofs.Ytgjmmegmkdklbaa.QFnHuffBest
open Go.RowKit Go.Proofs.YtgjmmegmkdklbaaW.PrintWords Go.Proofs.YtgjmmegmkdklbaaW.PrintLast Go.Proofs.YtgjmmegmkdklbaaW.PrintMore
attribute [local go_sem] max2_int min2_int max_two min_two max_three min_three max_four min_four   -- for this text's walks alone
set_option linter.unusedVariables false
set_option linter.unusedSimpArgs false

/-! ### laws_same: function 23 -/
def laws_same.l0 : Nat → List Int → List Int → Int → Option (Bool)
 | 0, _, _, _ => none
 | k + 1, x0, x1, x5 => if x5 < (x0.length : Int) then (if 0 ≤ x5 then (if x5 < (x1.length : Int) then (if (rd x0 x5) = (rd x1 x5) then (laws_same.l0 k x0 x1 (wrap64 (x5 + 1))) else (some false)) else (none)) else (none)) else (some true)
def laws_same.f (k : Nat) (l0 : List Int) (l1 : List Int) : Option (Bool) := if (l0.length : Int) = (l1.length : Int) then (laws_same.l0 k l0 l1 0) else (some false)
theorem laws_same.mono_l : ∀ k, (∀ y0 y1 y2, LeO (laws_same.l0 k y0 y1 y2) (laws_same.l0 (k + 1) y0 y1 y2))
 | 0 => fun _ _ _ r h => by simp [laws_same.l0] at h
 | k + 1 => by
  have ih0 := laws_same.mono_l k
  ·intro y0 y1 y2
   unfold laws_same.l0
   repeat' first|(with_reducible first|exact ih0 _ _ _|exact LeO.refl _|exact LeO.none _|refine LeO.ite ?_ ?_|refine LeO.bind ?_ (fun _ => ?_))|exact LeO.none _|refine LeO.ite ?_ ?_|refine LeO.bind ?_ (fun _ => ?_)
theorem laws_same.mono : ∀ a0 a1 k, LeO (laws_same.f k a0 a1) (laws_same.f (k + 1) a0 a1) := by
 intro a0 a1 k
 have ih0 := laws_same.mono_l k
 unfold laws_same.f
 repeat' first|(with_reducible first|exact ih0 _ _ _|exact LeO.refl _|exact LeO.none _|refine LeO.ite ?_ ?_|refine LeO.bind ?_ (fun _ => ?_))|exact LeO.none _|refine LeO.ite ?_ ?_|refine LeO.bind ?_ (fun _ => ?_)
set_option maxHeartbeats 8000000 in
set_option maxRecDepth 100000 in
theorem laws_same.calls (k : Nat) (A0 : Option Addr) (c0 : Nat) (l0 : List Int) (A1 : Option Addr) (c1 : Nat) (l1 : List Int) (r : Bool) (w : World) (hr0 : Kd.C (Kd.int .i64) w A0 l0.length l0) (hc0 : l0.length ≤ c0) (hr1 : Kd.C (Kd.int .i64) w A1 l1.length l1) (hc1 : l1.length ≤ c1) (h : laws_same.f k l0 l1 = some r) :
  Calls Try.prog 23 #[.slice A0 l0.length c0, .slice A1 l1.length c1] w fun e w' => e = .returned (.bool r) ∧ Drawn0 w w' := by
 have HR0:=mk0 hr0
 have HC0:=mk0 hc0
 clear hr0 hc0
 have HR1:=mk0 hr1
 have HC1:=mk0 hc1
 clear hr1 hc1
 have H:(if (l0.length:Int) = (l1.length:Int) then (laws_same.l0 k l0 l1 0) else (some false)) = some r:=h
 clear h
 by_cases c3:(l0.length:Int) = (l1.length:Int)
 ·rw [if_pos c3] at H
  have c3b0:((l0.length:Int) == (l1.length:Int)) = true:=beq_iff_eq.mpr c3
  have c3b1:((l0.length:Int) != (l1.length:Int)) = false:=bne_eq_false_iff_eq.mpr c3
  have c3b2:(l0.length == l1.length) = true:=by first|simpa using c3|(simp at c3 ⊢;omega)
  clear c3
  have H':=mk0 H
  clear H
  go_enter Try.func23,Try.ntmps23
  go_wp2
  repeat (go_quiet (fail);try go_wp2)
  go_loopg [5] k (fun kq v5 w'=>∃ (x5_1:Int),v5 = .int .i64 x5_1 ∧ Aside0 (laws_same.l0 kq l0 l1 x5_1 = some r) ∧ Aside0 (kq ≤ k) ∧ Drawn0 w w')
  case atStart=>exact⟨(0),(by first|rfl|(simp;done)|(simp [*];done)),H',⟨Nat.le_refl _⟩,by repeat (first|exact Drawn0.refl _|apply Drawn0.step)⟩
  case round =>
   clear H'
   try clear c1
   try clear c2
   try clear p2
   try clear c3
   try clear c3b0
   try clear c3b1
   try clear c3b2
   obtain⟨x5_1,rfl,HA,HK1,⟨m1,rfl⟩⟩:=hrel
   cases gk with
   | zero=>exact absurd HA.out (by simp [laws_same.l0])
   | succ k1 =>
    have H:=HA.out
    clear HA
    simp only [laws_same.l0] at H
    by_cases c4:x5_1 < (l0.length:Int)
    ·rw [if_pos c4] at H
     have c4b0:decide (x5_1 < (l0.length:Int)) = true:=decide_eq_true c4
     clear c4
     by_cases c5:0 ≤ x5_1
     ·rw [if_pos c5] at H
      have c5b0:decide (0 ≤ x5_1) = true:=decide_eq_true c5
      clear c5
      by_cases c6:x5_1 < (l1.length:Int)
      ·rw [if_pos c6] at H
       have c6b0:decide (x5_1 < (l1.length:Int)) = true:=decide_eq_true c6
       clear c6
       by_cases c7:(rd l0 x5_1) = (rd l1 x5_1)
       ·rw [if_pos c7] at H
        have c7b0:((rd l0 x5_1) == (rd l1 x5_1)) = true:=beq_iff_eq.mpr c7
        have c7b1:((rd l0 x5_1) != (rd l1 x5_1)) = false:=bne_eq_false_iff_eq.mpr c7
        clear c7
        have H':=mk0 H
        clear H
        have p319:0 ≤ (x5_1:Int):=of_decide_eq_true (by first|(with_reducible assumption)|assumption)
        have q319:x5_1 < (l0.length:Int):=of_decide_eq_true (by first|(with_reducible assumption)|assumption)
        obtain⟨ad319,e319,hx319_0⟩:=Kd.at_int HR0.out x5_1 p319 q319
        cases e319
        replace p319:=eq_true p319
        replace q319:=eq_true q319
        have p320:0 ≤ (x5_1:Int):=of_decide_eq_true (by first|(with_reducible assumption)|assumption)
        have q320:x5_1 < (l1.length:Int):=of_decide_eq_true (by first|(with_reducible assumption)|assumption)
        obtain⟨ad320,e320,hx320_0⟩:=Kd.at_int HR1.out x5_1 p320 q320
        cases e320
        replace p320:=eq_true p320
        replace q320:=eq_true q320
        go_wp2
        repeat (go_quiet (fail);try go_wp2)
        go_roundg k1
        case measure=>have:=HK1.out;omega
        case rel=>exact⟨(wrap64 (x5_1 + 1)),(by first|rfl|(simp;done)|(simp [*];done)),H',⟨by have:=HK1.out;omega⟩,by repeat (first|exact Drawn0.refl _|apply Drawn0.step)⟩
       ·rw [if_neg c7] at H
        have c7b0:((rd l0 x5_1) == (rd l1 x5_1)) = false:=beq_eq_false_iff_ne.mpr c7
        have c7b1:((rd l0 x5_1) != (rd l1 x5_1)) = true:=bne_iff_ne.mpr c7
        obtain rfl:=Option.some.inj H
        have p319:0 ≤ (x5_1:Int):=of_decide_eq_true (by first|(with_reducible assumption)|assumption)
        have q319:x5_1 < (l0.length:Int):=of_decide_eq_true (by first|(with_reducible assumption)|assumption)
        obtain⟨ad319,e319,hx319_0⟩:=Kd.at_int HR0.out x5_1 p319 q319
        cases e319
        replace p319:=eq_true p319
        replace q319:=eq_true q319
        have p320:0 ≤ (x5_1:Int):=of_decide_eq_true (by first|(with_reducible assumption)|assumption)
        have q320:x5_1 < (l1.length:Int):=of_decide_eq_true (by first|(with_reducible assumption)|assumption)
        obtain⟨ad320,e320,hx320_0⟩:=Kd.at_int HR1.out x5_1 p320 q320
        cases e320
        replace p320:=eq_true p320
        replace q320:=eq_true q320
        go_wp2
        repeat (go_quiet (fail);try go_wp2)
        go_ret
        exact⟨by first|rfl|(simp;done)|(simp [*];done),by repeat (first|exact Drawn0.refl _|apply Drawn0.step)⟩
      ·rw [if_neg c6] at H
       exact absurd H (by simp)
     ·rw [if_neg c5] at H
      exact absurd H (by simp)
    ·rw [if_neg c4] at H
     have c4b0:decide (x5_1 < (l0.length:Int)) = false:=decide_eq_false c4
     clear c4
     obtain rfl:=Option.some.inj H
     go_wp2
     repeat (go_quiet (fail);try go_wp2)
     go_ret
     exact⟨by first|rfl|(simp;done)|(simp [*];done),by repeat (first|exact Drawn0.refl _|apply Drawn0.step)⟩
 ·rw [if_neg c3] at H
  have c3b0:((l0.length:Int) == (l1.length:Int)) = false:=beq_eq_false_iff_ne.mpr c3
  have c3b1:((l0.length:Int) != (l1.length:Int)) = true:=bne_iff_ne.mpr c3
  have c3b2:(l0.length == l1.length) = false:=by first|simpa using c3|(simp at c3 ⊢;omega)
  obtain rfl:=Option.some.inj H
  go_enter Try.func23,Try.ntmps23
  go_wp2
  repeat (go_quiet (fail);try go_wp2)
  go_ret
  exact⟨by first|rfl|(simp;done)|(simp [*];done),by repeat (first|exact Drawn0.refl _|apply Drawn0.step)⟩

/-! ### slices_Max_int_int: function 68 -/
def slices_Max_int_int.l0 : Nat → List Int → Int → Int → Option (Int)
 | 0, _, _, _ => none
 | k + 1, x0, x3, x4 => if x4 < (x0.length : Int) then (if 0 ≤ x4 then (slices_Max_int_int.l0 k x0 (mx x3 (rd x0 x4)) (wrap64 (x4 + 1))) else (none)) else (some x3)
def slices_Max_int_int.f (k : Nat) (l0 : List Int) : Option (Int) := if (l0.length : Int) < 1 then (none) else (if 0 < (l0.length : Int) then (slices_Max_int_int.l0 k l0 (rd l0 0) 1) else (none))
theorem slices_Max_int_int.mono_l : ∀ k, (∀ y0 y1 y2, LeO (slices_Max_int_int.l0 k y0 y1 y2) (slices_Max_int_int.l0 (k + 1) y0 y1 y2))
 | 0 => fun _ _ _ r h => by simp [slices_Max_int_int.l0] at h
 | k + 1 => by
  have ih0 := slices_Max_int_int.mono_l k
  ·intro y0 y1 y2
   unfold slices_Max_int_int.l0
   repeat' first|(with_reducible first|exact ih0 _ _ _|exact LeO.refl _|exact LeO.none _|refine LeO.ite ?_ ?_|refine LeO.bind ?_ (fun _ => ?_))|exact LeO.none _|refine LeO.ite ?_ ?_|refine LeO.bind ?_ (fun _ => ?_)
theorem slices_Max_int_int.mono : ∀ a0 k, LeO (slices_Max_int_int.f k a0) (slices_Max_int_int.f (k + 1) a0) := by
 intro a0 k
 have ih0 := slices_Max_int_int.mono_l k
 unfold slices_Max_int_int.f
 repeat' first|(with_reducible first|exact ih0 _ _ _|exact LeO.refl _|exact LeO.none _|refine LeO.ite ?_ ?_|refine LeO.bind ?_ (fun _ => ?_))|exact LeO.none _|refine LeO.ite ?_ ?_|refine LeO.bind ?_ (fun _ => ?_)
set_option maxHeartbeats 8000000 in
set_option maxRecDepth 100000 in
theorem slices_Max_int_int.calls (k : Nat) (A0 : Option Addr) (c0 : Nat) (l0 : List Int) (r : Int) (w : World) (hr0 : Kd.C (Kd.int .i64) w A0 l0.length l0) (hc0 : l0.length ≤ c0) (h : slices_Max_int_int.f k l0 = some r) :
  Calls Try.prog 68 #[.slice A0 l0.length c0] w fun e w' => e = .returned (.int .i64 r) ∧ Below w.heap.size w w' := by
 have HR0:=mk0 hr0
 have HC0:=mk0 hc0
 clear hr0 hc0
 have HB:=mk0 (Below.refl w.heap.size w)
 have H:(if (l0.length:Int) < 1 then (none) else (if 0 < (l0.length:Int) then (slices_Max_int_int.l0 k l0 (rd l0 0) 1) else (none))) = some r:=h
 clear h
 by_cases c2:(l0.length:Int) < 1
 ·rw [if_pos c2] at H
  exact absurd H (by simp)
 ·rw [if_neg c2] at H
  have c2b0:decide ((l0.length:Int) < 1) = false:=decide_eq_false c2
  have c2b1:decide (l0.length < 1) = false:=decide_eq_false (by omega)
  clear c2
  by_cases c3:0 < (l0.length:Int)
  ·rw [if_pos c3] at H
   have c3b0:decide (0 < (l0.length:Int)) = true:=decide_eq_true c3
   have c3b1:decide (0 < l0.length) = true:=decide_eq_true (by omega)
   clear c3
   have H':=mk0 H
   clear H
   have p321:0 ≤ (0:Int):=(by omega)
   have q321:0 < (l0.length:Int):=of_decide_eq_true (by first|(with_reducible assumption)|assumption)
   obtain⟨ad321,e321,hx321_0⟩:=Kd.at_int HR0.out 0 p321 q321
   cases e321
   have qi321:(0 < l0.length) = True:=eq_true (by omega)
   (try rw [show ((0:Int)).toNat = 0 from rfl] at hx321_0)
   (try rw [Addr.add_zero'] at hx321_0)
   replace p321:=eq_true p321
   replace q321:=eq_true q321
   go_enter Try.func68,Try.ntmps68
   go_wp2
   go_loopg [3,4] k (fun kq v3 v4 w'=>∃ (x3_1:Int) (x4_1:Int),v3 = .int .i64 x3_1 ∧ v4 = .int .i64 x4_1 ∧ Aside0 (slices_Max_int_int.l0 kq l0 x3_1 x4_1 = some r) ∧ Aside0 (kq ≤ k) ∧ Aside0 (Below w.heap.size w w'))
   case atStart=>exact⟨(rd l0 0),(1),(by first|rfl|(simp;done)|(simp [*];done)),(by first|rfl|(simp;done)|(simp [*];done)),H',⟨Nat.le_refl _⟩,⟨kB HB.out⟩⟩
   case round =>
    clear H'
    try clear c2
    try clear c2b0
    try clear c2b1
    try clear p2
    try clear c3
    try clear c3b0
    try clear c3b1
    try clear p3
    try clear q3
    try clear hx3
    try clear qi3
    try clear hx321_0
    try clear p321
    try clear q321
    obtain⟨x3_1,x4_1,rfl,rfl,HA,HK1,HB⟩:=hrel
    cases gk with
    | zero=>exact absurd HA.out (by simp [slices_Max_int_int.l0])
    | succ k1 =>
     have H:=HA.out
     clear HA
     simp only [slices_Max_int_int.l0] at H
     by_cases c4:x4_1 < (l0.length:Int)
     ·rw [if_pos c4] at H
      have c4b0:decide (x4_1 < (l0.length:Int)) = true:=decide_eq_true c4
      clear c4
      by_cases c5:0 ≤ x4_1
      ·rw [if_pos c5] at H
       have c5b0:decide (0 ≤ x4_1) = true:=decide_eq_true c5
       clear c5
       obtain⟨ji6,hji6⟩:∃ j_:Int,(mx x3_1 (rd l0 x4_1)) = j_:=⟨_,rfl⟩
       replace H:(slices_Max_int_int.l0 k1 l0 ji6 (wrap64 (x4_1 + 1))) = some r:=by first|(rw [hji6] at H;exact H)|(simp only [hji6] at H ⊢;exact H)
       have hji6_:(if x3_1 < (rd l0 x4_1) then (rd l0 x4_1) else x3_1) = ji6:=hji6
       have H':=mk0 H
       clear H
       have p322:0 ≤ (x4_1:Int):=of_decide_eq_true (by first|(with_reducible assumption)|assumption)
       have q322:x4_1 < (l0.length:Int):=of_decide_eq_true (by first|(with_reducible assumption)|assumption)
       obtain⟨ad322,e322,hx322_0⟩:=Kd.at_int HR0.out x4_1 p322 q322
       obtain rfl:ad321 = ad322:=(by injection e322)
       replace hx322_0:=(HB.out.cell (World.block_lt_of_cell? w _ hx322_0)).trans hx322_0
       replace p322:=eq_true p322
       replace q322:=eq_true q322
       go_wp2
       go_roundg k1
       case measure=>have:=HK1.out;omega
       case rel=>exact⟨(ji6),(wrap64 (x4_1 + 1)),(by first|rfl|(simp;done)|(simp only [← hji6] <;> (first|rfl|simp))|(simp [*];done)),(by first|rfl|(simp;done)|(simp [*];done)),H',⟨by have:=HK1.out;omega⟩,⟨kB HB.out⟩⟩
      ·rw [if_neg c5] at H
       exact absurd H (by simp)
     ·rw [if_neg c4] at H
      have c4b0:decide (x4_1 < (l0.length:Int)) = false:=decide_eq_false c4
      clear c4
      obtain rfl:=Option.some.inj H
      go_wp2
      go_ret
      exact⟨by first|rfl|(simp [errW_none,errW_some] <;> rfl)|(simp [*,errW_none,errW_some] <;> rfl),kB HB.out⟩
  ·rw [if_neg c3] at H
   exact absurd H (by simp)


/-! ### impl_areAll_67: areAll at the function value 67 -/
def impl_areAll_67.f (l0 : List Int) : Option (Bool) := if l0.length ≤ maxLen then some (l0.all Fv.p67) else none
theorem impl_areAll_67.calls (A0 : Option Addr) (c0 : Nat) (l0 : List Int) (r : Bool) (w : World) (hr0 : Kd.C (Kd.int .i64) w A0 l0.length l0) (hc0 : l0.length ≤ c0) (h : impl_areAll_67.f l0 = some r) :
    Calls Try.prog 53 #[.slice A0 l0.length c0, .func (.func 67) #[] #[]] w fun e w' => e = .returned (.bool r) ∧ Below w.heap.size w w' := by
  unfold impl_areAll_67.f at h
  by_cases hm : l0.length ≤ maxLen
  · rw [if_pos hm] at h
    obtain rfl := Option.some.inj h
    exact Fv.areAll 67 #[] _ (enters_of Try.func67 (by kernel_rfl) rfl) A0 c0 l0 w hr0 hc0 hm (Fv.tells67 w)
  · rw [if_neg hm] at h
    exact absurd h (by simp)

/-! ### impl_HuffOk: function 35 -/
mutual
def impl_HuffOk.j0 : Nat → List Int → Bool → Option (Bool)
 | 0, _, _ => none
 | k + 1, x0, x14 => if x14 = true then (some false) else (impl_HuffOk.l0 k x0 0 0 x0 (x0.length : Int) 0)
def impl_HuffOk.l0 : Nat → List Int → Int → Int → List Int → Int → Int → Option (Bool)
 | 0, _, _, _, _, _, _ => none
 | k + 1, x0, x3, x4, x15, x16, x17 => if x17 < x16 then (if 0 ≤ x17 then (if x17 < (x15.length : Int) then (if (rd x15 x17) > 0 then (if 0 ≤ (wrap64 (60 - (rd x15 x17))) then (impl_HuffOk.l0 k x0 (wrap64 (x3 + 1)) (mn (wrap64 (x4 + (shl .i64 1 (wrap64 (60 - (rd x15 x17)))))) 1152921504606846977) x15 x16 (wrap64 (x17 + 1))) else (none)) else (impl_HuffOk.l0 k x0 x3 x4 x15 x16 (wrap64 (x17 + 1)))) else (none)) else (none)) else (if x4 = 1152921504606846976 then (some true) else (if x3 = 1 then ((slices_Max_int_int.f k x0).bind fun t325 => (some (t325 == 1))) else (some false)))
end
def impl_HuffOk.f (k : Nat) (l0 : List Int) : Option (Bool) := if (l0.length : Int) > 300 then (impl_HuffOk.j0 k l0 true) else ((impl_areAll_67.f l0).bind fun t323 => (impl_HuffOk.j0 k l0 (!t323)))
theorem impl_HuffOk.mono_l : ∀ k, (∀ y0 y1, LeO (impl_HuffOk.j0 k y0 y1) (impl_HuffOk.j0 (k + 1) y0 y1)) ∧ (∀ y0 y1 y2 y3 y4 y5, LeO (impl_HuffOk.l0 k y0 y1 y2 y3 y4 y5) (impl_HuffOk.l0 (k + 1) y0 y1 y2 y3 y4 y5))
 | 0 => ⟨fun _ _ r h => by simp [impl_HuffOk.j0] at h, fun _ _ _ _ _ _ r h => by simp [impl_HuffOk.l0] at h⟩
 | k + 1 => by
  obtain ⟨ih0, ih1⟩ := impl_HuffOk.mono_l k
  refine ⟨?_, ?_⟩
  ·intro y0 y1
   unfold impl_HuffOk.j0
   repeat' first|(with_reducible first|exact ih0 _ _|exact ih1 _ _ _ _ _ _|exact slices_Max_int_int.mono _ _|exact LeO.refl _|exact LeO.none _|refine LeO.ite ?_ ?_|refine LeO.bind ?_ (fun _ => ?_))|exact LeO.none _|refine LeO.ite ?_ ?_|refine LeO.bind ?_ (fun _ => ?_)
  ·intro y0 y1 y2 y3 y4 y5
   unfold impl_HuffOk.l0
   repeat' first|(with_reducible first|exact ih0 _ _|exact ih1 _ _ _ _ _ _|exact slices_Max_int_int.mono _ _|exact LeO.refl _|exact LeO.none _|refine LeO.ite ?_ ?_|refine LeO.bind ?_ (fun _ => ?_))|exact LeO.none _|refine LeO.ite ?_ ?_|refine LeO.bind ?_ (fun _ => ?_)
theorem impl_HuffOk.mono : ∀ a0 k, LeO (impl_HuffOk.f k a0) (impl_HuffOk.f (k + 1) a0) := by
 intro a0 k
 obtain ⟨ih0, ih1⟩ := impl_HuffOk.mono_l k
 unfold impl_HuffOk.f
 repeat' first|(with_reducible first|exact ih0 _ _|exact ih1 _ _ _ _ _ _|exact slices_Max_int_int.mono _ _|exact LeO.refl _|exact LeO.none _|refine LeO.ite ?_ ?_|refine LeO.bind ?_ (fun _ => ?_))|exact LeO.none _|refine LeO.ite ?_ ?_|refine LeO.bind ?_ (fun _ => ?_)
set_option maxHeartbeats 8000000 in
set_option maxRecDepth 100000 in
theorem impl_HuffOk.calls (k : Nat) (A0 : Option Addr) (c0 : Nat) (l0 : List Int) (r : Bool) (w : World) (hr0 : Kd.C (Kd.int .i64) w A0 l0.length l0) (hc0 : l0.length ≤ c0) (h : impl_HuffOk.f k l0 = some r) :
  Calls Try.prog 35 #[.slice A0 l0.length c0] w fun e w' => e = .returned (.bool r) ∧ Below w.heap.size w w' := by
 have HR0:=mk0 hr0
 have HC0:=mk0 hc0
 clear hr0 hc0
 have HB:=mk0 (Below.refl w.heap.size w)
 have H:(if (l0.length:Int) > 300 then (impl_HuffOk.j0 k l0 true) else ((impl_areAll_67.f l0).bind fun t323=>(impl_HuffOk.j0 k l0 (!t323)))) = some r:=h
 clear h
 have HC2:=mk0 H
 clear H
 go_enter Try.func35,Try.ntmps35
 go_upto_region 1 with (fail)
 go_cut [14] (fun v14 wc=>∃ (kq:Nat) (x14_1:Bool),v14 = .bool x14_1 ∧ Aside0 (impl_HuffOk.j0 kq l0 x14_1 = some r) ∧ Aside0 (kq ≤ k) ∧ Aside0 (Below w.heap.size w wc))
 case first =>
  have H:=HC2.out
  clear HC2
  by_cases c3:(l0.length:Int) > 300
  ·rw [if_pos c3] at H
   have c3b0:decide (300 < (l0.length:Int)) = true:=decide_eq_true c3
   have c3b1:decide (300 < l0.length) = true:=decide_eq_true (by omega)
   clear c3
   (first|rw [c3b0]|(simp only [i64_w,i32_w];rw [c3b0])|skip)
   have H':=mk0 H
   clear H
   go_wp2
   go_meet
   case rel=>exact⟨_,(true),(by first|rfl|(simp;done)|(simp [*];done)),H',⟨by first|omega|exact Nat.le_refl _⟩,⟨kB HB.out⟩⟩
  ·rw [if_neg c3] at H
   have c3b0:decide (300 < (l0.length:Int)) = false:=decide_eq_false c3
   have c3b1:decide (300 < l0.length) = false:=decide_eq_false (by omega)
   clear c3
   (first|rw [c3b0]|(simp only [i64_w,i32_w];rw [c3b0])|skip)
   replace H:=Option.bind_eq_some_iff.mp H
   obtain⟨t323,A40,H⟩:=H
   replace H:(impl_HuffOk.j0 k l0 (!t323)) = some r:=H
   have A4:=mk0 A40
   clear A40
   have H':=mk0 H
   clear H
   go_wp2_with (first|(go_at_call 53;(with_reducible refine (impl_areAll_67.calls _ _ l0 t323 _ ?side1 ?side2 A4.out).mono ?_);(case side1=>exact kC (Kd.C_below HR0.out HB.out));(case side2=>exact HC0.out);rintro e w5 ⟨rfl,hb⟩;replace HB:=mk0 (kS HB.out hb);(try clear hb)))
   go_meet
   case rel=>exact⟨_,(!t323),(by first|rfl|(simp;done)|(simp [*];done)),H',⟨by first|omega|exact Nat.le_refl _⟩,⟨kB HB.out⟩⟩
 case rest =>
  clear HC2
  try clear p2
  try clear c3
  try clear c3b0
  try clear c3b1
  obtain⟨kq,x14_1,rfl,HA,HJ1,HB⟩:=hcut
  cases kq with
  | zero=>exact absurd HA.out (by simp [impl_HuffOk.j0])
  | succ kj1 =>
   have H:=HA.out
   clear HA
   simp only [impl_HuffOk.j0] at H
   by_cases c6:x14_1 = true
   ·subst c6
    have H1:(some false) = some r:=by rw [if_pos rfl] at H;exact H
    clear H
    have H:=H1
    clear H1
    obtain rfl:=Option.some.inj H
    go_wp2
    go_ret
    exact⟨by first|rfl|(simp [errW_none,errW_some] <;> rfl)|(simp [*,errW_none,errW_some] <;> rfl),kB HB.out⟩
   ·replace c6:=Bool.eq_false_iff.mpr c6
    subst c6
    have H1:(impl_HuffOk.l0 kj1 l0 0 0 l0 (l0.length:Int) 0) = some r:=by rw [if_neg (show ¬ (false = true) by decide)] at H;exact H
    clear H
    have H:=H1
    clear H1
    have H':=mk0 H
    clear H
    go_wp2
    go_loopg [3,4,17] kj1 (fun kq v3 v4 v17 w'=>∃ (x3_2:Int) (x4_2:Int) (x17_2:Int),v3 = .int .i64 x3_2 ∧ v4 = .int .i64 x4_2 ∧ v17 = .int .i64 x17_2 ∧ Aside0 (impl_HuffOk.l0 kq l0 x3_2 x4_2 l0 (l0.length:Int) x17_2 = some r) ∧ Aside0 (kq ≤ kj1) ∧ Aside0 (Below w.heap.size w w'))
    case atStart=>exact⟨(0),(0),(0),(by first|rfl|(simp;done)|(simp [*];done)),(by first|rfl|(simp;done)|(simp [*];done)),(by first|rfl|(simp;done)|(simp [*];done)),H',⟨Nat.le_refl _⟩,⟨kB HB.out⟩⟩
    case round =>
     clear H'
     try clear p2
     try clear c3
     try clear c3b0
     try clear c3b1
     try clear c6
     try clear p2
     obtain⟨x3_2,x4_2,x17_2,rfl,rfl,rfl,HA,HK2,HB⟩:=hrel
     cases gk with
     | zero=>exact absurd HA.out (by simp [impl_HuffOk.l0])
     | succ k2 =>
      have H:=HA.out
      clear HA
      simp only [impl_HuffOk.l0] at H
      by_cases c7:x17_2 < (l0.length:Int)
      ·rw [if_pos c7] at H
       have c7b0:decide (x17_2 < (l0.length:Int)) = true:=decide_eq_true c7
       clear c7
       by_cases c8:0 ≤ x17_2
       ·rw [if_pos c8] at H
        have c8b0:decide (0 ≤ x17_2) = true:=decide_eq_true c8
        clear c8
        by_cases c9:x17_2 < (l0.length:Int)
        ·rw [if_pos c9] at H
         have c9b0:decide (x17_2 < (l0.length:Int)) = true:=decide_eq_true c9
         clear c9
         by_cases c10:(rd l0 x17_2) > 0
         ·rw [if_pos c10] at H
          have c10b0:decide (0 < (rd l0 x17_2)) = true:=decide_eq_true c10
          clear c10
          obtain⟨ji11,hji11⟩:∃ j_:Int,(wrap64 (60 - (rd l0 x17_2))) = j_:=⟨_,rfl⟩
          replace H:(if 0 ≤ (ji11) then (impl_HuffOk.l0 k2 l0 (wrap64 (x3_2 + 1)) (mn (wrap64 (x4_2 + (shl .i64 1 (ji11)))) 1152921504606846977) l0 (l0.length:Int) (wrap64 (x17_2 + 1))) else (none)) = some r:=by first|(rw [hji11] at H;exact H)|(simp only [hji11] at H ⊢;exact H)
          have hji11w:(IntKind.i64.wrap (60 - (rd l0 x17_2))) = ji11:=(i64_w _).trans hji11
          by_cases c12:0 ≤ (ji11)
          ·rw [if_pos c12] at H
           have c12b0:=eq_true c12
           have c12b1:decide (0 ≤ (ji11)) = true:=decide_eq_true c12
           clear c12
           obtain⟨ji13,hji13⟩:∃ j_:Int,(shl .i64 1 (ji11)) = j_:=⟨_,rfl⟩
           replace H:(impl_HuffOk.l0 k2 l0 (wrap64 (x3_2 + 1)) (mn (wrap64 (x4_2 + (ji13))) 1152921504606846977) l0 (l0.length:Int) (wrap64 (x17_2 + 1))) = some r:=by first|(rw [hji13] at H;exact H)|(simp only [hji13] at H ⊢;exact H)
           have hji13_:(IntKind.i64.wrap (1 * 2 ^ min (ji11).toNat 64)) = ji13:=hji13
           have hji13z:(ji11) ≤ 64 → (IntKind.i64.wrap (1 * 2 ^ (ji11).toNat)) = ji13:=shl_small hji13
           have hji13u:(IntKind.i64.wrap (2 ^ min (ji11).toNat 64)) = ji13:=by have h_:=hji13_;rw [Int.one_mul] at h_;exact h_
           have hji13v:(ji11) ≤ 64 → (IntKind.i64.wrap (2 ^ (ji11).toNat)) = ji13:=fun hle_=>by have h_:=hji13z hle_;rw [Int.one_mul] at h_;exact h_
           have hji13y:(wrap64 (1 * 2 ^ min (ji11).toNat 64)) = ji13:=(i64_w _).symm.trans hji13_
           have hji13x:(ji11) ≤ 64 → (wrap64 (1 * 2 ^ (ji11).toNat)) = ji13:=fun h_=>(i64_w _).symm.trans (hji13z h_)
           obtain⟨ji14,hji14⟩:∃ j_:Int,(mn (wrap64 (x4_2 + (ji13))) 1152921504606846977) = j_:=⟨_,rfl⟩
           replace H:(impl_HuffOk.l0 k2 l0 (wrap64 (x3_2 + 1)) ji14 l0 (l0.length:Int) (wrap64 (x17_2 + 1))) = some r:=by first|(rw [hji14] at H;exact H)|(simp only [hji14] at H ⊢;exact H)
           have hji14_:(if 1152921504606846977 < (wrap64 (x4_2 + (ji13))) then 1152921504606846977 else (wrap64 (x4_2 + (ji13)))) = ji14:=hji14
           have H':=mk0 H
           clear H
           have p324:0 ≤ (x17_2:Int):=of_decide_eq_true (by first|(with_reducible assumption)|assumption)
           have q324:x17_2 < (l0.length:Int):=of_decide_eq_true (by first|(with_reducible assumption)|assumption)
           obtain⟨ad324,e324,hx324_0⟩:=Kd.at_int HR0.out x17_2 p324 q324
           cases e324
           replace hx324_0:=(HB.out.cell (World.block_lt_of_cell? w _ hx324_0)).trans hx324_0
           replace p324:=eq_true p324
           replace q324:=eq_true q324
           go_wp2
           go_roundg k2
           case measure=>have:=HJ1.out;have:=HK2.out;omega
           case rel=>exact⟨(wrap64 (x3_2 + 1)),(ji14),(wrap64 (x17_2 + 1)),(by first|rfl|(simp;done)|(simp [*];done)),(by first|rfl|(simp;done)|(simp only [← hji14] <;> (first|rfl|simp))|(simp [*];done)),(by first|rfl|(simp;done)|(simp [*];done)),H',⟨by have:=HJ1.out;have:=HK2.out;omega⟩,⟨kB HB.out⟩⟩
          ·rw [if_neg c12] at H
           exact absurd H (by simp)
         ·rw [if_neg c10] at H
          have c10b0:decide (0 < (rd l0 x17_2)) = false:=decide_eq_false c10
          clear c10
          have H':=mk0 H
          clear H
          have p324:0 ≤ (x17_2:Int):=of_decide_eq_true (by first|(with_reducible assumption)|assumption)
          have q324:x17_2 < (l0.length:Int):=of_decide_eq_true (by first|(with_reducible assumption)|assumption)
          obtain⟨ad324,e324,hx324_0⟩:=Kd.at_int HR0.out x17_2 p324 q324
          cases e324
          replace hx324_0:=(HB.out.cell (World.block_lt_of_cell? w _ hx324_0)).trans hx324_0
          replace p324:=eq_true p324
          replace q324:=eq_true q324
          go_wp2
          go_roundg k2
          case measure=>have:=HJ1.out;have:=HK2.out;omega
          case rel=>exact⟨(x3_2),(x4_2),(wrap64 (x17_2 + 1)),(by first|rfl|(simp;done)|(simp [*];done)),(by first|rfl|(simp;done)|(simp [*];done)),(by first|rfl|(simp;done)|(simp [*];done)),H',⟨by have:=HJ1.out;have:=HK2.out;omega⟩,⟨kB HB.out⟩⟩
        ·rw [if_neg c9] at H
         exact absurd H (by simp)
       ·rw [if_neg c8] at H
        exact absurd H (by simp)
      ·rw [if_neg c7] at H
       have c7b0:decide (x17_2 < (l0.length:Int)) = false:=decide_eq_false c7
       clear c7
       by_cases c15:x4_2 = 1152921504606846976
       ·rw [if_pos c15] at H
        have c15b0:(x4_2 == 1152921504606846976) = true:=beq_iff_eq.mpr c15
        have c15b1:(x4_2 != 1152921504606846976) = false:=bne_eq_false_iff_eq.mpr c15
        clear c15
        obtain rfl:=Option.some.inj H
        go_wp2
        go_ret
        exact⟨by first|rfl|(simp [errW_none,errW_some] <;> rfl)|(simp [*,errW_none,errW_some] <;> rfl),kB HB.out⟩
       ·rw [if_neg c15] at H
        have c15b0:(x4_2 == 1152921504606846976) = false:=beq_eq_false_iff_ne.mpr c15
        have c15b1:(x4_2 != 1152921504606846976) = true:=bne_iff_ne.mpr c15
        by_cases c16:x3_2 = 1
        ·rw [if_pos c16] at H
         have c16b0:(x3_2 == 1) = true:=beq_iff_eq.mpr c16
         have c16b1:(x3_2 != 1) = false:=bne_eq_false_iff_eq.mpr c16
         clear c16
         replace H:=Option.bind_eq_some_iff.mp H
         obtain⟨t325,A170,H⟩:=H
         replace H:(some (t325 == 1)) = some r:=H
         have A17:=mk0 A170
         clear A170
         obtain rfl:=Option.some.inj H
         go_wp2_with (first|(go_at_call 68;(with_reducible refine (slices_Max_int_int.calls k2 _ _ l0 t325 _ ?side1 ?side2 A17.out).mono ?_);(case side1=>exact kC (Kd.C_below HR0.out HB.out));(case side2=>exact HC0.out);rintro e w18 ⟨rfl,hb⟩;replace HB:=mk0 (kS HB.out hb);(try clear hb)))
         go_ret
         exact⟨by first|rfl|(simp [errW_none,errW_some] <;> rfl)|(simp [*,errW_none,errW_some] <;> rfl),kB HB.out⟩
        ·rw [if_neg c16] at H
         have c16b0:(x3_2 == 1) = false:=beq_eq_false_iff_ne.mpr c16
         have c16b1:(x3_2 != 1) = true:=bne_iff_ne.mpr c16
         obtain rfl:=Option.some.inj H
         go_wp2
         go_ret
         exact⟨by first|rfl|(simp [errW_none,errW_some] <;> rfl)|(simp [*,errW_none,errW_some] <;> rfl),kB HB.out⟩


/-! ### impl_areAll_54: areAll at the function value 54 -/
def impl_areAll_54.f (l0 : List Int) : Option (Bool) := if l0.length ≤ maxLen then some (l0.all Fv.p54) else none
theorem impl_areAll_54.calls (A0 : Option Addr) (c0 : Nat) (l0 : List Int) (r : Bool) (w : World) (hr0 : Kd.C (Kd.int .i64) w A0 l0.length l0) (hc0 : l0.length ≤ c0) (h : impl_areAll_54.f l0 = some r) :
    Calls Try.prog 53 #[.slice A0 l0.length c0, .func (.func 54) #[] #[]] w fun e w' => e = .returned (.bool r) ∧ Below w.heap.size w w' := by
  unfold impl_areAll_54.f at h
  by_cases hm : l0.length ≤ maxLen
  · rw [if_pos hm] at h
    obtain rfl := Option.some.inj h
    exact Fv.areAll 54 #[] _ (enters_of Try.func54 (by kernel_rfl) rfl) A0 c0 l0 w hr0 hc0 hm (Fv.tells54 w)
  · rw [if_neg hm] at h
    exact absurd h (by simp)

/-! ### impl_HuffSize: function 24 -/
mutual
def impl_HuffSize.j0 : Nat → List Int → List Int → Bool → Option (Int)
 | 0, _, _, _ => none
 | k + 1, x0, x1, x22 => if x22 = true then (some (-1)) else (impl_HuffSize.l0 k x1 0 x0 (x0.length : Int) 0)
def impl_HuffSize.l0 : Nat → List Int → Int → List Int → Int → Int → Option (Int)
 | 0, _, _, _, _, _ => none
 | k + 1, x1, x5, x23, x24, x25 => if x25 < x24 then (if 0 ≤ x25 then (if x25 < (x23.length : Int) then (if (rd x23 x25) > 0 then (if x25 < (x1.length : Int) then (if (rd x1 x25) = 0 then (some (-1)) else (impl_HuffSize.l0 k x1 (wrap64 (x5 + (wrap64 ((rd x23 x25) * (rd x1 x25))))) x23 x24 (wrap64 (x25 + 1)))) else (none)) else (if x25 < (x1.length : Int) then (impl_HuffSize.l0 k x1 (wrap64 (x5 + (wrap64 ((rd x23 x25) * (rd x1 x25))))) x23 x24 (wrap64 (x25 + 1))) else (none))) else (none)) else (none)) else (some x5)
end
def impl_HuffSize.f (k : Nat) (l0 : List Int) (l1 : List Int) : Option (Int) := if (l0.length : Int) = (l1.length : Int) then ((impl_HuffOk.f k l1).bind fun t326 => (if t326 = true then ((impl_areAll_54.f l0).bind fun t327 => (impl_HuffSize.j0 k l0 l1 (!t327))) else (impl_HuffSize.j0 k l0 l1 true))) else (impl_HuffSize.j0 k l0 l1 true)
theorem impl_HuffSize.mono_l : ∀ k, (∀ y0 y1 y2, LeO (impl_HuffSize.j0 k y0 y1 y2) (impl_HuffSize.j0 (k + 1) y0 y1 y2)) ∧ (∀ y0 y1 y2 y3 y4, LeO (impl_HuffSize.l0 k y0 y1 y2 y3 y4) (impl_HuffSize.l0 (k + 1) y0 y1 y2 y3 y4))
 | 0 => ⟨fun _ _ _ r h => by simp [impl_HuffSize.j0] at h, fun _ _ _ _ _ r h => by simp [impl_HuffSize.l0] at h⟩
 | k + 1 => by
  obtain ⟨ih0, ih1⟩ := impl_HuffSize.mono_l k
  refine ⟨?_, ?_⟩
  ·intro y0 y1 y2
   unfold impl_HuffSize.j0
   repeat' first|(with_reducible first|exact ih0 _ _ _|exact ih1 _ _ _ _ _|exact impl_HuffOk.mono _ _|exact LeO.refl _|exact LeO.none _|refine LeO.ite ?_ ?_|refine LeO.bind ?_ (fun _ => ?_))|exact LeO.none _|refine LeO.ite ?_ ?_|refine LeO.bind ?_ (fun _ => ?_)
  ·intro y0 y1 y2 y3 y4
   unfold impl_HuffSize.l0
   repeat' first|(with_reducible first|exact ih0 _ _ _|exact ih1 _ _ _ _ _|exact impl_HuffOk.mono _ _|exact LeO.refl _|exact LeO.none _|refine LeO.ite ?_ ?_|refine LeO.bind ?_ (fun _ => ?_))|exact LeO.none _|refine LeO.ite ?_ ?_|refine LeO.bind ?_ (fun _ => ?_)
theorem impl_HuffSize.mono : ∀ a0 a1 k, LeO (impl_HuffSize.f k a0 a1) (impl_HuffSize.f (k + 1) a0 a1) := by
 intro a0 a1 k
 obtain ⟨ih0, ih1⟩ := impl_HuffSize.mono_l k
 unfold impl_HuffSize.f
 repeat' first|(with_reducible first|exact ih0 _ _ _|exact ih1 _ _ _ _ _|exact impl_HuffOk.mono _ _|exact LeO.refl _|exact LeO.none _|refine LeO.ite ?_ ?_|refine LeO.bind ?_ (fun _ => ?_))|exact LeO.none _|refine LeO.ite ?_ ?_|refine LeO.bind ?_ (fun _ => ?_)
set_option maxHeartbeats 8000000 in
set_option maxRecDepth 100000 in
theorem impl_HuffSize.calls (k : Nat) (A0 : Option Addr) (c0 : Nat) (l0 : List Int) (A1 : Option Addr) (c1 : Nat) (l1 : List Int) (r : Int) (w : World) (hr0 : Kd.C (Kd.int .i64) w A0 l0.length l0) (hc0 : l0.length ≤ c0) (hr1 : Kd.C (Kd.int .i64) w A1 l1.length l1) (hc1 : l1.length ≤ c1) (h : impl_HuffSize.f k l0 l1 = some r) :
  Calls Try.prog 24 #[.slice A0 l0.length c0, .slice A1 l1.length c1] w fun e w' => e = .returned (.int .i64 r) ∧ Below w.heap.size w w' := by
 have HR0:=mk0 hr0
 have HC0:=mk0 hc0
 clear hr0 hc0
 have HR1:=mk0 hr1
 have HC1:=mk0 hc1
 clear hr1 hc1
 have HB:=mk0 (Below.refl w.heap.size w)
 have H:(if (l0.length:Int) = (l1.length:Int) then ((impl_HuffOk.f k l1).bind fun t326=>(if t326 = true then ((impl_areAll_54.f l0).bind fun t327=>(impl_HuffSize.j0 k l0 l1 (!t327))) else (impl_HuffSize.j0 k l0 l1 true))) else (impl_HuffSize.j0 k l0 l1 true)) = some r:=h
 clear h
 have HC3:=mk0 H
 clear H
 go_enter Try.func24,Try.ntmps24
 go_upto_region 1 with (fail)
 go_cut [22] (fun v22 wc=>∃ (kq:Nat) (x22_2:Bool),v22 = .bool x22_2 ∧ Aside0 (impl_HuffSize.j0 kq l0 l1 x22_2 = some r) ∧ Aside0 (kq ≤ k) ∧ Aside0 (Below w.heap.size w wc))
 case first =>
  have H:=HC3.out
  clear HC3
  by_cases c4:(l0.length:Int) = (l1.length:Int)
  rotate_left
  ·rw [if_neg c4] at H
   have c4b0:((l0.length:Int) == (l1.length:Int)) = false:=beq_eq_false_iff_ne.mpr c4
   have c4b1:((l0.length:Int) != (l1.length:Int)) = true:=bne_iff_ne.mpr c4
   have c4b2:(l0.length == l1.length) = false:=by first|simpa using c4|(simp at c4 ⊢;omega)
   (first|rw [c4b0]|(simp only [i64_w,i32_w];rw [c4b0])|skip)
   have H':=mk0 H
   clear H
   go_wp2
   go_meet
   case rel=>exact⟨_,(true),(by first|rfl|(simp;done)|(simp [*];done)),H',⟨by first|omega|exact Nat.le_refl _⟩,⟨kB HB.out⟩⟩
  rw [if_pos c4] at H
  have c4b0:((l0.length:Int) == (l1.length:Int)) = true:=beq_iff_eq.mpr c4
  have c4b1:((l0.length:Int) != (l1.length:Int)) = false:=bne_eq_false_iff_eq.mpr c4
  have c4b2:(l0.length == l1.length) = true:=by first|simpa using c4|(simp at c4 ⊢;omega)
  clear c4
  (first|rw [c4b0]|(simp only [i64_w,i32_w];rw [c4b0])|skip)
  replace H:=Option.bind_eq_some_iff.mp H
  obtain⟨t326,A50,H⟩:=H
  replace H:(if t326 = true then ((impl_areAll_54.f l0).bind fun t327=>(impl_HuffSize.j0 k l0 l1 (!t327))) else (impl_HuffSize.j0 k l0 l1 true)) = some r:=H
  have A5:=mk0 A50
  clear A50
  by_cases c6:t326 = true
  rotate_left
  ·replace c6:=Bool.eq_false_iff.mpr c6
   subst c6
   have H1:(impl_HuffSize.j0 k l0 l1 true) = some r:=by rw [if_neg (show ¬ (false = true) by decide)] at H;exact H
   clear H
   have H:=H1
   clear H1
   have H':=mk0 H
   clear H
   go_wp2_with (first|(go_at_call 35;(with_reducible refine (impl_HuffOk.calls k _ _ l1 false _ ?side1 ?side2 A5.out).mono ?_);(case side1=>exact kC (Kd.C_below HR1.out HB.out));(case side2=>exact HC1.out);rintro e w10 ⟨rfl,hb⟩;replace HB:=mk0 (kS HB.out hb);(try clear hb)))
   go_meet
   case rel=>exact⟨_,(true),(by first|rfl|(simp;done)|(simp [*];done)),H',⟨by first|omega|exact Nat.le_refl _⟩,⟨kB HB.out⟩⟩
  subst c6
  have H1:((impl_areAll_54.f l0).bind fun t327=>(impl_HuffSize.j0 k l0 l1 (!t327))) = some r:=by rw [if_pos rfl] at H;exact H
  clear H
  have H:=H1
  clear H1
  replace H:=Option.bind_eq_some_iff.mp H
  obtain⟨t327,A70,H⟩:=H
  replace H:(impl_HuffSize.j0 k l0 l1 (!t327)) = some r:=H
  have A7:=mk0 A70
  clear A70
  have H':=mk0 H
  clear H
  go_wp2_with (first|(go_at_call 35;(with_reducible refine (impl_HuffOk.calls k _ _ l1 true _ ?side1 ?side2 A5.out).mono ?_);(case side1=>exact kC (Kd.C_below HR1.out HB.out));(case side2=>exact HC1.out);rintro e w8 ⟨rfl,hb⟩;replace HB:=mk0 (kS HB.out hb);(try clear hb))|(go_at_call 53;(with_reducible refine (impl_areAll_54.calls _ _ l0 t327 _ ?side1 ?side2 A7.out).mono ?_);(case side1=>exact kC (Kd.C_below HR0.out HB.out));(case side2=>exact HC0.out);rintro e w9 ⟨rfl,hb⟩;replace HB:=mk0 (kS HB.out hb);(try clear hb)))
  go_meet
  case rel=>exact⟨_,(!t327),(by first|rfl|(simp;done)|(simp [*];done)),H',⟨by first|omega|exact Nat.le_refl _⟩,⟨kB HB.out⟩⟩
 case rest =>
  clear HC3
  try clear c1
  try clear c2
  try clear p2
  try clear c4
  try clear c4b0
  try clear c4b1
  try clear c4b2
  try clear c6
  obtain⟨kq,x22_2,rfl,HA,HJ2,HB⟩:=hcut
  cases kq with
  | zero=>exact absurd HA.out (by simp [impl_HuffSize.j0])
  | succ kj2 =>
   have H:=HA.out
   clear HA
   simp only [impl_HuffSize.j0] at H
   by_cases c11:x22_2 = true
   ·subst c11
    have H1:(some (-1)) = some r:=by rw [if_pos rfl] at H;exact H
    clear H
    have H:=H1
    clear H1
    obtain rfl:=Option.some.inj H
    go_wp2
    go_ret
    exact⟨by first|rfl|(simp [errW_none,errW_some] <;> rfl)|(simp [*,errW_none,errW_some] <;> rfl),kB HB.out⟩
   replace c11:=Bool.eq_false_iff.mpr c11
   subst c11
   have H1:(impl_HuffSize.l0 kj2 l1 0 l0 (l0.length:Int) 0) = some r:=by rw [if_neg (show ¬ (false = true) by decide)] at H;exact H
   clear H
   have H:=H1
   clear H1
   have H':=mk0 H
   clear H
   go_wp2
   go_loopg [5,25] kj2 (fun kq v5 v25 w'=>∃ (x5_2:Int) (x25_2:Int),v5 = .int .i64 x5_2 ∧ v25 = .int .i64 x25_2 ∧ Aside0 (impl_HuffSize.l0 kq l1 x5_2 l0 (l0.length:Int) x25_2 = some r) ∧ Aside0 (kq ≤ kj2) ∧ Aside0 (Below w.heap.size w w'))
   case atStart=>exact⟨(0),(0),(by first|rfl|(simp;done)|(simp [*];done)),(by first|rfl|(simp;done)|(simp [*];done)),H',⟨Nat.le_refl _⟩,⟨kB HB.out⟩⟩
   case round =>
    clear H'
    try clear c1
    try clear c2
    try clear p2
    try clear c4
    try clear c4b0
    try clear c4b1
    try clear c4b2
    try clear c6
    try clear c11
    try clear p2
    obtain⟨x5_2,x25_2,rfl,rfl,HA,HK2,HB⟩:=hrel
    cases gk with
    | zero=>exact absurd HA.out (by simp [impl_HuffSize.l0])
    | succ k2 =>
     have H:=HA.out
     clear HA
     simp only [impl_HuffSize.l0] at H
     by_cases c12:x25_2 < (l0.length:Int)
     rotate_left
     ·rw [if_neg c12] at H
      have c12b0:decide (x25_2 < (l0.length:Int)) = false:=decide_eq_false c12
      clear c12
      obtain rfl:=Option.some.inj H
      go_wp2
      go_ret
      exact⟨by first|rfl|(simp [errW_none,errW_some] <;> rfl)|(simp [*,errW_none,errW_some] <;> rfl),kB HB.out⟩

     rw [if_pos c12] at H
     have c12b0:decide (x25_2 < (l0.length:Int)) = true:=decide_eq_true c12
     clear c12
     by_cases c13:0 ≤ x25_2
     rotate_left
     ·rw [if_neg c13] at H
      exact absurd H (by simp)
     rw [if_pos c13] at H
     have c13b0:decide (0 ≤ x25_2) = true:=decide_eq_true c13
     clear c13
     by_cases c14:x25_2 < (l0.length:Int)
     rotate_left
     ·rw [if_neg c14] at H
      exact absurd H (by simp)
     rw [if_pos c14] at H
     have c14b0:decide (x25_2 < (l0.length:Int)) = true:=decide_eq_true c14
     clear c14
     by_cases c15:(rd l0 x25_2) > 0
     rotate_left
     ·rw [if_neg c15] at H
      have c15b0:decide (0 < (rd l0 x25_2)) = false:=decide_eq_false c15
      clear c15
      by_cases c18:x25_2 < (l1.length:Int)
      rotate_left
      ·rw [if_neg c18] at H
       exact absurd H (by simp)
      rw [if_pos c18] at H
      have c18b0:decide (x25_2 < (l1.length:Int)) = true:=decide_eq_true c18
      clear c18
      have H':=mk0 H
      clear H
      have p328:0 ≤ (x25_2:Int):=of_decide_eq_true (by first|(with_reducible assumption)|assumption)
      have q328:x25_2 < (l0.length:Int):=of_decide_eq_true (by first|(with_reducible assumption)|assumption)
      obtain⟨ad328,e328,hx328_0⟩:=Kd.at_int HR0.out x25_2 p328 q328
      cases e328
      replace hx328_0:=(HB.out.cell (World.block_lt_of_cell? w _ hx328_0)).trans hx328_0
      replace p328:=eq_true p328
      replace q328:=eq_true q328
      have p331:0 ≤ (x25_2:Int):=of_decide_eq_true (by first|(with_reducible assumption)|assumption)
      have q331:x25_2 < (l1.length:Int):=of_decide_eq_true (by first|(with_reducible assumption)|assumption)
      obtain⟨ad331,e331,hx331_0⟩:=Kd.at_int HR1.out x25_2 p331 q331
      cases e331
      replace hx331_0:=(HB.out.cell (World.block_lt_of_cell? w _ hx331_0)).trans hx331_0
      replace p331:=eq_true p331
      replace q331:=eq_true q331
      go_wp2
      go_roundg k2
      case measure=>have:=HJ2.out;have:=HK2.out;omega
      case rel=>exact⟨(wrap64 (x5_2 + (wrap64 ((rd l0 x25_2) * (rd l1 x25_2))))),(wrap64 (x25_2 + 1)),(by first|rfl|(simp;done)|(simp [*];done)),(by first|rfl|(simp;done)|(simp [*];done)),H',⟨by have:=HJ2.out;have:=HK2.out;omega⟩,⟨kB HB.out⟩⟩
     rw [if_pos c15] at H
     have c15b0:decide (0 < (rd l0 x25_2)) = true:=decide_eq_true c15
     clear c15
     by_cases c16:x25_2 < (l1.length:Int)
     rotate_left
     ·rw [if_neg c16] at H
      exact absurd H (by simp)
     rw [if_pos c16] at H
     have c16b0:decide (x25_2 < (l1.length:Int)) = true:=decide_eq_true c16
     clear c16
     by_cases c17:(rd l1 x25_2) = 0
     ·rw [if_pos c17] at H
      have c17b0:((rd l1 x25_2) == 0) = true:=beq_iff_eq.mpr c17
      have c17b1:((rd l1 x25_2) != 0) = false:=bne_eq_false_iff_eq.mpr c17
      clear c17
      obtain rfl:=Option.some.inj H
      have p328:0 ≤ (x25_2:Int):=of_decide_eq_true (by first|(with_reducible assumption)|assumption)
      have q328:x25_2 < (l0.length:Int):=of_decide_eq_true (by first|(with_reducible assumption)|assumption)
      obtain⟨ad328,e328,hx328_0⟩:=Kd.at_int HR0.out x25_2 p328 q328
      cases e328
      replace hx328_0:=(HB.out.cell (World.block_lt_of_cell? w _ hx328_0)).trans hx328_0
      replace p328:=eq_true p328
      replace q328:=eq_true q328
      have p329:0 ≤ (x25_2:Int):=of_decide_eq_true (by first|(with_reducible assumption)|assumption)
      have q329:x25_2 < (l1.length:Int):=of_decide_eq_true (by first|(with_reducible assumption)|assumption)
      obtain⟨ad329,e329,hx329_0⟩:=Kd.at_int HR1.out x25_2 p329 q329
      cases e329
      replace hx329_0:=(HB.out.cell (World.block_lt_of_cell? w _ hx329_0)).trans hx329_0
      replace p329:=eq_true p329
      replace q329:=eq_true q329
      go_wp2
      go_ret
      exact⟨by first|rfl|(simp [errW_none,errW_some] <;> rfl)|(simp [*,errW_none,errW_some] <;> rfl),kB HB.out⟩
     rw [if_neg c17] at H
     have c17b0:((rd l1 x25_2) == 0) = false:=beq_eq_false_iff_ne.mpr c17
     have c17b1:((rd l1 x25_2) != 0) = true:=bne_iff_ne.mpr c17
     have H':=mk0 H
     clear H
     have p328:0 ≤ (x25_2:Int):=of_decide_eq_true (by first|(with_reducible assumption)|assumption)
     have q328:x25_2 < (l0.length:Int):=of_decide_eq_true (by first|(with_reducible assumption)|assumption)
     obtain⟨ad328,e328,hx328_0⟩:=Kd.at_int HR0.out x25_2 p328 q328
     cases e328
     replace hx328_0:=(HB.out.cell (World.block_lt_of_cell? w _ hx328_0)).trans hx328_0
     replace p328:=eq_true p328
     replace q328:=eq_true q328
     have p329:0 ≤ (x25_2:Int):=of_decide_eq_true (by first|(with_reducible assumption)|assumption)
     have q329:x25_2 < (l1.length:Int):=of_decide_eq_true (by first|(with_reducible assumption)|assumption)
     obtain⟨ad329,e329,hx329_0⟩:=Kd.at_int HR1.out x25_2 p329 q329
     cases e329
     replace hx329_0:=(HB.out.cell (World.block_lt_of_cell? w _ hx329_0)).trans hx329_0
     replace p329:=eq_true p329
     replace q329:=eq_true q329
     have p330:0 ≤ (x25_2:Int):=of_decide_eq_true (by first|(with_reducible assumption)|assumption)
     have q330:x25_2 < (l1.length:Int):=of_decide_eq_true (by first|(with_reducible assumption)|assumption)
     obtain⟨ad330,e330,hx330_0⟩:=Kd.at_int HR1.out x25_2 p330 q330
     obtain rfl:ad329 = ad330:=(by injection e330)
     replace hx330_0:=(HB.out.cell (World.block_lt_of_cell? w _ hx330_0)).trans hx330_0
     replace p330:=eq_true p330
     replace q330:=eq_true q330
     go_wp2
     go_roundg k2
     case measure=>have:=HJ2.out;have:=HK2.out;omega
     case rel=>exact⟨(wrap64 (x5_2 + (wrap64 ((rd l0 x25_2) * (rd l1 x25_2))))),(wrap64 (x25_2 + 1)),(by first|rfl|(simp;done)|(simp [*];done)),(by first|rfl|(simp;done)|(simp [*];done)),H',⟨by have:=HJ2.out;have:=HK2.out;omega⟩,⟨kB HB.out⟩⟩
/-! ### spec_l02Pow: function 37 -/
def spec_l02Pow.l0 : Nat → Int → Int → Option (Int)
 | 0, _, _ => none
 | k + 1, x0, x3 => if x0 > 0 then (spec_l02Pow.l0 k (wrap64 (x0 - 1)) (wrap64 (2 * x3))) else (some x3)
def spec_l02Pow.f (k : Nat) (a0 : Int) : Option (Int) := spec_l02Pow.l0 k a0 1
theorem spec_l02Pow.mono_l : ∀ k, (∀ y0 y1, LeO (spec_l02Pow.l0 k y0 y1) (spec_l02Pow.l0 (k + 1) y0 y1))
 | 0 => fun _ _ r h => by simp [spec_l02Pow.l0] at h
 | k + 1 => by
  have ih0 := spec_l02Pow.mono_l k
  ·intro y0 y1
   unfold spec_l02Pow.l0
   repeat' first|(with_reducible first|exact ih0 _ _|exact LeO.refl _|exact LeO.none _|refine LeO.ite ?_ ?_|refine LeO.bind ?_ (fun _ => ?_))|exact LeO.none _|refine LeO.ite ?_ ?_|refine LeO.bind ?_ (fun _ => ?_)
theorem spec_l02Pow.mono : ∀ a0 k, LeO (spec_l02Pow.f k a0) (spec_l02Pow.f (k + 1) a0) := by
 intro a0 k
 have ih0 := spec_l02Pow.mono_l k
 unfold spec_l02Pow.f
 repeat' first|(with_reducible first|exact ih0 _ _|exact LeO.refl _|exact LeO.none _|refine LeO.ite ?_ ?_|refine LeO.bind ?_ (fun _ => ?_))|exact LeO.none _|refine LeO.ite ?_ ?_|refine LeO.bind ?_ (fun _ => ?_)
set_option maxHeartbeats 8000000 in
set_option maxRecDepth 100000 in
theorem spec_l02Pow.calls (k : Nat) (a0 : Int) (r : Int) (w : World) (h : spec_l02Pow.f k a0 = some r) :
  Calls Try.prog 37 #[.int .i64 a0] w fun e w' => e = .returned (.int .i64 r) ∧ Drawn0 w w' := by
 have H:(spec_l02Pow.l0 k a0 1) = some r:=h
 clear h
 have H':=mk0 H
 clear H
 go_enter Try.func37,Try.ntmps37
 go_wp2
 go_loopg [0,3] k (fun kq v0 v3 w'=>∃ (x0_1:Int) (x3_1:Int),v0 = .int .i64 x0_1 ∧ v3 = .int .i64 x3_1 ∧ Aside0 (spec_l02Pow.l0 kq x0_1 x3_1 = some r) ∧ Aside0 (kq ≤ k) ∧ Drawn0 w w')
 case atStart=>exact⟨(a0),(1),(by first|rfl|(simp;done)|(simp [*];done)),(by first|rfl|(simp;done)|(simp [*];done)),H',⟨Nat.le_refl _⟩,by repeat (first|exact Drawn0.refl _|apply Drawn0.step)⟩
 case round =>
  clear H'
  obtain⟨x0_1,x3_1,rfl,rfl,HA,HK1,⟨m1,rfl⟩⟩:=hrel
  cases gk with
  | zero=>exact absurd HA.out (by simp [spec_l02Pow.l0])
  | succ k1 =>
   have H:=HA.out
   clear HA
   simp only [spec_l02Pow.l0] at H
   by_cases c2:x0_1 > 0
   ·rw [if_pos c2] at H
    have c2b0:decide (0 < x0_1) = true:=decide_eq_true c2
    clear c2
    have H':=mk0 H
    clear H
    go_wp2
    go_roundg k1
    case measure=>have:=HK1.out;omega
    case rel=>exact⟨(wrap64 (x0_1 - 1)),(wrap64 (2 * x3_1)),(by first|rfl|(simp;done)|(simp [*];done)),(by first|rfl|(simp;done)|(simp [*];done)),H',⟨by have:=HK1.out;omega⟩,by repeat (first|exact Drawn0.refl _|apply Drawn0.step)⟩
   ·rw [if_neg c2] at H
    have c2b0:decide (0 < x0_1) = false:=decide_eq_false c2
    clear c2
    obtain rfl:=Option.some.inj H
    go_wp2
    go_ret
    exact⟨by first|rfl|(simp;done)|(simp [*];done),by repeat (first|exact Drawn0.refl _|apply Drawn0.step)⟩

end Go.Proofs.Ytgjmmegmkdklbaa.QFnHuffBest
