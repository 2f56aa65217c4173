-- A walk, made by walk.py, a program of this session's.
import Derived.Test.YtgjmmegmkdklbaaQFnPrefixx0
namespace Go.Proofs.Ytgjmmegmkdklbaa.QFnPrefix
open Go.RowKit Go.Proofs.YtgjmmegmkdklbaaW.PrintWords Go.Proofs.YtgjmmegmkdklbaaW.PrintLast Go.Proofs.YtgjmmegmkdklbaaW.PrintMore
attribute [local go_sem] max2_int min2_int max_two min_two max_three min_three max_four min_four   -- for this text's walks alone
set_option linter.unusedVariables false
set_option linter.unusedSimpArgs false

/-! ### slices_Max_int_int: function 68 -/
def slices_Max_int_int.l0 : Nat → List Int → Int → Int → Option (Int)
 | 0, _, _, _ => none
 | k + 1, x0, x3, x4 => if x4 < (x0.length : Int) then (if 0 ≤ x4 then (slices_Max_int_int.l0 k x0 (mx x3 (rd x0 x4)) (wrap64 (x4 + 1))) else (none)) else (some x3)
def slices_Max_int_int.f (k : Nat) (l0 : List Int) : Option (Int) := if (l0.length : Int) < 1 then (none) else (if 0 < (l0.length : Int) then (slices_Max_int_int.l0 k l0 (rd l0 0) 1) else (none))
theorem slices_Max_int_int.mono_l : ∀ k, (∀ y0 y1 y2, LeO (slices_Max_int_int.l0 k y0 y1 y2) (slices_Max_int_int.l0 (k + 1) y0 y1 y2))
 | 0 => fun _ _ _ r h => by simp [slices_Max_int_int.l0] at h
 | k + 1 => by
  have ih0 := slices_Max_int_int.mono_l k
  ·intro y0 y1 y2
   unfold slices_Max_int_int.l0
   repeat' first|(with_reducible first|exact ih0 _ _ _|exact LeO.refl _|exact LeO.none _|refine LeO.ite ?_ ?_|refine LeO.bind ?_ (fun _ => ?_))|exact LeO.none _|refine LeO.ite ?_ ?_|refine LeO.bind ?_ (fun _ => ?_)
theorem slices_Max_int_int.mono : ∀ a0 k, LeO (slices_Max_int_int.f k a0) (slices_Max_int_int.f (k + 1) a0) := by
 intro a0 k
 have ih0 := slices_Max_int_int.mono_l k
 unfold slices_Max_int_int.f
 repeat' first|(with_reducible first|exact ih0 _ _ _|exact LeO.refl _|exact LeO.none _|refine LeO.ite ?_ ?_|refine LeO.bind ?_ (fun _ => ?_))|exact LeO.none _|refine LeO.ite ?_ ?_|refine LeO.bind ?_ (fun _ => ?_)
set_option maxHeartbeats 8000000 in
set_option maxRecDepth 100000 in
theorem slices_Max_int_int.calls (k : Nat) (A0 : Option Addr) (c0 : Nat) (l0 : List Int) (r : Int) (w : World) (hr0 : Kd.C (Kd.int .i64) w A0 l0.length l0) (hc0 : l0.length ≤ c0) (h : slices_Max_int_int.f k l0 = some r) :
  Calls Try.prog 68 #[.slice A0 l0.length c0] w fun e w' => e = .returned (.int .i64 r) ∧ Below w.heap.size w w' := by
 have HR0:=mk0 hr0
 have HC0:=mk0 hc0
 clear hr0 hc0
 have HB:=mk0 (Below.refl w.heap.size w)
 have H:(if (l0.length:Int) < 1 then (none) else (if 0 < (l0.length:Int) then (slices_Max_int_int.l0 k l0 (rd l0 0) 1) else (none))) = some r:=h
 clear h
 by_cases c2:(l0.length:Int) < 1
 ·rw [if_pos c2] at H
  exact absurd H (by simp)
 ·rw [if_neg c2] at H
  have c2b0:decide ((l0.length:Int) < 1) = false:=decide_eq_false c2
  have c2b1:decide (l0.length < 1) = false:=decide_eq_false (by omega)
  clear c2
  by_cases c3:0 < (l0.length:Int)
  ·rw [if_pos c3] at H
   have c3b0:decide (0 < (l0.length:Int)) = true:=decide_eq_true c3
   have c3b1:decide (0 < l0.length) = true:=decide_eq_true (by omega)
   clear c3
   have H':=mk0 H
   clear H
   have p299:0 ≤ (0:Int):=(by omega)
   have q299:0 < (l0.length:Int):=of_decide_eq_true (by first|(with_reducible assumption)|assumption)
   obtain⟨ad299,e299,hx299_0⟩:=Kd.at_int HR0.out 0 p299 q299
   cases e299
   have qi299:(0 < l0.length) = True:=eq_true (by omega)
   (try rw [show ((0:Int)).toNat = 0 from rfl] at hx299_0)
   (try rw [Addr.add_zero'] at hx299_0)
   replace p299:=eq_true p299
   replace q299:=eq_true q299
   go_enter Try.func68,Try.ntmps68
   go_wp2
   go_loopg [3,4] k (fun kq v3 v4 w'=>∃ (x3_1:Int) (x4_1:Int),v3 = .int .i64 x3_1 ∧ v4 = .int .i64 x4_1 ∧ Aside0 (slices_Max_int_int.l0 kq l0 x3_1 x4_1 = some r) ∧ Aside0 (kq ≤ k) ∧ Aside0 (Below w.heap.size w w'))
   case atStart=>exact⟨(rd l0 0),(1),(by first|rfl|(simp;done)|(simp [*];done)),(by first|rfl|(simp;done)|(simp [*];done)),H',⟨Nat.le_refl _⟩,⟨kB HB.out⟩⟩
   case round =>
    clear H'
    try clear c2
    try clear c2b0
    try clear c2b1
    try clear p2
    try clear q2
    try clear hx2
    try clear qi2
    try clear c3
    try clear c3b0
    try clear c3b1
    try clear hx299_0
    try clear p299
    try clear q299
    obtain⟨x3_1,x4_1,rfl,rfl,HA,HK1,HB⟩:=hrel
    cases gk with
    | zero=>exact absurd HA.out (by simp [slices_Max_int_int.l0])
    | succ k1 =>
     have H:=HA.out
     clear HA
     simp only [slices_Max_int_int.l0] at H
     by_cases c4:x4_1 < (l0.length:Int)
     ·rw [if_pos c4] at H
      have c4b0:decide (x4_1 < (l0.length:Int)) = true:=decide_eq_true c4
      clear c4
      by_cases c5:0 ≤ x4_1
      ·rw [if_pos c5] at H
       have c5b0:decide (0 ≤ x4_1) = true:=decide_eq_true c5
       clear c5
       obtain⟨ji6,hji6⟩:∃ j_:Int,(mx x3_1 (rd l0 x4_1)) = j_:=⟨_,rfl⟩
       replace H:(slices_Max_int_int.l0 k1 l0 ji6 (wrap64 (x4_1 + 1))) = some r:=by first|(rw [hji6] at H;exact H)|(simp only [hji6] at H ⊢;exact H)
       have hji6_:(if x3_1 < (rd l0 x4_1) then (rd l0 x4_1) else x3_1) = ji6:=hji6
       have H':=mk0 H
       clear H
       have p300:0 ≤ (x4_1:Int):=of_decide_eq_true (by first|(with_reducible assumption)|assumption)
       have q300:x4_1 < (l0.length:Int):=of_decide_eq_true (by first|(with_reducible assumption)|assumption)
       obtain⟨ad300,e300,hx300_0⟩:=Kd.at_int HR0.out x4_1 p300 q300
       obtain rfl:ad299 = ad300:=(by injection e300)
       replace hx300_0:=(HB.out.cell (World.block_lt_of_cell? w _ hx300_0)).trans hx300_0
       replace p300:=eq_true p300
       replace q300:=eq_true q300
       go_wp2
       go_roundg k1
       case measure=>have:=HK1.out;omega
       case rel=>exact⟨(ji6),(wrap64 (x4_1 + 1)),(by first|rfl|(simp;done)|(simp only [← hji6] <;> (first|rfl|simp))|(simp [*];done)),(by first|rfl|(simp;done)|(simp [*];done)),H',⟨by have:=HK1.out;omega⟩,⟨kB HB.out⟩⟩
      ·rw [if_neg c5] at H
       exact absurd H (by simp)
     ·rw [if_neg c4] at H
      have c4b0:decide (x4_1 < (l0.length:Int)) = false:=decide_eq_false c4
      clear c4
      obtain rfl:=Option.some.inj H
      go_wp2
      go_ret
      exact⟨by first|rfl|(simp [errW_none,errW_some] <;> rfl)|(simp [*,errW_none,errW_some] <;> rfl),kB HB.out⟩
  ·rw [if_neg c3] at H
   exact absurd H (by simp)


/-! ### impl_areAll_67: areAll at the function value 67 -/
def impl_areAll_67.f (l0 : List Int) : Option (Bool) := if l0.length ≤ maxLen then some (l0.all Fv.p67) else none
theorem impl_areAll_67.calls (A0 : Option Addr) (c0 : Nat) (l0 : List Int) (r : Bool) (w : World) (hr0 : Kd.C (Kd.int .i64) w A0 l0.length l0) (hc0 : l0.length ≤ c0) (h : impl_areAll_67.f l0 = some r) :
    Calls Try.prog 53 #[.slice A0 l0.length c0, .func (.func 67) #[] #[]] w fun e w' => e = .returned (.bool r) ∧ Below w.heap.size w w' := by
  unfold impl_areAll_67.f at h
  by_cases hm : l0.length ≤ maxLen
  · rw [if_pos hm] at h
    obtain rfl := Option.some.inj h
    exact Fv.areAll 67 #[] _ (enters_of Try.func67 (by kernel_rfl) rfl) A0 c0 l0 w hr0 hc0 hm (Fv.tells67 w)
  · rw [if_neg hm] at h
    exact absurd h (by simp)

/-! ### impl_HuffOk: function 35 -/
mutual
def impl_HuffOk.j0 : Nat → List Int → Bool → Option (Bool)
 | 0, _, _ => none
 | k + 1, x0, x14 => if x14 = true then (some false) else (impl_HuffOk.l0 k x0 0 0 x0 (x0.length : Int) 0)
def impl_HuffOk.l0 : Nat → List Int → Int → Int → List Int → Int → Int → Option (Bool)
 | 0, _, _, _, _, _, _ => none
 | k + 1, x0, x3, x4, x15, x16, x17 => if x17 < x16 then (if 0 ≤ x17 then (if x17 < (x15.length : Int) then (if (rd x15 x17) > 0 then (if 0 ≤ (wrap64 (60 - (rd x15 x17))) then (impl_HuffOk.l0 k x0 (wrap64 (x3 + 1)) (mn (wrap64 (x4 + (shl .i64 1 (wrap64 (60 - (rd x15 x17)))))) 1152921504606846977) x15 x16 (wrap64 (x17 + 1))) else (none)) else (impl_HuffOk.l0 k x0 x3 x4 x15 x16 (wrap64 (x17 + 1)))) else (none)) else (none)) else (if x4 = 1152921504606846976 then (some true) else (if x3 = 1 then ((slices_Max_int_int.f k x0).bind fun t303 => (some (t303 == 1))) else (some false)))
end
def impl_HuffOk.f (k : Nat) (l0 : List Int) : Option (Bool) := if (l0.length : Int) > 300 then (impl_HuffOk.j0 k l0 true) else ((impl_areAll_67.f l0).bind fun t301 => (impl_HuffOk.j0 k l0 (!t301)))
theorem impl_HuffOk.mono_l : ∀ k, (∀ y0 y1, LeO (impl_HuffOk.j0 k y0 y1) (impl_HuffOk.j0 (k + 1) y0 y1)) ∧ (∀ y0 y1 y2 y3 y4 y5, LeO (impl_HuffOk.l0 k y0 y1 y2 y3 y4 y5) (impl_HuffOk.l0 (k + 1) y0 y1 y2 y3 y4 y5))
 | 0 => ⟨fun _ _ r h => by simp [impl_HuffOk.j0] at h, fun _ _ _ _ _ _ r h => by simp [impl_HuffOk.l0] at h⟩
 | k + 1 => by
  obtain ⟨ih0, ih1⟩ := impl_HuffOk.mono_l k
  refine ⟨?_, ?_⟩
  ·intro y0 y1
   unfold impl_HuffOk.j0
   repeat' first|(with_reducible first|exact ih0 _ _|exact ih1 _ _ _ _ _ _|exact slices_Max_int_int.mono _ _|exact LeO.refl _|exact LeO.none _|refine LeO.ite ?_ ?_|refine LeO.bind ?_ (fun _ => ?_))|exact LeO.none _|refine LeO.ite ?_ ?_|refine LeO.bind ?_ (fun _ => ?_)
  ·intro y0 y1 y2 y3 y4 y5
   unfold impl_HuffOk.l0
   repeat' first|(with_reducible first|exact ih0 _ _|exact ih1 _ _ _ _ _ _|exact slices_Max_int_int.mono _ _|exact LeO.refl _|exact LeO.none _|refine LeO.ite ?_ ?_|refine LeO.bind ?_ (fun _ => ?_))|exact LeO.none _|refine LeO.ite ?_ ?_|refine LeO.bind ?_ (fun _ => ?_)
theorem impl_HuffOk.mono : ∀ a0 k, LeO (impl_HuffOk.f k a0) (impl_HuffOk.f (k + 1) a0) := by
 intro a0 k
 obtain ⟨ih0, ih1⟩ := impl_HuffOk.mono_l k
 unfold impl_HuffOk.f
 repeat' first|(with_reducible first|exact ih0 _ _|exact ih1 _ _ _ _ _ _|exact slices_Max_int_int.mono _ _|exact LeO.refl _|exact LeO.none _|refine LeO.ite ?_ ?_|refine LeO.bind ?_ (fun _ => ?_))|exact LeO.none _|refine LeO.ite ?_ ?_|refine LeO.bind ?_ (fun _ => ?_)
set_option maxHeartbeats 8000000 in
set_option maxRecDepth 100000 in
theorem impl_HuffOk.calls (k : Nat) (A0 : Option Addr) (c0 : Nat) (l0 : List Int) (r : Bool) (w : World) (hr0 : Kd.C (Kd.int .i64) w A0 l0.length l0) (hc0 : l0.length ≤ c0) (h : impl_HuffOk.f k l0 = some r) :
  Calls Try.prog 35 #[.slice A0 l0.length c0] w fun e w' => e = .returned (.bool r) ∧ Below w.heap.size w w' := by
 have HR0:=mk0 hr0
 have HC0:=mk0 hc0
 clear hr0 hc0
 have HB:=mk0 (Below.refl w.heap.size w)
 have H:(if (l0.length:Int) > 300 then (impl_HuffOk.j0 k l0 true) else ((impl_areAll_67.f l0).bind fun t301=>(impl_HuffOk.j0 k l0 (!t301)))) = some r:=h
 clear h
 have HC2:=mk0 H
 clear H
 go_enter Try.func35,Try.ntmps35
 go_upto_region 1 with (fail)
 go_cut [14] (fun v14 wc=>∃ (kq:Nat) (x14_1:Bool),v14 = .bool x14_1 ∧ Aside0 (impl_HuffOk.j0 kq l0 x14_1 = some r) ∧ Aside0 (kq ≤ k) ∧ Aside0 (Below w.heap.size w wc))
 case first =>
  have H:=HC2.out
  clear HC2
  by_cases c3:(l0.length:Int) > 300
  ·rw [if_pos c3] at H
   have c3b0:decide (300 < (l0.length:Int)) = true:=decide_eq_true c3
   have c3b1:decide (300 < l0.length) = true:=decide_eq_true (by omega)
   clear c3
   (first|rw [c3b0]|(simp only [i64_w,i32_w];rw [c3b0])|skip)
   have H':=mk0 H
   clear H
   go_wp2
   go_meet
   case rel=>exact⟨_,(true),(by first|rfl|(simp;done)|(simp [*];done)),H',⟨by first|omega|exact Nat.le_refl _⟩,⟨kB HB.out⟩⟩
  ·rw [if_neg c3] at H
   have c3b0:decide (300 < (l0.length:Int)) = false:=decide_eq_false c3
   have c3b1:decide (300 < l0.length) = false:=decide_eq_false (by omega)
   clear c3
   (first|rw [c3b0]|(simp only [i64_w,i32_w];rw [c3b0])|skip)
   replace H:=Option.bind_eq_some_iff.mp H
   obtain⟨t301,A40,H⟩:=H
   replace H:(impl_HuffOk.j0 k l0 (!t301)) = some r:=H
   have A4:=mk0 A40
   clear A40
   have H':=mk0 H
   clear H
   go_wp2_with (first|(go_at_call 53;(with_reducible refine (impl_areAll_67.calls _ _ l0 t301 _ ?side1 ?side2 A4.out).mono ?_);(case side1=>exact kC (Kd.C_below HR0.out HB.out));(case side2=>exact HC0.out);rintro e w5 ⟨rfl,hb⟩;replace HB:=mk0 (kS HB.out hb);(try clear hb)))
   go_meet
   case rel=>exact⟨_,(!t301),(by first|rfl|(simp;done)|(simp [*];done)),H',⟨by first|omega|exact Nat.le_refl _⟩,⟨kB HB.out⟩⟩
 case rest =>
  clear HC2
  try clear p2
  try clear c3
  try clear c3b0
  try clear c3b1
  obtain⟨kq,x14_1,rfl,HA,HJ1,HB⟩:=hcut
  cases kq with
  | zero=>exact absurd HA.out (by simp [impl_HuffOk.j0])
  | succ kj1 =>
   have H:=HA.out
   clear HA
   simp only [impl_HuffOk.j0] at H
   by_cases c6:x14_1 = true
   ·subst c6
    have H1:(some false) = some r:=by rw [if_pos rfl] at H;exact H
    clear H
    have H:=H1
    clear H1
    obtain rfl:=Option.some.inj H
    go_wp2
    go_ret
    exact⟨by first|rfl|(simp [errW_none,errW_some] <;> rfl)|(simp [*,errW_none,errW_some] <;> rfl),kB HB.out⟩
   ·replace c6:=Bool.eq_false_iff.mpr c6
    subst c6
    have H1:(impl_HuffOk.l0 kj1 l0 0 0 l0 (l0.length:Int) 0) = some r:=by rw [if_neg (show ¬ (false = true) by decide)] at H;exact H
    clear H
    have H:=H1
    clear H1
    have H':=mk0 H
    clear H
    go_wp2
    go_loopg [3,4,17] kj1 (fun kq v3 v4 v17 w'=>∃ (x3_2:Int) (x4_2:Int) (x17_2:Int),v3 = .int .i64 x3_2 ∧ v4 = .int .i64 x4_2 ∧ v17 = .int .i64 x17_2 ∧ Aside0 (impl_HuffOk.l0 kq l0 x3_2 x4_2 l0 (l0.length:Int) x17_2 = some r) ∧ Aside0 (kq ≤ kj1) ∧ Aside0 (Below w.heap.size w w'))
    case atStart=>exact⟨(0),(0),(0),(by first|rfl|(simp;done)|(simp [*];done)),(by first|rfl|(simp;done)|(simp [*];done)),(by first|rfl|(simp;done)|(simp [*];done)),H',⟨Nat.le_refl _⟩,⟨kB HB.out⟩⟩
    case round =>
     clear H'
     try clear p2
     try clear c3
     try clear c3b0
     try clear c3b1
     try clear c6
     try clear p2
     obtain⟨x3_2,x4_2,x17_2,rfl,rfl,rfl,HA,HK2,HB⟩:=hrel
     cases gk with
     | zero=>exact absurd HA.out (by simp [impl_HuffOk.l0])
     | succ k2 =>
      have H:=HA.out
      clear HA
      simp only [impl_HuffOk.l0] at H
      by_cases c7:x17_2 < (l0.length:Int)
      ·rw [if_pos c7] at H
       have c7b0:decide (x17_2 < (l0.length:Int)) = true:=decide_eq_true c7
       clear c7
       by_cases c8:0 ≤ x17_2
       ·rw [if_pos c8] at H
        have c8b0:decide (0 ≤ x17_2) = true:=decide_eq_true c8
        clear c8
        by_cases c9:x17_2 < (l0.length:Int)
        ·rw [if_pos c9] at H
         have c9b0:decide (x17_2 < (l0.length:Int)) = true:=decide_eq_true c9
         clear c9
         by_cases c10:(rd l0 x17_2) > 0
         ·rw [if_pos c10] at H
          have c10b0:decide (0 < (rd l0 x17_2)) = true:=decide_eq_true c10
          clear c10
          obtain⟨ji11,hji11⟩:∃ j_:Int,(wrap64 (60 - (rd l0 x17_2))) = j_:=⟨_,rfl⟩
          replace H:(if 0 ≤ (ji11) then (impl_HuffOk.l0 k2 l0 (wrap64 (x3_2 + 1)) (mn (wrap64 (x4_2 + (shl .i64 1 (ji11)))) 1152921504606846977) l0 (l0.length:Int) (wrap64 (x17_2 + 1))) else (none)) = some r:=by first|(rw [hji11] at H;exact H)|(simp only [hji11] at H ⊢;exact H)
          have hji11w:(IntKind.i64.wrap (60 - (rd l0 x17_2))) = ji11:=(i64_w _).trans hji11
          by_cases c12:0 ≤ (ji11)
          ·rw [if_pos c12] at H
           have c12b0:=eq_true c12
           have c12b1:decide (0 ≤ (ji11)) = true:=decide_eq_true c12
           clear c12
           obtain⟨ji13,hji13⟩:∃ j_:Int,(shl .i64 1 (ji11)) = j_:=⟨_,rfl⟩
           replace H:(impl_HuffOk.l0 k2 l0 (wrap64 (x3_2 + 1)) (mn (wrap64 (x4_2 + (ji13))) 1152921504606846977) l0 (l0.length:Int) (wrap64 (x17_2 + 1))) = some r:=by first|(rw [hji13] at H;exact H)|(simp only [hji13] at H ⊢;exact H)
           have hji13_:(IntKind.i64.wrap (1 * 2 ^ min (ji11).toNat 64)) = ji13:=hji13
           have hji13z:(ji11) ≤ 64 → (IntKind.i64.wrap (1 * 2 ^ (ji11).toNat)) = ji13:=shl_small hji13
           have hji13u:(IntKind.i64.wrap (2 ^ min (ji11).toNat 64)) = ji13:=by have h_:=hji13_;rw [Int.one_mul] at h_;exact h_
           have hji13v:(ji11) ≤ 64 → (IntKind.i64.wrap (2 ^ (ji11).toNat)) = ji13:=fun hle_=>by have h_:=hji13z hle_;rw [Int.one_mul] at h_;exact h_
           have hji13y:(wrap64 (1 * 2 ^ min (ji11).toNat 64)) = ji13:=(i64_w _).symm.trans hji13_
           have hji13x:(ji11) ≤ 64 → (wrap64 (1 * 2 ^ (ji11).toNat)) = ji13:=fun h_=>(i64_w _).symm.trans (hji13z h_)
           obtain⟨ji14,hji14⟩:∃ j_:Int,(mn (wrap64 (x4_2 + (ji13))) 1152921504606846977) = j_:=⟨_,rfl⟩
           replace H:(impl_HuffOk.l0 k2 l0 (wrap64 (x3_2 + 1)) ji14 l0 (l0.length:Int) (wrap64 (x17_2 + 1))) = some r:=by first|(rw [hji14] at H;exact H)|(simp only [hji14] at H ⊢;exact H)
           have hji14_:(if 1152921504606846977 < (wrap64 (x4_2 + (ji13))) then 1152921504606846977 else (wrap64 (x4_2 + (ji13)))) = ji14:=hji14
           have H':=mk0 H
           clear H
           have p302:0 ≤ (x17_2:Int):=of_decide_eq_true (by first|(with_reducible assumption)|assumption)
           have q302:x17_2 < (l0.length:Int):=of_decide_eq_true (by first|(with_reducible assumption)|assumption)
           obtain⟨ad302,e302,hx302_0⟩:=Kd.at_int HR0.out x17_2 p302 q302
           cases e302
           replace hx302_0:=(HB.out.cell (World.block_lt_of_cell? w _ hx302_0)).trans hx302_0
           replace p302:=eq_true p302
           replace q302:=eq_true q302
           go_wp2
           go_roundg k2
           case measure=>have:=HJ1.out;have:=HK2.out;omega
           case rel=>exact⟨(wrap64 (x3_2 + 1)),(ji14),(wrap64 (x17_2 + 1)),(by first|rfl|(simp;done)|(simp [*];done)),(by first|rfl|(simp;done)|(simp only [← hji14] <;> (first|rfl|simp))|(simp [*];done)),(by first|rfl|(simp;done)|(simp [*];done)),H',⟨by have:=HJ1.out;have:=HK2.out;omega⟩,⟨kB HB.out⟩⟩
          ·rw [if_neg c12] at H
           exact absurd H (by simp)
         ·rw [if_neg c10] at H
          have c10b0:decide (0 < (rd l0 x17_2)) = false:=decide_eq_false c10
          clear c10
          have H':=mk0 H
          clear H
          have p302:0 ≤ (x17_2:Int):=of_decide_eq_true (by first|(with_reducible assumption)|assumption)
          have q302:x17_2 < (l0.length:Int):=of_decide_eq_true (by first|(with_reducible assumption)|assumption)
          obtain⟨ad302,e302,hx302_0⟩:=Kd.at_int HR0.out x17_2 p302 q302
          cases e302
          replace hx302_0:=(HB.out.cell (World.block_lt_of_cell? w _ hx302_0)).trans hx302_0
          replace p302:=eq_true p302
          replace q302:=eq_true q302
          go_wp2
          go_roundg k2
          case measure=>have:=HJ1.out;have:=HK2.out;omega
          case rel=>exact⟨(x3_2),(x4_2),(wrap64 (x17_2 + 1)),(by first|rfl|(simp;done)|(simp [*];done)),(by first|rfl|(simp;done)|(simp [*];done)),(by first|rfl|(simp;done)|(simp [*];done)),H',⟨by have:=HJ1.out;have:=HK2.out;omega⟩,⟨kB HB.out⟩⟩
        ·rw [if_neg c9] at H
         exact absurd H (by simp)
       ·rw [if_neg c8] at H
        exact absurd H (by simp)
      ·rw [if_neg c7] at H
       have c7b0:decide (x17_2 < (l0.length:Int)) = false:=decide_eq_false c7
       clear c7
       by_cases c15:x4_2 = 1152921504606846976
       ·rw [if_pos c15] at H
        have c15b0:(x4_2 == 1152921504606846976) = true:=beq_iff_eq.mpr c15
        have c15b1:(x4_2 != 1152921504606846976) = false:=bne_eq_false_iff_eq.mpr c15
        clear c15
        obtain rfl:=Option.some.inj H
        go_wp2
        go_ret
        exact⟨by first|rfl|(simp [errW_none,errW_some] <;> rfl)|(simp [*,errW_none,errW_some] <;> rfl),kB HB.out⟩
       ·rw [if_neg c15] at H
        have c15b0:(x4_2 == 1152921504606846976) = false:=beq_eq_false_iff_ne.mpr c15
        have c15b1:(x4_2 != 1152921504606846976) = true:=bne_iff_ne.mpr c15
        by_cases c16:x3_2 = 1
        ·rw [if_pos c16] at H
         have c16b0:(x3_2 == 1) = true:=beq_iff_eq.mpr c16
         have c16b1:(x3_2 != 1) = false:=bne_eq_false_iff_eq.mpr c16
         clear c16
         replace H:=Option.bind_eq_some_iff.mp H
         obtain⟨t303,A170,H⟩:=H
         replace H:(some (t303 == 1)) = some r:=H
         have A17:=mk0 A170
         clear A170
         obtain rfl:=Option.some.inj H
         go_wp2_with (first|(go_at_call 68;(with_reducible refine (slices_Max_int_int.calls k2 _ _ l0 t303 _ ?side1 ?side2 A17.out).mono ?_);(case side1=>exact kC (Kd.C_below HR0.out HB.out));(case side2=>exact HC0.out);rintro e w18 ⟨rfl,hb⟩;replace HB:=mk0 (kS HB.out hb);(try clear hb)))
         go_ret
         exact⟨by first|rfl|(simp [errW_none,errW_some] <;> rfl)|(simp [*,errW_none,errW_some] <;> rfl),kB HB.out⟩
        ·rw [if_neg c16] at H
         have c16b0:(x3_2 == 1) = false:=beq_eq_false_iff_ne.mpr c16
         have c16b1:(x3_2 != 1) = true:=bne_iff_ne.mpr c16
         obtain rfl:=Option.some.inj H
         go_wp2
         go_ret
         exact⟨by first|rfl|(simp [errW_none,errW_some] <;> rfl)|(simp [*,errW_none,errW_some] <;> rfl),kB HB.out⟩

/-! ### impl_huffCodes: function 36 -/
mutual
def impl_huffCodes.l0 : Nat → List Int → Int → Int → Int → List Int → Option (List Int)
 | 0, _, _, _, _, _ => none
 | k + 1, x0, x4, x5, x6, x11 => if x6 ≤ 60 then (impl_huffCodes.l1 k x0 x4 x5 x6 x11 x0 (x0.length : Int) 0) else (some x11)
def impl_huffCodes.l1 : Nat → List Int → Int → Int → Int → List Int → List Int → Int → Int → Option (List Int)
 | 0, _, _, _, _, _, _, _, _ => none
 | k + 1, x0, x4, x5, x6, x11, x16, x17, x18 => if x18 < x17 then (if 0 ≤ x18 then (if x18 < (x16.length : Int) then (if (rd x16 x18) = x6 then (if 0 ≤ (wrap64 (x6 - x5)) then (if x18 < (x11.length : Int) then (impl_huffCodes.l1 k x0 (wrap64 ((shl .i64 x4 (wrap64 (x6 - x5))) + 1)) x6 x6 (x11.set (x18 : Int).toNat (shl .i64 x4 (wrap64 (x6 - x5)))) x16 x17 (wrap64 (x18 + 1))) else (none)) else (none)) else (impl_huffCodes.l1 k x0 x4 x5 x6 x11 x16 x17 (wrap64 (x18 + 1)))) else (none)) else (none)) else (impl_huffCodes.l0 k x0 x4 x5 (wrap64 (x6 + 1)) x11)
end
def impl_huffCodes.f (k : Nat) (l0 : List Int) : Option (List Int) := if 0 ≤ (l0.length : Int) then (if ((l0.length : Int) : Int).toNat ≤ 35184372088832 then (impl_huffCodes.l0 k l0 0 0 1 (List.replicate ((l0.length : Int) : Int).toNat 0)) else (none)) else (none)
theorem impl_huffCodes.mono_l : ∀ k, (∀ y0 y1 y2 y3 y4, LeO (impl_huffCodes.l0 k y0 y1 y2 y3 y4) (impl_huffCodes.l0 (k + 1) y0 y1 y2 y3 y4)) ∧ (∀ y0 y1 y2 y3 y4 y5 y6 y7, LeO (impl_huffCodes.l1 k y0 y1 y2 y3 y4 y5 y6 y7) (impl_huffCodes.l1 (k + 1) y0 y1 y2 y3 y4 y5 y6 y7))
 | 0 => ⟨fun _ _ _ _ _ r h => by simp [impl_huffCodes.l0] at h, fun _ _ _ _ _ _ _ _ r h => by simp [impl_huffCodes.l1] at h⟩
 | k + 1 => by
  obtain ⟨ih0, ih1⟩ := impl_huffCodes.mono_l k
  refine ⟨?_, ?_⟩
  ·intro y0 y1 y2 y3 y4
   unfold impl_huffCodes.l0
   repeat' first|(with_reducible first|exact ih0 _ _ _ _ _|exact ih1 _ _ _ _ _ _ _ _|exact LeO.refl _|exact LeO.none _|refine LeO.ite ?_ ?_|refine LeO.bind ?_ (fun _ => ?_))|exact LeO.none _|refine LeO.ite ?_ ?_|refine LeO.bind ?_ (fun _ => ?_)
  ·intro y0 y1 y2 y3 y4 y5 y6 y7
   unfold impl_huffCodes.l1
   repeat' first|(with_reducible first|exact ih0 _ _ _ _ _|exact ih1 _ _ _ _ _ _ _ _|exact LeO.refl _|exact LeO.none _|refine LeO.ite ?_ ?_|refine LeO.bind ?_ (fun _ => ?_))|exact LeO.none _|refine LeO.ite ?_ ?_|refine LeO.bind ?_ (fun _ => ?_)
theorem impl_huffCodes.mono : ∀ a0 k, LeO (impl_huffCodes.f k a0) (impl_huffCodes.f (k + 1) a0) := by
 intro a0 k
 obtain ⟨ih0, ih1⟩ := impl_huffCodes.mono_l k
 unfold impl_huffCodes.f
 repeat' first|(with_reducible first|exact ih0 _ _ _ _ _|exact ih1 _ _ _ _ _ _ _ _|exact LeO.refl _|exact LeO.none _|refine LeO.ite ?_ ?_|refine LeO.bind ?_ (fun _ => ?_))|exact LeO.none _|refine LeO.ite ?_ ?_|refine LeO.bind ?_ (fun _ => ?_)
set_option maxHeartbeats 8000000 in
set_option maxRecDepth 100000 in
theorem impl_huffCodes.calls (k : Nat) (A0 : Option Addr) (c0 : Nat) (l0 : List Int) (r : List Int) (w : World) (hr0 : Kd.C (Kd.int .i64) w A0 l0.length l0) (hc0 : l0.length ≤ c0) (h : impl_huffCodes.f k l0 = some r) :
  Calls Try.prog 36 #[.slice A0 l0.length c0] w fun e w' => ∃ v0_ : Value, e = .returned (v0_) ∧ Kd.R (Kd.int .i64) 3 w' w.heap.size (fun _ => True) v0_ r ∧ Below w.heap.size w w' := by
 have HR0:=mk0 hr0
 have HC0:=mk0 hc0
 clear hr0 hc0
 have HB:=mk0 (Below.refl w.heap.size w)
 have H:(if 0 ≤ (l0.length:Int) then (if ((l0.length:Int):Int).toNat ≤ 35184372088832 then (impl_huffCodes.l0 k l0 0 0 1 (List.replicate ((l0.length:Int):Int).toNat 0)) else (none)) else (none)) = some r:=h
 clear h
 by_cases c2:0 ≤ (l0.length:Int)
 ·rw [if_pos c2] at H
  have c2b0:=eq_true c2
  have c2b1:decide (0 ≤ (l0.length:Int)) = true:=decide_eq_true c2
  clear c2
  by_cases c3:((l0.length:Int):Int).toNat ≤ 35184372088832
  ·rw [if_pos c3] at H
   have c3b0:=eq_true c3
   have c3b1:decide (((l0.length:Int):Int).toNat ≤ 35184372088832) = true:=decide_eq_true c3
   clear c3
   obtain⟨y304,hy304⟩:∃ y_:List Int,y_ = (List.replicate ((l0.length:Int):Int).toNat 0):=⟨_,rfl⟩
   replace H:(impl_huffCodes.l0 k l0 0 0 1 y304) = some r:=by first|(rw [hy304];with_reducible exact H)|(have H2_:=(Option.bind_some _ _).symm.trans H;rw [hy304];with_reducible exact H2_)|(have H2_:=(Option.bind_some _ _).symm.trans H;with_reducible exact H2_)|with_reducible exact H|(rw [hy304];exact H)|exact H
   have Ny304:=mk0 hy304
   clear hy304
   have H':=mk0 H
   clear H
   go_enter Try.func36,Try.ntmps36
   go_wp2_with (first|((with_reducible refine gate_dst (N:=11) rfl ?_);refine Kd.R_make (Kd.int .i64) _ 3 rfl (N:=11) rfl 24 _ _ rfl (l0.length:Int) rfl rfl Try.underlying24 (.int .i64 0) 8 info3 rfl (by decide) (by omega) 0 (ok:=fun _=>True) (okp:=fun _=>True) rfl (fun _ hk=>hk) trivial (of_decide_eq_true (by first|(with_reducible assumption)|assumption)) (Nat.le_trans (Nat.mul_le_mul_right _ (of_decide_eq_true (by first|(with_reducible assumption)|assumption):(l0.length:Int).toNat ≤ 35184372088832)) (by omega)) (Below.refl _ _) (Nat.le_refl _) ?_;intro v305 w4 ho5 hb hg_ hnew_;clear hg_ hnew_;(first|rw [← Ny304.out] at ho5|(simp only [Int.reduceToNat] at ho5;rw [← Ny304.out] at ho5));have HO306:=mk0 (Kd.R_lower ho5 (kZ HB.out));replace HB:=mk0 (kS HB.out hb);clear hb ho5))
   go_loopg [4,5,6] k (fun kq v4 v5 v6 w'=>∃ (x4_1:Int) (x5_1:Int) (x6_1:Int) (x11_1:List Int),v4 = .int .i64 x4_1 ∧ v5 = .int .i64 x5_1 ∧ v6 = .int .i64 x6_1 ∧ Aside0 (impl_huffCodes.l0 kq l0 x4_1 x5_1 x6_1 x11_1 = some r) ∧ Aside0 (kq ≤ k) ∧ Aside0 (Kd.R (Kd.int .i64) 3 w' w.heap.size (fun _=>True) v305 x11_1) ∧ Aside0 (Below w.heap.size w w'))
   case atStart=>exact⟨(0),(0),(1),(y304),(by first|rfl|(simp;done)|(simp [*];done)),(by first|rfl|(simp;done)|(simp [*];done)),(by first|rfl|(simp;done)|(simp [*];done)),H',⟨Nat.le_refl _⟩,⟨rR HO306.out⟩,⟨kB HB.out⟩⟩
   case round =>
    clear H'
    try clear c2
    try clear c2b0
    try clear c2b1
    try clear p2
    try clear c3
    try clear c3b0
    try clear c3b1
    obtain⟨x4_1,x5_1,x6_1,x11_1,rfl,rfl,rfl,HA,HK1,HO_11,HB⟩:=hrel
    cases gk with
    | zero=>exact absurd HA.out (by simp [impl_huffCodes.l0])
    | succ k1 =>
     have H:=HA.out
     clear HA
     simp only [impl_huffCodes.l0] at H
     by_cases c6:x6_1 ≤ 60
     ·rw [if_pos c6] at H
      have c6b0:decide (x6_1 ≤ 60) = true:=decide_eq_true c6
      clear c6
      have H':=mk0 H
      clear H
      go_wp2
      go_loopg [4,5,18] k1 (fun kq v4 v5 v18 w'=>∃ (x4_2:Int) (x5_2:Int) (x11_2:List Int) (x18_2:Int),v4 = .int .i64 x4_2 ∧ v5 = .int .i64 x5_2 ∧ v18 = .int .i64 x18_2 ∧ Aside0 (impl_huffCodes.l1 kq l0 x4_2 x5_2 x6_1 x11_2 l0 (l0.length:Int) x18_2 = some r) ∧ Aside0 (kq ≤ k1) ∧ Aside0 (Kd.R (Kd.int .i64) 3 w' w.heap.size (fun _=>True) v305 x11_2) ∧ Aside0 (Below w.heap.size w w'))
      case atStart=>exact⟨(x4_1),(x5_1),(x11_1),(0),(by first|rfl|(simp;done)|(simp [*];done)),(by first|rfl|(simp;done)|(simp [*];done)),(by first|rfl|(simp;done)|(simp [*];done)),H',⟨Nat.le_refl _⟩,⟨rR HO_11.out⟩,⟨kB HB.out⟩⟩
      case round =>
       clear H'
       try clear c2
       try clear c2b0
       try clear c2b1
       try clear p2
       try clear c3
       try clear c3b0
       try clear c3b1
       try clear c6
       try clear c6b0
       try clear p2
       obtain⟨x4_2,x5_2,x11_2,x18_2,rfl,rfl,rfl,HA,HK2,HO_11,HB⟩:=hrel
       cases gk with
       | zero=>exact absurd HA.out (by simp [impl_huffCodes.l1])
       | succ k2 =>
        have H:=HA.out
        clear HA
        simp only [impl_huffCodes.l1] at H
        by_cases c7:x18_2 < (l0.length:Int)
        ·rw [if_pos c7] at H
         have c7b0:decide (x18_2 < (l0.length:Int)) = true:=decide_eq_true c7
         clear c7
         by_cases c8:0 ≤ x18_2
         ·rw [if_pos c8] at H
          have c8b0:decide (0 ≤ x18_2) = true:=decide_eq_true c8
          clear c8
          by_cases c9:x18_2 < (l0.length:Int)
          ·rw [if_pos c9] at H
           have c9b0:decide (x18_2 < (l0.length:Int)) = true:=decide_eq_true c9
           clear c9
           by_cases c10:(rd l0 x18_2) = x6_1
           ·rw [if_pos c10] at H
            have c10b0:((rd l0 x18_2) == x6_1) = true:=beq_iff_eq.mpr c10
            have c10b1:((rd l0 x18_2) != x6_1) = false:=bne_eq_false_iff_eq.mpr c10
            clear c10
            obtain⟨ji11,hji11⟩:∃ j_:Int,(wrap64 (x6_1 - x5_2)) = j_:=⟨_,rfl⟩
            replace H:(if 0 ≤ (ji11) then (if x18_2 < (x11_2.length:Int) then (impl_huffCodes.l1 k2 l0 (wrap64 ((shl .i64 x4_2 (ji11)) + 1)) x6_1 x6_1 (x11_2.set (x18_2:Int).toNat (shl .i64 x4_2 (ji11))) l0 (l0.length:Int) (wrap64 (x18_2 + 1))) else (none)) else (none)) = some r:=by first|(rw [hji11] at H;exact H)|(simp only [hji11] at H ⊢;exact H)
            have hji11w:(IntKind.i64.wrap (x6_1 - x5_2)) = ji11:=(i64_w _).trans hji11
            by_cases c12:0 ≤ (ji11)
            ·rw [if_pos c12] at H
             have c12b0:=eq_true c12
             have c12b1:decide (0 ≤ (ji11)) = true:=decide_eq_true c12
             clear c12
             obtain⟨ji13,hji13⟩:∃ j_:Int,(shl .i64 x4_2 (ji11)) = j_:=⟨_,rfl⟩
             replace H:(if x18_2 < (x11_2.length:Int) then (impl_huffCodes.l1 k2 l0 (wrap64 ((ji13) + 1)) x6_1 x6_1 (x11_2.set (x18_2:Int).toNat (ji13)) l0 (l0.length:Int) (wrap64 (x18_2 + 1))) else (none)) = some r:=by first|(rw [hji13] at H;exact H)|(simp only [hji13] at H ⊢;exact H)
             have hji13_:(IntKind.i64.wrap (x4_2 * 2 ^ min (ji11).toNat 64)) = ji13:=hji13
             have hji13z:(ji11) ≤ 64 → (IntKind.i64.wrap (x4_2 * 2 ^ (ji11).toNat)) = ji13:=shl_small hji13
             have hji13y:(wrap64 (x4_2 * 2 ^ min (ji11).toNat 64)) = ji13:=(i64_w _).symm.trans hji13_
             have hji13x:(ji11) ≤ 64 → (wrap64 (x4_2 * 2 ^ (ji11).toNat)) = ji13:=fun h_=>(i64_w _).symm.trans (hji13z h_)
             by_cases c14:x18_2 < (x11_2.length:Int)
             ·rw [if_pos c14] at H
              have c14b0:decide (x18_2 < (x11_2.length:Int)) = true:=decide_eq_true c14
              clear c14
              obtain⟨y308,hy308⟩:∃ y_:List Int,y_ = (x11_2.set (x18_2:Int).toNat (ji13)):=⟨_,rfl⟩
              replace H:(impl_huffCodes.l1 k2 l0 (wrap64 ((ji13) + 1)) x6_1 x6_1 y308 l0 (l0.length:Int) (wrap64 (x18_2 + 1))) = some r:=by first|(rw [hy308];with_reducible exact H)|(have H2_:=(Option.bind_some _ _).symm.trans H;rw [hy308];with_reducible exact H2_)|(have H2_:=(Option.bind_some _ _).symm.trans H;with_reducible exact H2_)|with_reducible exact H|(rw [hy308];exact H)|exact H
              have Ny308:=mk0 hy308
              clear hy308
              have H':=mk0 H
              clear H
              have p307:0 ≤ (x18_2:Int):=of_decide_eq_true (by first|(with_reducible assumption)|assumption)
              have q307:x18_2 < (l0.length:Int):=of_decide_eq_true (by first|(with_reducible assumption)|assumption)
              obtain⟨ad307,e307,hx307_0⟩:=Kd.at_int HR0.out x18_2 p307 q307
              cases e307
              replace hx307_0:=(HB.out.cell (World.block_lt_of_cell? w _ hx307_0)).trans hx307_0
              replace p307:=eq_true p307
              replace q307:=eq_true q307
              have p15:0 ≤ (x18_2:Int):=of_decide_eq_true (by first|(with_reducible assumption)|assumption)
              have q15:(x18_2:Int) < ((x11_2.length:Int):Int):=of_decide_eq_true (by first|(with_reducible assumption)|assumption)
              obtain⟨go15,co15,eo15,gb15,gl15,cl15,HG15⟩:=Kd.R_form HO_11.out (by omega)
              (first|cases eo15|(injection eo15 with ea_ en_ ec_;(first|subst ea_|(injection ea_ with ea_;subst ea_));subst ec_;clear en_))
              have GB15:=mk0 gb15
              have GG15:=mk0 HG15
              clear gb15 gl15 HG15
              obtain⟨hx15_0,hf15_0⟩:=Kd.R_celln 0 HO_11.out (x18_2:Int) p15 q15
              replace p15:=eq_true p15
              replace q15:=eq_true q15
              have HP16:=Kd.R_putg HO_11.out (x18_2:Int) ji13
              go_wp2_with (first|((with_reducible refine gate_store (t:=3) (p:=35) rfl ?_);refine store_event (t:=3) (p:=35) (v:=?vo_w17) (w1:=(wr.setCell ⟨go15,(x18_2:Int).toNat,none⟩ (.int .i64 ji13))) ?hg ?ho ?hn ?hr ?_;(case ho=>rfl);(case hg=>rfl);(case hn=>rfl);(case hr=>first|(go_simp;done)|(go_simp;rfl));intro w17 hw;have hg:wr.grownBy w17 (some go15):=(by rw [hw];exact HP16.2);have hp_:Kd.R (Kd.int .i64) 3 w17 w.heap.size (fun _=>True) (.slice (some ⟨go15,0,none⟩) x11_2.length co15) y308:=(by rw [hw,Ny308.out];exact HP16.1);clear HP16;replace HO_11:=mk0 (hp_);replace HB:=mk0 ((by rw [hw];exact sZ (HB.out) GB15.out:Below w.heap.size w w17));clear hg hw hp_))
              go_roundg k2
              case measure=>have:=HK1.out;have:=HK2.out;omega
              case rel=>exact⟨(wrap64 ((ji13) + 1)),(x6_1),(y308),(wrap64 (x18_2 + 1)),(by first|rfl|(simp;done)|(simp only [← hji13] <;> (first|rfl|simp))|(simp [*];done)),(by first|rfl|(simp;done)|(simp [*];done)),(by first|rfl|(simp;done)|(simp [*];done)),H',⟨by have:=HK1.out;have:=HK2.out;omega⟩,⟨rR HO_11.out⟩,⟨kB HB.out⟩⟩
             ·rw [if_neg c14] at H
              exact absurd H (by simp)
            ·rw [if_neg c12] at H
             exact absurd H (by simp)
           ·rw [if_neg c10] at H
            have c10b0:((rd l0 x18_2) == x6_1) = false:=beq_eq_false_iff_ne.mpr c10
            have c10b1:((rd l0 x18_2) != x6_1) = true:=bne_iff_ne.mpr c10
            have H':=mk0 H
            clear H
            have p307:0 ≤ (x18_2:Int):=of_decide_eq_true (by first|(with_reducible assumption)|assumption)
            have q307:x18_2 < (l0.length:Int):=of_decide_eq_true (by first|(with_reducible assumption)|assumption)
            obtain⟨ad307,e307,hx307_0⟩:=Kd.at_int HR0.out x18_2 p307 q307
            cases e307
            replace hx307_0:=(HB.out.cell (World.block_lt_of_cell? w _ hx307_0)).trans hx307_0
            replace p307:=eq_true p307
            replace q307:=eq_true q307
            go_wp2
            go_roundg k2
            case measure=>have:=HK1.out;have:=HK2.out;omega
            case rel=>exact⟨(x4_2),(x5_2),(x11_2),(wrap64 (x18_2 + 1)),(by first|rfl|(simp;done)|(simp [*];done)),(by first|rfl|(simp;done)|(simp [*];done)),(by first|rfl|(simp;done)|(simp [*];done)),H',⟨by have:=HK1.out;have:=HK2.out;omega⟩,⟨rR HO_11.out⟩,⟨kB HB.out⟩⟩
          ·rw [if_neg c9] at H
           exact absurd H (by simp)
         ·rw [if_neg c8] at H
          exact absurd H (by simp)
        ·rw [if_neg c7] at H
         have c7b0:decide (x18_2 < (l0.length:Int)) = false:=decide_eq_false c7
         clear c7
         have H':=mk0 H
         clear H
         go_wp2
         go_roundg k2
         case measure=>have:=HK1.out;have:=HK2.out;omega
         case rel=>exact⟨(x4_2),(x5_2),(wrap64 (x6_1 + 1)),(x11_2),(by first|rfl|(simp;done)|(simp [*];done)),(by first|rfl|(simp;done)|(simp [*];done)),(by first|rfl|(simp;done)|(simp [*];done)),H',⟨by have:=HK1.out;have:=HK2.out;omega⟩,⟨rR HO_11.out⟩,⟨kB HB.out⟩⟩
     ·rw [if_neg c6] at H
      have c6b0:decide (x6_1 ≤ 60) = false:=decide_eq_false c6
      clear c6
      obtain rfl:=Option.some.inj H
      go_wp2
      go_ret
      exact⟨_,by first|rfl|(simp [errW_none,errW_some] <;> rfl)|(simp [*,errW_none,errW_some] <;> rfl),rR HO_11.out,kB HB.out⟩
  ·rw [if_neg c3] at H
   exact absurd H (by simp)
 ·rw [if_neg c2] at H
  exact absurd H (by simp)

/-! ### impl_HuffCodes: function 10 -/
def impl_HuffCodes.f (k : Nat) (l0 : List Int) : Option (List Int) := (impl_HuffOk.f k l0).bind fun t309 => (if t309 = true then ((impl_huffCodes.f k l0).bind fun t310 => (some t310)) else (some ([] : List Int)))
theorem impl_HuffCodes.mono : ∀ a0 k, LeO (impl_HuffCodes.f k a0) (impl_HuffCodes.f (k + 1) a0) := by
 intro a0 k
 unfold impl_HuffCodes.f
 repeat' first|(with_reducible first|exact impl_HuffOk.mono _ _|exact impl_huffCodes.mono _ _|exact LeO.refl _|exact LeO.none _|refine LeO.ite ?_ ?_|refine LeO.bind ?_ (fun _ => ?_))|exact LeO.none _|refine LeO.ite ?_ ?_|refine LeO.bind ?_ (fun _ => ?_)
set_option maxHeartbeats 8000000 in
set_option maxRecDepth 100000 in
theorem impl_HuffCodes.calls (k : Nat) (A0 : Option Addr) (c0 : Nat) (l0 : List Int) (r : List Int) (w : World) (hr0 : Kd.C (Kd.int .i64) w A0 l0.length l0) (hc0 : l0.length ≤ c0) (h : impl_HuffCodes.f k l0 = some r) :
  Calls Try.prog 10 #[.slice A0 l0.length c0] w fun e w' => ∃ v0_ : Value, e = .returned (v0_) ∧ Kd.R (Kd.int .i64) 3 w' w.heap.size (fun _ => True) v0_ r ∧ Below w.heap.size w w' := by
 have HR0:=mk0 hr0
 have HC0:=mk0 hc0
 clear hr0 hc0
 have HB:=mk0 (Below.refl w.heap.size w)
 have H:((impl_HuffOk.f k l0).bind fun t309=>(if t309 = true then ((impl_huffCodes.f k l0).bind fun t310=>(some t310)) else (some ([]:List Int)))) = some r:=h
 clear h
 replace H:=Option.bind_eq_some_iff.mp H
 obtain⟨t309,A20,H⟩:=H
 replace H:(if t309 = true then ((impl_huffCodes.f k l0).bind fun t310=>(some t310)) else (some ([]:List Int))) = some r:=H
 have A2:=mk0 A20
 clear A20
 by_cases c3:t309 = true
 ·subst c3
  have H1:((impl_huffCodes.f k l0).bind fun t310=>(some t310)) = some r:=by rw [if_pos rfl] at H;exact H
  clear H
  have H:=H1
  clear H1
  replace H:=Option.bind_eq_some_iff.mp H
  obtain⟨t310,A40,H⟩:=H
  replace H:(some t310) = some r:=H
  have A4:=mk0 A40
  clear A40
  obtain rfl:=Option.some.inj H
  go_enter Try.func10,Try.ntmps10
  go_wp2_with (first|((with_reducible refine gate_callee (f:=35) rfl ?_);refine goesL_ (some 4) rfl rfl Try.func35 (by kernel_rfl) rfl #[.slice A0 l0.length c0] rfl (by (try simp only [mA,mC,mN]);first|done|rfl|(simp only [List.length_drop,List.length_take];done)|(simp only [List.length_drop,List.length_take];rfl)) ?_;(with_reducible refine (impl_HuffOk.calls k _ _ l0 true _ ?side1 ?side2 A2.out).mono ?_);(case side1=>repeat (first|exact HR0.out|(with_reducible first|apply aC|apply nC|apply dC)));(case side2=>exact HC0.out);rintro e w5 ⟨rfl,hb⟩;refine⟨_,rfl,?_⟩;replace HB:=mk0 (kS HB.out hb);(try clear hb))|((with_reducible refine gate_callee (f:=36) rfl ?_);refine goesL_ (some 7) rfl rfl Try.func36 (by kernel_rfl) rfl #[.slice A0 l0.length c0] rfl (by (try simp only [mA,mC,mN]);first|done|rfl|(simp only [List.length_drop,List.length_take];done)|(simp only [List.length_drop,List.length_take];rfl)) ?_;(with_reducible refine (impl_huffCodes.calls k _ _ l0 t310 _ ?side1 ?side2 A4.out).mono ?_);(case side1=>exact kC (Kd.C_below HR0.out HB.out));(case side2=>exact HC0.out);rintro e w6 ⟨v311,rfl,ho0,hb⟩;refine⟨_,rfl,?_⟩;have HO312:=mk0 (Kd.R_lower ho0 (kZ HB.out));replace HB:=mk0 (kS HB.out hb);(try clear hb);(try clear ho0)))
  go_ret
  exact⟨_,by first|rfl|(simp [errW_none,errW_some] <;> rfl)|(simp [*,errW_none,errW_some] <;> rfl),rR HO312.out,kB HB.out⟩
 ·replace c3:=Bool.eq_false_iff.mpr c3
  subst c3
  have H1:(some ([]:List Int)) = some r:=by rw [if_neg (show ¬ (false = true) by decide)] at H;exact H
  clear H
  have H:=H1
  clear H1
  obtain rfl:=Option.some.inj H
  go_enter Try.func10,Try.ntmps10
  go_wp2_with (first|((with_reducible refine gate_callee (f:=35) rfl ?_);refine goesL_ (some 4) rfl rfl Try.func35 (by kernel_rfl) rfl #[.slice A0 l0.length c0] rfl (by (try simp only [mA,mC,mN]);first|done|rfl|(simp only [List.length_drop,List.length_take];done)|(simp only [List.length_drop,List.length_take];rfl)) ?_;(with_reducible refine (impl_HuffOk.calls k _ _ l0 false _ ?side1 ?side2 A2.out).mono ?_);(case side1=>repeat (first|exact HR0.out|(with_reducible first|apply aC|apply nC|apply dC)));(case side2=>exact HC0.out);rintro e w7 ⟨rfl,hb⟩;refine⟨_,rfl,?_⟩;replace HB:=mk0 (kS HB.out hb);(try clear hb)))
  go_ret
  exact⟨_,by first|rfl|(simp [errW_none,errW_some] <;> rfl)|(simp [*,errW_none,errW_some] <;> rfl),by first|exact Kd.R_nil _ _ _ _ _|exact Kd.N_nil _ _ _ _ _|exact Kd.V_nil _ _ _ _ _|exact Kd.Q_nil _ _ _ _ _|exact Kd.S_nil _ _ _ _ _,kB HB.out⟩

/-! ### spec_l02Pow: function 37 -/
def spec_l02Pow.l0 : Nat → Int → Int → Option (Int)
 | 0, _, _ => none
 | k + 1, x0, x3 => if x0 > 0 then (spec_l02Pow.l0 k (wrap64 (x0 - 1)) (wrap64 (2 * x3))) else (some x3)
def spec_l02Pow.f (k : Nat) (a0 : Int) : Option (Int) := spec_l02Pow.l0 k a0 1
theorem spec_l02Pow.mono_l : ∀ k, (∀ y0 y1, LeO (spec_l02Pow.l0 k y0 y1) (spec_l02Pow.l0 (k + 1) y0 y1))
 | 0 => fun _ _ r h => by simp [spec_l02Pow.l0] at h
 | k + 1 => by
  have ih0 := spec_l02Pow.mono_l k
  ·intro y0 y1
   unfold spec_l02Pow.l0
   repeat' first|(with_reducible first|exact ih0 _ _|exact LeO.refl _|exact LeO.none _|refine LeO.ite ?_ ?_|refine LeO.bind ?_ (fun _ => ?_))|exact LeO.none _|refine LeO.ite ?_ ?_|refine LeO.bind ?_ (fun _ => ?_)
theorem spec_l02Pow.mono : ∀ a0 k, LeO (spec_l02Pow.f k a0) (spec_l02Pow.f (k + 1) a0) := by
 intro a0 k
 have ih0 := spec_l02Pow.mono_l k
 unfold spec_l02Pow.f
 repeat' first|(with_reducible first|exact ih0 _ _|exact LeO.refl _|exact LeO.none _|refine LeO.ite ?_ ?_|refine LeO.bind ?_ (fun _ => ?_))|exact LeO.none _|refine LeO.ite ?_ ?_|refine LeO.bind ?_ (fun _ => ?_)
set_option maxHeartbeats 8000000 in
set_option maxRecDepth 100000 in
theorem spec_l02Pow.calls (k : Nat) (a0 : Int) (r : Int) (w : World) (h : spec_l02Pow.f k a0 = some r) :
  Calls Try.prog 37 #[.int .i64 a0] w fun e w' => e = .returned (.int .i64 r) ∧ Drawn0 w w' := by
 have H:(spec_l02Pow.l0 k a0 1) = some r:=h
 clear h
 have H':=mk0 H
 clear H
 go_enter Try.func37,Try.ntmps37
 go_wp2
 go_loopg [0,3] k (fun kq v0 v3 w'=>∃ (x0_1:Int) (x3_1:Int),v0 = .int .i64 x0_1 ∧ v3 = .int .i64 x3_1 ∧ Aside0 (spec_l02Pow.l0 kq x0_1 x3_1 = some r) ∧ Aside0 (kq ≤ k) ∧ Drawn0 w w')
 case atStart=>exact⟨(a0),(1),(by first|rfl|(simp;done)|(simp [*];done)),(by first|rfl|(simp;done)|(simp [*];done)),H',⟨Nat.le_refl _⟩,by repeat (first|exact Drawn0.refl _|apply Drawn0.step)⟩
 case round =>
  clear H'
  obtain⟨x0_1,x3_1,rfl,rfl,HA,HK1,⟨m1,rfl⟩⟩:=hrel
  cases gk with
  | zero=>exact absurd HA.out (by simp [spec_l02Pow.l0])
  | succ k1 =>
   have H:=HA.out
   clear HA
   simp only [spec_l02Pow.l0] at H
   by_cases c2:x0_1 > 0
   ·rw [if_pos c2] at H
    have c2b0:decide (0 < x0_1) = true:=decide_eq_true c2
    clear c2
    have H':=mk0 H
    clear H
    go_wp2
    go_roundg k1
    case measure=>have:=HK1.out;omega
    case rel=>exact⟨(wrap64 (x0_1 - 1)),(wrap64 (2 * x3_1)),(by first|rfl|(simp;done)|(simp [*];done)),(by first|rfl|(simp;done)|(simp [*];done)),H',⟨by have:=HK1.out;omega⟩,by repeat (first|exact Drawn0.refl _|apply Drawn0.step)⟩
   ·rw [if_neg c2] at H
    have c2b0:decide (0 < x0_1) = false:=decide_eq_false c2
    clear c2
    obtain rfl:=Option.some.inj H
    go_wp2
    go_ret
    exact⟨by first|rfl|(simp;done)|(simp [*];done),by repeat (first|exact Drawn0.refl _|apply Drawn0.step)⟩

end Go.Proofs.Ytgjmmegmkdklbaa.QFnPrefix
