-- A walk, made by walk.py, a program of this session's.
import Derived.Test.YtpheodpcppclaaaQFnMinsx0
namespace Go.Proofs.Ytpheodpcppclaaa.QFnMins
open Go.RowKit Go.Proofs.YtpheodpcppclaaaW.PrintWords Go.Proofs.YtpheodpcppclaaaW.PrintLast Go.Proofs.YtpheodpcppclaaaW.PrintMore
attribute [local go_sem] max2_int min2_int max_two min_two max_three min_three max_four min_four   -- for this text's walks alone
set_option linter.unusedVariables false
set_option linter.unusedSimpArgs false

/-! ### impl_within: function 44 -/
def impl_within.f (a0 : Int) (a1 : Int) (a2 : Int) : Option (Bool) := if a1 ≤ a0 then (some (decide (a0 ≤ a2))) else (some false)
set_option maxHeartbeats 8000000 in
set_option maxRecDepth 100000 in
theorem impl_within.calls (a0 : Int) (a1 : Int) (a2 : Int) (r : Bool) (w : World) (h : impl_within.f a0 a1 a2 = some r) :
  Calls Try.prog 44 #[.int .i64 a0, .int .i64 a1, .int .i64 a2] w fun e w' => e = .returned (.bool r) ∧ Drawn0 w w' := by
 have H:(if a1 ≤ a0 then (some (decide (a0 ≤ a2))) else (some false)) = some r:=h
 clear h
 by_cases c4:a1 ≤ a0
 ·rw [if_pos c4] at H
  have c4b0:decide (a1 ≤ a0) = true:=decide_eq_true c4
  clear c4
  obtain rfl:=Option.some.inj H
  go_enter Try.func44,Try.ntmps44
  go_wp2
  go_ret
  exact⟨by first|rfl|(simp;done)|(simp [*];done),by repeat (first|exact Drawn0.refl _|apply Drawn0.step)⟩
 ·rw [if_neg c4] at H
  have c4b0:decide (a1 ≤ a0) = false:=decide_eq_false c4
  clear c4
  obtain rfl:=Option.some.inj H
  go_enter Try.func44,Try.ntmps44
  go_wp2
  go_ret
  exact⟨by first|rfl|(simp;done)|(simp [*];done),by repeat (first|exact Drawn0.refl _|apply Drawn0.step)⟩

/-! ### impl_isCount: function 48 -/
def impl_isCount.f (a0 : Int) : Option (Bool) := (impl_within.f a0 0 1000000).bind fun t101 => (some t101)
set_option maxHeartbeats 8000000 in
set_option maxRecDepth 100000 in
theorem impl_isCount.calls (a0 : Int) (r : Bool) (w : World) (h : impl_isCount.f a0 = some r) :
  Calls Try.prog 48 #[.int .i64 a0] w fun e w' => e = .returned (.bool r) ∧ Drawn0 w w' := by
 have H:((impl_within.f a0 0 1000000).bind fun t101=>(some t101)) = some r:=h
 clear h
 replace H:=Option.bind_eq_some_iff.mp H
 obtain⟨t101,A20,H⟩:=H
 replace H:(some t101) = some r:=H
 have A2:=mk0 A20
 clear A20
 obtain rfl:=Option.some.inj H
 go_enter Try.func48,Try.ntmps48
 go_wp2_with (first|((with_reducible refine gate_callee (f:=44) rfl ?_);refine goesL_ (some 4) rfl rfl Try.func44 (by kernel_rfl) rfl #[.int .i64 a0,.int .i64 0,.int .i64 1000000] rfl (by (try simp only [mA,mC,mN]);first|done|rfl|(simp only [List.length_drop,List.length_take];rfl)) ?_;(with_reducible refine (impl_within.calls a0 0 1000000 t101 _ A2.out).mono ?_);rintro e w' ⟨rfl,⟨nd,rfl⟩⟩;refine⟨_,rfl,?_⟩))
 go_ret
 exact⟨by first|rfl|(simp;done)|(simp [*];done),by repeat (first|exact Drawn0.refl _|apply Drawn0.step)⟩

-- NOT PRINTED: function 67 (slices_IndexFunc_int_int)

-- NOT PRINTED: function 62 (slices_ContainsFunc_int_int)

-- NOT PRINTED: function 55 (impl_areAll_int)


/-! ### impl_areAll_48: areAll at the function value 48 -/
def impl_areAll_48.f (l0 : List Int) : Option (Bool) := if l0.length ≤ maxLen then some (l0.all Fv.p48) else none
theorem impl_areAll_48.calls (A0 : Option Addr) (c0 : Nat) (l0 : List Int) (r : Bool) (w : World) (hr0 : Kd.C (Kd.int .i64) w A0 l0.length l0) (hc0 : l0.length ≤ c0) (h : impl_areAll_48.f l0 = some r) :
    Calls Try.prog 55 #[.slice A0 l0.length c0, .func (.func 48) #[] #[]] w fun e w' => e = .returned (.bool r) ∧ Below w.heap.size w w' := by
  unfold impl_areAll_48.f at h
  by_cases hm : l0.length ≤ maxLen
  · rw [if_pos hm] at h
    obtain rfl := Option.some.inj h
    exact Fv.areAll 48 #[] _ (enters_of Try.func48 (by kernel_rfl) rfl) A0 c0 l0 w hr0 hc0 hm (Fv.tells48 w)
  · rw [if_neg hm] at h
    exact absurd h (by simp)

/-! ### impl_areMins: function 38 -/
def impl_areMins.f (l0 : List Int) : Option (Bool) := if (l0.length : Int) ≤ 301 then ((impl_areAll_48.f l0).bind fun t102 => (some t102)) else (some false)
set_option maxHeartbeats 8000000 in
set_option maxRecDepth 100000 in
theorem impl_areMins.calls (A0 : Option Addr) (c0 : Nat) (l0 : List Int) (r : Bool) (w : World) (hr0 : Kd.C (Kd.int .i64) w A0 l0.length l0) (hc0 : l0.length ≤ c0) (h : impl_areMins.f l0 = some r) :
  Calls Try.prog 38 #[.slice A0 l0.length c0] w fun e w' => e = .returned (.bool r) ∧ Below w.heap.size w w' := by
 have HR0:=mk0 hr0
 have HC0:=mk0 hc0
 clear hr0 hc0
 have HB:=mk0 (Below.refl w.heap.size w)
 have H:(if (l0.length:Int) ≤ 301 then ((impl_areAll_48.f l0).bind fun t102=>(some t102)) else (some false)) = some r:=h
 clear h
 by_cases c2:(l0.length:Int) ≤ 301
 ·rw [if_pos c2] at H
  have c2b0:decide ((l0.length:Int) ≤ 301) = true:=decide_eq_true c2
  have c2b1:decide (l0.length ≤ 301) = true:=decide_eq_true (by omega)
  clear c2
  replace H:=Option.bind_eq_some_iff.mp H
  obtain⟨t102,A30,H⟩:=H
  replace H:(some t102) = some r:=H
  have A3:=mk0 A30
  clear A30
  obtain rfl:=Option.some.inj H
  go_enter Try.func38,Try.ntmps38
  go_wp2_with (first|(go_at_call 55;(with_reducible refine (impl_areAll_48.calls _ _ l0 t102 _ ?side1 ?side2 A3.out).mono ?_);(case side1=>repeat (first|exact HR0.out|(with_reducible first|apply aC|apply nC|apply dC)));(case side2=>exact HC0.out);rintro e w4 ⟨rfl,hb⟩;have n0_:=mk0 (below_step (by repeat (first|(with_reducible first|exact HB.out|apply aZ|apply nZ|apply dZ)|exact HB.out)) hb);clear HB;have HB:=n0_;clear n0_;(try clear hb);(try clear hb2);(try clear hk);(try clear hi)))
  go_ret
  exact⟨by first|rfl|(simp [errW_none,errW_some] <;> rfl)|(simp [*,errW_none,errW_some] <;> rfl),by repeat (first|(with_reducible first|exact HB.out|apply aZ|apply nZ|apply dZ)|exact HB.out)⟩
 ·rw [if_neg c2] at H
  have c2b0:decide ((l0.length:Int) ≤ 301) = false:=decide_eq_false c2
  have c2b1:decide (l0.length ≤ 301) = false:=decide_eq_false (by omega)
  clear c2
  obtain rfl:=Option.some.inj H
  go_enter Try.func38,Try.ntmps38
  go_wp2
  go_ret
  exact⟨by first|rfl|(simp [errW_none,errW_some] <;> rfl)|(simp [*,errW_none,errW_some] <;> rfl),by repeat (first|(with_reducible first|exact HB.out|apply aZ|apply nZ|apply dZ)|exact HB.out)⟩

/-! ### impl_leaves: function 56 -/
def impl_leaves.l0 : Nat → Int → Int → Option (Int)
 | 0, _, _ => none
 | k + 1, x0, x3 => if x3 < x0 then (impl_leaves.l0 k x0 (wrap64 (x3 * 2))) else (some x3)
def impl_leaves.f (k : Nat) (a0 : Int) : Option (Int) := impl_leaves.l0 k a0 1
theorem impl_leaves.mono_l : ∀ k, (∀ y0 y1, LeO (impl_leaves.l0 k y0 y1) (impl_leaves.l0 (k + 1) y0 y1))
 | 0 => fun _ _ r h => by simp [impl_leaves.l0] at h
 | k + 1 => by
  have ih0 := impl_leaves.mono_l k
  ·intro y0 y1
   unfold impl_leaves.l0
   repeat' first|(with_reducible first|exact ih0 _ _|exact LeO.refl _|exact LeO.none _|refine LeO.ite ?_ ?_|refine LeO.bind ?_ (fun _ => ?_))|exact LeO.none _|refine LeO.ite ?_ ?_|refine LeO.bind ?_ (fun _ => ?_)
theorem impl_leaves.mono : ∀ a0 k, LeO (impl_leaves.f k a0) (impl_leaves.f (k + 1) a0) := by
 intro a0 k
 have ih0 := impl_leaves.mono_l k
 unfold impl_leaves.f
 repeat' first|(with_reducible first|exact ih0 _ _|exact LeO.refl _|exact LeO.none _|refine LeO.ite ?_ ?_|refine LeO.bind ?_ (fun _ => ?_))|exact LeO.none _|refine LeO.ite ?_ ?_|refine LeO.bind ?_ (fun _ => ?_)
set_option maxHeartbeats 8000000 in
set_option maxRecDepth 100000 in
theorem impl_leaves.calls (k : Nat) (a0 : Int) (r : Int) (w : World) (h : impl_leaves.f k a0 = some r) :
  Calls Try.prog 56 #[.int .i64 a0] w fun e w' => e = .returned (.int .i64 r) ∧ Drawn0 w w' := by
 have H:(impl_leaves.l0 k a0 1) = some r:=h
 clear h
 have H':=mk0 H
 clear H
 go_enter Try.func56,Try.ntmps56
 go_wp2
 go_loopg [3] k (fun kq v3 w'=>∃ (x3_1:Int),v3 = .int .i64 x3_1 ∧ Aside0 (impl_leaves.l0 kq a0 x3_1 = some r) ∧ Aside0 (kq ≤ k) ∧ Drawn0 w w')
 case atStart=>exact⟨(1),(by first|rfl|(simp;done)|(simp [*];done)),H',⟨Nat.le_refl _⟩,by repeat (first|exact Drawn0.refl _|apply Drawn0.step)⟩
 case round =>
  clear H'
  obtain⟨x3_1,rfl,HA,HK1,⟨m1,rfl⟩⟩:=hrel
  cases gk with
  | zero=>exact absurd HA.out (by simp [impl_leaves.l0])
  | succ k1 =>
   have H:=HA.out
   clear HA
   simp only [impl_leaves.l0] at H
   by_cases c2:x3_1 < a0
   ·rw [if_pos c2] at H
    have c2b0:decide (x3_1 < a0) = true:=decide_eq_true c2
    clear c2
    have H':=mk0 H
    clear H
    go_wp2
    go_roundg k1
    case measure=>have:=HK1.out;omega
    case rel=>exact⟨(wrap64 (x3_1 * 2)),(by first|rfl|(simp;done)|(simp [*];done)),H',⟨by have:=HK1.out;omega⟩,by repeat (first|exact Drawn0.refl _|apply Drawn0.step)⟩
   ·rw [if_neg c2] at H
    have c2b0:decide (x3_1 < a0) = false:=decide_eq_false c2
    clear c2
    obtain rfl:=Option.some.inj H
    go_wp2
    go_ret
    exact⟨by first|rfl|(simp;done)|(simp [*];done),by repeat (first|exact Drawn0.refl _|apply Drawn0.step)⟩

/-! ### bits_Mul32: function 68 -/
def bits_Mul32.f (a0 : Int) (a1 : Int) : Option (Int × Int) := some (((IntKind.u64.wrap ((IntKind.u64.wrap (a0)) * (IntKind.u64.wrap (a1)))) / 4294967296) % 4294967296, (IntKind.u64.wrap ((IntKind.u64.wrap (a0)) * (IntKind.u64.wrap (a1)))) % 4294967296)
set_option maxHeartbeats 8000000 in
set_option maxRecDepth 100000 in
theorem bits_Mul32.calls (a0 : Int) (a1 : Int) (r1 : Int) (r2 : Int) (w : World) (h : bits_Mul32.f a0 a1 = some (r1, r2)) :
  Calls Try.prog 68 #[.int .u32 a0, .int .u32 a1] w fun e w' => e = .returned (.tuple #[.int .u32 r1, .int .u32 r2]) ∧ Drawn0 w w' := by
 have H:(some (((IntKind.u64.wrap ((IntKind.u64.wrap (a0)) * (IntKind.u64.wrap (a1)))) / 4294967296) % 4294967296,(IntKind.u64.wrap ((IntKind.u64.wrap (a0)) * (IntKind.u64.wrap (a1)))) % 4294967296)) = some (r1,r2):=h
 clear h
 simp only [Option.some.injEq,Prod.mk.injEq] at H
 obtain⟨rfl,rfl⟩:=H
 go_enter Try.func68,Try.ntmps68
 go_wp2
 go_ret2
 exact⟨by first|rfl|(simp;done)|(simp [*];done),by repeat (first|exact Drawn0.refl _|apply Drawn0.step)⟩

/-! ### bits_Mul64: function 69 -/
def bits_Mul64.f (a0 : Int) (a1 : Int) : Option (Int × Int) := some (IntKind.u64.wrap ((IntKind.u64.wrap ((IntKind.u64.wrap ((a0 / 4294967296) * (a1 / 4294967296))) + ((IntKind.u64.wrap ((IntKind.u64.wrap ((a0 / 4294967296) * (Go.bits .and .u64 a1 4294967295))) + ((IntKind.u64.wrap ((Go.bits .and .u64 a0 4294967295) * (Go.bits .and .u64 a1 4294967295))) / 4294967296))) / 4294967296))) + ((IntKind.u64.wrap ((Go.bits .and .u64 (IntKind.u64.wrap ((IntKind.u64.wrap ((a0 / 4294967296) * (Go.bits .and .u64 a1 4294967295))) + ((IntKind.u64.wrap ((Go.bits .and .u64 a0 4294967295) * (Go.bits .and .u64 a1 4294967295))) / 4294967296))) 4294967295) + (IntKind.u64.wrap ((Go.bits .and .u64 a0 4294967295) * (a1 / 4294967296))))) / 4294967296)), IntKind.u64.wrap (a0 * a1))
set_option maxHeartbeats 8000000 in
set_option maxRecDepth 100000 in
theorem bits_Mul64.calls (a0 : Int) (a1 : Int) (r1 : Int) (r2 : Int) (w : World) (h : bits_Mul64.f a0 a1 = some (r1, r2)) :
  Calls Try.prog 69 #[.int .u64 a0, .int .u64 a1] w fun e w' => e = .returned (.tuple #[.int .u64 r1, .int .u64 r2]) ∧ Drawn0 w w' := by
 have H:(some (IntKind.u64.wrap ((IntKind.u64.wrap ((IntKind.u64.wrap ((a0 / 4294967296) * (a1 / 4294967296))) + ((IntKind.u64.wrap ((IntKind.u64.wrap ((a0 / 4294967296) * (Go.bits .and .u64 a1 4294967295))) + ((IntKind.u64.wrap ((Go.bits .and .u64 a0 4294967295) * (Go.bits .and .u64 a1 4294967295))) / 4294967296))) / 4294967296))) + ((IntKind.u64.wrap ((Go.bits .and .u64 (IntKind.u64.wrap ((IntKind.u64.wrap ((a0 / 4294967296) * (Go.bits .and .u64 a1 4294967295))) + ((IntKind.u64.wrap ((Go.bits .and .u64 a0 4294967295) * (Go.bits .and .u64 a1 4294967295))) / 4294967296))) 4294967295) + (IntKind.u64.wrap ((Go.bits .and .u64 a0 4294967295) * (a1 / 4294967296))))) / 4294967296)),IntKind.u64.wrap (a0 * a1))) = some (r1,r2):=h
 clear h
 simp only [Option.some.injEq,Prod.mk.injEq] at H
 obtain⟨rfl,rfl⟩:=H
 go_enter Try.func69,Try.ntmps69
 go_wp2
 go_ret2
 exact⟨by first|rfl|(simp;done)|(simp [*];done),by repeat (first|exact Drawn0.refl _|apply Drawn0.step)⟩

/-! ### bits_Mul: function 64 -/
def bits_Mul.f (a0 : Int) (a1 : Int) : Option (Int × Int) := (bits_Mul64.f a0 a1).bind fun bt103 => (some (bt103.1, bt103.2))
set_option maxHeartbeats 8000000 in
set_option maxRecDepth 100000 in
theorem bits_Mul.calls (a0 : Int) (a1 : Int) (r1 : Int) (r2 : Int) (w : World) (h : bits_Mul.f a0 a1 = some (r1, r2)) :
  Calls Try.prog 64 #[.int .u64 a0, .int .u64 a1] w fun e w' => e = .returned (.tuple #[.int .u64 r1, .int .u64 r2]) ∧ Drawn0 w w' := by
 have H:((bits_Mul64.f a0 a1).bind fun bt103=>(some (bt103.1,bt103.2))) = some (r1,r2):=h
 clear h
 replace H:=Option.bind_eq_some_iff.mp H
 obtain⟨⟨t103,t104⟩,A30,H⟩:=H
 replace H:(some (t103,t104)) = some (r1,r2):=H
 have A3:=mk0 A30
 clear A30
 simp only [Option.some.injEq,Prod.mk.injEq] at H
 obtain⟨rfl,rfl⟩:=H
 go_enter Try.func64,Try.ntmps64
 go_wp2_with (first|((with_reducible refine gate_callee (f:=69) rfl ?_);refine goesL_ (some 25) rfl rfl Try.func69 (by kernel_rfl) rfl #[.int .u64 a0,.int .u64 a1] rfl (by (try simp only [mA,mC,mN]);first|done|rfl|(simp only [List.length_drop,List.length_take];rfl)) ?_;(with_reducible refine (bits_Mul64.calls a0 a1 t103 t104 _ A3.out).mono ?_);rintro e w' ⟨rfl,⟨nd,rfl⟩⟩;refine⟨_,rfl,?_⟩))
 go_ret2
 exact⟨by first|rfl|(simp;done)|(simp [*];done),by repeat (first|exact Drawn0.refl _|apply Drawn0.step)⟩

/-! ### slices_Repeat_int_int: function 57 -/
mutual
def slices_Repeat_int_int.j0 : Nat → List Int → Int → Bool → Option (List Int)
 | 0, _, _, _ => none
 | k + 1, x0, x6, x26 => if x26 = true then (none) else (if 0 ≤ (wrap64 (x6)) then (if (wrap64 (x6) : Int).toNat ≤ 35184372088832 then ((some (List.replicate (wrap64 (x6) : Int).toNat 0 : List Int)).bind fun y107 => (slices_Repeat_int_int.l0 k (kopy y107 0 x0) ((min x0.length (y107.length - 0) : Nat) : Int))) else (none)) else (none))
def slices_Repeat_int_int.l0 : Nat → List Int → Int → Option (List Int)
 | 0, _, _ => none
 | k + 1, x7, x8 => if x8 < (x7.length : Int) then (if 0 ≤ x8 then (if x8 ≤ (x7.length : Int) then ((some (x7.take (x8 : Int).toNat : List Int)).bind fun y115 => (slices_Repeat_int_int.l0 k (kopy x7 (x8 : Int).toNat y115) (wrap64 (x8 + ((min y115.length (x7.length - (x8 : Int).toNat) : Nat) : Int))))) else (none)) else (none)) else (some x7)
end
def slices_Repeat_int_int.f (k : Nat) (l0 : List Int) (a1 : Int) : Option (List Int) := if a1 < 0 then (none) else ((bits_Mul.f (IntKind.u64.wrap ((l0.length : Int))) (IntKind.u64.wrap (a1))).bind fun bt105 => (if bt105.1 > 0 then (slices_Repeat_int_int.j0 k l0 bt105.2 true) else (slices_Repeat_int_int.j0 k l0 bt105.2 (decide (bt105.2 > 9223372036854775807)))))
theorem slices_Repeat_int_int.mono_l : ∀ k, (∀ y0 y1 y2, LeO (slices_Repeat_int_int.j0 k y0 y1 y2) (slices_Repeat_int_int.j0 (k + 1) y0 y1 y2)) ∧ (∀ y0 y1, LeO (slices_Repeat_int_int.l0 k y0 y1) (slices_Repeat_int_int.l0 (k + 1) y0 y1))
 | 0 => ⟨fun _ _ _ r h => by simp [slices_Repeat_int_int.j0] at h, fun _ _ r h => by simp [slices_Repeat_int_int.l0] at h⟩
 | k + 1 => by
  obtain ⟨ih0, ih1⟩ := slices_Repeat_int_int.mono_l k
  refine ⟨?_, ?_⟩
  ·intro y0 y1 y2
   unfold slices_Repeat_int_int.j0
   repeat' first|(with_reducible first|exact ih0 _ _ _|exact ih1 _ _|exact LeO.refl _|exact LeO.none _|refine LeO.ite ?_ ?_|refine LeO.bind ?_ (fun _ => ?_))|exact LeO.none _|refine LeO.ite ?_ ?_|refine LeO.bind ?_ (fun _ => ?_)
  ·intro y0 y1
   unfold slices_Repeat_int_int.l0
   repeat' first|(with_reducible first|exact ih0 _ _ _|exact ih1 _ _|exact LeO.refl _|exact LeO.none _|refine LeO.ite ?_ ?_|refine LeO.bind ?_ (fun _ => ?_))|exact LeO.none _|refine LeO.ite ?_ ?_|refine LeO.bind ?_ (fun _ => ?_)
theorem slices_Repeat_int_int.mono : ∀ a0 a1 k, LeO (slices_Repeat_int_int.f k a0 a1) (slices_Repeat_int_int.f (k + 1) a0 a1) := by
 intro a0 a1 k
 obtain ⟨ih0, ih1⟩ := slices_Repeat_int_int.mono_l k
 unfold slices_Repeat_int_int.f
 repeat' first|(with_reducible first|exact ih0 _ _ _|exact ih1 _ _|exact LeO.refl _|exact LeO.none _|refine LeO.ite ?_ ?_|refine LeO.bind ?_ (fun _ => ?_))|exact LeO.none _|refine LeO.ite ?_ ?_|refine LeO.bind ?_ (fun _ => ?_)
def slices_Repeat_int_int.T9 : Bool × List (List Nat × List Nat) := (true, [([], []), ([], []), ([], []), ([1, 2], [1, 2]), ([], []), ([], []), ([4, 5], [4, 5]), ([3, 6], [3, 6]), ([0, 7], [0, 7]), ([8, 7, 0, 1, 2, 3, 4, 5, 6, 7, 8], [0, 2, 5, 8])])
def slices_Repeat_int_int.B9 : List Nat := [0, 0, 0, 6, 0, 0, 48, 126, 255, 511]
theorem slices_Repeat_int_int.tab9 : rtab .any (opsOf Try.f57 9) = slices_Repeat_int_int.T9 := by kernel_rfl
theorem slices_Repeat_int_int.bits9 : waitsOk slices_Repeat_int_int.T9.2 slices_Repeat_int_int.B9 = true := by kernel_rfl
abbrev slices_Repeat_int_int.m0 : Array Bool := #[F,F,F,F,F,F,F,F,F,F]
abbrev slices_Repeat_int_int.m1 : Array Bool := #[T,F,F,F,F,F,F,F,F,F]
abbrev slices_Repeat_int_int.m2 : Array Bool := #[T,T,F,F,F,F,F,F,F,F]
abbrev slices_Repeat_int_int.m3 : Array Bool := #[T,T,T,F,F,F,F,F,F,F]
abbrev slices_Repeat_int_int.m4 : Array Bool := #[T,T,T,T,F,F,F,F,F,F]
abbrev slices_Repeat_int_int.m5 : Array Bool := #[T,T,T,T,T,F,F,F,F,F]
abbrev slices_Repeat_int_int.m6 : Array Bool := #[T,T,T,T,T,T,F,F,F,F]
abbrev slices_Repeat_int_int.m7 : Array Bool := #[T,T,T,T,T,T,T,F,F,F]
abbrev slices_Repeat_int_int.m8 : Array Bool := #[T,T,T,T,T,T,T,T,F,F]
abbrev slices_Repeat_int_int.m9 : Array Bool := #[T,T,T,T,T,T,T,T,T,F]
abbrev slices_Repeat_int_int.m10 : Array Bool := #[T,T,T,T,T,T,T,T,T,T]
set_option maxHeartbeats 8000000 in
set_option maxRecDepth 100000 in
theorem slices_Repeat_int_int.calls (k : Nat) (A0 : Option Addr) (c0 : Nat) (l0 : List Int) (a1 : Int) (r : List Int) (w : World) (hr0 : Kd.C (Kd.int .i64) w A0 l0.length l0) (hc0 : l0.length ≤ c0) (h : slices_Repeat_int_int.f k l0 a1 = some r) :
  Calls Try.prog 57 #[.slice A0 l0.length c0, .int .i64 a1] w fun e w' => ∃ v0_ : Value, e = .returned (v0_) ∧ Kd.R (Kd.int .i64) 3 w' w.heap.size (fun _ => True) v0_ r ∧ Below w.heap.size w w' := by
 have HR0:=mk0 hr0
 have HC0:=mk0 hc0
 clear hr0 hc0
 have HB:=mk0 (Below.refl w.heap.size w)
 have H:(if a1 < 0 then (none) else ((bits_Mul.f (IntKind.u64.wrap ((l0.length:Int))) (IntKind.u64.wrap (a1))).bind fun bt105=>(if bt105.1 > 0 then (slices_Repeat_int_int.j0 k l0 bt105.2 true) else (slices_Repeat_int_int.j0 k l0 bt105.2 (decide (bt105.2 > 9223372036854775807)))))) = some r:=h
 clear h
 by_cases c3:a1 < 0
 ·rw [if_pos c3] at H
  exact absurd H (by simp)
 rw [if_neg c3] at H
 have c3b0:decide (a1 < 0) = false:=decide_eq_false c3
 clear c3
 replace H:=Option.bind_eq_some_iff.mp H
 obtain⟨⟨t105,t106⟩,A40,H⟩:=H
 replace H:(if t105 > 0 then (slices_Repeat_int_int.j0 k l0 t106 true) else (slices_Repeat_int_int.j0 k l0 t106 (decide (t106 > 9223372036854775807)))) = some r:=H
 have A4:=mk0 A40
 clear A40
 have HC5:=mk0 H
 clear H
 go_enter Try.func57,Try.ntmps57
 go_upto_region 4 with (first|((with_reducible refine gate_callee (f:=64) rfl ?_);refine goesL_ (some 18) rfl rfl Try.func64 (by kernel_rfl) rfl #[.int .u64 (IntKind.u64.wrap ((l0.length:Int))),.int .u64 (IntKind.u64.wrap (a1))] rfl (by (try simp only [mA,mC,mN]);first|done|rfl|(simp only [List.length_drop,List.length_take];rfl)) ?_;(with_reducible refine (bits_Mul.calls (IntKind.u64.wrap ((l0.length:Int))) (IntKind.u64.wrap (a1)) t105 t106 _ A4.out).mono ?_);rintro e w' ⟨rfl,⟨nd,rfl⟩⟩;refine⟨_,rfl,?_⟩))
 (try simp only [Act.put,sA,sO,sS])
 go_cut [26] (fun v26 wc=>∃ (kq:Nat) (x26_4:Bool),v26 = .bool x26_4 ∧ Aside0 (slices_Repeat_int_int.j0 kq l0 t106 x26_4 = some r) ∧ Aside0 (kq ≤ k) ∧ Aside0 (Below w.heap.size w wc))
 case first =>
  have H:=HC5.out
  clear HC5
  by_cases c6:t105 > 0
  ·rw [if_pos c6] at H
   have c6b0:decide (0 < t105) = true:=decide_eq_true c6
   clear c6
   (first|rw [c6b0]|(simp only [i64_w,i32_w];rw [c6b0])|skip)
   have H':=mk0 H
   clear H
   go_wp2
   go_meet
   case rel=>exact⟨_,(true),(by first|rfl|(simp;done)|(simp [*];done)),H',⟨by first|omega|exact Nat.le_refl _⟩,⟨by repeat (first|(with_reducible first|exact HB.out|apply aZ|apply nZ|apply dZ)|exact HB.out)⟩⟩
  rw [if_neg c6] at H
  have c6b0:decide (0 < t105) = false:=decide_eq_false c6
  clear c6
  (first|rw [c6b0]|(simp only [i64_w,i32_w];rw [c6b0])|skip)
  have H':=mk0 H
  clear H
  go_wp2
  go_meet
  case rel=>exact⟨_,(decide (t106 > 9223372036854775807)),(by first|rfl|(simp;done)|(simp [*];done)),H',⟨by first|omega|exact Nat.le_refl _⟩,⟨by repeat (first|(with_reducible first|exact HB.out|apply aZ|apply nZ|apply dZ)|exact HB.out)⟩⟩
 case rest =>
  clear HC5
  try clear p2
  try clear c3
  try clear c3b0
  try clear c5
  try clear c6
  try clear c6b0
  obtain⟨kq,x26_4,rfl,HA,HJ4,HB⟩:=hcut
  cases kq with
  | zero=>exact absurd HA.out (by simp [slices_Repeat_int_int.j0])
  | succ kj4 =>
   have H:=HA.out
   clear HA
   simp only [slices_Repeat_int_int.j0] at H
   by_cases c7:x26_4 = true
   ·subst c7
    have H1:(none) = some r:=by rw [if_pos rfl] at H;exact H
    clear H
    have H:=H1
    clear H1
    exact absurd H (by simp)
   replace c7:=Bool.eq_false_iff.mpr c7
   subst c7
   have H1:(if 0 ≤ (wrap64 (t106)) then (if (wrap64 (t106):Int).toNat ≤ 35184372088832 then ((some (List.replicate (wrap64 (t106):Int).toNat 0:List Int)).bind fun y107=>(slices_Repeat_int_int.l0 kj4 (kopy y107 0 l0) ((min l0.length (y107.length - 0):Nat):Int))) else (none)) else (none)) = some r:=by rw [if_neg (show ¬ (false = true) by decide)] at H;exact H
   clear H
   have H:=H1
   clear H1
   obtain⟨ji8,hji8⟩:∃ j_:Int,(wrap64 (t106)) = j_:=⟨_,rfl⟩
   replace H:(if 0 ≤ (ji8) then (if (ji8:Int).toNat ≤ 35184372088832 then ((some (List.replicate (ji8:Int).toNat 0:List Int)).bind fun y107=>(slices_Repeat_int_int.l0 kj4 (kopy y107 0 l0) ((min l0.length (y107.length - 0):Nat):Int))) else (none)) else (none)) = some r:=by first|(rw [hji8] at H;exact H)|(simp only [hji8] at H ⊢;exact H)
   have hji8w:(IntKind.i64.wrap (t106)) = ji8:=(i64_w _).trans hji8
   by_cases c9:0 ≤ (ji8)
   rotate_left
   ·rw [if_neg c9] at H
    exact absurd H (by simp)

   rw [if_pos c9] at H
   have c9b0:=eq_true c9
   have c9b1:decide (0 ≤ (ji8)) = true:=decide_eq_true c9
   clear c9
   by_cases c10:(ji8:Int).toNat ≤ 35184372088832
   rotate_left
   ·rw [if_neg c10] at H
    exact absurd H (by simp)
   rw [if_pos c10] at H
   have c10b0:=eq_true c10
   have c10b1:decide ((ji8:Int).toNat ≤ 35184372088832) = true:=decide_eq_true c10
   clear c10
   obtain⟨y107,hy107⟩:∃ y_:List Int,y_ = (List.replicate (ji8:Int).toNat 0):=⟨_,rfl⟩
   replace H:(slices_Repeat_int_int.l0 kj4 (kopy y107 0 l0) ((min l0.length (y107.length - 0):Nat):Int)) = some r:=by first|(rw [hy107];with_reducible exact H)|(have H2_:=(Option.bind_some _ _).symm.trans H;rw [hy107];with_reducible exact H2_)|(have H2_:=(Option.bind_some _ _).symm.trans H;with_reducible exact H2_)|with_reducible exact H|(rw [hy107];exact H)|exact H
   have Ny107:=mk0 hy107
   clear hy107
   obtain⟨y110,hy110⟩:∃ y_:List Int,y_ = (kopy y107 0 l0):=⟨_,rfl⟩
   replace H:(slices_Repeat_int_int.l0 kj4 y110 ((min l0.length (y107.length - 0):Nat):Int)) = some r:=by first|(rw [hy110];with_reducible exact H)|(have H2_:=(Option.bind_some _ _).symm.trans H;rw [hy110];with_reducible exact H2_)|(have H2_:=(Option.bind_some _ _).symm.trans H;with_reducible exact H2_)|with_reducible exact H|(rw [hy110];exact H)|exact H
   have Ny110:=mk0 hy110
   clear hy110
   have H':=mk0 H
   clear H
   go_wp2_with (first|((with_reducible refine gate_dst (N:=30) rfl ?_);refine Kd.R_make (Kd.int .i64) _ 3 rfl (N:=30) rfl 22 _ _ rfl ji8 rfl rfl Try.underlying22 (.int .i64 0) 8 info3 rfl (by decide) (by omega) 0 (ok:=fun _=>True) (okp:=fun _=>True) rfl (fun _ hk=>hk) trivial (of_decide_eq_true (by first|(with_reducible assumption)|assumption)) (Nat.le_trans (Nat.mul_le_mul_right _ (of_decide_eq_true (by first|(with_reducible assumption)|assumption):ji8.toNat ≤ 35184372088832)) (by omega)) (Below.refl _ _) (Nat.le_refl _) ?_;intro v108 w11 ho12 hb hg_ hnew_;clear hg_ hnew_;(first|rw [← Ny107.out] at ho12|(simp only [Int.reduceToNat] at ho12;rw [← Ny107.out] at ho12));have n0_:=mk0 (Kd.R_lower ho12 (below_size (by repeat (first|(with_reducible first|exact HB.out|apply aZ|apply nZ|apply dZ)|exact HB.out))));have n1_:=mk0 (below_step (by repeat (first|(with_reducible first|exact HB.out|apply aZ|apply nZ|apply dZ)|exact HB.out)) hb);clear HB;have HO109:=n0_;have HB:=n1_;clear n0_ n1_ hb ho12;obtain⟨Ao15,co15,eo15⟩:=Kd.R_slice HO109.out;subst eo15)|((with_reducible refine gate_builtin (b:=.copy) (xs:=#[.tmp 31,.tmp 32]) rfl ?_);refine R_copyin (enc:=(Value.int .i64)) (h1:=fun _=>rfl) 0 (w0:=w) w.heap.size rfl (.tmp 31) (.tmp 32) 22 22 3 rfl Try.underlying22 (by kernel_rfl) (n:=y107.length) (c:=co15) (k:=0) (xs:=y107) (ys:=l0) rfl rfl ?hA ?hm (by (with_reducible repeat (first|apply aR|apply nR|apply dR));exact HO109.out) ?hk ?hS (by repeat (first|(with_reducible first|exact HB.out|apply aZ|apply nZ|apply dZ)|exact HB.out)) (below_size (by repeat (first|(with_reducible first|exact HB.out|apply aZ|apply nZ|apply dZ)|exact HB.out))) ?_;(case hA=>exact kopy_whole);(case hm=>exact rfl);(case hk=>exact Nat.zero_le _);(case hS=>repeat (first|exact (Kd.C_below HR0.out HB.out)|(with_reducible first|apply aC|apply nC|apply dC)));intro w13 ho hb hg;have hp_:Kd.R (Kd.int .i64) 3 w13 w.heap.size (fun _=>True) (.slice Ao15 y107.length co15) y110:=(by rw [Ny110.out];exact ho);clear ho;have n0_:=mk0 (hp_);have n1_:=mk0 (hb);clear HO109 HB;have HO109:=n0_;have HB:=n1_;clear n0_ n1_ hg hp_ hb))
   go_loopg [8] kj4 (fun kq v8 w'=>∃ (x7_2:List Int) (x8_2:Int),v8 = .int .i64 x8_2 ∧ Aside0 (slices_Repeat_int_int.l0 kq x7_2 x8_2 = some r) ∧ Aside0 (kq ≤ kj4) ∧ Aside0 (Kd.R (Kd.int .i64) 3 w' w.heap.size (fun _=>True) (.slice Ao15 y107.length co15) x7_2) ∧ Aside0 (Below w.heap.size w w'))
   case atStart=>exact⟨(y110),(((min l0.length (y107.length - 0):Nat):Int)),(by first|rfl|(simp;done)|(simp [*];done)),H',⟨Nat.le_refl _⟩,⟨by (with_reducible repeat (first|apply aR|apply nR|apply dR));exact HO109.out⟩,⟨by repeat (first|(with_reducible first|exact HB.out|apply aZ|apply nZ|apply dZ)|exact HB.out)⟩⟩
   case round =>
    clear H'
    try clear c1
    try clear p2
    try clear c3
    try clear c3b0
    try clear c5
    try clear c6
    try clear c6b0
    try clear p6
    try clear c7
    try clear c9
    try clear c9b0
    try clear c9b1
    try clear c10
    try clear c10b0
    try clear c10b1
    try clear p2
    obtain⟨x7_2,x8_2,rfl,HA,HK2,HO_7,HB⟩:=hrel
    have hl7_2:=(Kd.R_reads' HO_7.out).1
    rw [hl7_2] at HO_7
    (try simp only [hl7_2])
    cases gk with
    | zero=>exact absurd HA.out (by simp [slices_Repeat_int_int.l0])
    | succ k2 =>
     have H:=HA.out
     clear HA
     simp only [slices_Repeat_int_int.l0] at H
     by_cases c16:x8_2 < (x7_2.length:Int)
     rotate_left
     ·rw [if_neg c16] at H
      have c16b0:decide (x8_2 < (x7_2.length:Int)) = false:=decide_eq_false c16
      (try simp only [hl7_2] at c16b0)
      clear c16
      obtain rfl:=Option.some.inj H
      go_wp2
      go_ret
      exact⟨_,by first|rfl|(simp [errW_none,errW_some] <;> rfl)|(simp only [← hji8];first|rfl|(simp [errW_none,errW_some] <;> rfl))|(simp [*,errW_none,errW_some] <;> rfl),by (with_reducible repeat (first|apply aR|apply nR|apply dR));exact HO_7.out,by repeat (first|(with_reducible first|exact HB.out|apply aZ|apply nZ|apply dZ)|exact HB.out)⟩
     rw [if_pos c16] at H
     have c16b0:decide (x8_2 < (x7_2.length:Int)) = true:=decide_eq_true c16
     (try simp only [hl7_2] at c16b0)
     clear c16
     by_cases c17:0 ≤ x8_2
     rotate_left
     ·rw [if_neg c17] at H
      exact absurd H (by simp)
     rw [if_pos c17] at H
     have c17b0:=eq_true c17
     have c17b1:decide (0 ≤ x8_2) = true:=decide_eq_true c17
     clear c17
     by_cases c18:x8_2 ≤ (x7_2.length:Int)
     rotate_left
     ·rw [if_neg c18] at H
      exact absurd H (by simp)
     rw [if_pos c18] at H
     have c18b0:=eq_true c18
     have c18b1:decide (x8_2 ≤ (x7_2.length:Int)) = true:=decide_eq_true c18
     (try simp only [hl7_2] at c18b1)
     clear c18
     obtain⟨y111,hy111⟩:∃ y_:List Int,y_ = (x7_2.drop (x8_2:Int).toNat):=⟨_,rfl⟩
     replace H:((some (x7_2.take (x8_2:Int).toNat:List Int)).bind fun y115=>(slices_Repeat_int_int.l0 k2 (kopy x7_2 (x8_2:Int).toNat y115) (wrap64 (x8_2 + ((min y115.length (x7_2.length - (x8_2:Int).toNat):Nat):Int))))) = some r:=by first|(rw [hy111];with_reducible exact H)|(have H2_:=(Option.bind_some _ _).symm.trans H;rw [hy111];with_reducible exact H2_)|(have H2_:=(Option.bind_some _ _).symm.trans H;with_reducible exact H2_)|with_reducible exact H|(rw [hy111];exact H)|exact H
     have Ny111:=mk0 hy111
     clear hy111
     have c19b0:=eq_true (of_decide_eq_true (by first|(with_reducible assumption)|assumption):0 ≤ x8_2)
     have c20b0:=eq_true (of_decide_eq_true (by first|(with_reducible assumption)|assumption):x8_2 ≤ (x7_2.length:Int))
     obtain⟨y115,hy115⟩:∃ y_:List Int,y_ = (x7_2.take (x8_2:Int).toNat):=⟨_,rfl⟩
     replace H:(slices_Repeat_int_int.l0 k2 (kopy x7_2 (x8_2:Int).toNat y115) (wrap64 (x8_2 + ((min y115.length (x7_2.length - (x8_2:Int).toNat):Nat):Int)))) = some r:=by first|(rw [hy115];with_reducible exact H)|(have H2_:=(Option.bind_some _ _).symm.trans H;rw [hy115];with_reducible exact H2_)|(have H2_:=(Option.bind_some _ _).symm.trans H;with_reducible exact H2_)|with_reducible exact H|(rw [hy115];exact H)|exact H
     have Ny115:=mk0 hy115
     clear hy115
     obtain⟨y119,hy119⟩:∃ y_:List Int,y_ = (kopy x7_2 (x8_2:Int).toNat y115):=⟨_,rfl⟩
     replace H:(slices_Repeat_int_int.l0 k2 y119 (wrap64 (x8_2 + ((min y115.length (x7_2.length - (x8_2:Int).toNat):Nat):Int)))) = some r:=by first|(rw [hy119];with_reducible exact H)|(have H2_:=(Option.bind_some _ _).symm.trans H;rw [hy119];with_reducible exact H2_)|(have H2_:=(Option.bind_some _ _).symm.trans H;with_reducible exact H2_)|with_reducible exact H|(rw [hy119];exact H)|exact H
     have Ny119:=mk0 hy119
     clear hy119
     have H':=mk0 H
     clear H
     try go_wp2
     have n0_:=mk0 (dR HO_7.out)
     have n1_:=mk0 (dZ HB.out)
     clear HO_7
     clear HB
     have HO_7:=n0_
     have HB:=n1_
     clear n0_ n1_
     have q22:(x8_2:Int) ≤ ((x7_2.length:Int):Int):=of_decide_eq_true (by first|(with_reducible assumption)|assumption)
     obtain⟨i022,hi022,_,hsz22,_⟩:=info_parts info3
     have hroom22:x7_2.length ≤ co15:=(Kd.R_reads' HO_7.out).2.1
     have hC22:Kd.C (Kd.int .i64) _ Ao15 x7_2.length x7_2:=(Kd.R_reads' HO_7.out).2.2
     have q022:(0:Int) ≤ (x8_2:Int):=of_decide_eq_true (by first|(with_reducible assumption)|assumption)
     have hcut22:=cut_from (P:=Try.prog) 22 3 .i64 Try.underlying22 hi022 1 hsz22 Ao15 x7_2.length co15 x8_2 q022 q22
     have hr22:=Kd.C_drop (m:=(x8_2:Int).toNat) (c:=co15) hC22 (by omega) hroom22
     obtain⟨A22,hA22⟩:∃ A1,A1 = (if co15 = (x8_2:Int).toNat then Ao15 else (Ao15:Option Addr).map (·.add ((x8_2:Int).toNat * 1))):=⟨_,rfl⟩
     obtain⟨c22,hc22⟩:∃ c1,c1 = co15 - (x8_2:Int).toNat:=⟨_,rfl⟩
     have hy22:y111.length = x7_2.length - (x8_2:Int).toNat:=(by rw [Ny111.out,List.length_drop] <;> omega)
     rw [show (x7_2).drop (x8_2:Int).toNat = y111 from Ny111.out.symm] at hr22
     replace hr22:Kd.C (Kd.int .i64) _ A22 y111.length y111:=(by rw [hA22];exact hr22)
     rw [← hy22, ← hA22, ← hc22] at hcut22
     have HR114:=mk0 hr22
     have HC114:=mk0 (show y111.length ≤ c22 from by rw [hy22,hc22];exact Nat.sub_le_sub_right hroom22 _)
     clear hr22 hC22 hroom22 hi022 hsz22 hc22
     have KY22:=mk0 hy22
     have KA22:=mk0 hA22
     clear hy22 hA22
     have KL22:=mk0 (show (x8_2:Int).toNat ≤ x7_2.length from by omega)
     replace q22:=eq_true q22
     have q23:(x8_2:Int) ≤ ((x7_2.length:Int):Int):=of_decide_eq_true (by first|(with_reducible assumption)|assumption)
     obtain⟨i023,hi023,_,hsz23,_⟩:=info_parts info3
     have hroom23:x7_2.length ≤ co15:=(Kd.R_reads' HO_7.out).2.1
     have hC23:Kd.C (Kd.int .i64) _ Ao15 x7_2.length x7_2:=(Kd.R_reads' HO_7.out).2.2
     have hcut23:=cut_to (P:=Try.prog) 22 3 .i64 Try.underlying22 hi023 Ao15 x7_2.length co15 x8_2 (of_decide_eq_true (by first|(with_reducible assumption)|assumption)) q23 hroom23
     have hr23:=Kd.C_take (m:=(x8_2:Int).toNat) hC23 (by omega)
     have hy23:y115.length = (x8_2:Int).toNat:=(by rw [Ny115.out,List.length_take];omega)
     rw [← Ny115.out] at hr23
     rw [← hy23] at hcut23
     have HR118:=mk0 hr23
     have HC118:=mk0 (show y115.length ≤ co15 from by omega)
     clear hr23 hC23 hroom23 hi023 hsz23
     have KY23:=mk0 hy23
     clear hy23
     have KL23:=mk0 (show (x8_2:Int).toNat ≤ x7_2.length from by omega)
     replace q23:=eq_true q23
     refine start_ (n:=10) (S:=fun w'=>True) (ds:=[]) slices_Repeat_int_int.m0 (by kernel_rfl) rfl rfl trivial (fun hHeld=>?_);refine with_tabW slices_Repeat_int_int.tab9 slices_Repeat_int_int.bits9 (fun HT_ HW_=>?_)
     generalize wr.drew = w21 at HO_7 HB HR114 HR118 hHeld ⊢
     refine pure_ (i:=0) (N:=some 38) (v:=?_) (a':=?_) slices_Repeat_int_int.m1 rfl rfl (any_of HT_.out (by kernel_rfl)) (fun _ _ _ h=>h) (Or.inl ⟨by rfl,?_⟩) ?_ ?_
     rotate_left
     ·intro w'
      go_simp
      with_reducible rfl
     rotate_left
     ·simp only [Act.put,sA,sO,sS,i64_w,i32_w]
      rfl
     refine pure_ (i:=1) (N:=some 39) (v:=?_) (a':=?_) slices_Repeat_int_int.m2 rfl rfl (any_of HT_.out (by kernel_rfl)) (fun _ _ _ h=>h) (Or.inl ⟨by rfl,?_⟩) ?_ ?_
     rotate_left
     ·intro w'
      go_simp
      with_reducible rfl
     rotate_left
     ·simp only [Act.put,sA,sO,sS,i64_w,i32_w]
      rfl
     refine pure_ (i:=2) (N:=some 40) (v:=?_) (a':=?_) slices_Repeat_int_int.m3 rfl rfl (any_of HT_.out (by kernel_rfl)) (fun _ _ _ h=>h) (Or.inl ⟨by rfl,?_⟩) ?_ ?_
     rotate_left
     ·intro w'
      go_simp
      with_reducible rfl
     rotate_left
     ·simp only [Act.put,sA,sO,sS,i64_w,i32_w]
      rfl
     refine pure_ (i:=3) (N:=some 41) (v:=?_) (a':=?_) slices_Repeat_int_int.m4 rfl rfl (any_of HT_.out (by kernel_rfl)) (fun _ _ _ h=>h) (Or.inl ⟨by rfl,?_⟩) ?_ ?_
     rotate_left
     ·intro w'
      go_simp
      with_reducible rfl
     rotate_left
     ·simp only [Act.put,sA,sO,sS,i64_w,i32_w]
      rfl
     refine pure_ (i:=4) (N:=some 42) (v:=?_) (a':=?_) slices_Repeat_int_int.m5 rfl rfl (any_of HT_.out (by kernel_rfl)) (fun _ _ _ h=>h) (Or.inl ⟨by rfl,?_⟩) ?_ ?_
     rotate_left
     ·intro w'
      go_simp
      with_reducible rfl
     rotate_left
     ·simp only [Act.put,sA,sO,sS,i64_w,i32_w]
      rfl
     refine pure_ (i:=5) (N:=some 43) (v:=?_) (a':=?_) slices_Repeat_int_int.m6 rfl rfl (any_of HT_.out (by kernel_rfl)) (fun _ _ _ h=>h) (Or.inl ⟨by rfl,?_⟩) ?_ ?_
     rotate_left
     ·intro w'
      go_simp
      with_reducible rfl
     rotate_left
     ·simp only [Act.put,sA,sO,sS,i64_w,i32_w]
      rfl
     refine pure_ (i:=6) (N:=some 44) (v:=?_) (a':=?_) slices_Repeat_int_int.m7 rfl rfl (any_of HT_.out (by kernel_rfl)) (fun _ _ _ h=>h) (Or.inl ⟨by rfl,?_⟩) ?_ ?_
     rotate_left
     ·intro w'
      go_simp
      with_reducible rfl
     rotate_left
     ·simp only [Act.put,sA,sO,sS,i64_w,i32_w]
      rfl
     refine one_ (i:=7) (N:=some 45) slices_Repeat_int_int.m8 rfl rfl (one_of HT_.out (by kernel_rfl)) (by decide) (fun K hK=>?_)
     refine R_copyin_step (enc:=(Value.int .i64)) (h1:=fun _=>rfl) 0 (w0:=w) w.heap.size (by rfl) (.tmp 41) (.tmp 44) 22 22 3 rfl Try.underlying22 (by kernel_rfl) (n:=x7_2.length) (c:=co15) (k:=(x8_2:Int).toNat) (xs:=x7_2) (ys:=y115) rfl rfl ?hA ?hm (by (with_reducible repeat (first|apply aR|apply nR|apply dR));exact HO_7.out) ?hk ?hS (by repeat (first|(with_reducible first|exact HB.out|apply aZ|apply nZ|apply dZ)|exact HB.out)) (below_size (by repeat (first|(with_reducible first|exact HB.out|apply aZ|apply nZ|apply dZ)|exact HB.out))) ?_
     (case hA=>exact KA22.out)
     (case hm=>exact KY22.out)
     (case hk=>exact KL22.out)
     (case hS=>repeat (first|exact (by repeat (first|(with_reducible exact HR118.out)|(with_reducible first|apply aC|apply nC|apply dC)|exact HR118.out))|(with_reducible first|apply aC|apply nC|apply dC)))
     intro w24 ho hb hg
     have hp_:Kd.R (Kd.int .i64) 3 w24 w.heap.size (fun _=>True) (.slice Ao15 x7_2.length co15) y119:=(by rw [Ny119.out];exact ho)
     clear ho
     have n0_:=mk0 (hp_)
     have n1_:=mk0 (hb)
     clear HO_7
     clear HB
     have HO_7:=n0_
     have HB:=n1_
     clear n0_ n1_
     clear hg hp_ hb
     refine hK.out _ _ trivial (fun hHeld=>?_)
     clear hK K
     refine norm_ (a':=?_) ?_ ?_
     rotate_left
     ·show Act.put _ (some 45) _ = _
      simp only [Act.put,sA,sO,sS,i64_w,i32_w]
      rfl
     refine pure_ (i:=8) (N:=some 46) (v:=?_) (a':=?_) slices_Repeat_int_int.m9 rfl rfl (any_of HT_.out (by kernel_rfl)) (fun _ _ _ h=>h) (Or.inl ⟨by rfl,?_⟩) ?_ ?_
     rotate_left
     ·intro w'
      go_simp
      with_reducible rfl
     rotate_left
     ·simp only [Act.put,sA,sO,sS,i64_w,i32_w]
      rfl
     refine pure_ (i:=9) (N:=some 8) (v:=?_) (a':=?_) slices_Repeat_int_int.m10 rfl rfl (any_of HT_.out (by kernel_rfl)) (fun _ _ _ h=>h) (Or.inl ⟨by rfl,?_⟩) ?_ ?_
     rotate_left
     ·intro w'
      go_simp
      with_reducible rfl
     rotate_left
     ·simp only [Act.put,sA,sO,sS,i64_w,i32_w]
      rfl
     refine done_ (done_of HT_.out (by kernel_rfl)) ?_
     try go_wp2
     (try simp only [← hl7_2])
     go_roundg k2
     case measure=>have:=HJ4.out;have:=HK2.out;omega
     case rel=>exact⟨(y119),(wrap64 (x8_2 + ((min y115.length (x7_2.length - (x8_2:Int).toNat):Nat):Int))),(by first|rfl|(simp;done)|(simp [*];done)),H',⟨by have:=HJ4.out;have:=HK2.out;omega⟩,⟨by (try simp only [hl7_2]);(with_reducible repeat (first|apply aR|apply nR|apply dR));exact HO_7.out⟩,⟨by repeat (first|(with_reducible first|exact HB.out|apply aZ|apply nZ|apply dZ)|exact HB.out)⟩⟩
end Go.Proofs.Ytpheodpcppclaaa.QFnMins
