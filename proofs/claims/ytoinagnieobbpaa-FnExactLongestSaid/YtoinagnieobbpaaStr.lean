import Derived.Test.YtoinagnieobbpaaProg
import Derived.Below
import Derived.Deep.Draws
import Derived.Deep.AppendLies
import Derived.Maps.AppendAt
import Derived.OwnWalk
import Derived.Laws.BytesArg
import Derived.Laws.MakeOwn
import Derived.Laws.OwnMore
import Derived.Deep.OwnRows
import Derived.Tactics
import Derived.Lib.ConvBytes
import Derived.Laws.Slices
import Derived.WalkKit
import Derived.KernelRfl
import Derived.RowKit3
import Derived.Deep.LoopGhost
import Derived.Deep.QuietTactic
import Derived.BigQuiet
import Derived.WideLaws
import Derived.Deep.DeepCutAuto
import Derived.Deep.CutBlock
import Derived.Deep.RegionHeld3
import Derived.Laws.Rows
import Derived.Lib.AppendStr
import Derived.ArgAppend
import Derived.Laws.IdiomCopy
import Derived.OrdersHeld
import Derived.Laws.BitsLemmas
import Derived.RowKit
import Derived.Shelf.Abstract
import Derived.DataElems
import Derived.Test.YtoinagnieobbpaaWWords
import Derived.Test.YtoinagnieobbpaaWLast
import Derived.Test.YtoinagnieobbpaaWTab
import Derived.Test.YtoinagnieobbpaaWQPut
import Derived.Test.YtoinagnieobbpaaWApart
import Derived.Test.YtoinagnieobbpaaWArr
import Derived.Test.YtoinagnieobbpaaWZeros
import Derived.Test.YtoinagnieobbpaaWFoot
import Derived.Test.YtoinagnieobbpaaWKept
import Derived.Test.YtoinagnieobbpaaWShare
import Derived.Test.YtoinagnieobbpaaWN
import Derived.Test.YtoinagnieobbpaaWEqStruct
import Derived.Test.YtoinagnieobbpaaWRepsOne
import Derived.Test.YtoinagnieobbpaaWGuard
import Derived.Test.YtoinagnieobbpaaWNEv
import Derived.Test.YtoinagnieobbpaaWMore
import Derived.Test.YtoinagnieobbpaaSq
import Derived.Test.YtoinagnieobbpaaLays
import Derived.Test.YtoinagnieobbpaaSuf
-- import Sq
-- import Lays
-- import Suf
/- Stretches in order: compareStretches (its world told to the block), slices.SortFunc, slices.Compact at them. -/
namespace Go.Proofs.Ytoinagnieobbpaa.Str
open Go.RowKit Go.Proofs.YtoinagnieobbpaaW.PrintWords Go.Proofs.YtoinagnieobbpaaW.PrintLast Go.Proofs.YtoinagnieobbpaaW.PrintMore
attribute [local go_sem] max2_int min2_int max_two min_two max_three min_three max_four min_four
set_option linter.unusedVariables false
set_option linter.unusedSimpArgs false

/-- Behind a run that only draws and lays. -/
def Grew (w w' : World) : Prop := ∃ q os, w' = Go.Sort.grow (w.drewN q) os
theorem Grew.refl (w : World) : Grew w w := ⟨0, #[], by simp [Go.Sort.grow, World.drewN]⟩
theorem Grew.trans {a b c : World} (h : Grew a b) (k : Grew b c) : Grew a c := by
  obtain ⟨q, os, rfl⟩ := h
  obtain ⟨q', os', rfl⟩ := k
  exact ⟨q + q', os ++ os', by simp [Go.Sort.grow, World.drewN, Array.append_assoc, Nat.add_assoc]⟩
theorem Grew.ofN (w : World) (n : Nat) : Grew w (w.drewN n) := ⟨n, #[], by simp [Go.Sort.grow, World.drewN]⟩
theorem Grew.drewN {a b : World} (h : Grew a b) (n : Nat) : Grew a (b.drewN n) := h.trans (Grew.ofN b n)
theorem Grew.alloc (w : World) (o : Obj) : Grew w (w.alloc o) := ⟨0, #[o], by
  show World.mk _ _ _ _ _ = World.mk _ _ _ _ _
  rfl⟩

section
variable {P : Program} {ops : Array Oper} {rest : List Oper} {o : Oper} {a : Act} {Q : Exit → Act → World → Prop} {Kc : Act → World → Prop}
theorem box_eventG {W : World} (hgd : o.guard = none) {N : Tmp} (_hd : o.dst = some N) {cs : Array Value} {t : TypeId}
    (hrun : (execOp a.eval o).run P W = .ok (.value (.pointer (some ⟨W.heap.size, 0, none⟩))) (W.alloc (.cells cs t (0, 0))))
    (h : ∀ g, g = W.heap.size → ∀ w1, w1.heap[g]? = some (.cells cs t (0, 0)) → Below W.heap.size W w1 → Grew W w1 → wpList P ops Q rest (a.put o.dst (.pointer (some ⟨g, 0, none⟩))) w1) : wpList P ops Q (o :: rest) a W :=
  Kd.event_run hgd hrun (h _ rfl _ (blk_new W _) (below_alloc (Below.refl _ _) _) (Grew.alloc W _))
theorem lit2_stepG {W : World} (x y : Int) (e : Nat) (hw : Region.wanted o (yielded ops a.tmps) = true) {N : Tmp} (_hd : o.dst = some N)
    (hrun : (execOp a.eval o).run P W = .ok (.value (.slice (some ⟨W.heap.size, 0, none⟩) [x, y].length [x, y].length)) (W.alloc (.cells [Value.int .i64 x, Value.int .i64 y].toArray e)))
    (h : ∀ v1 w1, Kd.R (Kd.int .i64) e w1 W.heap.size (fun _ => True) v1 [x, y] → Below W.heap.size W w1 → Grew W w1 → Kc (a.put o.dst v1) w1) : if Region.wanted o (yielded ops a.tmps) = true then Oper.wp P o a W Kc Q else Kc (a.put o.dst undef) W := by
  refine event_step hw hrun (h _ _ ?_ ((Below.refl _ _).alloc (Nat.le_refl _) _) (Grew.alloc W _))
  refine Kd.R_of_own ?_ (fun _ _ => trivial)
  refine ⟨rfl, .inr ⟨W.heap.size, 2, #[.int .i64 x, .int .i64 y], rfl, Nat.le_refl _, ?_, Nat.le_refl _, by decide, rfl, rfl⟩⟩
  exact blk_new W _
end
/-! ### cmp_Or_int: function 90 -/
def cmp_Or_int.l0 : Nat → Int → List Int → Int → Int → Option (Int)
 | 0, _, _, _, _ => none
 | k + 1, x3, x6, x7, x8 => if x8 < x7 then (if 0 ≤ x8 then (if x8 < (x6.length : Int) then (if (rd x6 x8) = x3 then (cmp_Or_int.l0 k x3 x6 x7 (wrap64 (x8 + 1))) else (some (rd x6 x8))) else (none)) else (none)) else (some x3)
def cmp_Or_int.f (k : Nat) (l0 : List Int) : Option (Int) := cmp_Or_int.l0 k 0 l0 (l0.length : Int) 0
theorem cmp_Or_int.mono_l : ∀ k, (∀ y0 y1 y2 y3, LeO (cmp_Or_int.l0 k y0 y1 y2 y3) (cmp_Or_int.l0 (k + 1) y0 y1 y2 y3))
 | 0 => fun _ _ _ _ r h => by simp [cmp_Or_int.l0] at h
 | k + 1 => by
  have ih0 := cmp_Or_int.mono_l k
  ·intro y0 y1 y2 y3
   unfold cmp_Or_int.l0
   repeat' first|(with_reducible first|exact ih0 _ _ _ _|exact LeO.refl _|exact LeO.none _|refine LeO.ite ?_ ?_|refine LeO.bind ?_ (fun _ => ?_))|exact LeO.none _|refine LeO.ite ?_ ?_|refine LeO.bind ?_ (fun _ => ?_)
theorem cmp_Or_int.mono : ∀ a0 k, LeO (cmp_Or_int.f k a0) (cmp_Or_int.f (k + 1) a0) := by
 intro a0 k
 have ih0 := cmp_Or_int.mono_l k
 unfold cmp_Or_int.f
 repeat' first|(with_reducible first|exact ih0 _ _ _ _|exact LeO.refl _|exact LeO.none _|refine LeO.ite ?_ ?_|refine LeO.bind ?_ (fun _ => ?_))|exact LeO.none _|refine LeO.ite ?_ ?_|refine LeO.bind ?_ (fun _ => ?_)
set_option maxHeartbeats 8000000 in
set_option maxRecDepth 100000 in
theorem cmp_Or_int.calls (k : Nat) (A0 : Option Addr) (c0 : Nat) (l0 : List Int) (r : Int) (w : World) (hr0 : Kd.C (Kd.int .i64) w A0 l0.length l0) (hc0 : l0.length ≤ c0) (h : cmp_Or_int.f k l0 = some r) :
  Calls Try.prog 90 #[.slice A0 l0.length c0] w fun e w' => e = .returned (.int .i64 r) ∧ Drawn0 w w' := by
 have HR0:=mk0 hr0
 have HC0:=mk0 hc0
 clear hr0 hc0
 have H:(cmp_Or_int.l0 k 0 l0 (l0.length:Int) 0) = some r:=h
 clear h
 have H':=mk0 H
 clear H
 go_enter Try.func90,Try.ntmps90
 go_wp2
 go_loopg [8] k (fun kq v8 w'=>∃ (x8_1:Int),v8 = .int .i64 x8_1 ∧ Aside0 (cmp_Or_int.l0 kq 0 l0 (l0.length:Int) x8_1 = some r) ∧ Aside0 (kq ≤ k) ∧ Drawn0 w w')
 case atStart=>exact⟨(0),(by first|rfl|(simp;done)|(simp [*];done)),H',⟨Nat.le_refl _⟩,by repeat (first|exact Drawn0.refl _|apply Drawn0.step)⟩
 case round =>
  clear H'
  obtain⟨x8_1,rfl,HA,HK1,⟨m1,rfl⟩⟩:=hrel
  cases gk with
  | zero=>exact absurd HA.out (by simp [cmp_Or_int.l0])
  | succ k1 =>
   have H:=HA.out
   clear HA
   simp only [cmp_Or_int.l0] at H
   by_cases c2:x8_1 < (l0.length:Int)
   ·rw [if_pos c2] at H
    have c2b0:decide (x8_1 < (l0.length:Int)) = true:=decide_eq_true c2
    clear c2
    by_cases c3:0 ≤ x8_1
    ·rw [if_pos c3] at H
     have c3b0:decide (0 ≤ x8_1) = true:=decide_eq_true c3
     clear c3
     by_cases c4:x8_1 < (l0.length:Int)
     ·rw [if_pos c4] at H
      have c4b0:decide (x8_1 < (l0.length:Int)) = true:=decide_eq_true c4
      clear c4
      by_cases c5:(rd l0 x8_1) = 0
      ·rw [if_pos c5] at H
       have c5b0:((rd l0 x8_1) == 0) = true:=beq_iff_eq.mpr c5
       have c5b1:((rd l0 x8_1) != 0) = false:=bne_eq_false_iff_eq.mpr c5
       clear c5
       have H':=mk0 H
       clear H
       have p218:0 ≤ (x8_1:Int):=of_decide_eq_true (by first|(with_reducible assumption)|assumption)
       have q218:x8_1 < (l0.length:Int):=of_decide_eq_true (by first|(with_reducible assumption)|assumption)
       obtain⟨ad218,e218,hx218_0⟩:=Kd.at_int HR0.out x8_1 p218 q218
       cases e218
       replace p218:=eq_true p218
       replace q218:=eq_true q218
       go_wp2
       go_roundg k1
       case measure=>have:=HK1.out;omega
       case rel=>exact⟨(wrap64 (x8_1 + 1)),(by first|rfl|(simp;done)|(simp [*];done)),H',⟨by have:=HK1.out;omega⟩,by repeat (first|exact Drawn0.refl _|apply Drawn0.step)⟩
      ·rw [if_neg c5] at H
       have c5b0:((rd l0 x8_1) == 0) = false:=beq_eq_false_iff_ne.mpr c5
       have c5b1:((rd l0 x8_1) != 0) = true:=bne_iff_ne.mpr c5
       obtain rfl:=Option.some.inj H
       have p218:0 ≤ (x8_1:Int):=of_decide_eq_true (by first|(with_reducible assumption)|assumption)
       have q218:x8_1 < (l0.length:Int):=of_decide_eq_true (by first|(with_reducible assumption)|assumption)
       obtain⟨ad218,e218,hx218_0⟩:=Kd.at_int HR0.out x8_1 p218 q218
       cases e218
       replace p218:=eq_true p218
       replace q218:=eq_true q218
       go_wp2
       go_ret
       exact⟨by first|rfl|(simp;done)|(simp [*];done),by repeat (first|exact Drawn0.refl _|apply Drawn0.step)⟩
     ·rw [if_neg c4] at H
      exact absurd H (by simp)
    ·rw [if_neg c3] at H
     exact absurd H (by simp)
   ·rw [if_neg c2] at H
    have c2b0:decide (x8_1 < (l0.length:Int)) = false:=decide_eq_false c2
    clear c2
    obtain rfl:=Option.some.inj H
    go_wp2
    go_ret
    exact⟨by first|rfl|(simp;done)|(simp [*];done),by repeat (first|exact Drawn0.refl _|apply Drawn0.step)⟩

/-! ### cmp_isNaN_int: function 112 -/
def cmp_isNaN_int.f (a0 : Int) : Option (Bool) := some (a0 != a0)
set_option maxHeartbeats 8000000 in
set_option maxRecDepth 100000 in
theorem cmp_isNaN_int.calls (a0 : Int) (r : Bool) (w : World) (h : cmp_isNaN_int.f a0 = some r) :
  Calls Try.prog 112 #[.int .i64 a0] w fun e w' => e = .returned (.bool r) ∧ Drawn0 w w' := by
 have H:(some (a0 != a0)) = some r:=h
 clear h
 obtain rfl:=Option.some.inj H
 go_enter Try.func112,Try.ntmps112
 go_wp2
 go_ret
 exact⟨by first|rfl|(simp;done)|(simp [*];done),by repeat (first|exact Drawn0.refl _|apply Drawn0.step)⟩

/-! ### cmp_Compare_int: function 91 -/
def cmp_Compare_int.f (a0 : Int) (a1 : Int) : Option (Int) := (cmp_isNaN_int.f a0).bind fun t219 => ((cmp_isNaN_int.f a1).bind fun t220 => (if t219 = true then (if t220 = true then (some 0) else (some (-1))) else (if t220 = true then (some 1) else (if a0 < a1 then (some (-1)) else (if a0 > a1 then (some 1) else (some 0))))))
set_option maxHeartbeats 8000000 in
set_option maxRecDepth 100000 in
theorem cmp_Compare_int.calls (a0 : Int) (a1 : Int) (r : Int) (w : World) (h : cmp_Compare_int.f a0 a1 = some r) :
  Calls Try.prog 91 #[.int .i64 a0, .int .i64 a1] w fun e w' => e = .returned (.int .i64 r) ∧ Drawn0 w w' := by
 have H:((cmp_isNaN_int.f a0).bind fun t219=>((cmp_isNaN_int.f a1).bind fun t220=>(if t219 = true then (if t220 = true then (some 0) else (some (-1))) else (if t220 = true then (some 1) else (if a0 < a1 then (some (-1)) else (if a0 > a1 then (some 1) else (some 0))))))) = some r:=h
 clear h
 replace H:=Option.bind_eq_some_iff.mp H
 obtain⟨t219,A30,H⟩:=H
 replace H:((cmp_isNaN_int.f a1).bind fun t220=>(if t219 = true then (if t220 = true then (some 0) else (some (-1))) else (if t220 = true then (some 1) else (if a0 < a1 then (some (-1)) else (if a0 > a1 then (some 1) else (some 0)))))) = some r:=H
 have A3:=mk0 A30
 clear A30
 replace H:=Option.bind_eq_some_iff.mp H
 obtain⟨t220,A40,H⟩:=H
 replace H:(if t219 = true then (if t220 = true then (some 0) else (some (-1))) else (if t220 = true then (some 1) else (if a0 < a1 then (some (-1)) else (if a0 > a1 then (some 1) else (some 0))))) = some r:=H
 have A4:=mk0 A40
 clear A40
 by_cases c5:t219 = true
 ·subst c5
  have H1:(if t220 = true then (some 0) else (some (-1))) = some r:=by rw [if_pos rfl] at H;exact H
  clear H
  have H:=H1
  clear H1
  by_cases c6:t220 = true
  ·subst c6
   have H1:(some 0) = some r:=by rw [if_pos rfl] at H;exact H
   clear H
   have H:=H1
   clear H1
   obtain rfl:=Option.some.inj H
   go_enter Try.func91,Try.ntmps91
   go_wp2_with (first|((with_reducible refine gate_callee (f:=112) rfl ?_);refine goesL_ (some 8) rfl rfl Try.func112 (by kernel_rfl) rfl #[.int .i64 a0] rfl (by (try simp only [mA,mC,mN]);first|done|rfl|(simp only [List.length_drop,List.length_take];done)|(simp only [List.length_drop,List.length_take];rfl)) ?_;(with_reducible refine (cmp_isNaN_int.calls a0 true _ A3.out).mono ?_);rintro e w' ⟨rfl,⟨nd,rfl⟩⟩;refine⟨_,rfl,?_⟩)|((with_reducible refine gate_callee (f:=112) rfl ?_);refine goesL_ (some 10) rfl rfl Try.func112 (by kernel_rfl) rfl #[.int .i64 a1] rfl (by (try simp only [mA,mC,mN]);first|done|rfl|(simp only [List.length_drop,List.length_take];done)|(simp only [List.length_drop,List.length_take];rfl)) ?_;(with_reducible refine (cmp_isNaN_int.calls a1 true _ A4.out).mono ?_);rintro e w' ⟨rfl,⟨nd,rfl⟩⟩;refine⟨_,rfl,?_⟩))
   go_ret
   exact⟨by first|rfl|(simp;done)|(simp [*];done),by repeat (first|exact Drawn0.refl _|apply Drawn0.step)⟩
  ·replace c6:=Bool.eq_false_iff.mpr c6
   subst c6
   have H1:(some (-1)) = some r:=by rw [if_neg (show ¬ (false = true) by decide)] at H;exact H
   clear H
   have H:=H1
   clear H1
   obtain rfl:=Option.some.inj H
   go_enter Try.func91,Try.ntmps91
   go_wp2_with (first|((with_reducible refine gate_callee (f:=112) rfl ?_);refine goesL_ (some 8) rfl rfl Try.func112 (by kernel_rfl) rfl #[.int .i64 a0] rfl (by (try simp only [mA,mC,mN]);first|done|rfl|(simp only [List.length_drop,List.length_take];done)|(simp only [List.length_drop,List.length_take];rfl)) ?_;(with_reducible refine (cmp_isNaN_int.calls a0 true _ A3.out).mono ?_);rintro e w' ⟨rfl,⟨nd,rfl⟩⟩;refine⟨_,rfl,?_⟩)|((with_reducible refine gate_callee (f:=112) rfl ?_);refine goesL_ (some 10) rfl rfl Try.func112 (by kernel_rfl) rfl #[.int .i64 a1] rfl (by (try simp only [mA,mC,mN]);first|done|rfl|(simp only [List.length_drop,List.length_take];done)|(simp only [List.length_drop,List.length_take];rfl)) ?_;(with_reducible refine (cmp_isNaN_int.calls a1 false _ A4.out).mono ?_);rintro e w' ⟨rfl,⟨nd,rfl⟩⟩;refine⟨_,rfl,?_⟩))
   go_ret
   exact⟨by first|rfl|(simp;done)|(simp [*];done),by repeat (first|exact Drawn0.refl _|apply Drawn0.step)⟩
 ·replace c5:=Bool.eq_false_iff.mpr c5
  subst c5
  have H1:(if t220 = true then (some 1) else (if a0 < a1 then (some (-1)) else (if a0 > a1 then (some 1) else (some 0)))) = some r:=by rw [if_neg (show ¬ (false = true) by decide)] at H;exact H
  clear H
  have H:=H1
  clear H1
  by_cases c7:t220 = true
  ·subst c7
   have H1:(some 1) = some r:=by rw [if_pos rfl] at H;exact H
   clear H
   have H:=H1
   clear H1
   obtain rfl:=Option.some.inj H
   go_enter Try.func91,Try.ntmps91
   go_wp2_with (first|((with_reducible refine gate_callee (f:=112) rfl ?_);refine goesL_ (some 8) rfl rfl Try.func112 (by kernel_rfl) rfl #[.int .i64 a0] rfl (by (try simp only [mA,mC,mN]);first|done|rfl|(simp only [List.length_drop,List.length_take];done)|(simp only [List.length_drop,List.length_take];rfl)) ?_;(with_reducible refine (cmp_isNaN_int.calls a0 false _ A3.out).mono ?_);rintro e w' ⟨rfl,⟨nd,rfl⟩⟩;refine⟨_,rfl,?_⟩)|((with_reducible refine gate_callee (f:=112) rfl ?_);refine goesL_ (some 10) rfl rfl Try.func112 (by kernel_rfl) rfl #[.int .i64 a1] rfl (by (try simp only [mA,mC,mN]);first|done|rfl|(simp only [List.length_drop,List.length_take];done)|(simp only [List.length_drop,List.length_take];rfl)) ?_;(with_reducible refine (cmp_isNaN_int.calls a1 true _ A4.out).mono ?_);rintro e w' ⟨rfl,⟨nd,rfl⟩⟩;refine⟨_,rfl,?_⟩))
   go_ret
   exact⟨by first|rfl|(simp;done)|(simp [*];done),by repeat (first|exact Drawn0.refl _|apply Drawn0.step)⟩
  ·replace c7:=Bool.eq_false_iff.mpr c7
   subst c7
   have H1:(if a0 < a1 then (some (-1)) else (if a0 > a1 then (some 1) else (some 0))) = some r:=by rw [if_neg (show ¬ (false = true) by decide)] at H;exact H
   clear H
   have H:=H1
   clear H1
   by_cases c8:a0 < a1
   ·rw [if_pos c8] at H
    have c8b0:decide (a0 < a1) = true:=decide_eq_true c8
    clear c8
    obtain rfl:=Option.some.inj H
    go_enter Try.func91,Try.ntmps91
    go_wp2_with (first|((with_reducible refine gate_callee (f:=112) rfl ?_);refine goesL_ (some 8) rfl rfl Try.func112 (by kernel_rfl) rfl #[.int .i64 a0] rfl (by (try simp only [mA,mC,mN]);first|done|rfl|(simp only [List.length_drop,List.length_take];done)|(simp only [List.length_drop,List.length_take];rfl)) ?_;(with_reducible refine (cmp_isNaN_int.calls a0 false _ A3.out).mono ?_);rintro e w' ⟨rfl,⟨nd,rfl⟩⟩;refine⟨_,rfl,?_⟩)|((with_reducible refine gate_callee (f:=112) rfl ?_);refine goesL_ (some 10) rfl rfl Try.func112 (by kernel_rfl) rfl #[.int .i64 a1] rfl (by (try simp only [mA,mC,mN]);first|done|rfl|(simp only [List.length_drop,List.length_take];done)|(simp only [List.length_drop,List.length_take];rfl)) ?_;(with_reducible refine (cmp_isNaN_int.calls a1 false _ A4.out).mono ?_);rintro e w' ⟨rfl,⟨nd,rfl⟩⟩;refine⟨_,rfl,?_⟩))
    go_ret
    exact⟨by first|rfl|(simp;done)|(simp [*];done),by repeat (first|exact Drawn0.refl _|apply Drawn0.step)⟩
   ·rw [if_neg c8] at H
    have c8b0:decide (a0 < a1) = false:=decide_eq_false c8
    clear c8
    by_cases c9:a0 > a1
    ·rw [if_pos c9] at H
     have c9b0:decide (a1 < a0) = true:=decide_eq_true c9
     clear c9
     obtain rfl:=Option.some.inj H
     go_enter Try.func91,Try.ntmps91
     go_wp2_with (first|((with_reducible refine gate_callee (f:=112) rfl ?_);refine goesL_ (some 8) rfl rfl Try.func112 (by kernel_rfl) rfl #[.int .i64 a0] rfl (by (try simp only [mA,mC,mN]);first|done|rfl|(simp only [List.length_drop,List.length_take];done)|(simp only [List.length_drop,List.length_take];rfl)) ?_;(with_reducible refine (cmp_isNaN_int.calls a0 false _ A3.out).mono ?_);rintro e w' ⟨rfl,⟨nd,rfl⟩⟩;refine⟨_,rfl,?_⟩)|((with_reducible refine gate_callee (f:=112) rfl ?_);refine goesL_ (some 10) rfl rfl Try.func112 (by kernel_rfl) rfl #[.int .i64 a1] rfl (by (try simp only [mA,mC,mN]);first|done|rfl|(simp only [List.length_drop,List.length_take];done)|(simp only [List.length_drop,List.length_take];rfl)) ?_;(with_reducible refine (cmp_isNaN_int.calls a1 false _ A4.out).mono ?_);rintro e w' ⟨rfl,⟨nd,rfl⟩⟩;refine⟨_,rfl,?_⟩))
     go_ret
     exact⟨by first|rfl|(simp;done)|(simp [*];done),by repeat (first|exact Drawn0.refl _|apply Drawn0.step)⟩
    ·rw [if_neg c9] at H
     have c9b0:decide (a1 < a0) = false:=decide_eq_false c9
     clear c9
     obtain rfl:=Option.some.inj H
     go_enter Try.func91,Try.ntmps91
     go_wp2_with (first|((with_reducible refine gate_callee (f:=112) rfl ?_);refine goesL_ (some 8) rfl rfl Try.func112 (by kernel_rfl) rfl #[.int .i64 a0] rfl (by (try simp only [mA,mC,mN]);first|done|rfl|(simp only [List.length_drop,List.length_take];done)|(simp only [List.length_drop,List.length_take];rfl)) ?_;(with_reducible refine (cmp_isNaN_int.calls a0 false _ A3.out).mono ?_);rintro e w' ⟨rfl,⟨nd,rfl⟩⟩;refine⟨_,rfl,?_⟩)|((with_reducible refine gate_callee (f:=112) rfl ?_);refine goesL_ (some 10) rfl rfl Try.func112 (by kernel_rfl) rfl #[.int .i64 a1] rfl (by (try simp only [mA,mC,mN]);first|done|rfl|(simp only [List.length_drop,List.length_take];done)|(simp only [List.length_drop,List.length_take];rfl)) ?_;(with_reducible refine (cmp_isNaN_int.calls a1 false _ A4.out).mono ?_);rintro e w' ⟨rfl,⟨nd,rfl⟩⟩;refine⟨_,rfl,?_⟩))
     go_ret
     exact⟨by first|rfl|(simp;done)|(simp [*];done),by repeat (first|exact Drawn0.refl _|apply Drawn0.step)⟩

/-! ### impl_compareStretches: function 72 -/
def impl_compareStretches.f (k : Nat) (a0_0 : Int) (a0_1 : Int) (a0_2 : Int) (a1_0 : Int) (a1_1 : Int) (a1_2 : Int) : Option (Int) := (cmp_Compare_int.f a0_0 a1_0).bind fun t223 => ((cmp_Compare_int.f a1_1 a0_1).bind fun t224 => ((cmp_Or_int.f k (([t223, t224] : List Int))).bind fun t228 => (some t228)))
theorem impl_compareStretches.mono : ∀ a0 a1 a2 a3 a4 a5 k, LeO (impl_compareStretches.f k a0 a1 a2 a3 a4 a5) (impl_compareStretches.f (k + 1) a0 a1 a2 a3 a4 a5) := by
 intro a0 a1 a2 a3 a4 a5 k
 unfold impl_compareStretches.f
 repeat' first|(with_reducible first|exact cmp_Or_int.mono _ _|exact LeO.refl _|exact LeO.none _|refine LeO.ite ?_ ?_|refine LeO.bind ?_ (fun _ => ?_))|exact LeO.none _|refine LeO.ite ?_ ?_|refine LeO.bind ?_ (fun _ => ?_)
def impl_compareStretches.T1 : Bool × List (List Nat × List Nat) := (true, [([], []), ([0], [0]), ([], []), ([2], [2]), ([1, 3], [1, 3]), ([], []), ([5], [5]), ([], []), ([7], [7]), ([6, 8, 4], [6, 8]), ([4, 9], [4, 9]), ([10, 9], [10]), ([11, 11, 0, 1, 2, 3, 4, 5, 6, 7, 8, 9, 10, 11], [11])])
def impl_compareStretches.B1 : List Nat := [0, 1, 0, 4, 15, 0, 32, 0, 128, 511, 1023, 2047, 4095]
theorem impl_compareStretches.tab1 : rtab .any (opsOf Try.f72 1) = impl_compareStretches.T1 := by kernel_rfl
theorem impl_compareStretches.bits1 : waitsOk impl_compareStretches.T1.2 impl_compareStretches.B1 = true := by kernel_rfl
abbrev impl_compareStretches.m0 : Array Bool := #[F,F,F,F,F,F,F,F,F,F,F,F,F]
abbrev impl_compareStretches.m1 : Array Bool := #[T,F,F,F,F,F,F,F,F,F,F,F,F]
abbrev impl_compareStretches.m2 : Array Bool := #[T,F,T,F,F,F,F,F,F,F,F,F,F]
abbrev impl_compareStretches.m3 : Array Bool := #[T,F,T,F,F,T,F,F,F,F,F,F,F]
abbrev impl_compareStretches.m4 : Array Bool := #[T,F,T,F,F,T,F,T,F,F,F,F,F]
abbrev impl_compareStretches.m5 : Array Bool := #[T,T,T,F,F,T,F,T,F,F,F,F,F]
abbrev impl_compareStretches.m6 : Array Bool := #[T,T,T,T,F,T,F,T,F,F,F,F,F]
abbrev impl_compareStretches.m7 : Array Bool := #[T,T,T,T,F,T,T,T,F,F,F,F,F]
abbrev impl_compareStretches.m8 : Array Bool := #[T,T,T,T,F,T,T,T,T,F,F,F,F]
abbrev impl_compareStretches.m9 : Array Bool := #[T,T,T,T,T,T,T,T,T,F,F,F,F]
abbrev impl_compareStretches.m10 : Array Bool := #[T,T,T,T,T,T,T,T,T,T,F,F,F]
abbrev impl_compareStretches.m11 : Array Bool := #[T,T,T,T,T,T,T,T,T,T,T,F,F]
abbrev impl_compareStretches.m12 : Array Bool := #[T,T,T,T,T,T,T,T,T,T,T,T,F]
abbrev impl_compareStretches.m13 : Array Bool := #[T,T,T,T,T,T,T,T,T,T,T,T,T]
set_option maxHeartbeats 8000000 in
set_option maxRecDepth 100000 in
theorem impl_compareStretches.grown (k : Nat) (a0_0 : Int) (a0_1 : Int) (a0_2 : Int) (a1_0 : Int) (a1_1 : Int) (a1_2 : Int) (r : Int) (w : World) (h : impl_compareStretches.f k a0_0 a0_1 a0_2 a1_0 a1_1 a1_2 = some r) :
  Calls Try.prog 72 #[.agg #[.int .i64 a0_0, .int .i64 a0_1, .int .i64 a0_2], .agg #[.int .i64 a1_0, .int .i64 a1_1, .int .i64 a1_2]] w fun e w' => e = .returned (.int .i64 r) ∧ Grew w w' := by
 have hu27:=Try.underlying27
 have HB:=mk0 (Below.refl w.heap.size w)
 have HG:=mk0 (Grew.refl w)
 have H:((cmp_Compare_int.f a0_0 a1_0).bind fun t223=>((cmp_Compare_int.f a1_1 a0_1).bind fun t224=>((cmp_Or_int.f k (([t223,t224]:List Int))).bind fun t228=>(some t228)))) = some r:=h
 clear h
 replace H:=Option.bind_eq_some_iff.mp H
 obtain⟨t223,A30,H⟩:=H
 replace H:((cmp_Compare_int.f a1_1 a0_1).bind fun t224=>((cmp_Or_int.f k (([t223,t224]:List Int))).bind fun t228=>(some t228))) = some r:=H
 have A3:=mk0 A30
 clear A30
 replace H:=Option.bind_eq_some_iff.mp H
 obtain⟨t224,A40,H⟩:=H
 replace H:((cmp_Or_int.f k (([t223,t224]:List Int))).bind fun t228=>(some t228)) = some r:=H
 have A4:=mk0 A40
 clear A40
 obtain⟨y225,hy225⟩:∃ y_:List Int,y_ = (([t223,t224]:List Int)):=⟨_,rfl⟩
 replace H:((cmp_Or_int.f k y225).bind fun t228=>(some t228)) = some r:=by first|(rw [hy225];with_reducible exact H)|(have H2_:=(Option.bind_some _ _).symm.trans H;rw [hy225];with_reducible exact H2_)|(have H2_:=(Option.bind_some _ _).symm.trans H;with_reducible exact H2_)|with_reducible exact H|(rw [hy225];exact H)|exact H
 have Ny225:=mk0 hy225
 clear hy225
 replace H:=Option.bind_eq_some_iff.mp H
 obtain⟨t228,A50,H⟩:=H
 replace H:(some t228) = some r:=H
 have A5:=mk0 A50
 clear A50
 obtain rfl:=Option.some.inj H
 go_enter Try.func72,Try.ntmps72
 try go_wp2_with (first|((with_reducible refine gate_dst (N:=2) rfl ?_);refine box_eventG ?hg (N:=2) ?hd (cs:=#[.int .i64 a0_0,.int .i64 a0_1,.int .i64 a0_2]) (t:=27) ?hr ?_;(case hd=>rfl);(case hg=>rfl);(case hr=>first|(go_simp;done)|(go_simp;rfl));intro gb221 hg w6 hbox hb hgr;replace HG:=mk0 (HG.out.trans hgr);clear hgr;have BK221:=mk0 (hbox);have GW221:=mk0 ((by rw [hg];exact (kZ HB.out):w.heap.size ≤ gb221));have GE221:=mk0 ((by rw [hg];exact (kZ HB.out):w.heap.size ≤ gb221));replace HB:=mk0 (kS HB.out hb);clear hb hbox hg)|((with_reducible refine gate_dst (N:=3) rfl ?_);refine box_eventG ?hg (N:=3) ?hd (cs:=#[.int .i64 a1_0,.int .i64 a1_1,.int .i64 a1_2]) (t:=27) ?hr ?_;(case hd=>rfl);(case hg=>rfl);(case hr=>first|(go_simp;done)|(go_simp;rfl));intro gb222 hg w7 hbox hb hgr;replace HG:=mk0 (HG.out.trans hgr);clear hgr;have BK222:=mk0 (hbox);have GW222:=mk0 ((by rw [hg];exact (kZ HB.out):w.heap.size ≤ gb222));have GE222:=mk0 ((by rw [hg];exact (kZ HB.out):w.heap.size ≤ gb222));replace HB:=mk0 (kS HB.out hb);have NB221_222:=mk0 ((by rw [hg];exact Nat.ne_of_lt (kL BK221.out):gb221 ≠ gb222));have NB222_221:=mk0 ((by rw [hg];exact Nat.ne_of_gt (kL BK221.out):gb222 ≠ gb221));replace BK221:=mk0 (kK BK221.out hb);clear hb hbox hg))
 replace BK221:=mk0 (dB BK221.out)
 replace BK222:=mk0 (dB BK222.out)
 replace HB:=mk0 (dZ HB.out)
 replace HG:=mk0 (HG.out.drewN 1)
 refine start_ (n:=13) (S:=fun w'=>w'.cell? ⟨gb221,0,none⟩ = some (.int .i64 a0_0) ∧ w'.cell? ⟨gb221,1,none⟩ = some (.int .i64 a0_1) ∧ w'.cell? ⟨gb221,2,none⟩ = some (.int .i64 a0_2) ∧ w'.cell? ⟨gb222,0,none⟩ = some (.int .i64 a1_0) ∧ w'.cell? ⟨gb222,1,none⟩ = some (.int .i64 a1_1) ∧ w'.cell? ⟨gb222,2,none⟩ = some (.int .i64 a1_2)) (ds:=[]) impl_compareStretches.m0 (by kernel_rfl) rfl rfl ⟨(blk_cell BK221.out 0).trans rfl,(blk_cell BK221.out 1).trans rfl,(blk_cell BK221.out 2).trans rfl,(blk_cell BK222.out 0).trans rfl,(blk_cell BK222.out 1).trans rfl,(blk_cell BK222.out 2).trans rfl⟩ (fun hHeld=>?_);refine with_tabW impl_compareStretches.tab1 impl_compareStretches.bits1 (fun HT_ HW_=>?_)
 change Aside0 (Grew w w7.drew) at HG
 generalize w7.drew = w8 at BK221 BK222 HB HG hHeld ⊢
 refine pure_ (i:=0) (N:=some 5) (v:=?_) (a':=?_) impl_compareStretches.m1 rfl rfl (any_of HT_.out (by kernel_rfl)) (fun _ _ _ h=>h) (Or.inl ⟨by rfl,?_⟩) ?_ ?_
 rotate_left
 ·intro w'
  go_simp
  with_reducible rfl
 rotate_left
 ·simp only [Act.put,sA,sO,sS,i64_w,i32_w]
  rfl
 refine pure_ (i:=2) (N:=some 7) (v:=?_) (a':=?_) impl_compareStretches.m2 rfl rfl (any_of HT_.out (by kernel_rfl)) (fun _ _ _ h=>h) (Or.inl ⟨by rfl,?_⟩) ?_ ?_
 rotate_left
 ·intro w'
  go_simp
  with_reducible rfl
 rotate_left
 ·simp only [Act.put,sA,sO,sS,i64_w,i32_w]
  rfl
 refine pure_ (i:=5) (N:=some 10) (v:=?_) (a':=?_) impl_compareStretches.m3 rfl rfl (any_of HT_.out (by kernel_rfl)) (fun _ _ _ h=>h) (Or.inl ⟨by rfl,?_⟩) ?_ ?_
 rotate_left
 ·intro w'
  go_simp
  with_reducible rfl
 rotate_left
 ·simp only [Act.put,sA,sO,sS,i64_w,i32_w]
  rfl
 refine pure_ (i:=7) (N:=some 12) (v:=?_) (a':=?_) impl_compareStretches.m4 rfl rfl (any_of HT_.out (by kernel_rfl)) (fun _ _ _ h=>h) (Or.inl ⟨by rfl,?_⟩) ?_ ?_
 rotate_left
 ·intro w'
  go_simp
  with_reducible rfl
 rotate_left
 ·simp only [Act.put,sA,sO,sS,i64_w,i32_w]
  rfl
 refine take_ (i:=1) (N:=some 6) (v:=?_) (a':=?_) impl_compareStretches.m5 rfl rfl (take_ofW HT_.out HW_.out (by kernel_rfl)) (fun _ _ _ h=>h) (Or.inl ⟨by rfl,?_⟩) hHeld ?_ ?_
 rotate_left
 ·rintro w' ⟨s0,s1,s2,s3,s4,s5⟩
  go_simp
  with_reducible rfl
 rotate_left
 ·simp only [Act.put,sA,sO,sS,i64_w,i32_w]
  rfl
 refine take_ (i:=3) (N:=some 8) (v:=?_) (a':=?_) impl_compareStretches.m6 rfl rfl (take_ofW HT_.out HW_.out (by kernel_rfl)) (fun _ _ _ h=>h) (Or.inl ⟨by rfl,?_⟩) hHeld ?_ ?_
 rotate_left
 ·rintro w' ⟨s0,s1,s2,s3,s4,s5⟩
  go_simp
  with_reducible rfl
 rotate_left
 ·simp only [Act.put,sA,sO,sS,i64_w,i32_w]
  rfl
 refine take_ (i:=6) (N:=some 11) (v:=?_) (a':=?_) impl_compareStretches.m7 rfl rfl (take_ofW HT_.out HW_.out (by kernel_rfl)) (fun _ _ _ h=>h) (Or.inl ⟨by rfl,?_⟩) hHeld ?_ ?_
 rotate_left
 ·rintro w' ⟨s0,s1,s2,s3,s4,s5⟩
  go_simp
  with_reducible rfl
 rotate_left
 ·simp only [Act.put,sA,sO,sS,i64_w,i32_w]
  rfl
 refine take_ (i:=8) (N:=some 13) (v:=?_) (a':=?_) impl_compareStretches.m8 rfl rfl (take_ofW HT_.out HW_.out (by kernel_rfl)) (fun _ _ _ h=>h) (Or.inl ⟨by rfl,?_⟩) hHeld ?_ ?_
 rotate_left
 ·rintro w' ⟨s0,s1,s2,s3,s4,s5⟩
  go_simp
  with_reducible rfl
 rotate_left
 ·simp only [Act.put,sA,sO,sS,i64_w,i32_w]
  rfl
 refine one_ (i:=4) (N:=some 9) impl_compareStretches.m9 rfl rfl (one_of HT_.out (by kernel_rfl)) (by decide) (fun K hK=>?_)
 refine goes_ Try.func91 (by kernel_rfl) rfl #[.int .i64 a0_0,.int .i64 a1_0] (by rfl) rfl rfl (by (try simp only [mA,mC,mN]);first|done|rfl|(simp only [List.length_drop,List.length_take];done)|(simp only [List.length_drop,List.length_take];rfl)) ?_
 with_reducible refine (cmp_Compare_int.calls a0_0 a1_0 t223 _ A3.out).mono ?_
 rintro e w' ⟨rfl,⟨nd,rfl⟩⟩
 replace HG:=mk0 (HG.out.drewN nd)
 refine⟨_,rfl,?_⟩
 refine hK.out _ _ ⟨(blk_cell BK221.out 0).trans rfl,(blk_cell BK221.out 1).trans rfl,(blk_cell BK221.out 2).trans rfl,(blk_cell BK222.out 0).trans rfl,(blk_cell BK222.out 1).trans rfl,(blk_cell BK222.out 2).trans rfl⟩ (fun hHeld=>?_)
 clear hK K
 refine norm_ (a':=?_) ?_ ?_
 rotate_left
 ·show Act.put _ (some 9) _ = _
  simp only [Act.put,sA,sO,sS,i64_w,i32_w]
  rfl
 refine one_ (i:=9) (N:=some 14) impl_compareStretches.m10 rfl rfl (one_of HT_.out (by kernel_rfl)) (by decide) (fun K hK=>?_)
 refine goes_ Try.func91 (by kernel_rfl) rfl #[.int .i64 a1_1,.int .i64 a0_1] (by rfl) rfl rfl (by (try simp only [mA,mC,mN]);first|done|rfl|(simp only [List.length_drop,List.length_take];done)|(simp only [List.length_drop,List.length_take];rfl)) ?_
 with_reducible refine (cmp_Compare_int.calls a1_1 a0_1 t224 _ A4.out).mono ?_
 rintro e w' ⟨rfl,⟨nd,rfl⟩⟩
 replace HG:=mk0 (HG.out.drewN nd)
 refine⟨_,rfl,?_⟩
 refine hK.out _ _ ⟨(blk_cell BK221.out 0).trans rfl,(blk_cell BK221.out 1).trans rfl,(blk_cell BK221.out 2).trans rfl,(blk_cell BK222.out 0).trans rfl,(blk_cell BK222.out 1).trans rfl,(blk_cell BK222.out 2).trans rfl⟩ (fun hHeld=>?_)
 clear hK K
 refine norm_ (a':=?_) ?_ ?_
 rotate_left
 ·show Act.put _ (some 14) _ = _
  simp only [Act.put,sA,sO,sS,i64_w,i32_w]
  rfl
 refine one_ (i:=10) (N:=some 15) impl_compareStretches.m11 rfl rfl (one_of HT_.out (by kernel_rfl)) (by decide) (fun K hK=>?_)
 refine lit2_stepG t223 t224 3 ?hg (N:=15) ?hd ?hr ?_;(case hd=>rfl);(case hg=>rfl);(case hr=>first|(go_simp;done)|(go_simp;rfl))
 intro v226 w9 ho10 hb hgr
 replace HG:=mk0 (HG.out.trans hgr)
 clear hgr
 (first|rw [← Ny225.out] at ho10|(simp only [Int.reduceToNat] at ho10;rw [← Ny225.out] at ho10))
 have HO227:=mk0 (Kd.R_lower ho10 (kZ HB.out))
 replace BK221:=mk0 (kK BK221.out hb)
 replace BK222:=mk0 (kK BK222.out hb)
 replace HB:=mk0 (kS HB.out hb)
 clear hb ho10
 obtain⟨Ao11,co11,eo11⟩:=Kd.R_slice HO227.out
 (first|subst eo11|(injection eo11 with f1_ f2_ f3_;have f4_:=f1_.symm;have f5_:=f3_.symm;clear f1_ f2_ f3_;subst f4_;subst f5_))
 refine hK.out _ _ ⟨(blk_cell BK221.out 0).trans rfl,(blk_cell BK221.out 1).trans rfl,(blk_cell BK221.out 2).trans rfl,(blk_cell BK222.out 0).trans rfl,(blk_cell BK222.out 1).trans rfl,(blk_cell BK222.out 2).trans rfl⟩ (fun hHeld=>?_)
 clear hK K
 refine norm_ (a':=?_) ?_ ?_
 rotate_left
 ·show Act.put _ (some 15) _ = _
  simp only [Act.put,sA,sO,sS,i64_w,i32_w]
  rfl
 refine one_ (i:=11) (N:=some 16) impl_compareStretches.m12 rfl rfl (one_of HT_.out (by kernel_rfl)) (by decide) (fun K hK=>?_)
 refine goes_ Try.func90 (by kernel_rfl) rfl #[.slice Ao11 y225.length co11] (by rfl) rfl rfl (by (try simp only [mA,mC,mN]);first|done|rfl|(simp only [List.length_drop,List.length_take];done)|(simp only [List.length_drop,List.length_take];rfl)) ?_
 with_reducible refine (cmp_Or_int.calls k _ _ y225 t228 _ ?side1 ?side2 A5.out).mono ?_
 (case side1=>exact kC (Kd.R_reads' HO227.out).2.2)
 (case side2=>exact (Kd.R_reads' HO227.out).2.1)
 rintro e w' ⟨rfl,⟨nd,rfl⟩⟩
 replace HG:=mk0 (HG.out.drewN nd)
 refine⟨_,rfl,?_⟩
 refine hK.out _ _ ⟨(blk_cell BK221.out 0).trans rfl,(blk_cell BK221.out 1).trans rfl,(blk_cell BK221.out 2).trans rfl,(blk_cell BK222.out 0).trans rfl,(blk_cell BK222.out 1).trans rfl,(blk_cell BK222.out 2).trans rfl⟩ (fun hHeld=>?_)
 clear hK K
 refine norm_ (a':=?_) ?_ ?_
 rotate_left
 ·show Act.put _ (some 16) _ = _
  simp only [Act.put,sA,sO,sS,i64_w,i32_w]
  rfl
 refine pure_ (i:=12) (N:=some 4) (v:=?_) (a':=?_) impl_compareStretches.m13 rfl rfl (any_of HT_.out (by kernel_rfl)) (fun _ _ _ h=>h) (Or.inl ⟨by rfl,?_⟩) ?_ ?_
 rotate_left
 ·intro w'
  go_simp
  with_reducible rfl
 rotate_left
 ·simp only [Act.put,sA,sO,sS,i64_w,i32_w]
  rfl
 refine done_ (done_of HT_.out (by kernel_rfl)) ?_
 try go_wp2
 go_ret
 exact⟨by first|rfl|(simp [errW_none,errW_some] <;> rfl)|(simp [*,errW_none,errW_some] <;> rfl),HG.out⟩



/-! ### How two stretches compare -/
def cmp3 (x y : Int × Int × Int) : Int := if x.1 < y.1 then -1 else if y.1 < x.1 then 1 else if y.2.1 < x.2.1 then -1 else if x.2.1 < y.2.1 then 1 else 0
theorem cmp3_neg (x y : Int × Int × Int) : cmp3 x y < 0 ↔ x.1 < y.1 ∨ (x.1 = y.1 ∧ y.2.1 < x.2.1) := by
  unfold cmp3
  split
  · exact ⟨fun _ => .inl (by assumption), fun _ => by decide⟩
  · split
    · exact ⟨fun h => absurd h (by decide), fun h => by omega⟩
    · split
      · exact ⟨fun _ => .inr ⟨by omega, by assumption⟩, fun _ => by decide⟩
      · split
        · exact ⟨fun h => absurd h (by decide), fun h => by omega⟩
        · exact ⟨fun h => absurd h (by decide), fun h => by omega⟩
theorem compare_eq (a b : Int) : cmp_Compare_int.f a b = some (if a < b then -1 else if a > b then 1 else 0) := by
  unfold cmp_Compare_int.f cmp_isNaN_int.f
  rw [bne_self_eq_false, bne_self_eq_false, Option.bind_some, Option.bind_some, if_neg (by decide), if_neg (by decide)]
  split
  · rfl
  · split <;> rfl
theorem or_eq (a b : Int) : cmp_Or_int.f 3 [a, b] = some (if a = 0 then b else a) := by
  unfold cmp_Or_int.f
  have e1 : wrap64 ((0 : Int) + 1) = 1 := by kernel_rfl
  have e2 : wrap64 ((1 : Int) + 1) = 2 := by kernel_rfl
  rw [cmp_Or_int.l0, if_pos (by simp), if_pos (by decide), if_pos (by simp), show rd [a, b] 0 = a from rfl]
  by_cases c : a = 0
  · rw [if_pos c, if_pos c, e1, cmp_Or_int.l0, if_pos (by simp), if_pos (by decide), if_pos (by simp), show rd [a, b] 1 = b from rfl]
    by_cases c2 : b = 0
    · rw [if_pos c2, e2, cmp_Or_int.l0, if_neg (by simp), c2]
    · rw [if_neg c2]
  · rw [if_neg c, if_neg c]
theorem cmp3_eq (x y : Int × Int × Int) : impl_compareStretches.f 3 x.1 x.2.1 x.2.2 y.1 y.2.1 y.2.2 = some (cmp3 x y) := by
  unfold impl_compareStretches.f cmp3
  rw [compare_eq, Option.bind_some, compare_eq, Option.bind_some, or_eq, Option.bind_some]
  congr 1
  by_cases c1 : x.1 < y.1
  · rw [if_pos c1, if_pos c1, if_neg (by decide)]
  · rw [if_neg c1, if_neg c1]
    by_cases c2 : y.1 < x.1
    · rw [if_pos c2, if_pos c2, if_neg (by decide)]
    · rw [if_neg c2, if_neg c2, if_pos rfl]
theorem cmp3_swo {α : Type} (f : α → Int × Int × Int) : Go.Sort.SWO (ltOf fun x y : α => cmp3 (f x) (f y)) where
  irrefl x := by
    show decide (cmp3 (f x) (f x) < 0) = false
    rw [decide_eq_false_iff_not, cmp3_neg]
    omega
  trans x y z h1 h2 := by
    have h1 : decide (cmp3 (f x) (f y) < 0) = true := h1
    have h2 : decide (cmp3 (f y) (f z) < 0) = true := h2
    show decide (cmp3 (f x) (f z) < 0) = true
    rw [decide_eq_true_eq, cmp3_neg] at *
    omega
  ntrans x y z h1 h2 := by
    have h1 : decide (cmp3 (f x) (f y) < 0) = false := h1
    have h2 : decide (cmp3 (f y) (f z) < 0) = false := h2
    show decide (cmp3 (f x) (f z) < 0) = false
    rw [decide_eq_false_iff_not, cmp3_neg] at *
    omega

/-! ### slices.SortFunc at stretches -/
def enc3 (t : Int × Int × Int) : List Value := [.int .i64 t.1, .int .i64 t.2.1, .int .i64 t.2.2]
def le3 {S : Type} (tri : S → Int × Int × Int) (x y : S) : Bool := !decide (cmp3 (tri y) (tri x) < 0)
section
open Go.Sort
theorem reps_at {S : Type} {M : S → List Value → Prop} {tri : S → Int × Int × Int} (hM : ∀ x cs, M x cs → cs = enc3 (tri x)) {xs : List S} {cs : List Value} (h : Reps M 3 xs cs) (t : Nat) (ht : t < xs.length * 3) :
    ∃ p, xs[t / 3]? = some p ∧ cs[t]? = (enc3 (tri p))[t % 3]? := by
  have hj : t / 3 < xs.length := by omega
  refine ⟨xs[t / 3], List.getElem?_eq_getElem hj, ?_⟩
  rw [← hM _ _ (h.2 (t / 3) _ (List.getElem?_eq_getElem hj)), List.getElem?_take, if_pos (by omega), List.getElem?_drop, show t / 3 * 3 + t % 3 = t by omega]
theorem reps_flat {α S : Type} [Inhabited α] {M : S → List Value → Prop} {tri : S → Int × Int × Int} (hM : ∀ x, M x (enc3 (tri x))) (f : α → S) (ds : List α) :
    Reps M 3 (ds.map f) (flatK (fun x : α => enc3 (tri (f x))) 3 ds.toArray).toList := by
  refine ⟨by simp, fun j p hp => ?_⟩
  have hj : j < ds.length := by
    have := (List.getElem?_eq_some_iff.1 hp).1
    simpa using this
  have hp' : f ds[j] = p := by
    rw [List.getElem?_map, List.getElem?_eq_getElem hj] at hp
    injection hp
  have e : ((flatK (fun x : α => enc3 (tri (f x))) 3 ds.toArray).toList.drop (j * 3)).take 3 = enc3 (tri p) := by
    apply List.ext_getElem?
    intro i
    rw [List.getElem?_take]
    by_cases hi : i < 3
    · have hb : j * 3 + i < (flatK (fun x : α => enc3 (tri (f x))) 3 ds.toArray).size := by simp; omega
      rw [if_pos hi, List.getElem?_drop, Array.getElem?_toList, Array.getElem?_eq_getElem hb, ← getElem!_pos (flatK (fun x : α => enc3 (tri (f x))) 3 ds.toArray) (j * 3 + i) hb, get_flatK _ _ _ _ (by simp; omega), show (j * 3 + i) / 3 = j by omega, show (j * 3 + i) % 3 = i by omega,
        getElem!_pos ds.toArray j (by simpa using hj), List.getElem_toArray, hp', getElem!_pos (enc3 (tri p)) i (by simpa [enc3] using hi), List.getElem?_eq_getElem]
    · rw [if_neg hi, List.getElem?_eq_none (by simp [enc3]; omega)]
  rw [e]
  exact hM p

set_option maxHeartbeats 4000000 in
/-- slices.SortFunc at compareStretches: the row holds them in order. -/
theorem sortStr {S : Type} (K : Kd S) (tri : S → Int × Int × Int) (hsz : K.sz = 3) (hM : ∀ w b ok x cs, K.M w b ok x cs → cs = enc3 (tri x)) (hM' : ∀ w b ok x, K.M w b ok x (enc3 (tri x)))
    (P0 : Nat → Prop) (u : Value) (l0 : List S) (w0 w : World) (hB : Below w0.heap.size w0 w) (ho : K.R 27 w w0.heap.size P0 u l0)
    (hd : ∀ x ∈ l0, ∀ y ∈ l0, (tri x).1 = (tri y).1 → (tri x).2.1 = (tri y).2.1 → x = y) (hs : l0.length < 4611686018427387904) :
    Calls Try.prog 71 #[u, .func (.func 72) #[] #[]] w fun e w' => e = .returned (.tuple #[]) ∧ K.R 27 w' w0.heap.size (fun k => (P0 k ∨ w.heap.size ≤ k)) u (l0.mergeSort (le3 tri)) ∧ Below w0.heap.size w0 w' ∧ Kept w w' (fun k => P0 k) := by
  obtain ⟨hok, inner, hown, hreps⟩ := id ho
  rw [hsz] at hown hreps
  rcases hown.2 with ⟨he, h0⟩ | ⟨b, cap, cur, rfl, hbb, hh, hnc, hcm, hcs, ht⟩
  · obtain rfl := List.eq_nil_of_length_eq_zero h0
    subst he
    refine (AnyF.slices_SortFunc_none (P := Try.prog) (ρ := Lay.sortSt_ren) Lay.sortSt none 0 _ w).mono ?_
    rintro e w' ⟨rfl, rfl⟩
    exact ⟨rfl, by rw [List.mergeSort_nil]; exact Kd.R_mono ho (fun k hk => .inl hk), hB, Kept.refl _ _⟩
  · rcases Nat.eq_zero_or_pos l0.length with h0 | h0
    · obtain rfl := List.eq_nil_of_length_eq_zero h0
      refine (AnyF.slices_SortFunc_none (P := Try.prog) (ρ := Lay.sortSt_ren) Lay.sortSt _ cap _ w).mono ?_
      rintro e w' ⟨rfl, rfl⟩
      exact ⟨rfl, by rw [List.mergeSort_nil]; exact Kd.R_mono ho (fun k hk => .inl hk), hB, Kept.refl _ _⟩
    have hP : P0 b := hok b (by simp [Value.ownBlock])
    have hlt : b < w.heap.size := (Array.getElem?_eq_some_iff.1 hh).1
    haveI : Inhabited {x // x ∈ l0} := ⟨⟨l0[0], List.getElem_mem h0⟩⟩
    let enc : {x // x ∈ l0} → List Value := fun x => enc3 (tri x.1)
    let cf : {x // x ∈ l0} → {x // x ∈ l0} → Int := fun x y => cmp3 (tri x.1) (tri y.1)
    let dl : List {x // x ∈ l0} := l0.attach
    have hdl : dl.length = l0.length := List.length_attach
    have hde : dl.map (fun x => x.1) = l0 := List.attach_map_subtype_val l0
    have hH : HoldsK enc 3 w b 0 dl.toArray := by
      intro t ht'
      have ht3 : t < l0.length * 3 := by rw [size_flatK, List.size_toArray, hdl] at ht'; exact ht'
      obtain ⟨p, hp, hc⟩ := reps_at (fun x cs => hM _ _ _ x cs) hreps t ht3
      refine ⟨?_, blk_frozen hh _⟩
      have h3 : t / 3 < l0.length := by omega
      have ecell : w.cell? ⟨b, 0 + t, none⟩ = inner[t]? := by
        rw [Nat.zero_add, ← ht, List.getElem?_take, if_pos ht3]
        exact (blk_cell hh t).trans (by rw [Array.getElem?_toList])
      rw [ecell, hc, get_flatK enc 3 dl.toArray t (by rw [List.size_toArray, hdl]; exact ht3), getElem!_pos dl.toArray (t / 3) (by rw [List.size_toArray, hdl]; exact h3), List.getElem_toArray]
      have hpe : (dl[t / 3]'(by rw [hdl]; exact h3)).1 = p := by
        rw [List.getElem?_eq_getElem h3] at hp
        injection hp with hp
        rw [← hp]
        simp [dl]
      have h33 : t % 3 < (enc3 (tri p)).length := by simp [enc3]; omega
      show (enc3 (tri p))[t % 3]? = some (id (enc3 (tri (dl[t / 3]'(by rw [hdl]; exact h3)).1))[t % 3]!)
      rw [hpe, getElem!_pos (enc3 (tri p)) (t % 3) h33, List.getElem?_eq_getElem h33]
      rfl
    have hgrown : ∀ (m : Nat) (os : Array Obj) (dk : Array {x // x ∈ l0}), dk.size = dl.toArray.size → (sortWorldK enc 3 w b 0 m dk os).ownsRow w0.heap.size 27 3 (.slice (some ⟨b, 0, none⟩) l0.length cap) l0.length (flatK enc 3 dk).toList ∧ w.grownBy (sortWorldK enc 3 w b 0 m dk os) (some b) := by
      intro m os dk hdk
      exact Fv.own_put hown m (flatK enc 3 dk) (by rw [size_flatK, hdk, List.size_toArray, hdl]) os
    have hcmp : CmpLays Try.prog 72 #[] enc 3 cf b 0 dl.toArray.size w := by
      intro m os dk hdk x y
      refine (impl_compareStretches.grown 3 (tri x.1).1 (tri x.1).2.1 (tri x.1).2.2 (tri y.1).1 (tri y.1).2.1 (tri y.1).2.2 _ _ (cmp3_eq (tri x.1) (tri y.1))).mono ?_
      rintro e w' ⟨rfl, q, os', rfl⟩
      exact ⟨rfl, q, os', rfl⟩
    have hT : ∀ x y, (ltOf cf) x y = false → (ltOf cf) y x = false → x = y := by
      intro x y h1 h2
      have h1 : ¬ cmp3 (tri x.1) (tri y.1) < 0 := of_decide_eq_false h1
      have h2 : ¬ cmp3 (tri y.1) (tri x.1) < 0 := of_decide_eq_false h2
      rw [cmp3_neg] at h1 h2
      exact Subtype.ext (hd x.1 x.2 y.1 y.2 (by omega) (by omega))
    have eg : ∀ args w, (callFunc 72 args).run Try.prog w = .ok (.enter 72 args) w := enters_of Try.func72 (by kernel_rfl) rfl
    have hS := AnyQ.slices_SortFunc_total Lay.sortSt 3 (fun _ => by kernel_rfl) (fun _ => by kernel_rfl) enc (fun _ => rfl) (fun x v hv => by
      simp only [enc, enc3, List.mem_cons, List.not_mem_nil, or_false] at hv
      rcases hv with rfl | rfl | rfl <;> rfl) cf (cmp3_swo fun x : {x // x ∈ l0} => tri x.1) 72 #[] b 0 cap dl.toArray w eg hcmp hH hlt (by rw [List.size_toArray, hdl]; exact hs) hT
    rw [List.size_toArray, hdl] at hS
    refine hS.mono ?_
    rintro e w' ⟨rfl, n, os, rfl⟩
    obtain ⟨ho', hg⟩ := hgrown n os (dl.mergeSort fun x y => !(ltOf cf) y x).toArray (by simp)
    have hms : (dl.mergeSort fun x y => !(ltOf cf) y x).map (fun x => x.1) = l0.mergeSort (le3 tri) := by
      have hms := List.map_mergeSort (r := fun x y => !(ltOf cf) y x) (s := le3 tri) (f := fun x : {x // x ∈ l0} => x.1) (l := dl) (fun x _ y _ => rfl)
      rw [hde] at hms
      exact hms
    refine ⟨rfl, ⟨fun k hk => .inl (hok k hk), (flatK enc 3 (dl.mergeSort fun x y => !(ltOf cf) y x).toArray).toList, ?_, ?_⟩, hB.grown hg hB.size (fun k e => by injection e with e; omega), Fv.kept_of_grown hg hP⟩
    · rw [hsz, List.length_mergeSort]
      exact ho'
    · rw [hsz, ← hms]
      exact reps_flat (fun x => hM' _ _ _ x) (fun x : {x // x ∈ l0} => x.1) _
end
end Go.Proofs.Ytoinagnieobbpaa.Str
