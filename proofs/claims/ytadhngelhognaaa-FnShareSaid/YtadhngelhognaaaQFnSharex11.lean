-- A walk, made by walk.py, a program of this session's.
import Derived.Test.YtadhngelhognaaaQFnSharex0
import Derived.Test.YtadhngelhognaaaQFnSharex9
import Derived.Test.YtadhngelhognaaaQFnSharex10
namespace Go.Proofs.Ytadhngelhognaaa.QFnShare
open Go.RowKit Go.Proofs.YtadhngelhognaaaW.PrintWords Go.Proofs.YtadhngelhognaaaW.PrintLast Go.Proofs.YtadhngelhognaaaW.PrintMore
attribute [local go_sem] max2_int min2_int max_two min_two max_three min_three max_four min_four   -- for this text's walks alone
set_option linter.unusedVariables false
set_option linter.unusedSimpArgs false
/-! ### slices_BinarySearch_string_string: function 87 -/
def slices_BinarySearch_string_string.l0 : Nat → List ByteArray → ByteArray → Int → Int → Int → Option (Int × Bool)
 | 0, _, _, _, _, _ => none
 | k + 1, x0, x1, x6, x7, x8 => if x7 < x8 then (if 0 ≤ (wrap64 ((IntKind.u64.wrap (wrap64 (x7 + x8))) / 2)) then (if (wrap64 ((IntKind.u64.wrap (wrap64 (x7 + x8))) / 2)) < (x0.length : Int) then ((cmp_Less_string.f (rdOf ByteArray.empty x0 (wrap64 ((IntKind.u64.wrap (wrap64 (x7 + x8))) / 2))) x1).bind fun t413 => (if t413 = true then (slices_BinarySearch_string_string.l0 k x0 x1 x6 (wrap64 ((wrap64 ((IntKind.u64.wrap (wrap64 (x7 + x8))) / 2)) + 1)) x8) else (slices_BinarySearch_string_string.l0 k x0 x1 x6 x7 (wrap64 ((IntKind.u64.wrap (wrap64 (x7 + x8))) / 2))))) else (none)) else (none)) else (if x7 < x6 then (if 0 ≤ x7 then (if x7 < (x0.length : Int) then (if (rdOf ByteArray.empty x0 x7).toList = x1.toList then (some (x7, true)) else ((slices_isNaN_string.f (rdOf ByteArray.empty x0 x7)).bind fun t416 => (if t416 = true then ((slices_isNaN_string.f x1).bind fun t417 => (some (x7, t417))) else (some (x7, false))))) else (none)) else (none)) else (some (x7, false)))
def slices_BinarySearch_string_string.f (k : Nat) (l0 : List ByteArray) (a1 : ByteArray) : Option (Int × Bool) := slices_BinarySearch_string_string.l0 k l0 a1 (l0.length : Int) 0 (l0.length : Int)
set_option maxHeartbeats 8000000 in
set_option maxRecDepth 100000 in
theorem slices_BinarySearch_string_string.calls (k : Nat) (A0 : Option Addr) (c0 : Nat) (l0 : List ByteArray) (a1 : ByteArray) (r1 : Int) (r2 : Bool) (w : World) (hr0 : Kd.C Kd.string w A0 l0.length l0) (hc0 : l0.length ≤ c0) (h : slices_BinarySearch_string_string.f k l0 a1 = some (r1, r2)) :
  Calls Try.prog 87 #[.slice A0 l0.length c0, .string a1] w fun e w' => e = .returned (.tuple #[.int .i64 r1, .bool r2]) ∧ Drawn0 w w' := by
 have HR0:=mk0 hr0
 have HC0:=mk0 hc0
 clear hr0 hc0
 have H:(slices_BinarySearch_string_string.l0 k l0 a1 (l0.length:Int) 0 (l0.length:Int)) = some (r1,r2):=h
 clear h
 have H':=mk0 H
 clear H
 go_enter Try.func87,Try.ntmps87
 go_wp2
 go_loopg [7,8] k (fun kq v7 v8 w'=>∃ (x7_1:Int) (x8_1:Int),v7 = .int .i64 x7_1 ∧ v8 = .int .i64 x8_1 ∧ Aside0 (slices_BinarySearch_string_string.l0 kq l0 a1 (l0.length:Int) x7_1 x8_1 = some (r1,r2)) ∧ Aside0 (kq ≤ k) ∧ Drawn0 w w')
 case atStart=>exact⟨(0),((l0.length:Int)),eS,eS,H',⟨Nat.le_refl _⟩,by repeat (first|exact Drawn0.refl _|apply Drawn0.step)⟩
 case round =>
  clear H'
  try clear p2
  obtain⟨x7_1,x8_1,rfl,rfl,HA,HK1,⟨m1,rfl⟩⟩:=hrel
  cases gk with
  | zero=>exact absurd HA.out (by simp [slices_BinarySearch_string_string.l0])
  | succ k1 =>
   have H:=HA.out
   clear HA
   simp only [slices_BinarySearch_string_string.l0] at H
   by_cases c3:x7_1 < x8_1
   ·rw [if_pos c3] at H
    have c3b0:decide (x7_1 < x8_1) = true:=decide_eq_true c3
    clear c3
    obtain⟨ji4,hji4⟩:∃ j_:Int,(wrap64 ((IntKind.u64.wrap (wrap64 (x7_1 + x8_1))) / 2)) = j_:=⟨_,rfl⟩
    first|rw [hji4] at H|simp only [hji4] at H
    have hji4w:(IntKind.i64.wrap ((IntKind.u64.wrap (wrap64 (x7_1 + x8_1))) / 2)) = ji4:=(i64_w _).trans hji4
    by_cases c5:0 ≤ (ji4)
    ·rw [if_pos c5] at H
     have c5b0:decide (0 ≤ (ji4)) = true:=decide_eq_true c5
     clear c5
     by_cases c6:(ji4) < (l0.length:Int)
     ·rw [if_pos c6] at H
      have c6b0:decide ((ji4) < (l0.length:Int)) = true:=decide_eq_true c6
      clear c6
      replace H:=bE H
      obtain⟨t413,A7,H⟩:=H
      by_cases c8:t413 = true
      ·subst c8
       replace H:=iT H
       have H':=mk0 H
       clear H
       have p412:0 ≤ ((ji4):Int):=oD
       have q412:(ji4) < (l0.length:Int):=oD
       obtain⟨ad412,e412,hx412_0⟩:=Kd.at_string HR0.out (ji4) p412 q412
       cases e412
       replace p412:=eq_true p412
       replace q412:=eq_true q412
       go_wp2_with (first|((with_reducible refine gate_callee (f:=94) rfl ?_);refine goesL_ (some 27) rfl rfl Try.func94 (by kernel_rfl) rfl #[.string (rdOf ByteArray.empty l0 (ji4)),.string a1] rfl (by (try simp only [mA,mC,mN]);first|done|(simp only [hji4];rfl)|rfl|(simp only [List.length_drop,List.length_take];done)|(simp only [List.length_drop,List.length_take];rfl)) ?_;(with_reducible refine (cmp_Less_string.calls (rdOf ByteArray.empty l0 (ji4)) a1 true _ A7.out).mono ?_);rintro e w' ⟨rfl,⟨nd,rfl⟩⟩;refine⟨_,rfl,?_⟩))
       go_roundg k1
       case measure=>have:=HK1.out;omega
       case rel=>exact⟨(wrap64 ((ji4) + 1)),(x8_1),(by first|rfl|(simp;done)|(simp only [← hji4] <;> (first|rfl|simp))|(simp [*];done)),eS,H',⟨by have:=HK1.out;omega⟩,by repeat (first|exact Drawn0.refl _|apply Drawn0.step)⟩
      ·replace c8:=Bool.eq_false_iff.mpr c8
       subst c8
       replace H:=iF H
       have H':=mk0 H
       clear H
       have p412:0 ≤ ((ji4):Int):=oD
       have q412:(ji4) < (l0.length:Int):=oD
       obtain⟨ad412,e412,hx412_0⟩:=Kd.at_string HR0.out (ji4) p412 q412
       cases e412
       replace p412:=eq_true p412
       replace q412:=eq_true q412
       go_wp2_with (first|((with_reducible refine gate_callee (f:=94) rfl ?_);refine goesL_ (some 27) rfl rfl Try.func94 (by kernel_rfl) rfl #[.string (rdOf ByteArray.empty l0 (ji4)),.string a1] rfl (by (try simp only [mA,mC,mN]);first|done|(simp only [hji4];rfl)|rfl|(simp only [List.length_drop,List.length_take];done)|(simp only [List.length_drop,List.length_take];rfl)) ?_;(with_reducible refine (cmp_Less_string.calls (rdOf ByteArray.empty l0 (ji4)) a1 false _ A7.out).mono ?_);rintro e w' ⟨rfl,⟨nd,rfl⟩⟩;refine⟨_,rfl,?_⟩))
       go_roundg k1
       case measure=>have:=HK1.out;omega
       case rel=>exact⟨(x7_1),(ji4),eS,(by first|rfl|(simp;done)|(simp only [← hji4] <;> (first|rfl|simp))|(simp [*];done)),H',⟨by have:=HK1.out;omega⟩,by repeat (first|exact Drawn0.refl _|apply Drawn0.step)⟩
     ·rw [if_neg c6] at H
      exact nn H
    ·rw [if_neg c5] at H
     exact nn H
   ·rw [if_neg c3] at H
    have c3b0:decide (x7_1 < x8_1) = false:=decide_eq_false c3
    clear c3
    by_cases c9:x7_1 < (l0.length:Int)
    ·rw [if_pos c9] at H
     have c9b0:decide (x7_1 < (l0.length:Int)) = true:=decide_eq_true c9
     clear c9
     by_cases c10:0 ≤ x7_1
     ·rw [if_pos c10] at H
      have c10b0:decide (0 ≤ x7_1) = true:=decide_eq_true c10
      clear c10
      by_cases c11:x7_1 < (l0.length:Int)
      ·rw [if_pos c11] at H
       have c11b0:decide (x7_1 < (l0.length:Int)) = true:=decide_eq_true c11
       clear c11
       by_cases c12:(rdOf ByteArray.empty l0 x7_1).toList = a1.toList
       ·rw [if_pos c12] at H
        have c12b0:((rdOf ByteArray.empty l0 x7_1).toList == a1.toList) = true:=beq_iff_eq.mpr c12
        have c12b1:((rdOf ByteArray.empty l0 x7_1).toList != a1.toList) = false:=bne_eq_false_iff_eq.mpr c12
        clear c12
        simp only [Option.some.injEq,Prod.mk.injEq] at H
        obtain⟨rfl,rfl⟩:=H
        have p414:0 ≤ (x7_1:Int):=oD
        have q414:x7_1 < (l0.length:Int):=oD
        obtain⟨ad414,e414,hx414_0⟩:=Kd.at_string HR0.out x7_1 p414 q414
        cases e414
        replace p414:=eq_true p414
        replace q414:=eq_true q414
        go_wp2
        go_ret2
        exact⟨by first|rfl|(simp;done)|(simp [*];done),by repeat (first|exact Drawn0.refl _|apply Drawn0.step)⟩
       ·rw [if_neg c12] at H
        have c12b0:((rdOf ByteArray.empty l0 x7_1).toList == a1.toList) = false:=beq_eq_false_iff_ne.mpr c12
        have c12b1:((rdOf ByteArray.empty l0 x7_1).toList != a1.toList) = true:=bne_iff_ne.mpr c12
        replace H:=bE H
        obtain⟨t416,A13,H⟩:=H
        by_cases c14:t416 = true
        ·subst c14
         replace H:=iT H
         replace H:=bE H
         obtain⟨t417,A15,H⟩:=H
         simp only [Option.some.injEq,Prod.mk.injEq] at H
         obtain⟨rfl,rfl⟩:=H
         have p414:0 ≤ (x7_1:Int):=oD
         have q414:x7_1 < (l0.length:Int):=oD
         obtain⟨ad414,e414,hx414_0⟩:=Kd.at_string HR0.out x7_1 p414 q414
         cases e414
         replace p414:=eq_true p414
         replace q414:=eq_true q414
         have p415:0 ≤ (x7_1:Int):=oD
         have q415:x7_1 < (l0.length:Int):=oD
         obtain⟨ad415,e415,hx415_0⟩:=Kd.at_string HR0.out x7_1 p415 q415
         obtain rfl:ad414 = ad415:=(by injection e415)
         replace p415:=eq_true p415
         replace q415:=eq_true q415
         go_wp2_with (first|(go_at_call 95;(with_reducible refine (slices_isNaN_string.calls (rdOf ByteArray.empty l0 x7_1) true _ A13.out).mono ?_);rintro e w' ⟨rfl,⟨nd,rfl⟩⟩)|(go_at_call 95;(with_reducible refine (slices_isNaN_string.calls a1 t417 _ A15.out).mono ?_);rintro e w' ⟨rfl,⟨nd,rfl⟩⟩))
         go_ret2
         exact⟨by first|rfl|(simp;done)|(simp [*];done),by repeat (first|exact Drawn0.refl _|apply Drawn0.step)⟩
        ·replace c14:=Bool.eq_false_iff.mpr c14
         subst c14
         replace H:=iF H
         simp only [Option.some.injEq,Prod.mk.injEq] at H
         obtain⟨rfl,rfl⟩:=H
         have p414:0 ≤ (x7_1:Int):=oD
         have q414:x7_1 < (l0.length:Int):=oD
         obtain⟨ad414,e414,hx414_0⟩:=Kd.at_string HR0.out x7_1 p414 q414
         cases e414
         replace p414:=eq_true p414
         replace q414:=eq_true q414
         have p415:0 ≤ (x7_1:Int):=oD
         have q415:x7_1 < (l0.length:Int):=oD
         obtain⟨ad415,e415,hx415_0⟩:=Kd.at_string HR0.out x7_1 p415 q415
         obtain rfl:ad414 = ad415:=(by injection e415)
         replace p415:=eq_true p415
         replace q415:=eq_true q415
         go_wp2_with (first|(go_at_call 95;(with_reducible refine (slices_isNaN_string.calls (rdOf ByteArray.empty l0 x7_1) false _ A13.out).mono ?_);rintro e w' ⟨rfl,⟨nd,rfl⟩⟩))
         go_ret2
         exact⟨by first|rfl|(simp;done)|(simp [*];done),by repeat (first|exact Drawn0.refl _|apply Drawn0.step)⟩
      ·rw [if_neg c11] at H
       exact nn H
     ·rw [if_neg c10] at H
      exact nn H
    ·rw [if_neg c9] at H
     have c9b0:decide (x7_1 < (l0.length:Int)) = false:=decide_eq_false c9
     clear c9
     simp only [Option.some.injEq,Prod.mk.injEq] at H
     obtain⟨rfl,rfl⟩:=H
     go_wp2
     go_ret2
     exact⟨by first|rfl|(simp;done)|(simp [*];done),by repeat (first|exact Drawn0.refl _|apply Drawn0.step)⟩
/-! ### impl_headRows: function 77 -/
def impl_headRows.l0 : Nat → List ByteArray → ByteArray → Int → Int → Option (Int × Int)
 | 0, _, _, _, _ => none
 | k + 1, x0, x1, x6, x8 => if x8 < (x0.length : Int) then (if 0 ≤ x8 then (if (rdOf ByteArray.empty x0 x8).toList = x1.toList then (impl_headRows.l0 k x0 x1 x6 (wrap64 (x8 + 1))) else (some (x6, x8))) else (none)) else (some (x6, x8))
def impl_headRows.f (k : Nat) (l0 : List ByteArray) (a1 : ByteArray) : Option (Int × Int) := (slices_BinarySearch_string_string.f k l0 a1).bind fun bt418 => (impl_headRows.l0 k l0 a1 bt418.1 bt418.1)
set_option maxHeartbeats 8000000 in
set_option maxRecDepth 100000 in
theorem impl_headRows.calls (k : Nat) (A0 : Option Addr) (c0 : Nat) (l0 : List ByteArray) (a1 : ByteArray) (r1 : Int) (r2 : Int) (w : World) (hr0 : Kd.C Kd.string w A0 l0.length l0) (hc0 : l0.length ≤ c0) (h : impl_headRows.f k l0 a1 = some (r1, r2)) :
  Calls Try.prog 77 #[.slice A0 l0.length c0, .string a1] w fun e w' => e = .returned (.tuple #[.int .i64 r1, .int .i64 r2]) ∧ Drawn0 w w' := by
 have HR0:=mk0 hr0
 have HC0:=mk0 hc0
 clear hr0 hc0
 have H:((slices_BinarySearch_string_string.f k l0 a1).bind fun bt418=>(impl_headRows.l0 k l0 a1 bt418.1 bt418.1)) = some (r1,r2):=h
 clear h
 replace H:=bE H
 obtain⟨⟨t418,t419⟩,A3,H⟩:=H
 dsimp only at H
 have H':=mk0 H
 clear H
 go_enter Try.func77,Try.ntmps77
 go_wp2_with (first|((with_reducible refine gate_callee (f:=87) rfl ?_);refine gL (some 12) Try.func87 #[.slice A0 l0.length c0,.string a1] ?_;(with_reducible refine (slices_BinarySearch_string_string.calls k _ _ l0 a1 t418 t419 _ ?side1 ?side2 A3.out).mono ?_);(case side1=>exact kC HR0.out);(case side2=>exact HC0.out);rintro e w' ⟨rfl,⟨nd,rfl⟩⟩;refine⟨_,rfl,?_⟩))
 go_loopg [8] k (fun kq v8 w'=>∃ (x8_1:Int),v8 = .int .i64 x8_1 ∧ Aside0 (impl_headRows.l0 kq l0 a1 t418 x8_1 = some (r1,r2)) ∧ Aside0 (kq ≤ k) ∧ Drawn0 w w')
 case atStart=>exact⟨(t418),eS,H',⟨Nat.le_refl _⟩,by repeat (first|exact Drawn0.refl _|apply Drawn0.step)⟩
 case round =>
  clear H'
  try clear p2
  obtain⟨x8_1,rfl,HA,HK1,⟨m1,rfl⟩⟩:=hrel
  cases gk with
  | zero=>exact absurd HA.out (by simp [impl_headRows.l0])
  | succ k1 =>
   have H:=HA.out
   clear HA
   simp only [impl_headRows.l0] at H
   by_cases c4:x8_1 < (l0.length:Int)
   ·rw [if_pos c4] at H
    have c4b0:decide (x8_1 < (l0.length:Int)) = true:=decide_eq_true c4
    clear c4
    by_cases c5:0 ≤ x8_1
    ·rw [if_pos c5] at H
     have c5b0:decide (0 ≤ x8_1) = true:=decide_eq_true c5
     clear c5
     by_cases c6:(rdOf ByteArray.empty l0 x8_1).toList = a1.toList
     ·rw [if_pos c6] at H
      have c6b0:((rdOf ByteArray.empty l0 x8_1).toList == a1.toList) = true:=beq_iff_eq.mpr c6
      have c6b1:((rdOf ByteArray.empty l0 x8_1).toList != a1.toList) = false:=bne_eq_false_iff_eq.mpr c6
      clear c6
      have H':=mk0 H
      clear H
      have p420:0 ≤ (x8_1:Int):=oD
      have q420:x8_1 < (l0.length:Int):=oD
      obtain⟨ad420,e420,hx420_0⟩:=Kd.at_string HR0.out x8_1 p420 q420
      cases e420
      replace p420:=eq_true p420
      replace q420:=eq_true q420
      go_wp2
      go_roundg k1
      case measure=>have:=HK1.out;omega
      case rel=>exact⟨(wrap64 (x8_1 + 1)),eS,H',⟨by have:=HK1.out;omega⟩,by repeat (first|exact Drawn0.refl _|apply Drawn0.step)⟩
     ·rw [if_neg c6] at H
      have c6b0:((rdOf ByteArray.empty l0 x8_1).toList == a1.toList) = false:=beq_eq_false_iff_ne.mpr c6
      have c6b1:((rdOf ByteArray.empty l0 x8_1).toList != a1.toList) = true:=bne_iff_ne.mpr c6
      simp only [Option.some.injEq,Prod.mk.injEq] at H
      obtain⟨rfl,rfl⟩:=H
      have p420:0 ≤ (x8_1:Int):=oD
      have q420:x8_1 < (l0.length:Int):=oD
      obtain⟨ad420,e420,hx420_0⟩:=Kd.at_string HR0.out x8_1 p420 q420
      cases e420
      replace p420:=eq_true p420
      replace q420:=eq_true q420
      go_wp2
      go_ret2
      exact⟨by first|rfl|(simp;done)|(simp [*];done),by repeat (first|exact Drawn0.refl _|apply Drawn0.step)⟩
    ·rw [if_neg c5] at H
     exact nn H
   ·rw [if_neg c4] at H
    have c4b0:decide (x8_1 < (l0.length:Int)) = false:=decide_eq_false c4
    clear c4
    simp only [Option.some.injEq,Prod.mk.injEq] at H
    obtain⟨rfl,rfl⟩:=H
    go_wp2
    go_ret2
    exact⟨by first|rfl|(simp;done)|(simp [*];done),by repeat (first|exact Drawn0.refl _|apply Drawn0.step)⟩
/-! ### impl_parts: function 55 (by hand) -/
def impl_parts.l0 : Nat → List ByteArray → List ByteArray → List ByteArray → Int → List S48 → Option (List S48)
 | 0, _, _, _, _, _ => none
 | k + 1, a, b, ws, i, out => if i < (ws.length : Int) then (if 0 ≤ i then ((impl_headRows.f k a (rdOf ByteArray.empty ws i)).bind fun p => (impl_headRows.f k b (rdOf ByteArray.empty ws i)).bind fun q => if out.length < 1048576 then impl_parts.l0 k a b ws (wrap64 (i + 1)) (out ++ [(⟨bytesOf (rdOf ByteArray.empty ws i), p.1, p.2, q.1, q.2⟩ : S48)]) else none) else none) else some out
def impl_parts.f (k : Nat) (l0 : List Int) (l1 : List Int) (a2 : Int) : Option (List S48) := (impl_heads.f k l0 a2).bind fun a => (impl_heads.f k l1 a2).bind fun b => (slices_Concat_string_string.f k [a, b]).bind fun c => if c.length ≤ 1048576 ∧ (∀ x ∈ c, x.size ≤ 1048576) then impl_parts.l0 k a b (Srt.wordsOf c) 0 [] else none
theorem impl_parts.bytesF {W0 W : World} (s : ByteArray) (hs : s.size ≤ 1048576) (hW : W.heap[W0.heap.size]? = (Lib.bytesWorld W0 5 s).heap[W0.heap.size]?) : Kd.F (Kd.int .u8) W (fun k => k = W0.heap.size) (some ⟨W0.heap.size, 0, none⟩) (bytesOf s).length (bytesOf s) := fun W' hk => by
  have hlt : W0.heap.size < W.heap.size := by
    have h1 : W0.heap.size < (Lib.bytesWorld W0 5 s).heap.size := by rw [Lib.bytesWorld_size]; omega
    rw [Array.getElem?_eq_getElem h1] at hW
    exact (Array.getElem?_eq_some_iff.1 hW).1
  have h2 := (hk _ rfl hlt).trans hW
  have hr := bytes_reads W0 5 s (by omega)
  rw [← bytesOf_length] at hr
  refine Kd.C_of_reads (enc := Value.int .u8) (d := (0 : Int)) (readsInt_of.1 ⟨hr.1, hr.2.1, fun hn => ?_⟩)
  obtain ⟨ad, e, hc⟩ := hr.2.2 hn
  injection e with e
  subst e
  refine ⟨_, rfl, fun j hj => ?_⟩
  rw [← hc j hj, add_plain]
  exact World.cell?_of_block h2
set_option maxHeartbeats 8000000 in
set_option maxRecDepth 100000 in
theorem impl_parts.calls (k : Nat) (A0 : Option Addr) (c0 : Nat) (l0 : List Int) (A1 : Option Addr) (c1 : Nat) (l1 : List Int) (a2 : Int) (r : List S48) (w : World) (hr0 : Kd.C (Kd.int .u8) w A0 l0.length l0) (hc0 : l0.length ≤ c0) (hr1 : Kd.C (Kd.int .u8) w A1 l1.length l1) (hc1 : l1.length ≤ c1) (h : impl_parts.f k l0 l1 a2 = some r) :
    Calls Try.prog 55 #[.slice A0 l0.length c0, .slice A1 l1.length c1, .int .i64 a2] w fun e w' => ∃ v0_ : Value, e = .returned (v0_) ∧ Kd.N k48 48 w' w.heap.size (fun k_ => w.heap.size ≤ k_) v0_ r ∧ Below w.heap.size w w' := by
  unfold impl_parts.f at h
  obtain ⟨a, ha, h⟩ := Option.bind_eq_some_iff.mp h
  obtain ⟨b, hb, h⟩ := Option.bind_eq_some_iff.mp h
  obtain ⟨c, hcc, h⟩ := Option.bind_eq_some_iff.mp h
  by_cases hm : c.length ≤ 1048576 ∧ (∀ x ∈ c, x.size ≤ 1048576)
  rotate_left
  · rw [if_neg hm] at h
    exact absurd h (by simp)
  rw [if_pos hm] at h
  have HA := Aside0.mk ha
  have HBB := Aside0.mk hb
  have HCC := Aside0.mk hcc
  have HM := Aside0.mk hm
  have H := Aside0.mk h
  have HR0 := Aside0.mk hr0
  have HC0 := Aside0.mk hc0
  have HR1 := Aside0.mk hr1
  have HC1 := Aside0.mk hc1
  clear ha hb hcc hm h hr0 hc0 hr1 hc1
  go_enter Try.func55, Try.ntmps55
  go_wp2_with (first
    | (go_at_call 72; (with_reducible refine (impl_heads.calls k A0 c0 l0 a2 a w ?s1 ?s2 HA.out).mono ?_); (case s1 => exact HR0.out); (case s2 => exact HC0.out); rintro e w1 ⟨va, rfl, ra, ba⟩; obtain ⟨Aa, ca, ea⟩ := Kd.R_slice ra; subst ea; have SA1 := Aside0.mk ra; have B1 := Aside0.mk ba; clear ra ba)
    | (go_at_call 72; (with_reducible refine (impl_heads.calls k A1 c1 l1 a2 b w1 ?s1 ?s2 HBB.out).mono ?_); (case s1 => exact Kd.C_below HR1.out B1.out); (case s2 => exact HC1.out); rintro e w2 ⟨vb, rfl, rb, bb⟩; obtain ⟨Ab, cb, eb⟩ := Kd.R_slice rb; subst eb; have SA2 := Aside0.mk (Kd.R_below SA1.out bb); have SB2 := Aside0.mk (Kd.R_lower rb B1.out.size); have B2 := Aside0.mk (below_then B1.out B1.out.size bb); clear rb bb)
    | (go_at_call 76; (refine (slices_Concat_string_string.calls k (some ⟨w2.heap.size, 0, none⟩) 2 [a, b] c _ ?s1 ?s2 HCC.out).mono ?_); (case s1 => exact Srt.two_rows SA2.out SB2.out (below_alloc (Below.refl _ _) _) (blk_new w2 _)); (case s2 => exact Nat.le_refl _); rintro e w3 ⟨vc, rfl, rc, bc⟩; obtain ⟨Ac, cc, ec⟩ := Kd.R_slice rc; subst ec; have hb3 := below_then (below_alloc (Below.refl w2.heap.size w2) _) (below_alloc (Below.refl w2.heap.size w2) _).size bc; have SA3 := Aside0.mk (Kd.R_mono (Kd.R_bound (Kd.R_below SA2.out hb3)) (fun q hq => hq.2.2.1)); have SB3 := Aside0.mk (Kd.R_mono (Kd.R_bound (Kd.R_below SB2.out hb3)) (fun q hq => hq.2.2.1)); have B3 := Aside0.mk (below_then B2.out B2.out.size hb3); have SC3 := Aside0.mk (Kd.R_lower rc (Nat.le_trans B2.out.size (below_alloc (Below.refl w2.heap.size w2) _).size)); clear rc bc hb3)
    | (go_at_call 75; (with_reducible refine (Srt.valuesOf _ Ac c.length cc rfl w3).mono ?_); rintro e w' ⟨rfl, rfl⟩)
    | (go_at_call 74; (with_reducible refine (Srt.sortedOf (.slice Ac c.length cc) w3.heap.size w.heap.size (fun _ => True) c HM.out.1 _ ?s1 ?s2).mono ?_); (case s1 => exact (blk_cell (blk_new w3 _) 0).trans rfl); (case s2 => exact Kd.R_alloc SC3.out _); rintro e w4 ⟨vs, rfl, rs, bs⟩; have hb4 := below_then (below_alloc (Below.refl w3.heap.size w3) (.cells #[.slice Ac c.length cc] 82)) (below_alloc (Below.refl w3.heap.size w3) _).size bs; have SA4 := Aside0.mk (Kd.R_below SA3.out hb4); have SB4 := Aside0.mk (Kd.R_below SB3.out hb4); have B4 := Aside0.mk (below_then B3.out B3.out.size hb4); have SS4 := Aside0.mk (Kd.R_lower rs (below_alloc (Below.refl w3.heap.size w3) _).size); obtain ⟨As, cs, es⟩ := Kd.R_slice rs; subst es; clear rs bs hb4)
    | (go_at_call 73; (with_reducible refine (Srt.compactOf (.slice As (Srt.sortedS c).length cs) (fun _ => True) (Srt.sortedS c) w w4 B4.out (Kd.R_lower SS4.out B3.out.size) ?s1).mono ?_); (case s1 => rw [Srt.sortedS_len]; exact HM.out.1); rintro e w5 ⟨vw, rfl, rw5, b5, g5⟩; rw [Srt.words_eq] at rw5; obtain ⟨ws, hws⟩ : ∃ q, Srt.wordsOf c = q := ⟨_, rfl⟩; rw [hws] at rw5; have HWE := Aside0.mk hws; clear hws; obtain ⟨Aw, cw, ew⟩ := Kd.R_slice rw5; subst ew; have SW := Aside0.mk rw5; have SA := Aside0.mk (Kd.R_mono (Kd.R_grown SA4.out g5 (fun q hq e => by have := Kd.R_base SS4.out q e.symm; omega)) (fun _ _ => trivial) : Kd.string.R 9 w5 w.heap.size (fun _ => True) (.slice Aa a.length ca) a); have SB := Aside0.mk (Kd.R_mono (Kd.R_grown SB4.out g5 (fun q hq e => by have := Kd.R_base SS4.out q e.symm; omega)) (fun _ _ => trivial) : Kd.string.R 9 w5 w.heap.size (fun _ => True) (.slice Ab b.length cb) b); have B5 := Aside0.mk b5; clear rw5 b5 g5))
  have HWS := Aside0.mk (fun x hx => HM.out.2 x (Srt.words_mem (xs := c) (x := x) hx))
  rw [HWE.out] at H HWS
  clear HWE SA1 SB2 SA2 SA3 SB3 SA4 SB4 SC3 SS4 B1 B2 B3 B4 HA HBB HCC HM HR0 HC0 HR1 HC1
  go_loopg [10, 29] k (fun kq v10 v29 W => ∃ (out : List S48) (x : Int), v29 = .int .i64 x ∧ Aside0 (impl_parts.l0 kq a b ws x out = some r) ∧ Aside0 (kq ≤ k) ∧ Aside0 (Kd.N k48 48 W w.heap.size (fun k_ => w.heap.size ≤ k_) v10 out) ∧ Aside0 (Kd.string.R 9 W w.heap.size (fun _ => True) (.slice Aa a.length ca) a) ∧ Aside0 (Kd.string.R 9 W w.heap.size (fun _ => True) (.slice Ab b.length cb) b) ∧ Aside0 (Kd.string.R 9 W w.heap.size (fun _ => True) (.slice Aw ws.length cw) ws) ∧ Aside0 (Below w.heap.size w W))
  case atStart => exact ⟨[], 0, rfl, H, ⟨Nat.le_refl _⟩, ⟨Kd.N_nil _ _ _ _ _⟩, SA, SB, SW, B5⟩
  case round =>
    clear H SA SB SW B5
    obtain ⟨out, x, rfl, HA, HK, HO, SA, SB, SW, HB⟩ := hrel
    cases gk with
    | zero => exact absurd HA.out (by simp [impl_parts.l0])
    | succ k1 =>
      have H := HA.out
      clear HA
      simp only [impl_parts.l0] at H
      by_cases c1 : x < (ws.length : Int)
      rotate_left
      · rw [if_neg c1] at H
        have c1b : decide (x < (ws.length : Int)) = false := decide_eq_false c1
        clear c1
        obtain rfl := Option.some.inj H
        clear H
        obtain ⟨Ao, co, eo⟩ := Kd.N_slice HO.out
        subst eo
        go_wp2
        go_ret
        exact ⟨_, rfl, HO.out, HB.out⟩
      rw [if_pos c1] at H
      by_cases c2 : 0 ≤ x
      rotate_left
      · rw [if_neg c2] at H
        exact nn H
      rw [if_pos c2] at H
      obtain ⟨⟨p1, p2⟩, hp, H⟩ := Option.bind_eq_some_iff.mp H
      obtain ⟨⟨q1, q2⟩, hq, H⟩ := Option.bind_eq_some_iff.mp H
      by_cases c3 : out.length < 1048576
      rotate_left
      · rw [if_neg c3] at H
        exact nn H
      rw [if_pos c3] at H
      have c1b : decide (x < (ws.length : Int)) = true := decide_eq_true c1
      obtain ⟨ad, ead, hx⟩ := Kd.at_string (Kd.R_reads' SW.out).2.2 x c2 c1
      subst ead
      have hmem : rdOf ByteArray.empty ws x ∈ ws := by
        unfold rdOf
        rw [List.getD_eq_getElem?_getD, List.getElem?_eq_getElem (by omega)]
        exact List.getElem_mem (by omega)
      have hsz := HWS.out _ hmem
      obtain ⟨s, hs⟩ : ∃ q, rdOf ByteArray.empty ws x = q := ⟨_, rfl⟩
      rw [hs] at hx hsz hp hq H
      have HP := Aside0.mk hp
      have HQ := Aside0.mk hq
      have HSZ := Aside0.mk hsz
      have H' := Aside0.mk H
      have LM := Aside0.mk c3
      clear hp hq hsz H c3 hs hmem
      obtain ⟨Ao, co, eo⟩ := Kd.N_slice HO.out
      subst eo
      have hcv := print_bytes (P := Try.prog) 9 22 5 Try.underlying9 Try.underlying22 Try.underlying5 s wr
      go_wp2_with (first | ((with_reducible refine gate_dst (N := 13) rfl ?_); refine box_event ?hg (N := 13) ?hd (cs := #[.slice none 0 0, .int .i64 0, .int .i64 0, .int .i64 0, .int .i64 0]) (t := 48) ?hr ?_; (case hd => rfl); (case hg => rfl); (case hr => first | (go_simp; done) | (go_simp; rfl)); intro g hg_ w6 hbx hb; have RD := Aside0.mk (show Srt.Rd wr w6 s g #[.slice none 0 0, .int .i64 0, .int .i64 0, .int .i64 0, .int .i64 0] from ⟨below_then (bytes_below (Below.refl wr.heap.size wr) (Nat.le_refl _) 5 s) (bytes_below (Below.refl wr.heap.size wr) (Nat.le_refl _) 5 s).size hb, hb.block _ (by rw [Lib.bytesWorld_size]; omega), hbx, by rw [hg_, Lib.bytesWorld_size]; omega⟩); clear hg_ hbx hb) | ((with_reducible refine gate_store (t := 48) (p := 13) (v := .tmp 35) rfl ?_); refine store_event (t := 48) (p := 13) (v := .tmp 35) (w1 := (World.setCell (World.setCell (World.setCell (World.setCell (World.setCell w6 ⟨g, 0, none⟩ (.slice (some ⟨wr.heap.size, 0, none⟩) s.size (grownCap wr s.size 0 5))) ⟨g, 1, none⟩ (.int .i64 0)) ⟨g, 2, none⟩ (.int .i64 0)) ⟨g, 3, none⟩ (.int .i64 0)) ⟨g, 4, none⟩ (.int .i64 0))) ?hg ?ho ?hn ?hr ?_; (case ho => rfl); (case hg => rfl); (case hn => rfl); (case hr => have c0_ : _ = some (Value.slice none 0 0) := (blk_cell RD.out.bx 0).trans rfl; have c1_ : _ = some (Value.int .i64 0) := (blk_cell RD.out.bx 1).trans rfl; have c2_ : _ = some (Value.int .i64 0) := (blk_cell RD.out.bx 2).trans rfl; have c3_ : _ = some (Value.int .i64 0) := (blk_cell RD.out.bx 3).trans rfl; have c4_ : _ = some (Value.int .i64 0) := (blk_cell RD.out.bx 4).trans rfl; have f0_ := blk_frozen RD.out.bx 0; have f1_ := blk_frozen RD.out.bx 1; have f2_ := blk_frozen RD.out.bx 2; have f3_ := blk_frozen RD.out.bx 3; have f4_ := blk_frozen RD.out.bx 4; first | (go_simp; done) | (go_simp; rfl)); intro w7 hw; replace RD := Aside0.mk (RD.out.set (W' := w7) (cs' := #[(.slice (some ⟨wr.heap.size, 0, none⟩) s.size (grownCap wr s.size 0 5)), .int .i64 0, .int .i64 0, .int .i64 0, .int .i64 0]) (by rw [hw]; exact Srt.grown_two (Srt.grown_two (Srt.grown_two (Srt.grown_two (Srt.grown_cell _ g 0 _) (Srt.grown_cell _ g 1 _)) (Srt.grown_cell _ g 2 _)) (Srt.grown_cell _ g 3 _)) (Srt.grown_cell _ g 4 _)) (by rw [hw]; exact blk_put (blk_put (blk_put (blk_put (blk_put RD.out.bx 0 _ rfl) 1 _ rfl) 2 _ rfl) 3 _ rfl) 4 _ rfl)); clear hw) | (go_at_call 77; (with_reducible refine (impl_headRows.calls k1 Aa ca a s p1 p2 w7 ?s1 ?s2 HP.out).mono ?_); (case s1 => exact Kd.C_below (Kd.R_reads' SA.out).2.2 RD.out.be); (case s2 => exact (Kd.R_reads' SA.out).2.1); rintro e w' ⟨rfl, ⟨nd, rfl⟩⟩; replace RD := Aside0.mk (RD.out.drew nd)) | ((with_reducible refine gate_store (t := 3) (p := 42) (v := .tmp 40) rfl ?_); refine store_event (t := 3) (p := 42) (v := .tmp 40) (w1 := (World.setCell (w7.drewN nd) ⟨g, 1, none⟩ (.int .i64 p1))) ?hg ?ho ?hn ?hr ?_; (case ho => rfl); (case hg => rfl); (case hn => rfl); (case hr => have c_ : _ = some (Value.int .i64 0) := (blk_cell RD.out.bx 1).trans rfl; have f_ := blk_frozen RD.out.bx 1; first | (go_simp; done) | (go_simp; rfl)); intro w8 hw; replace RD := Aside0.mk (RD.out.set (W' := w8) (cs' := #[(.slice (some ⟨wr.heap.size, 0, none⟩) s.size (grownCap wr s.size 0 5)), .int .i64 p1, .int .i64 0, .int .i64 0, .int .i64 0]) (by rw [hw]; exact Srt.grown_cell _ g 1 _) (by rw [hw]; exact blk_put RD.out.bx 1 _ rfl)); clear hw) | ((with_reducible refine gate_store (t := 3) (p := 43) (v := .tmp 41) rfl ?_); refine store_event (t := 3) (p := 43) (v := .tmp 41) (w1 := (World.setCell w8 ⟨g, 2, none⟩ (.int .i64 p2))) ?hg ?ho ?hn ?hr ?_; (case ho => rfl); (case hg => rfl); (case hn => rfl); (case hr => have c_ : _ = some (Value.int .i64 0) := (blk_cell RD.out.bx 2).trans rfl; have f_ := blk_frozen RD.out.bx 2; first | (go_simp; done) | (go_simp; rfl)); intro w9 hw; replace RD := Aside0.mk (RD.out.set (W' := w9) (cs' := #[(.slice (some ⟨wr.heap.size, 0, none⟩) s.size (grownCap wr s.size 0 5)), .int .i64 p1, .int .i64 p2, .int .i64 0, .int .i64 0]) (by rw [hw]; exact Srt.grown_cell _ g 2 _) (by rw [hw]; exact blk_put RD.out.bx 2 _ rfl)); clear hw) | (go_at_call 77; (with_reducible refine (impl_headRows.calls k1 Ab cb b s q1 q2 w9 ?s1 ?s2 HQ.out).mono ?_); (case s1 => exact Kd.C_below (Kd.R_reads' SB.out).2.2 RD.out.be); (case s2 => exact (Kd.R_reads' SB.out).2.1); rintro e w' ⟨rfl, ⟨ne, rfl⟩⟩; replace RD := Aside0.mk (RD.out.drew ne)) | ((with_reducible refine gate_store (t := 3) (p := 50) (v := .tmp 48) rfl ?_); refine store_event (t := 3) (p := 50) (v := .tmp 48) (w1 := (World.setCell (w9.drewN ne) ⟨g, 3, none⟩ (.int .i64 q1))) ?hg ?ho ?hn ?hr ?_; (case ho => rfl); (case hg => rfl); (case hn => rfl); (case hr => have c_ : _ = some (Value.int .i64 0) := (blk_cell RD.out.bx 3).trans rfl; have f_ := blk_frozen RD.out.bx 3; first | (go_simp; done) | (go_simp; rfl)); intro w10 hw; replace RD := Aside0.mk (RD.out.set (W' := w10) (cs' := #[(.slice (some ⟨wr.heap.size, 0, none⟩) s.size (grownCap wr s.size 0 5)), .int .i64 p1, .int .i64 p2, .int .i64 q1, .int .i64 0]) (by rw [hw]; exact Srt.grown_cell _ g 3 _) (by rw [hw]; exact blk_put RD.out.bx 3 _ rfl)); clear hw) | ((with_reducible refine gate_store (t := 3) (p := 51) (v := .tmp 49) rfl ?_); refine store_event (t := 3) (p := 51) (v := .tmp 49) (w1 := (World.setCell w10 ⟨g, 4, none⟩ (.int .i64 q2))) ?hg ?ho ?hn ?hr ?_; (case ho => rfl); (case hg => rfl); (case hn => rfl); (case hr => have c_ : _ = some (Value.int .i64 0) := (blk_cell RD.out.bx 4).trans rfl; have f_ := blk_frozen RD.out.bx 4; first | (go_simp; done) | (go_simp; rfl)); intro w11 hw; replace RD := Aside0.mk (RD.out.set (W' := w11) (cs' := #[(.slice (some ⟨wr.heap.size, 0, none⟩) s.size (grownCap wr s.size 0 5)), .int .i64 p1, .int .i64 p2, .int .i64 q1, .int .i64 q2]) (by rw [hw]; exact Srt.grown_cell _ g 4 _) (by rw [hw]; exact blk_put RD.out.bx 4 _ rfl)); clear hw; have d0 : _ = some (Value.slice (some ⟨wr.heap.size, 0, none⟩) s.size (grownCap wr s.size 0 5)) := (blk_cell RD.out.bx 0).trans rfl; have d1 : _ = some (Value.int .i64 p1) := (blk_cell RD.out.bx 1).trans rfl; have d2 : _ = some (Value.int .i64 p2) := (blk_cell RD.out.bx 2).trans rfl; have d3 : _ = some (Value.int .i64 q1) := (blk_cell RD.out.bx 3).trans rfl; have d4 : _ = some (Value.int .i64 q2) := (blk_cell RD.out.bx 4).trans rfl) | ((with_reducible refine gate_builtin (b := .append) (xs := #[.tmp 52, .tmp 54]) rfl ?_); at_builtin; refine Kd.N_append k48 (w0 := w) (W := w11) w.heap.size rfl (.tmp 52) (.tmp 54) 43 48 (.agg #[(.slice none 0 0), (.int .i64 0), (.int .i64 0), (.int .i64 0), (.int .i64 0)]) 56 rfl Try.underlying43 info48 rfl (by decide) (by omega) (.slice Ao out.length co) out (⟨bytesOf s, p1, p2, q1, q2⟩ : S48) [(.slice (some ⟨wr.heap.size, 0, none⟩) s.size (grownCap wr s.size 0 5)), .int .i64 p1, .int .i64 p2, .int .i64 q1, .int .i64 q2] (fun k_ => w.heap.size ≤ k_) (fun k_ => k_ = wr.heap.size) rfl rfl ?aP ?aK ?aF ?aO ?aB ?aS ?aL ?_; (case aP => rw [← bytesOf_length s]; exact k48_mkF w11 _ (⟨bytesOf s, p1, p2, q1, q2⟩ : S48) (grownCap_ge _ _ _ _) (impl_parts.bytesF s HSZ.out RD.out.by_)); (case aK => intro k_ hk_; subst hk_; exact ⟨HB.out.size, fun e => by have := Kd.N_lt HO.out _ e.symm; omega⟩); (case aF => intro k_ hk_; have := RD.out.be.size; have := HB.out.size; omega); (case aO => exact Kd.N_below HO.out RD.out.be); (case aB => exact below_then HB.out HB.out.size RD.out.be); (case aS => have := RD.out.be.size; have := HB.out.size; omega); (case aL => have := LM.out; omega); intro v12 w12 ho hb hg hat; have HO2 := Aside0.mk ho; have HB2 := Aside0.mk hb; have HG2 := Aside0.mk hg; clear ho hb hg hat))
      go_roundg k1
      case measure => have := HK.out; omega
      case rel =>
        have hty := Kd.N_typed (Kd.N_below HO.out RD.out.be)
        exact ⟨_, wrap64 (x + 1), by first | rfl | go_num, H', ⟨by have := HK.out; omega⟩, HO2, ⟨Kd.R_over' (Kd.R_below SA.out RD.out.be) hty (by decide) HG2.out⟩, ⟨Kd.R_over' (Kd.R_below SB.out RD.out.be) hty (by decide) HG2.out⟩, ⟨Kd.R_over' (Kd.R_below SW.out RD.out.be) hty (by decide) HG2.out⟩, HB2⟩
/-! ### slices_Index_int_int: function 91 -/
def slices_Index_int_int.l0 : Nat → List Int → Int → Int → Int → Option (Int)
 | 0, _, _, _, _ => none
 | k + 1, x0, x1, x7, x8 => if x8 < x7 then (if 0 ≤ x8 then (if x8 < (x0.length : Int) then (if x1 = (rd x0 x8) then (some x8) else (slices_Index_int_int.l0 k x0 x1 x7 (wrap64 (x8 + 1)))) else (none)) else (none)) else (some (-1))
def slices_Index_int_int.f (k : Nat) (l0 : List Int) (a1 : Int) : Option (Int) := slices_Index_int_int.l0 k l0 a1 (l0.length : Int) 0
set_option maxHeartbeats 8000000 in
set_option maxRecDepth 100000 in
theorem slices_Index_int_int.calls (k : Nat) (A0 : Option Addr) (c0 : Nat) (l0 : List Int) (a1 : Int) (r : Int) (w : World) (hr0 : Kd.C (Kd.int .i64) w A0 l0.length l0) (hc0 : l0.length ≤ c0) (h : slices_Index_int_int.f k l0 a1 = some r) :
  Calls Try.prog 91 #[.slice A0 l0.length c0, .int .i64 a1] w fun e w' => e = .returned (.int .i64 r) ∧ Drawn0 w w' := by
 have HR0:=mk0 hr0
 have HC0:=mk0 hc0
 clear hr0 hc0
 have H:(slices_Index_int_int.l0 k l0 a1 (l0.length:Int) 0) = some r:=h
 clear h
 have H':=mk0 H
 clear H
 go_enter Try.func91,Try.ntmps91
 go_wp2
 go_loopg [8] k (fun kq v8 w'=>∃ (x8_1:Int),v8 = .int .i64 x8_1 ∧ Aside0 (slices_Index_int_int.l0 kq l0 a1 (l0.length:Int) x8_1 = some r) ∧ Aside0 (kq ≤ k) ∧ Drawn0 w w')
 case atStart=>exact⟨(0),eS,H',⟨Nat.le_refl _⟩,by repeat (first|exact Drawn0.refl _|apply Drawn0.step)⟩
 case round =>
  clear H'
  try clear p2
  obtain⟨x8_1,rfl,HA,HK1,⟨m1,rfl⟩⟩:=hrel
  cases gk with
  | zero=>exact absurd HA.out (by simp [slices_Index_int_int.l0])
  | succ k1 =>
   have H:=HA.out
   clear HA
   simp only [slices_Index_int_int.l0] at H
   by_cases c3:x8_1 < (l0.length:Int)
   ·rw [if_pos c3] at H
    have c3b0:decide (x8_1 < (l0.length:Int)) = true:=decide_eq_true c3
    clear c3
    by_cases c4:0 ≤ x8_1
    ·rw [if_pos c4] at H
     have c4b0:decide (0 ≤ x8_1) = true:=decide_eq_true c4
     clear c4
     by_cases c5:x8_1 < (l0.length:Int)
     ·rw [if_pos c5] at H
      have c5b0:decide (x8_1 < (l0.length:Int)) = true:=decide_eq_true c5
      clear c5
      by_cases c6:a1 = (rd l0 x8_1)
      ·rw [if_pos c6] at H
       have c6b0:(a1 == (rd l0 x8_1)) = true:=beq_iff_eq.mpr c6
       have c6b1:(a1 != (rd l0 x8_1)) = false:=bne_eq_false_iff_eq.mpr c6
       clear c6
       obtain rfl:=Option.some.inj H
       have p421:0 ≤ (x8_1:Int):=oD
       have q421:x8_1 < (l0.length:Int):=oD
       obtain⟨ad421,e421,hx421_0⟩:=Kd.at_int HR0.out x8_1 p421 q421
       cases e421
       replace p421:=eq_true p421
       replace q421:=eq_true q421
       go_wp2
       go_ret
       exact⟨by first|rfl|(simp;done)|(simp [*];done),by repeat (first|exact Drawn0.refl _|apply Drawn0.step)⟩
      ·rw [if_neg c6] at H
       have c6b0:(a1 == (rd l0 x8_1)) = false:=beq_eq_false_iff_ne.mpr c6
       have c6b1:(a1 != (rd l0 x8_1)) = true:=bne_iff_ne.mpr c6
       have H':=mk0 H
       clear H
       have p421:0 ≤ (x8_1:Int):=oD
       have q421:x8_1 < (l0.length:Int):=oD
       obtain⟨ad421,e421,hx421_0⟩:=Kd.at_int HR0.out x8_1 p421 q421
       cases e421
       replace p421:=eq_true p421
       replace q421:=eq_true q421
       go_wp2
       go_roundg k1
       case measure=>have:=HK1.out;omega
       case rel=>exact⟨(wrap64 (x8_1 + 1)),eS,H',⟨by have:=HK1.out;omega⟩,by repeat (first|exact Drawn0.refl _|apply Drawn0.step)⟩
     ·rw [if_neg c5] at H
      exact nn H
    ·rw [if_neg c4] at H
     exact nn H
   ·rw [if_neg c3] at H
    have c3b0:decide (x8_1 < (l0.length:Int)) = false:=decide_eq_false c3
    clear c3
    obtain rfl:=Option.some.inj H
    go_wp2
    go_ret
    exact⟨by first|rfl|(simp;done)|(simp [*];done),by repeat (first|exact Drawn0.refl _|apply Drawn0.step)⟩
/-! ### impl_commonOf: function 81 -/
def impl_commonOf.l0 : Nat → List Int → List Int → List (S56) → Int → Int → List (List Int) → Option ((List (S56)))
 | 0, _, _, _, _, _, _ => none
 | k + 1, x0, x1, x6, x7, x8, x12 => if 0 ≤ x7 then (if x7 < (x12.length : Int) then (if 0 ≤ x8 then (if x8 < ((rd_L4 x12 x7).length : Int) then (if (rd (rd_L4 x12 x7) x8) > 0 then (if x8 ≤ (x1.length : Int) then (if x7 < (x0.length : Int) then ((slices_Index_int_int.f k (x1.drop (x8 : Int).toNat) (rd x0 x7)).bind fun t429 => (if t429 ≥ 0 then (if 0 ≤ (wrap64 (x7 + 1)) then (if (wrap64 (x7 + 1)) < (x12.length : Int) then (if 0 ≤ (wrap64 ((wrap64 (x8 + t429)) + 1)) then (if (wrap64 ((wrap64 (x8 + t429)) + 1)) < ((rd_L4 x12 (wrap64 (x7 + 1))).length : Int) then (if (wrap64 ((rd (rd_L4 x12 (wrap64 (x7 + 1))) (wrap64 ((wrap64 (x8 + t429)) + 1))) + 1)) = (rd (rd_L4 x12 x7) x8) then (if x6.length < 8796093022208 then (impl_commonOf.l0 k x0 x1 (x6 ++ [(⟨x7, wrap64 (x8 + t429)⟩ : S56)]) (wrap64 (x7 + 1)) (wrap64 (x8 + (wrap64 (t429 + 1)))) x12) else (none)) else (impl_commonOf.l0 k x0 x1 x6 (wrap64 (x7 + 1)) x8 x12)) else (none)) else (none)) else (none)) else (none)) else (impl_commonOf.l0 k x0 x1 x6 (wrap64 (x7 + 1)) x8 x12))) else (none)) else (none)) else (some x6)) else (none)) else (none)) else (none)) else (none)
def impl_commonOf.f (k : Nat) (l0 : List Int) (l1 : List Int) : Option ((List (S56))) := (impl_commonTable.f k l0 l1).bind fun t422 => (impl_commonOf.l0 k l0 l1 ([] : List (S56)) 0 0 t422)
set_option maxHeartbeats 8000000 in
set_option maxRecDepth 100000 in
theorem impl_commonOf.calls (k : Nat) (A0 : Option Addr) (c0 : Nat) (l0 : List Int) (A1 : Option Addr) (c1 : Nat) (l1 : List Int) (r : List (S56)) (w : World) (hr0 : Kd.C (Kd.int .i64) w A0 l0.length l0) (hc0 : l0.length ≤ c0) (hr1 : Kd.C (Kd.int .i64) w A1 l1.length l1) (hc1 : l1.length ≤ c1) (h : impl_commonOf.f k l0 l1 = some r) :
  Calls Try.prog 81 #[.slice A0 l0.length c0, .slice A1 l1.length c1] w fun e w' => ∃ v0_ : Value, e = .returned (v0_) ∧ Kd.R k56 56 w' w.heap.size (fun _ => True) v0_ r ∧ Below w.heap.size w w' := by
 have hu56:=Try.underlying56
 have HR0:=mk0 hr0
 have HC0:=mk0 hc0
 clear hr0 hc0
 have HR1:=mk0 hr1
 have HC1:=mk0 hc1
 clear hr1 hc1
 have HB:=mk0 (Below.refl w.heap.size w)
 have H:((impl_commonTable.f k l0 l1).bind fun t422=>(impl_commonOf.l0 k l0 l1 ([]:List (S56)) 0 0 t422)) = some r:=h
 clear h
 replace H:=bE H
 obtain⟨t422,A3,H⟩:=H
 have H':=mk0 H
 clear H
 go_enter Try.func81,Try.ntmps81
 go_wp2_with (first|(go_at_call 63;(with_reducible refine (impl_commonTable.calls k _ _ l0 _ _ l1 t422 _ ?side1 ?side2 ?side3 ?side4 A3.out).mono ?_);(case side1=>exact kC HR0.out);(case side2=>exact HC0.out);(case side3=>exact kC HR1.out);(case side4=>exact HC1.out);rintro e w4 ⟨v423,rfl,ho0,hb⟩;have HO424:=mk0 (Kd.S_lower ho0 (kZ HB.out));replace HB:=mk0 (kS HB.out hb);(try clear hb);(try clear ho0)))
 repeat (go_quiet (first|(go_at_call 63;(with_reducible refine (impl_commonTable.calls k _ _ l0 _ _ l1 t422 _ ?side1 ?side2 ?side3 ?side4 A3.out).mono ?_);(case side1=>exact kC HR0.out);(case side2=>exact HC0.out);(case side3=>exact kC HR1.out);(case side4=>exact HC1.out);rintro e w4 ⟨v423,rfl,ho0,hb⟩;have HO424:=mk0 (Kd.S_lower ho0 (kZ HB.out));replace HB:=mk0 (kS HB.out hb);(try clear hb);(try clear ho0)));try go_wp2_with (first|(go_at_call 63;(with_reducible refine (impl_commonTable.calls k _ _ l0 _ _ l1 t422 _ ?side1 ?side2 ?side3 ?side4 A3.out).mono ?_);(case side1=>exact kC HR0.out);(case side2=>exact HC0.out);(case side3=>exact kC HR1.out);(case side4=>exact HC1.out);rintro e w4 ⟨v423,rfl,ho0,hb⟩;have HO424:=mk0 (Kd.S_lower ho0 (kZ HB.out));replace HB:=mk0 (kS HB.out hb);(try clear hb);(try clear ho0))))
 go_loopg [6,7,8] k (fun kq v6 v7 v8 w'=>∃ (x6_1:List (S56)) (x7_1:Int) (x8_1:Int),v7 = .int .i64 x7_1 ∧ v8 = .int .i64 x8_1 ∧ Aside0 (impl_commonOf.l0 kq l0 l1 x6_1 x7_1 x8_1 t422 = some r) ∧ Aside0 (kq ≤ k) ∧ Aside0 (Kd.R k56 56 w' w.heap.size (fun _=>True) v6 x6_1) ∧ Aside0 (Kd.S (Kd.slice 3 (Kd.int .i64)) 45 w' w.heap.size (fun _=>True) v423 t422) ∧ Aside0 (Below w.heap.size w w'))
 case atStart=>exact⟨(([]:List (S56))),(0),(0),eS,eS,H',⟨Nat.le_refl _⟩,⟨by first|exact Kd.R_nil _ _ _ _ _|exact Kd.N_nil _ _ _ _ _|exact Kd.V_nil _ _ _ _ _|exact Kd.Q_nil _ _ _ _ _|exact Kd.S_nil _ _ _ _ _⟩,⟨rS HO424.out⟩,⟨kB HB.out⟩⟩
 case round =>
  clear H'
  try clear c1
  try clear p2
  obtain⟨x6_1,x7_1,x8_1,rfl,rfl,HA,HK1,HO_6,HO_12,HB⟩:=hrel
  cases gk with
  | zero=>exact absurd HA.out (by simp [impl_commonOf.l0])
  | succ k1 =>
   have H:=HA.out
   clear HA
   simp only [impl_commonOf.l0] at H
   by_cases c5:0 ≤ x7_1
   rotate_left
   ·rw [if_neg c5] at H
    exact nn H
   rw [if_pos c5] at H
   have c5b0:decide (0 ≤ x7_1) = true:=decide_eq_true c5
   clear c5
   by_cases c6:x7_1 < (t422.length:Int)
   rotate_left
   ·rw [if_neg c6] at H
    exact nn H
   rw [if_pos c6] at H
   have c6b0:decide (x7_1 < (t422.length:Int)) = true:=decide_eq_true c6
   (try simp only [hl425_0] at c6b0)
   (try simp only [hl430_0] at c6b0)
   (try simp only [hl432_0] at c6b0)
   clear c6
   by_cases c7:0 ≤ x8_1
   rotate_left
   ·rw [if_neg c7] at H
    exact nn H
   rw [if_pos c7] at H
   have c7b0:decide (0 ≤ x8_1) = true:=decide_eq_true c7
   clear c7
   by_cases c8:x8_1 < ((rd_L4 t422 x7_1).length:Int)
   rotate_left
   ·rw [if_neg c8] at H
    exact nn H
   rw [if_pos c8] at H
   have c8b0:decide (x8_1 < ((rd_L4 t422 x7_1).length:Int)) = true:=decide_eq_true c8
   (try simp only [hl425_0] at c8b0)
   (try simp only [hl430_0] at c8b0)
   (try simp only [hl432_0] at c8b0)
   clear c8
   by_cases c9:(rd (rd_L4 t422 x7_1) x8_1) > 0
   rotate_left
   ·rw [if_neg c9] at H
    have c9b0:decide (0 < (rd (rd_L4 t422 x7_1) x8_1)) = false:=decide_eq_false c9
    clear c9
    obtain rfl:=Option.some.inj H
    obtain⟨Ao30,co30,eo30⟩:=Kd.S_slice HO_12.out
    subst eo30
    have p425:0 ≤ (x7_1:Int):=oD
    have q425:x7_1 < (t422.length:Int):=oD
    obtain⟨ad425,A425_0,c425_0,e425,hx425_0,hl425_0,hi425_0⟩:=at_L4 (Kd.S_reads' HO_12.out).2.2 x7_1 p425 q425
    cases e425
    obtain⟨ce425,hce425,hMe425,hcc425⟩:=Kd.S_get HO_12.out [] x7_1 p425 (by first|exact q425|exact oD|(have e_:=(Kd.S_reads' HO_12.out).1;omega))
    obtain⟨ve425_0,rfl,ge425_0⟩:=hMe425
    have hv425_0:=hcc425 0 _ rfl
    rw [Nat.add_zero,show ((Kd.slice 3 (Kd.int .i64))).sz = 1 from rfl,Nat.mul_one] at hv425_0
    replace hv425_0:=Option.some.inj (hv425_0.symm.trans hx425_0)
    rw [hv425_0] at ge425_0
    have HL425_0:=mk0 (show Kd.R (Kd.int .i64) 3 _ _ _ _ (rd_L4 t422 x7_1) from ge425_0)
    clear hv425_0 ge425_0
    clear hcc425 hce425
    have HR425_0:=mk0 hi425_0
    have HC425_0:=mk0 hl425_0
    clear hi425_0 hl425_0
    replace p425:=eq_true p425
    replace q425:=eq_true q425
    have p426:0 ≤ (x8_1:Int):=oD
    have q426:x8_1 < ((rd_L4 t422 x7_1).length:Int):=oD
    obtain⟨ad426,e426,hx426_0⟩:=Kd.at_int (by repeat (first|(with_reducible exact HR425_0.out)|(with_reducible first|apply aC|apply nC|apply dC)|exact HR425_0.out|exact (Kd.V_reads' HL425_0.out).2.2)) x8_1 p426 q426
    cases e426
    replace p426:=eq_true p426
    replace q426:=eq_true q426
    go_wp2
    repeat (go_quiet (fail);try go_wp2)
    go_ret
    exact⟨_,eR,rR HO_6.out,kB HB.out⟩
   rw [if_pos c9] at H
   have c9b0:decide (0 < (rd (rd_L4 t422 x7_1) x8_1)) = true:=decide_eq_true c9
   clear c9
   have c10b0:=eq_true (oD:0 ≤ x8_1)
   by_cases c11:x8_1 ≤ (l1.length:Int)
   rotate_left
   ·rw [if_neg c11] at H
    exact nn H
   rw [if_pos c11] at H
   have c11b0:=eq_true c11
   have c11b1:decide (x8_1 ≤ (l1.length:Int)) = true:=decide_eq_true c11
   (try simp only [hl425_0] at c11b1)
   (try simp only [hl430_0] at c11b1)
   (try simp only [hl432_0] at c11b1)
   clear c11
   by_cases c12:x7_1 < (l0.length:Int)
   rotate_left
   ·rw [if_neg c12] at H
    exact nn H
   rw [if_pos c12] at H
   have c12b0:decide (x7_1 < (l0.length:Int)) = true:=decide_eq_true c12
   (try simp only [hl425_0] at c12b0)
   (try simp only [hl430_0] at c12b0)
   (try simp only [hl432_0] at c12b0)
   clear c12
   replace H:=bE H
   obtain⟨t429,A13,H⟩:=H
   by_cases c14:t429 ≥ 0
   rotate_left
   ·rw [if_neg c14] at H
    have c14b0:decide (0 ≤ t429) = false:=decide_eq_false c14
    clear c14
    have H':=mk0 H
    clear H
    obtain⟨Ao28,co28,eo28⟩:=Kd.S_slice HO_12.out
    subst eo28
    have p425:0 ≤ (x7_1:Int):=oD
    have q425:x7_1 < (t422.length:Int):=oD
    obtain⟨ad425,A425_0,c425_0,e425,hx425_0,hl425_0,hi425_0⟩:=at_L4 (Kd.S_reads' HO_12.out).2.2 x7_1 p425 q425
    cases e425
    obtain⟨ce425,hce425,hMe425,hcc425⟩:=Kd.S_get HO_12.out [] x7_1 p425 (by first|exact q425|exact oD|(have e_:=(Kd.S_reads' HO_12.out).1;omega))
    obtain⟨ve425_0,rfl,ge425_0⟩:=hMe425
    have hv425_0:=hcc425 0 _ rfl
    rw [Nat.add_zero,show ((Kd.slice 3 (Kd.int .i64))).sz = 1 from rfl,Nat.mul_one] at hv425_0
    replace hv425_0:=Option.some.inj (hv425_0.symm.trans hx425_0)
    rw [hv425_0] at ge425_0
    have HL425_0:=mk0 (show Kd.R (Kd.int .i64) 3 _ _ _ _ (rd_L4 t422 x7_1) from ge425_0)
    clear hv425_0 ge425_0
    clear hcc425 hce425
    have HR425_0:=mk0 hi425_0
    have HC425_0:=mk0 hl425_0
    clear hi425_0 hl425_0
    replace p425:=eq_true p425
    replace q425:=eq_true q425
    have p426:0 ≤ (x8_1:Int):=oD
    have q426:x8_1 < ((rd_L4 t422 x7_1).length:Int):=oD
    obtain⟨ad426,e426,hx426_0⟩:=Kd.at_int (by repeat (first|(with_reducible exact HR425_0.out)|(with_reducible first|apply aC|apply nC|apply dC)|exact HR425_0.out|exact (Kd.V_reads' HL425_0.out).2.2)) x8_1 p426 q426
    cases e426
    replace p426:=eq_true p426
    replace q426:=eq_true q426
    obtain⟨i029,hi029,_,hsz29,_⟩:=info_parts info3
    obtain⟨A29,hcut29,hA29,hC29⟩:=print_drop_of (P:=Try.prog) (Value.int .i64) 0 45 3 .i64 Try.underlying45 hi029 hsz29 A1 c1 l1 x8_1 (oD) (oD) HC1.out
    have HR427:=mk0 (Kd.C_of_reads (h1:=fun _=>rfl) (hA29 _ (Kd.reads_of_C HR1.out)))
    have HC427:=mk0 hC29
    clear hA29 hC29 hi029 hsz29
    have p428:0 ≤ (x7_1:Int):=oD
    have q428:x7_1 < (l0.length:Int):=oD
    obtain⟨ad428,e428,hx428_0⟩:=Kd.at_int HR0.out x7_1 p428 q428
    cases e428
    replace hx428_0:=(HB.out.cell (World.block_lt_of_cell? w _ hx428_0)).trans hx428_0
    replace p428:=eq_true p428
    replace q428:=eq_true q428
    go_wp2_with (first|(go_at_call 91;refine calls_of_args (args':=#[.slice A29 (l1.drop (x8_1:Int).toNat).length (c1 - x8_1.toNat),.int .i64 (rd l0 x7_1)]) (by first|(rw [show (l1.drop (x8_1:Int).toNat).length = (l1.length - x8_1.toNat) from List.length_drop] <;> rfl)|rfl|(simp only [List.length_drop,List.length_take];done)|(simp only [List.length_drop,List.length_take];rfl)) ?_;(with_reducible refine (slices_Index_int_int.calls k1 _ _ (l1.drop (x8_1:Int).toNat) (rd l0 x7_1) t429 _ ?side1 ?side2 A13.out).mono ?_);(case side1=>exact kC (Kd.C_below HR427.out HB.out));(case side2=>exact HC427.out);rintro e w' ⟨rfl,⟨nd,rfl⟩⟩;(try first|exact⟨rfl,_,World.drewN_drewN _ _ _⟩|exact⟨rfl,_,Eq.trans (World.drewN_drewN _ _ _) (congrArg (World.drewN _) (Nat.add_assoc _ _ _))⟩)))
    repeat (go_quiet (first|(go_at_call 91;refine calls_of_args (args':=#[.slice A29 (l1.drop (x8_1:Int).toNat).length (c1 - x8_1.toNat),.int .i64 (rd l0 x7_1)]) (by first|(rw [show (l1.drop (x8_1:Int).toNat).length = (l1.length - x8_1.toNat) from List.length_drop] <;> rfl)|rfl|(simp only [List.length_drop,List.length_take];done)|(simp only [List.length_drop,List.length_take];rfl)) ?_;(with_reducible refine (slices_Index_int_int.calls k1 _ _ (l1.drop (x8_1:Int).toNat) (rd l0 x7_1) t429 _ ?side1 ?side2 A13.out).mono ?_);(case side1=>exact kC (Kd.C_below HR427.out HB.out));(case side2=>exact HC427.out);rintro e w' ⟨rfl,⟨nd,rfl⟩⟩;(try first|exact⟨rfl,_,World.drewN_drewN _ _ _⟩|exact⟨rfl,_,Eq.trans (World.drewN_drewN _ _ _) (congrArg (World.drewN _) (Nat.add_assoc _ _ _))⟩)));try go_wp2_with (first|(go_at_call 91;refine calls_of_args (args':=#[.slice A29 (l1.drop (x8_1:Int).toNat).length (c1 - x8_1.toNat),.int .i64 (rd l0 x7_1)]) (by first|(rw [show (l1.drop (x8_1:Int).toNat).length = (l1.length - x8_1.toNat) from List.length_drop] <;> rfl)|rfl|(simp only [List.length_drop,List.length_take];done)|(simp only [List.length_drop,List.length_take];rfl)) ?_;(with_reducible refine (slices_Index_int_int.calls k1 _ _ (l1.drop (x8_1:Int).toNat) (rd l0 x7_1) t429 _ ?side1 ?side2 A13.out).mono ?_);(case side1=>exact kC (Kd.C_below HR427.out HB.out));(case side2=>exact HC427.out);rintro e w' ⟨rfl,⟨nd,rfl⟩⟩;(try first|exact⟨rfl,_,World.drewN_drewN _ _ _⟩|exact⟨rfl,_,Eq.trans (World.drewN_drewN _ _ _) (congrArg (World.drewN _) (Nat.add_assoc _ _ _))⟩))))
    go_roundg k1
    case measure=>have:=HK1.out;omega
    case rel=>exact⟨(x6_1),(wrap64 (x7_1 + 1)),(x8_1),eS,eS,H',⟨by have:=HK1.out;omega⟩,⟨rR HO_6.out⟩,⟨rS HO_12.out⟩,⟨kB HB.out⟩⟩
   rw [if_pos c14] at H
   have c14b0:decide (0 ≤ t429) = true:=decide_eq_true c14
   clear c14
   obtain⟨ji15,hji15⟩:∃ j_:Int,(wrap64 (x7_1 + 1)) = j_:=⟨_,rfl⟩
   first|rw [hji15] at H|simp only [hji15] at H
   (try rw [hji15] at A13)
   have hji15w:(IntKind.i64.wrap (x7_1 + 1)) = ji15:=(i64_w _).trans hji15
   by_cases c16:0 ≤ (ji15)
   rotate_left
   ·rw [if_neg c16] at H
    exact nn H
   rw [if_pos c16] at H
   have c16b0:decide (0 ≤ (ji15)) = true:=decide_eq_true c16
   clear c16
   by_cases c17:(ji15) < (t422.length:Int)
   rotate_left
   ·rw [if_neg c17] at H
    exact nn H
   rw [if_pos c17] at H
   have c17b0:decide ((ji15) < (t422.length:Int)) = true:=decide_eq_true c17
   (try simp only [hl425_0] at c17b0)
   (try simp only [hl430_0] at c17b0)
   (try simp only [hl432_0] at c17b0)
   clear c17
   obtain⟨ji18,hji18⟩:∃ j_:Int,(wrap64 ((wrap64 (x8_1 + t429)) + 1)) = j_:=⟨_,rfl⟩
   first|rw [hji18] at H|simp only [hji18] at H
   (try rw [hji18] at A13)
   have hji18w:(IntKind.i64.wrap ((wrap64 (x8_1 + t429)) + 1)) = ji18:=(i64_w _).trans hji18
   by_cases c19:0 ≤ (ji18)
   rotate_left
   ·rw [if_neg c19] at H
    exact nn H
   rw [if_pos c19] at H
   have c19b0:decide (0 ≤ (ji18)) = true:=decide_eq_true c19
   clear c19
   by_cases c20:(ji18) < ((rd_L4 t422 (ji15)).length:Int)
   rotate_left
   ·rw [if_neg c20] at H
    exact nn H
   rw [if_pos c20] at H
   have c20b0:decide ((ji18) < ((rd_L4 t422 (ji15)).length:Int)) = true:=decide_eq_true c20
   (try simp only [hl425_0] at c20b0)
   (try simp only [hl430_0] at c20b0)
   (try simp only [hl432_0] at c20b0)
   clear c20
   by_cases c21:(wrap64 ((rd (rd_L4 t422 (ji15)) (ji18)) + 1)) = (rd (rd_L4 t422 x7_1) x8_1)
   rotate_left
   ·rw [if_neg c21] at H
    have c21b0:((wrap64 ((rd (rd_L4 t422 (ji15)) (ji18)) + 1)) == (rd (rd_L4 t422 x7_1) x8_1)) = false:=beq_eq_false_iff_ne.mpr c21
    have c21b1:((wrap64 ((rd (rd_L4 t422 (ji15)) (ji18)) + 1)) != (rd (rd_L4 t422 x7_1) x8_1)) = true:=bne_iff_ne.mpr c21
    have H':=mk0 H
    clear H
    obtain⟨Ao26,co26,eo26⟩:=Kd.S_slice HO_12.out
    subst eo26
    have p425:0 ≤ (x7_1:Int):=oD
    have q425:x7_1 < (t422.length:Int):=oD
    obtain⟨ad425,A425_0,c425_0,e425,hx425_0,hl425_0,hi425_0⟩:=at_L4 (Kd.S_reads' HO_12.out).2.2 x7_1 p425 q425
    cases e425
    obtain⟨ce425,hce425,hMe425,hcc425⟩:=Kd.S_get HO_12.out [] x7_1 p425 (by first|exact q425|exact oD|(have e_:=(Kd.S_reads' HO_12.out).1;omega))
    obtain⟨ve425_0,rfl,ge425_0⟩:=hMe425
    have hv425_0:=hcc425 0 _ rfl
    rw [Nat.add_zero,show ((Kd.slice 3 (Kd.int .i64))).sz = 1 from rfl,Nat.mul_one] at hv425_0
    replace hv425_0:=Option.some.inj (hv425_0.symm.trans hx425_0)
    rw [hv425_0] at ge425_0
    have HL425_0:=mk0 (show Kd.R (Kd.int .i64) 3 _ _ _ _ (rd_L4 t422 x7_1) from ge425_0)
    clear hv425_0 ge425_0
    clear hcc425 hce425
    have HR425_0:=mk0 hi425_0
    have HC425_0:=mk0 hl425_0
    clear hi425_0 hl425_0
    replace p425:=eq_true p425
    replace q425:=eq_true q425
    have p426:0 ≤ (x8_1:Int):=oD
    have q426:x8_1 < ((rd_L4 t422 x7_1).length:Int):=oD
    obtain⟨ad426,e426,hx426_0⟩:=Kd.at_int (by repeat (first|(with_reducible exact HR425_0.out)|(with_reducible first|apply aC|apply nC|apply dC)|exact HR425_0.out|exact (Kd.V_reads' HL425_0.out).2.2)) x8_1 p426 q426
    cases e426
    replace p426:=eq_true p426
    replace q426:=eq_true q426
    obtain⟨i027,hi027,_,hsz27,_⟩:=info_parts info3
    obtain⟨A27,hcut27,hA27,hC27⟩:=print_drop_of (P:=Try.prog) (Value.int .i64) 0 45 3 .i64 Try.underlying45 hi027 hsz27 A1 c1 l1 x8_1 (oD) (oD) HC1.out
    have HR427:=mk0 (Kd.C_of_reads (h1:=fun _=>rfl) (hA27 _ (Kd.reads_of_C HR1.out)))
    have HC427:=mk0 hC27
    clear hA27 hC27 hi027 hsz27
    have p428:0 ≤ (x7_1:Int):=oD
    have q428:x7_1 < (l0.length:Int):=oD
    obtain⟨ad428,e428,hx428_0⟩:=Kd.at_int HR0.out x7_1 p428 q428
    cases e428
    replace hx428_0:=(HB.out.cell (World.block_lt_of_cell? w _ hx428_0)).trans hx428_0
    replace p428:=eq_true p428
    replace q428:=eq_true q428
    go_wp2_with (first|(go_at_call 91;refine calls_of_args (args':=#[.slice A27 (l1.drop (x8_1:Int).toNat).length (c1 - x8_1.toNat),.int .i64 (rd l0 x7_1)]) (by first|(rw [show (l1.drop (x8_1:Int).toNat).length = (l1.length - x8_1.toNat) from List.length_drop] <;> rfl)|rfl|(simp only [List.length_drop,List.length_take];done)|(simp only [List.length_drop,List.length_take];rfl)) ?_;(with_reducible refine (slices_Index_int_int.calls k1 _ _ (l1.drop (x8_1:Int).toNat) (rd l0 x7_1) t429 _ ?side1 ?side2 A13.out).mono ?_);(case side1=>exact kC (Kd.C_below HR427.out HB.out));(case side2=>exact HC427.out);rintro e w' ⟨rfl,⟨nd,rfl⟩⟩;(try first|exact⟨rfl,_,World.drewN_drewN _ _ _⟩|exact⟨rfl,_,Eq.trans (World.drewN_drewN _ _ _) (congrArg (World.drewN _) (Nat.add_assoc _ _ _))⟩);have p430:0 ≤ ((ji15):Int):=oD;have q430:(ji15) < (t422.length:Int):=oD;obtain⟨ad430,A430_0,c430_0,e430,hx430_0,hl430_0,hi430_0⟩:=at_L4 (Kd.S_reads' HO_12.out).2.2 (ji15) p430 q430;obtain rfl:ad425 = ad430:=(by injection e430);obtain⟨ce430,hce430,hMe430,hcc430⟩:=Kd.S_get HO_12.out [] (ji15) p430 (by first|exact q430|exact oD|(have e_:=(Kd.S_reads' HO_12.out).1;omega));obtain⟨ve430_0,rfl,ge430_0⟩:=hMe430;have hv430_0:=hcc430 0 _ rfl;rw [Nat.add_zero,show ((Kd.slice 3 (Kd.int .i64))).sz = 1 from rfl,Nat.mul_one] at hv430_0;replace hv430_0:=Option.some.inj (hv430_0.symm.trans hx430_0);rw [hv430_0] at ge430_0;have HL430_0:=mk0 (show Kd.R (Kd.int .i64) 3 _ _ _ _ (rd_L4 t422 (ji15)) from ge430_0);clear hv430_0 ge430_0 hcc430 hce430;have HR430_0:=mk0 hi430_0;have HC430_0:=mk0 hl430_0;clear hi430_0 hl430_0;replace p430:=eq_true p430;replace q430:=eq_true q430;have p431:0 ≤ ((ji18):Int):=oD;have q431:(ji18) < ((rd_L4 t422 (ji15)).length:Int):=oD;obtain⟨ad431,e431,hx431_0⟩:=Kd.at_int (by repeat (first|(with_reducible exact HR430_0.out)|(with_reducible first|apply aC|apply nC|apply dC)|exact HR430_0.out|exact (Kd.V_reads' HL430_0.out).2.2)) (ji18) p431 q431;cases e431;replace p431:=eq_true p431;replace q431:=eq_true q431;have p432:0 ≤ (x7_1:Int):=oD;have q432:x7_1 < (t422.length:Int):=oD;obtain⟨ad432,A432_0,c432_0,e432,hx432_0,hl432_0,hi432_0⟩:=at_L4 (Kd.S_reads' HO_12.out).2.2 x7_1 p432 q432;obtain rfl:ad425 = ad432:=(by injection e432);obtain⟨ce432,hce432,hMe432,hcc432⟩:=Kd.S_get HO_12.out [] x7_1 p432 (by first|exact q432|exact oD|(have e_:=(Kd.S_reads' HO_12.out).1;omega));obtain⟨ve432_0,rfl,ge432_0⟩:=hMe432;have hv432_0:=hcc432 0 _ rfl;rw [Nat.add_zero,show ((Kd.slice 3 (Kd.int .i64))).sz = 1 from rfl,Nat.mul_one] at hv432_0;replace hv432_0:=Option.some.inj (hv432_0.symm.trans hx432_0);rw [hv432_0] at ge432_0;have HL432_0:=mk0 (show Kd.R (Kd.int .i64) 3 _ _ _ _ (rd_L4 t422 x7_1) from ge432_0);clear hv432_0 ge432_0 hcc432 hce432;have HR432_0:=mk0 hi432_0;have HC432_0:=mk0 hl432_0;clear hi432_0 hl432_0;replace p432:=eq_true p432;replace q432:=eq_true q432;have ea_:=Option.some.inj (hx425_0.symm.trans hx432_0);injection ea_ with ea_ en_ ec_;subst ea_;subst ec_;clear en_;have p433:0 ≤ (x8_1:Int):=oD;have q433:x8_1 < ((rd_L4 t422 x7_1).length:Int):=oD;obtain⟨ad433,e433,hx433_0⟩:=Kd.at_int (by repeat (first|(with_reducible exact HR432_0.out)|(with_reducible first|apply aC|apply nC|apply dC)|exact HR432_0.out|exact (Kd.V_reads' HL432_0.out).2.2)) x8_1 p433 q433;cases e433;replace p433:=eq_true p433;replace q433:=eq_true q433))
    repeat (go_quiet (first|(go_at_call 91;refine calls_of_args (args':=#[.slice A27 (l1.drop (x8_1:Int).toNat).length (c1 - x8_1.toNat),.int .i64 (rd l0 x7_1)]) (by first|(rw [show (l1.drop (x8_1:Int).toNat).length = (l1.length - x8_1.toNat) from List.length_drop] <;> rfl)|rfl|(simp only [List.length_drop,List.length_take];done)|(simp only [List.length_drop,List.length_take];rfl)) ?_;(with_reducible refine (slices_Index_int_int.calls k1 _ _ (l1.drop (x8_1:Int).toNat) (rd l0 x7_1) t429 _ ?side1 ?side2 A13.out).mono ?_);(case side1=>exact kC (Kd.C_below HR427.out HB.out));(case side2=>exact HC427.out);rintro e w' ⟨rfl,⟨nd,rfl⟩⟩;(try first|exact⟨rfl,_,World.drewN_drewN _ _ _⟩|exact⟨rfl,_,Eq.trans (World.drewN_drewN _ _ _) (congrArg (World.drewN _) (Nat.add_assoc _ _ _))⟩);have p430:0 ≤ ((ji15):Int):=oD;have q430:(ji15) < (t422.length:Int):=oD;obtain⟨ad430,A430_0,c430_0,e430,hx430_0,hl430_0,hi430_0⟩:=at_L4 (Kd.S_reads' HO_12.out).2.2 (ji15) p430 q430;obtain rfl:ad425 = ad430:=(by injection e430);obtain⟨ce430,hce430,hMe430,hcc430⟩:=Kd.S_get HO_12.out [] (ji15) p430 (by first|exact q430|exact oD|(have e_:=(Kd.S_reads' HO_12.out).1;omega));obtain⟨ve430_0,rfl,ge430_0⟩:=hMe430;have hv430_0:=hcc430 0 _ rfl;rw [Nat.add_zero,show ((Kd.slice 3 (Kd.int .i64))).sz = 1 from rfl,Nat.mul_one] at hv430_0;replace hv430_0:=Option.some.inj (hv430_0.symm.trans hx430_0);rw [hv430_0] at ge430_0;have HL430_0:=mk0 (show Kd.R (Kd.int .i64) 3 _ _ _ _ (rd_L4 t422 (ji15)) from ge430_0);clear hv430_0 ge430_0 hcc430 hce430;have HR430_0:=mk0 hi430_0;have HC430_0:=mk0 hl430_0;clear hi430_0 hl430_0;replace p430:=eq_true p430;replace q430:=eq_true q430;have p431:0 ≤ ((ji18):Int):=oD;have q431:(ji18) < ((rd_L4 t422 (ji15)).length:Int):=oD;obtain⟨ad431,e431,hx431_0⟩:=Kd.at_int (by repeat (first|(with_reducible exact HR430_0.out)|(with_reducible first|apply aC|apply nC|apply dC)|exact HR430_0.out|exact (Kd.V_reads' HL430_0.out).2.2)) (ji18) p431 q431;cases e431;replace p431:=eq_true p431;replace q431:=eq_true q431;have p432:0 ≤ (x7_1:Int):=oD;have q432:x7_1 < (t422.length:Int):=oD;obtain⟨ad432,A432_0,c432_0,e432,hx432_0,hl432_0,hi432_0⟩:=at_L4 (Kd.S_reads' HO_12.out).2.2 x7_1 p432 q432;obtain rfl:ad425 = ad432:=(by injection e432);obtain⟨ce432,hce432,hMe432,hcc432⟩:=Kd.S_get HO_12.out [] x7_1 p432 (by first|exact q432|exact oD|(have e_:=(Kd.S_reads' HO_12.out).1;omega));obtain⟨ve432_0,rfl,ge432_0⟩:=hMe432;have hv432_0:=hcc432 0 _ rfl;rw [Nat.add_zero,show ((Kd.slice 3 (Kd.int .i64))).sz = 1 from rfl,Nat.mul_one] at hv432_0;replace hv432_0:=Option.some.inj (hv432_0.symm.trans hx432_0);rw [hv432_0] at ge432_0;have HL432_0:=mk0 (show Kd.R (Kd.int .i64) 3 _ _ _ _ (rd_L4 t422 x7_1) from ge432_0);clear hv432_0 ge432_0 hcc432 hce432;have HR432_0:=mk0 hi432_0;have HC432_0:=mk0 hl432_0;clear hi432_0 hl432_0;replace p432:=eq_true p432;replace q432:=eq_true q432;have ea_:=Option.some.inj (hx425_0.symm.trans hx432_0);injection ea_ with ea_ en_ ec_;subst ea_;subst ec_;clear en_;have p433:0 ≤ (x8_1:Int):=oD;have q433:x8_1 < ((rd_L4 t422 x7_1).length:Int):=oD;obtain⟨ad433,e433,hx433_0⟩:=Kd.at_int (by repeat (first|(with_reducible exact HR432_0.out)|(with_reducible first|apply aC|apply nC|apply dC)|exact HR432_0.out|exact (Kd.V_reads' HL432_0.out).2.2)) x8_1 p433 q433;cases e433;replace p433:=eq_true p433;replace q433:=eq_true q433));try go_wp2_with (first|(go_at_call 91;refine calls_of_args (args':=#[.slice A27 (l1.drop (x8_1:Int).toNat).length (c1 - x8_1.toNat),.int .i64 (rd l0 x7_1)]) (by first|(rw [show (l1.drop (x8_1:Int).toNat).length = (l1.length - x8_1.toNat) from List.length_drop] <;> rfl)|rfl|(simp only [List.length_drop,List.length_take];done)|(simp only [List.length_drop,List.length_take];rfl)) ?_;(with_reducible refine (slices_Index_int_int.calls k1 _ _ (l1.drop (x8_1:Int).toNat) (rd l0 x7_1) t429 _ ?side1 ?side2 A13.out).mono ?_);(case side1=>exact kC (Kd.C_below HR427.out HB.out));(case side2=>exact HC427.out);rintro e w' ⟨rfl,⟨nd,rfl⟩⟩;(try first|exact⟨rfl,_,World.drewN_drewN _ _ _⟩|exact⟨rfl,_,Eq.trans (World.drewN_drewN _ _ _) (congrArg (World.drewN _) (Nat.add_assoc _ _ _))⟩);have p430:0 ≤ ((ji15):Int):=oD;have q430:(ji15) < (t422.length:Int):=oD;obtain⟨ad430,A430_0,c430_0,e430,hx430_0,hl430_0,hi430_0⟩:=at_L4 (Kd.S_reads' HO_12.out).2.2 (ji15) p430 q430;obtain rfl:ad425 = ad430:=(by injection e430);obtain⟨ce430,hce430,hMe430,hcc430⟩:=Kd.S_get HO_12.out [] (ji15) p430 (by first|exact q430|exact oD|(have e_:=(Kd.S_reads' HO_12.out).1;omega));obtain⟨ve430_0,rfl,ge430_0⟩:=hMe430;have hv430_0:=hcc430 0 _ rfl;rw [Nat.add_zero,show ((Kd.slice 3 (Kd.int .i64))).sz = 1 from rfl,Nat.mul_one] at hv430_0;replace hv430_0:=Option.some.inj (hv430_0.symm.trans hx430_0);rw [hv430_0] at ge430_0;have HL430_0:=mk0 (show Kd.R (Kd.int .i64) 3 _ _ _ _ (rd_L4 t422 (ji15)) from ge430_0);clear hv430_0 ge430_0 hcc430 hce430;have HR430_0:=mk0 hi430_0;have HC430_0:=mk0 hl430_0;clear hi430_0 hl430_0;replace p430:=eq_true p430;replace q430:=eq_true q430;have p431:0 ≤ ((ji18):Int):=oD;have q431:(ji18) < ((rd_L4 t422 (ji15)).length:Int):=oD;obtain⟨ad431,e431,hx431_0⟩:=Kd.at_int (by repeat (first|(with_reducible exact HR430_0.out)|(with_reducible first|apply aC|apply nC|apply dC)|exact HR430_0.out|exact (Kd.V_reads' HL430_0.out).2.2)) (ji18) p431 q431;cases e431;replace p431:=eq_true p431;replace q431:=eq_true q431;have p432:0 ≤ (x7_1:Int):=oD;have q432:x7_1 < (t422.length:Int):=oD;obtain⟨ad432,A432_0,c432_0,e432,hx432_0,hl432_0,hi432_0⟩:=at_L4 (Kd.S_reads' HO_12.out).2.2 x7_1 p432 q432;obtain rfl:ad425 = ad432:=(by injection e432);obtain⟨ce432,hce432,hMe432,hcc432⟩:=Kd.S_get HO_12.out [] x7_1 p432 (by first|exact q432|exact oD|(have e_:=(Kd.S_reads' HO_12.out).1;omega));obtain⟨ve432_0,rfl,ge432_0⟩:=hMe432;have hv432_0:=hcc432 0 _ rfl;rw [Nat.add_zero,show ((Kd.slice 3 (Kd.int .i64))).sz = 1 from rfl,Nat.mul_one] at hv432_0;replace hv432_0:=Option.some.inj (hv432_0.symm.trans hx432_0);rw [hv432_0] at ge432_0;have HL432_0:=mk0 (show Kd.R (Kd.int .i64) 3 _ _ _ _ (rd_L4 t422 x7_1) from ge432_0);clear hv432_0 ge432_0 hcc432 hce432;have HR432_0:=mk0 hi432_0;have HC432_0:=mk0 hl432_0;clear hi432_0 hl432_0;replace p432:=eq_true p432;replace q432:=eq_true q432;have ea_:=Option.some.inj (hx425_0.symm.trans hx432_0);injection ea_ with ea_ en_ ec_;subst ea_;subst ec_;clear en_;have p433:0 ≤ (x8_1:Int):=oD;have q433:x8_1 < ((rd_L4 t422 x7_1).length:Int):=oD;obtain⟨ad433,e433,hx433_0⟩:=Kd.at_int (by repeat (first|(with_reducible exact HR432_0.out)|(with_reducible first|apply aC|apply nC|apply dC)|exact HR432_0.out|exact (Kd.V_reads' HL432_0.out).2.2)) x8_1 p433 q433;cases e433;replace p433:=eq_true p433;replace q433:=eq_true q433)))
    go_roundg k1
    case measure=>have:=HK1.out;omega
    case rel=>exact⟨(x6_1),(ji15),(x8_1),(by first|rfl|(simp;done)|(simp only [← hji15] <;> (first|rfl|simp))|(simp [*];done)),eS,H',⟨by have:=HK1.out;omega⟩,⟨rR HO_6.out⟩,⟨rS HO_12.out⟩,⟨kB HB.out⟩⟩
   rw [if_pos c21] at H
   have c21b0:((wrap64 ((rd (rd_L4 t422 (ji15)) (ji18)) + 1)) == (rd (rd_L4 t422 x7_1) x8_1)) = true:=beq_iff_eq.mpr c21
   have c21b1:((wrap64 ((rd (rd_L4 t422 (ji15)) (ji18)) + 1)) != (rd (rd_L4 t422 x7_1) x8_1)) = false:=bne_eq_false_iff_eq.mpr c21
   clear c21
   by_cases c22:x6_1.length < 8796093022208
   rotate_left
   ·rw [if_neg c22] at H
    exact nn H
   rw [if_pos c22] at H
   have LMc22:=mk0 c22
   clear c22
   obtain⟨y434,hy434⟩:∃ y_:List (S56),y_ = (x6_1 ++ [(⟨x7_1,wrap64 (x8_1 + t429)⟩:S56)]):=⟨_,rfl⟩
   first|(with_reducible replace H:=yB hy434 H)|rw [← hy434] at H|skip
   have Ny434:=mk0 hy434
   clear hy434
   have H':=mk0 H
   clear H
   obtain⟨Ao23,co23,eo23⟩:=Kd.S_slice HO_12.out
   subst eo23
   have p425:0 ≤ (x7_1:Int):=oD
   have q425:x7_1 < (t422.length:Int):=oD
   obtain⟨ad425,A425_0,c425_0,e425,hx425_0,hl425_0,hi425_0⟩:=at_L4 (Kd.S_reads' HO_12.out).2.2 x7_1 p425 q425
   cases e425
   obtain⟨ce425,hce425,hMe425,hcc425⟩:=Kd.S_get HO_12.out [] x7_1 p425 (by first|exact q425|exact oD|(have e_:=(Kd.S_reads' HO_12.out).1;omega))
   obtain⟨ve425_0,rfl,ge425_0⟩:=hMe425
   have hv425_0:=hcc425 0 _ rfl
   rw [Nat.add_zero,show ((Kd.slice 3 (Kd.int .i64))).sz = 1 from rfl,Nat.mul_one] at hv425_0
   replace hv425_0:=Option.some.inj (hv425_0.symm.trans hx425_0)
   rw [hv425_0] at ge425_0
   have HL425_0:=mk0 (show Kd.R (Kd.int .i64) 3 _ _ _ _ (rd_L4 t422 x7_1) from ge425_0)
   clear hv425_0 ge425_0
   clear hcc425 hce425
   have HR425_0:=mk0 hi425_0
   have HC425_0:=mk0 hl425_0
   clear hi425_0 hl425_0
   replace p425:=eq_true p425
   replace q425:=eq_true q425
   have p426:0 ≤ (x8_1:Int):=oD
   have q426:x8_1 < ((rd_L4 t422 x7_1).length:Int):=oD
   obtain⟨ad426,e426,hx426_0⟩:=Kd.at_int (by repeat (first|(with_reducible exact HR425_0.out)|(with_reducible first|apply aC|apply nC|apply dC)|exact HR425_0.out|exact (Kd.V_reads' HL425_0.out).2.2)) x8_1 p426 q426
   cases e426
   replace p426:=eq_true p426
   replace q426:=eq_true q426
   obtain⟨i024,hi024,_,hsz24,_⟩:=info_parts info3
   obtain⟨A24,hcut24,hA24,hC24⟩:=print_drop_of (P:=Try.prog) (Value.int .i64) 0 45 3 .i64 Try.underlying45 hi024 hsz24 A1 c1 l1 x8_1 (oD) (oD) HC1.out
   have HR427:=mk0 (Kd.C_of_reads (h1:=fun _=>rfl) (hA24 _ (Kd.reads_of_C HR1.out)))
   have HC427:=mk0 hC24
   clear hA24 hC24 hi024 hsz24
   have p428:0 ≤ (x7_1:Int):=oD
   have q428:x7_1 < (l0.length:Int):=oD
   obtain⟨ad428,e428,hx428_0⟩:=Kd.at_int HR0.out x7_1 p428 q428
   cases e428
   replace hx428_0:=(HB.out.cell (World.block_lt_of_cell? w _ hx428_0)).trans hx428_0
   replace p428:=eq_true p428
   replace q428:=eq_true q428
   go_wp2_with (first|(go_at_call 91;refine calls_of_args (args':=#[.slice A24 (l1.drop (x8_1:Int).toNat).length (c1 - x8_1.toNat),.int .i64 (rd l0 x7_1)]) (by first|(rw [show (l1.drop (x8_1:Int).toNat).length = (l1.length - x8_1.toNat) from List.length_drop] <;> rfl)|rfl|(simp only [List.length_drop,List.length_take];done)|(simp only [List.length_drop,List.length_take];rfl)) ?_;(with_reducible refine (slices_Index_int_int.calls k1 _ _ (l1.drop (x8_1:Int).toNat) (rd l0 x7_1) t429 _ ?side1 ?side2 A13.out).mono ?_);(case side1=>exact kC (Kd.C_below HR427.out HB.out));(case side2=>exact HC427.out);rintro e w' ⟨rfl,⟨nd,rfl⟩⟩;(try first|exact⟨rfl,_,World.drewN_drewN _ _ _⟩|exact⟨rfl,_,Eq.trans (World.drewN_drewN _ _ _) (congrArg (World.drewN _) (Nat.add_assoc _ _ _))⟩);have p430:0 ≤ ((ji15):Int):=oD;have q430:(ji15) < (t422.length:Int):=oD;obtain⟨ad430,A430_0,c430_0,e430,hx430_0,hl430_0,hi430_0⟩:=at_L4 (Kd.S_reads' HO_12.out).2.2 (ji15) p430 q430;obtain rfl:ad425 = ad430:=(by injection e430);obtain⟨ce430,hce430,hMe430,hcc430⟩:=Kd.S_get HO_12.out [] (ji15) p430 (by first|exact q430|exact oD|(have e_:=(Kd.S_reads' HO_12.out).1;omega));obtain⟨ve430_0,rfl,ge430_0⟩:=hMe430;have hv430_0:=hcc430 0 _ rfl;rw [Nat.add_zero,show ((Kd.slice 3 (Kd.int .i64))).sz = 1 from rfl,Nat.mul_one] at hv430_0;replace hv430_0:=Option.some.inj (hv430_0.symm.trans hx430_0);rw [hv430_0] at ge430_0;have HL430_0:=mk0 (show Kd.R (Kd.int .i64) 3 _ _ _ _ (rd_L4 t422 (ji15)) from ge430_0);clear hv430_0 ge430_0 hcc430 hce430;have HR430_0:=mk0 hi430_0;have HC430_0:=mk0 hl430_0;clear hi430_0 hl430_0;replace p430:=eq_true p430;replace q430:=eq_true q430;have p431:0 ≤ ((ji18):Int):=oD;have q431:(ji18) < ((rd_L4 t422 (ji15)).length:Int):=oD;obtain⟨ad431,e431,hx431_0⟩:=Kd.at_int (by repeat (first|(with_reducible exact HR430_0.out)|(with_reducible first|apply aC|apply nC|apply dC)|exact HR430_0.out|exact (Kd.V_reads' HL430_0.out).2.2)) (ji18) p431 q431;cases e431;replace p431:=eq_true p431;replace q431:=eq_true q431;have p432:0 ≤ (x7_1:Int):=oD;have q432:x7_1 < (t422.length:Int):=oD;obtain⟨ad432,A432_0,c432_0,e432,hx432_0,hl432_0,hi432_0⟩:=at_L4 (Kd.S_reads' HO_12.out).2.2 x7_1 p432 q432;obtain rfl:ad425 = ad432:=(by injection e432);obtain⟨ce432,hce432,hMe432,hcc432⟩:=Kd.S_get HO_12.out [] x7_1 p432 (by first|exact q432|exact oD|(have e_:=(Kd.S_reads' HO_12.out).1;omega));obtain⟨ve432_0,rfl,ge432_0⟩:=hMe432;have hv432_0:=hcc432 0 _ rfl;rw [Nat.add_zero,show ((Kd.slice 3 (Kd.int .i64))).sz = 1 from rfl,Nat.mul_one] at hv432_0;replace hv432_0:=Option.some.inj (hv432_0.symm.trans hx432_0);rw [hv432_0] at ge432_0;have HL432_0:=mk0 (show Kd.R (Kd.int .i64) 3 _ _ _ _ (rd_L4 t422 x7_1) from ge432_0);clear hv432_0 ge432_0 hcc432 hce432;have HR432_0:=mk0 hi432_0;have HC432_0:=mk0 hl432_0;clear hi432_0 hl432_0;replace p432:=eq_true p432;replace q432:=eq_true q432;have ea_:=Option.some.inj (hx425_0.symm.trans hx432_0);injection ea_ with ea_ en_ ec_;subst ea_;subst ec_;clear en_;have p433:0 ≤ (x8_1:Int):=oD;have q433:x8_1 < ((rd_L4 t422 x7_1).length:Int):=oD;obtain⟨ad433,e433,hx433_0⟩:=Kd.at_int (by repeat (first|(with_reducible exact HR432_0.out)|(with_reducible first|apply aC|apply nC|apply dC)|exact HR432_0.out|exact (Kd.V_reads' HL432_0.out).2.2)) x8_1 p433 q433;cases e433;replace p433:=eq_true p433;replace q433:=eq_true q433)|((with_reducible refine gate_builtin (b:=.append) (xs:=#[.tmp 55,.tmp 61]) rfl ?_);at_builtin;refine Kd.R_append k56 (w0:=w) w.heap.size rfl (.tmp 55) (.tmp 61) 27 56 (.agg #[(.int .i64 0),(.int .i64 0)]) 16 rfl Try.underlying27 info56 rfl (by decide) (by omega) u6 x6_1 (⟨x7_1,wrap64 (x8_1 + t429)⟩:S56) [.int .i64 x7_1,.int .i64 (wrap64 (x8_1 + t429))] (fun _=>True) (fun _=>False) rfl rfl ?aP (fun _ hk=>hk.elim) ?aF ?aO ?aB ?aS ?aL ?_;(case aP=>exact k56_mkM _ _ _ (⟨x7_1,wrap64 (x8_1 + t429)⟩:S56));(case aB=>exact (kB HB.out));(case aF=>exact (fun _ _=>trivial));(case aO=>exact (rR HO_6.out));(case aS=>exact (kZ HB.out));(case aL=>have:=LMc22.out;omega);intro v435 w25 ho hb hg hat;rw [← Ny434.out] at ho;replace HO_12:=mk0 (Kd.S_over' (rS HO_12.out) (Kd.R_typed (rR HO_6.out)) (by decide) hg);replace HL425_0:=mk0 (Kd.R_over' (rR HL425_0.out) (Kd.R_typed (rR HO_6.out)) (by decide) hg);replace HL430_0:=mk0 (Kd.R_over' (rR HL430_0.out) (Kd.R_typed (rR HO_6.out)) (by decide) hg);replace HL432_0:=mk0 (Kd.R_over' (rR HL432_0.out) (Kd.R_typed (rR HO_6.out)) (by decide) hg);replace HB:=mk0 (hb);have HO436:=mk0 (ho);clear HO_6 ho hb hg hat))
   repeat (go_quiet (first|(go_at_call 91;refine calls_of_args (args':=#[.slice A24 (l1.drop (x8_1:Int).toNat).length (c1 - x8_1.toNat),.int .i64 (rd l0 x7_1)]) (by first|(rw [show (l1.drop (x8_1:Int).toNat).length = (l1.length - x8_1.toNat) from List.length_drop] <;> rfl)|rfl|(simp only [List.length_drop,List.length_take];done)|(simp only [List.length_drop,List.length_take];rfl)) ?_;(with_reducible refine (slices_Index_int_int.calls k1 _ _ (l1.drop (x8_1:Int).toNat) (rd l0 x7_1) t429 _ ?side1 ?side2 A13.out).mono ?_);(case side1=>exact kC (Kd.C_below HR427.out HB.out));(case side2=>exact HC427.out);rintro e w' ⟨rfl,⟨nd,rfl⟩⟩;(try first|exact⟨rfl,_,World.drewN_drewN _ _ _⟩|exact⟨rfl,_,Eq.trans (World.drewN_drewN _ _ _) (congrArg (World.drewN _) (Nat.add_assoc _ _ _))⟩);have p430:0 ≤ ((ji15):Int):=oD;have q430:(ji15) < (t422.length:Int):=oD;obtain⟨ad430,A430_0,c430_0,e430,hx430_0,hl430_0,hi430_0⟩:=at_L4 (Kd.S_reads' HO_12.out).2.2 (ji15) p430 q430;obtain rfl:ad425 = ad430:=(by injection e430);obtain⟨ce430,hce430,hMe430,hcc430⟩:=Kd.S_get HO_12.out [] (ji15) p430 (by first|exact q430|exact oD|(have e_:=(Kd.S_reads' HO_12.out).1;omega));obtain⟨ve430_0,rfl,ge430_0⟩:=hMe430;have hv430_0:=hcc430 0 _ rfl;rw [Nat.add_zero,show ((Kd.slice 3 (Kd.int .i64))).sz = 1 from rfl,Nat.mul_one] at hv430_0;replace hv430_0:=Option.some.inj (hv430_0.symm.trans hx430_0);rw [hv430_0] at ge430_0;have HL430_0:=mk0 (show Kd.R (Kd.int .i64) 3 _ _ _ _ (rd_L4 t422 (ji15)) from ge430_0);clear hv430_0 ge430_0 hcc430 hce430;have HR430_0:=mk0 hi430_0;have HC430_0:=mk0 hl430_0;clear hi430_0 hl430_0;replace p430:=eq_true p430;replace q430:=eq_true q430;have p431:0 ≤ ((ji18):Int):=oD;have q431:(ji18) < ((rd_L4 t422 (ji15)).length:Int):=oD;obtain⟨ad431,e431,hx431_0⟩:=Kd.at_int (by repeat (first|(with_reducible exact HR430_0.out)|(with_reducible first|apply aC|apply nC|apply dC)|exact HR430_0.out|exact (Kd.V_reads' HL430_0.out).2.2)) (ji18) p431 q431;cases e431;replace p431:=eq_true p431;replace q431:=eq_true q431;have p432:0 ≤ (x7_1:Int):=oD;have q432:x7_1 < (t422.length:Int):=oD;obtain⟨ad432,A432_0,c432_0,e432,hx432_0,hl432_0,hi432_0⟩:=at_L4 (Kd.S_reads' HO_12.out).2.2 x7_1 p432 q432;obtain rfl:ad425 = ad432:=(by injection e432);obtain⟨ce432,hce432,hMe432,hcc432⟩:=Kd.S_get HO_12.out [] x7_1 p432 (by first|exact q432|exact oD|(have e_:=(Kd.S_reads' HO_12.out).1;omega));obtain⟨ve432_0,rfl,ge432_0⟩:=hMe432;have hv432_0:=hcc432 0 _ rfl;rw [Nat.add_zero,show ((Kd.slice 3 (Kd.int .i64))).sz = 1 from rfl,Nat.mul_one] at hv432_0;replace hv432_0:=Option.some.inj (hv432_0.symm.trans hx432_0);rw [hv432_0] at ge432_0;have HL432_0:=mk0 (show Kd.R (Kd.int .i64) 3 _ _ _ _ (rd_L4 t422 x7_1) from ge432_0);clear hv432_0 ge432_0 hcc432 hce432;have HR432_0:=mk0 hi432_0;have HC432_0:=mk0 hl432_0;clear hi432_0 hl432_0;replace p432:=eq_true p432;replace q432:=eq_true q432;have ea_:=Option.some.inj (hx425_0.symm.trans hx432_0);injection ea_ with ea_ en_ ec_;subst ea_;subst ec_;clear en_;have p433:0 ≤ (x8_1:Int):=oD;have q433:x8_1 < ((rd_L4 t422 x7_1).length:Int):=oD;obtain⟨ad433,e433,hx433_0⟩:=Kd.at_int (by repeat (first|(with_reducible exact HR432_0.out)|(with_reducible first|apply aC|apply nC|apply dC)|exact HR432_0.out|exact (Kd.V_reads' HL432_0.out).2.2)) x8_1 p433 q433;cases e433;replace p433:=eq_true p433;replace q433:=eq_true q433)|((with_reducible refine gate_builtin (b:=.append) (xs:=#[.tmp 55,.tmp 61]) rfl ?_);at_builtin;refine Kd.R_append k56 (w0:=w) w.heap.size rfl (.tmp 55) (.tmp 61) 27 56 (.agg #[(.int .i64 0),(.int .i64 0)]) 16 rfl Try.underlying27 info56 rfl (by decide) (by omega) u6 x6_1 (⟨x7_1,wrap64 (x8_1 + t429)⟩:S56) [.int .i64 x7_1,.int .i64 (wrap64 (x8_1 + t429))] (fun _=>True) (fun _=>False) rfl rfl ?aP (fun _ hk=>hk.elim) ?aF ?aO ?aB ?aS ?aL ?_;(case aP=>exact k56_mkM _ _ _ (⟨x7_1,wrap64 (x8_1 + t429)⟩:S56));(case aB=>exact (kB HB.out));(case aF=>exact (fun _ _=>trivial));(case aO=>exact (rR HO_6.out));(case aS=>exact (kZ HB.out));(case aL=>have:=LMc22.out;omega);intro v435 w25 ho hb hg hat;rw [← Ny434.out] at ho;replace HO_12:=mk0 (Kd.S_over' (rS HO_12.out) (Kd.R_typed (rR HO_6.out)) (by decide) hg);replace HL425_0:=mk0 (Kd.R_over' (rR HL425_0.out) (Kd.R_typed (rR HO_6.out)) (by decide) hg);replace HL430_0:=mk0 (Kd.R_over' (rR HL430_0.out) (Kd.R_typed (rR HO_6.out)) (by decide) hg);replace HL432_0:=mk0 (Kd.R_over' (rR HL432_0.out) (Kd.R_typed (rR HO_6.out)) (by decide) hg);replace HB:=mk0 (hb);have HO436:=mk0 (ho);clear HO_6 ho hb hg hat));try go_wp2_with (first|(go_at_call 91;refine calls_of_args (args':=#[.slice A24 (l1.drop (x8_1:Int).toNat).length (c1 - x8_1.toNat),.int .i64 (rd l0 x7_1)]) (by first|(rw [show (l1.drop (x8_1:Int).toNat).length = (l1.length - x8_1.toNat) from List.length_drop] <;> rfl)|rfl|(simp only [List.length_drop,List.length_take];done)|(simp only [List.length_drop,List.length_take];rfl)) ?_;(with_reducible refine (slices_Index_int_int.calls k1 _ _ (l1.drop (x8_1:Int).toNat) (rd l0 x7_1) t429 _ ?side1 ?side2 A13.out).mono ?_);(case side1=>exact kC (Kd.C_below HR427.out HB.out));(case side2=>exact HC427.out);rintro e w' ⟨rfl,⟨nd,rfl⟩⟩;(try first|exact⟨rfl,_,World.drewN_drewN _ _ _⟩|exact⟨rfl,_,Eq.trans (World.drewN_drewN _ _ _) (congrArg (World.drewN _) (Nat.add_assoc _ _ _))⟩);have p430:0 ≤ ((ji15):Int):=oD;have q430:(ji15) < (t422.length:Int):=oD;obtain⟨ad430,A430_0,c430_0,e430,hx430_0,hl430_0,hi430_0⟩:=at_L4 (Kd.S_reads' HO_12.out).2.2 (ji15) p430 q430;obtain rfl:ad425 = ad430:=(by injection e430);obtain⟨ce430,hce430,hMe430,hcc430⟩:=Kd.S_get HO_12.out [] (ji15) p430 (by first|exact q430|exact oD|(have e_:=(Kd.S_reads' HO_12.out).1;omega));obtain⟨ve430_0,rfl,ge430_0⟩:=hMe430;have hv430_0:=hcc430 0 _ rfl;rw [Nat.add_zero,show ((Kd.slice 3 (Kd.int .i64))).sz = 1 from rfl,Nat.mul_one] at hv430_0;replace hv430_0:=Option.some.inj (hv430_0.symm.trans hx430_0);rw [hv430_0] at ge430_0;have HL430_0:=mk0 (show Kd.R (Kd.int .i64) 3 _ _ _ _ (rd_L4 t422 (ji15)) from ge430_0);clear hv430_0 ge430_0 hcc430 hce430;have HR430_0:=mk0 hi430_0;have HC430_0:=mk0 hl430_0;clear hi430_0 hl430_0;replace p430:=eq_true p430;replace q430:=eq_true q430;have p431:0 ≤ ((ji18):Int):=oD;have q431:(ji18) < ((rd_L4 t422 (ji15)).length:Int):=oD;obtain⟨ad431,e431,hx431_0⟩:=Kd.at_int (by repeat (first|(with_reducible exact HR430_0.out)|(with_reducible first|apply aC|apply nC|apply dC)|exact HR430_0.out|exact (Kd.V_reads' HL430_0.out).2.2)) (ji18) p431 q431;cases e431;replace p431:=eq_true p431;replace q431:=eq_true q431;have p432:0 ≤ (x7_1:Int):=oD;have q432:x7_1 < (t422.length:Int):=oD;obtain⟨ad432,A432_0,c432_0,e432,hx432_0,hl432_0,hi432_0⟩:=at_L4 (Kd.S_reads' HO_12.out).2.2 x7_1 p432 q432;obtain rfl:ad425 = ad432:=(by injection e432);obtain⟨ce432,hce432,hMe432,hcc432⟩:=Kd.S_get HO_12.out [] x7_1 p432 (by first|exact q432|exact oD|(have e_:=(Kd.S_reads' HO_12.out).1;omega));obtain⟨ve432_0,rfl,ge432_0⟩:=hMe432;have hv432_0:=hcc432 0 _ rfl;rw [Nat.add_zero,show ((Kd.slice 3 (Kd.int .i64))).sz = 1 from rfl,Nat.mul_one] at hv432_0;replace hv432_0:=Option.some.inj (hv432_0.symm.trans hx432_0);rw [hv432_0] at ge432_0;have HL432_0:=mk0 (show Kd.R (Kd.int .i64) 3 _ _ _ _ (rd_L4 t422 x7_1) from ge432_0);clear hv432_0 ge432_0 hcc432 hce432;have HR432_0:=mk0 hi432_0;have HC432_0:=mk0 hl432_0;clear hi432_0 hl432_0;replace p432:=eq_true p432;replace q432:=eq_true q432;have ea_:=Option.some.inj (hx425_0.symm.trans hx432_0);injection ea_ with ea_ en_ ec_;subst ea_;subst ec_;clear en_;have p433:0 ≤ (x8_1:Int):=oD;have q433:x8_1 < ((rd_L4 t422 x7_1).length:Int):=oD;obtain⟨ad433,e433,hx433_0⟩:=Kd.at_int (by repeat (first|(with_reducible exact HR432_0.out)|(with_reducible first|apply aC|apply nC|apply dC)|exact HR432_0.out|exact (Kd.V_reads' HL432_0.out).2.2)) x8_1 p433 q433;cases e433;replace p433:=eq_true p433;replace q433:=eq_true q433)|((with_reducible refine gate_builtin (b:=.append) (xs:=#[.tmp 55,.tmp 61]) rfl ?_);at_builtin;refine Kd.R_append k56 (w0:=w) w.heap.size rfl (.tmp 55) (.tmp 61) 27 56 (.agg #[(.int .i64 0),(.int .i64 0)]) 16 rfl Try.underlying27 info56 rfl (by decide) (by omega) u6 x6_1 (⟨x7_1,wrap64 (x8_1 + t429)⟩:S56) [.int .i64 x7_1,.int .i64 (wrap64 (x8_1 + t429))] (fun _=>True) (fun _=>False) rfl rfl ?aP (fun _ hk=>hk.elim) ?aF ?aO ?aB ?aS ?aL ?_;(case aP=>exact k56_mkM _ _ _ (⟨x7_1,wrap64 (x8_1 + t429)⟩:S56));(case aB=>exact (kB HB.out));(case aF=>exact (fun _ _=>trivial));(case aO=>exact (rR HO_6.out));(case aS=>exact (kZ HB.out));(case aL=>have:=LMc22.out;omega);intro v435 w25 ho hb hg hat;rw [← Ny434.out] at ho;replace HO_12:=mk0 (Kd.S_over' (rS HO_12.out) (Kd.R_typed (rR HO_6.out)) (by decide) hg);replace HL425_0:=mk0 (Kd.R_over' (rR HL425_0.out) (Kd.R_typed (rR HO_6.out)) (by decide) hg);replace HL430_0:=mk0 (Kd.R_over' (rR HL430_0.out) (Kd.R_typed (rR HO_6.out)) (by decide) hg);replace HL432_0:=mk0 (Kd.R_over' (rR HL432_0.out) (Kd.R_typed (rR HO_6.out)) (by decide) hg);replace HB:=mk0 (hb);have HO436:=mk0 (ho);clear HO_6 ho hb hg hat)))
   go_roundg k1
   case measure=>have:=HK1.out;omega
   case rel=>exact⟨(y434),(ji15),(wrap64 (x8_1 + (wrap64 (t429 + 1)))),(by first|rfl|(simp;done)|(simp only [← hji15] <;> (first|rfl|simp))|(simp [*];done)),eS,H',⟨by have:=HK1.out;omega⟩,⟨rR HO436.out⟩,⟨rS HO_12.out⟩,⟨kB HB.out⟩⟩
end Go.Proofs.Ytadhngelhognaaa.QFnShare
