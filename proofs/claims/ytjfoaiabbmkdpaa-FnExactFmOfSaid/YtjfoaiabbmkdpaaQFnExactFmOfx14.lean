-- A walk, made by walk.py, a program of this session's.
import Derived.Test.YtjfoaiabbmkdpaaQFnExactFmOfx0
namespace Go.Proofs.Ytjfoaiabbmkdpaa.QFnExactFmOf
open Go.RowKit Go.Proofs.YtjfoaiabbmkdpaaW.PrintWords Go.Proofs.YtjfoaiabbmkdpaaW.PrintLast Go.Proofs.YtjfoaiabbmkdpaaW.PrintMore
attribute [local go_sem] max2_int min2_int max_two min_two max_three min_three max_four min_four   -- for this text's walks alone
set_option linter.unusedVariables false
set_option linter.unusedSimpArgs false
/-! ### laws_heldIntS: function 35 -/
def laws_heldIntS.l0 : Nat → List Int → Int → Int → Option (Int)
 | 0, _, _, _ => none
 | k + 1, x0, x1, x5 => if x5 < (x0.length : Int) then (if 0 ≤ x5 then (if (rd x0 x5) = x1 then (laws_heldIntS.l0 k x0 (wrap64 (x1 + 1)) (wrap64 (x5 + 1))) else (none)) else (none)) else (some x1)
def laws_heldIntS.f (k : Nat) (l0 : List Int) (a1 : Int) : Option (Int) := laws_heldIntS.l0 k l0 a1 0
set_option maxHeartbeats 8000000 in
set_option maxRecDepth 100000 in
theorem laws_heldIntS.calls (k : Nat) (A0 : Option Addr) (c0 : Nat) (l0 : List Int) (a1 : Int) (r : Int) (w : World) (hr0 : Kd.C (Kd.int .i64) w A0 l0.length l0) (hc0 : l0.length ≤ c0) (h : laws_heldIntS.f k l0 a1 = some r) :
  Calls Try.prog 35 #[.slice A0 l0.length c0, .int .i64 a1] w fun e w' => e = .returned (.int .i64 r) ∧ Drawn0 w w' := by
 have HR0:=mk0 hr0
 have HC0:=mk0 hc0
 clear hr0 hc0
 have H:(laws_heldIntS.l0 k l0 a1 0) = some r:=h
 clear h
 have H':=mk0 H
 clear H
 go_enter Try.func35,Try.ntmps35
 go_wp2
 go_loopg [1,5] k (fun kq v1 v5 w'=>∃ (x1_1:Int) (x5_1:Int),v1 = .int .i64 x1_1 ∧ v5 = .int .i64 x5_1 ∧ Aside0 (laws_heldIntS.l0 kq l0 x1_1 x5_1 = some r) ∧ Aside0 (kq ≤ k) ∧ Drawn0 w w')
 case atStart=>exact⟨(a1),(0),eS,eS,H',⟨Nat.le_refl _⟩,by repeat (first|exact Drawn0.refl _|apply Drawn0.step)⟩
 case round =>
  clear H'
  try clear p2
  obtain⟨x1_1,x5_1,rfl,rfl,HA,HK1,⟨m1,rfl⟩⟩:=hrel
  cases gk with
  | zero=>exact absurd HA.out (by simp [laws_heldIntS.l0])
  | succ k1 =>
   have H:=HA.out
   clear HA
   simp only [laws_heldIntS.l0] at H
   by_cases c3:x5_1 < (l0.length:Int)
   ·rw [if_pos c3] at H
    have c3b0:decide (x5_1 < (l0.length:Int)) = true:=decide_eq_true c3
    clear c3
    by_cases c4:0 ≤ x5_1
    ·rw [if_pos c4] at H
     have c4b0:decide (0 ≤ x5_1) = true:=decide_eq_true c4
     clear c4
     by_cases c5:(rd l0 x5_1) = x1_1
     ·rw [if_pos c5] at H
      have c5b0:((rd l0 x5_1) == x1_1) = true:=beq_iff_eq.mpr c5
      have c5b1:((rd l0 x5_1) != x1_1) = false:=bne_eq_false_iff_eq.mpr c5
      clear c5
      have H':=mk0 H
      clear H
      have p556:0 ≤ (x5_1:Int):=oD
      have q556:x5_1 < (l0.length:Int):=oD
      obtain⟨ad556,e556,hx556_0⟩:=Kd.at_int HR0.out x5_1 p556 q556
      cases e556
      replace p556:=eq_true p556
      replace q556:=eq_true q556
      go_wp2
      go_roundg k1
      case measure=>have:=HK1.out;omega
      case rel=>exact⟨(wrap64 (x1_1 + 1)),(wrap64 (x5_1 + 1)),eS,eS,H',⟨by have:=HK1.out;omega⟩,by repeat (first|exact Drawn0.refl _|apply Drawn0.step)⟩
     ·rw [if_neg c5] at H
      exact nn H
    ·rw [if_neg c4] at H
     exact nn H
   ·rw [if_neg c3] at H
    have c3b0:decide (x5_1 < (l0.length:Int)) = false:=decide_eq_false c3
    clear c3
    obtain rfl:=Option.some.inj H
    go_wp2
    go_ret
    exact⟨by first|rfl|(simp;done)|(simp [*];done),by repeat (first|exact Drawn0.refl _|apply Drawn0.step)⟩
/-! ### laws_heldUint64S: function 56 -/
def laws_heldUint64S.l0 : Nat → List Int → Int → Int → Option (Int)
 | 0, _, _, _ => none
 | k + 1, x0, x1, x5 => if x5 < (x0.length : Int) then (if 0 ≤ x5 then (if (rd x0 x5) = (IntKind.u64.wrap (x1)) then (laws_heldUint64S.l0 k x0 (wrap64 (x1 + 1)) (wrap64 (x5 + 1))) else (none)) else (none)) else (some x1)
def laws_heldUint64S.f (k : Nat) (l0 : List Int) (a1 : Int) : Option (Int) := laws_heldUint64S.l0 k l0 a1 0
set_option maxHeartbeats 8000000 in
set_option maxRecDepth 100000 in
theorem laws_heldUint64S.calls (k : Nat) (A0 : Option Addr) (c0 : Nat) (l0 : List Int) (a1 : Int) (r : Int) (w : World) (hr0 : Kd.C (Kd.int .u64) w A0 l0.length l0) (hc0 : l0.length ≤ c0) (h : laws_heldUint64S.f k l0 a1 = some r) :
  Calls Try.prog 56 #[.slice A0 l0.length c0, .int .i64 a1] w fun e w' => e = .returned (.int .i64 r) ∧ Drawn0 w w' := by
 have HR0:=mk0 hr0
 have HC0:=mk0 hc0
 clear hr0 hc0
 have H:(laws_heldUint64S.l0 k l0 a1 0) = some r:=h
 clear h
 have H':=mk0 H
 clear H
 go_enter Try.func56,Try.ntmps56
 go_wp2
 go_loopg [1,5] k (fun kq v1 v5 w'=>∃ (x1_1:Int) (x5_1:Int),v1 = .int .i64 x1_1 ∧ v5 = .int .i64 x5_1 ∧ Aside0 (laws_heldUint64S.l0 kq l0 x1_1 x5_1 = some r) ∧ Aside0 (kq ≤ k) ∧ Drawn0 w w')
 case atStart=>exact⟨(a1),(0),eS,eS,H',⟨Nat.le_refl _⟩,by repeat (first|exact Drawn0.refl _|apply Drawn0.step)⟩
 case round =>
  clear H'
  try clear p2
  obtain⟨x1_1,x5_1,rfl,rfl,HA,HK1,⟨m1,rfl⟩⟩:=hrel
  cases gk with
  | zero=>exact absurd HA.out (by simp [laws_heldUint64S.l0])
  | succ k1 =>
   have H:=HA.out
   clear HA
   simp only [laws_heldUint64S.l0] at H
   by_cases c3:x5_1 < (l0.length:Int)
   ·rw [if_pos c3] at H
    have c3b0:decide (x5_1 < (l0.length:Int)) = true:=decide_eq_true c3
    clear c3
    by_cases c4:0 ≤ x5_1
    ·rw [if_pos c4] at H
     have c4b0:decide (0 ≤ x5_1) = true:=decide_eq_true c4
     clear c4
     by_cases c5:(rd l0 x5_1) = (IntKind.u64.wrap (x1_1))
     ·rw [if_pos c5] at H
      have c5b0:((rd l0 x5_1) == (IntKind.u64.wrap (x1_1))) = true:=beq_iff_eq.mpr c5
      have c5b1:((rd l0 x5_1) != (IntKind.u64.wrap (x1_1))) = false:=bne_eq_false_iff_eq.mpr c5
      clear c5
      have H':=mk0 H
      clear H
      have p557:0 ≤ (x5_1:Int):=oD
      have q557:x5_1 < (l0.length:Int):=oD
      obtain⟨ad557,e557,hx557_0⟩:=Kd.at_int HR0.out x5_1 p557 q557
      cases e557
      replace p557:=eq_true p557
      replace q557:=eq_true q557
      go_wp2
      go_roundg k1
      case measure=>have:=HK1.out;omega
      case rel=>exact⟨(wrap64 (x1_1 + 1)),(wrap64 (x5_1 + 1)),eS,eS,H',⟨by have:=HK1.out;omega⟩,by repeat (first|exact Drawn0.refl _|apply Drawn0.step)⟩
     ·rw [if_neg c5] at H
      exact nn H
    ·rw [if_neg c4] at H
     exact nn H
   ·rw [if_neg c3] at H
    have c3b0:decide (x5_1 < (l0.length:Int)) = false:=decide_eq_false c3
    clear c3
    obtain rfl:=Option.some.inj H
    go_wp2
    go_ret
    exact⟨by first|rfl|(simp;done)|(simp [*];done),by repeat (first|exact Drawn0.refl _|apply Drawn0.step)⟩
/-! ### laws_heldBitsS: function 55 -/
def laws_heldBitsS.l0 : Nat → List (S29) → Int → Int → Option (Int)
 | 0, _, _, _ => none
 | k + 1, x0, x1, x5 => if x5 < (x0.length : Int) then (if 0 ≤ x5 then (if ((rd_T29 x0 x5).f0) = x1 then ((laws_heldUint64S.f k ((rd_T29 x0 x5).f1) (wrap64 (x1 + 1))).bind fun t560 => (if t560 < 0 then (none) else (laws_heldBitsS.l0 k x0 t560 (wrap64 (x5 + 1))))) else (none)) else (none)) else (some x1)
def laws_heldBitsS.f (k : Nat) (l0 : List (S29)) (a1 : Int) : Option (Int) := laws_heldBitsS.l0 k l0 a1 0
set_option maxHeartbeats 8000000 in
set_option maxRecDepth 100000 in
theorem laws_heldBitsS.calls (k : Nat) (A0 : Option Addr) (c0 : Nat) (l0 : List (S29)) (a1 : Int) (r : Int) (w : World) (hr0 : Kd.C k29 w A0 l0.length l0) (hc0 : l0.length ≤ c0) (h : laws_heldBitsS.f k l0 a1 = some r) :
  Calls Try.prog 55 #[.slice A0 l0.length c0, .int .i64 a1] w fun e w' => e = .returned (.int .i64 r) ∧ Drawn0 w w' := by
 have HR0:=mk0 hr0
 have HC0:=mk0 hc0
 clear hr0 hc0
 have H:(laws_heldBitsS.l0 k l0 a1 0) = some r:=h
 clear h
 have H':=mk0 H
 clear H
 go_enter Try.func55,Try.ntmps55
 go_wp2
 go_loopg [1,5] k (fun kq v1 v5 w'=>∃ (x1_1:Int) (x5_1:Int),v1 = .int .i64 x1_1 ∧ v5 = .int .i64 x5_1 ∧ Aside0 (laws_heldBitsS.l0 kq l0 x1_1 x5_1 = some r) ∧ Aside0 (kq ≤ k) ∧ Drawn0 w w')
 case atStart=>exact⟨(a1),(0),eS,eS,H',⟨Nat.le_refl _⟩,by repeat (first|exact Drawn0.refl _|apply Drawn0.step)⟩
 case round =>
  clear H'
  try clear p2
  obtain⟨x1_1,x5_1,rfl,rfl,HA,HK1,⟨m1,rfl⟩⟩:=hrel
  cases gk with
  | zero=>exact absurd HA.out (by simp [laws_heldBitsS.l0])
  | succ k1 =>
   have H:=HA.out
   clear HA
   simp only [laws_heldBitsS.l0] at H
   by_cases c3:x5_1 < (l0.length:Int)
   ·rw [if_pos c3] at H
    have c3b0:decide (x5_1 < (l0.length:Int)) = true:=decide_eq_true c3
    (try simp only [hl558_1] at c3b0)
    (try simp only [hl559_1] at c3b0)
    clear c3
    by_cases c4:0 ≤ x5_1
    ·rw [if_pos c4] at H
     have c4b0:decide (0 ≤ x5_1) = true:=decide_eq_true c4
     clear c4
     by_cases c5:((rd_T29 l0 x5_1).f0) = x1_1
     ·rw [if_pos c5] at H
      have c5b0:(((rd_T29 l0 x5_1).f0) == x1_1) = true:=beq_iff_eq.mpr c5
      have c5b1:(((rd_T29 l0 x5_1).f0) != x1_1) = false:=bne_eq_false_iff_eq.mpr c5
      clear c5
      replace H:=bE H
      obtain⟨t560,A6,H⟩:=H
      by_cases c7:t560 < 0
      ·rw [if_pos c7] at H
       exact nn H
      ·rw [if_neg c7] at H
       have c7b0:decide (t560 < 0) = false:=decide_eq_false c7
       clear c7
       have H':=mk0 H
       clear H
       have p558:0 ≤ (x5_1:Int):=oD
       have q558:x5_1 < (l0.length:Int):=oD
       obtain⟨ad558,A558_1,c558_1,e558,hx558_0,hx558_1,hl558_1,hi558_1⟩:=at_T29 HR0.out x5_1 p558 q558
       cases e558
       have HR558_1:=mk0 hi558_1
       have HC558_1:=mk0 hl558_1
       clear hi558_1 hl558_1
       replace p558:=eq_true p558
       replace q558:=eq_true q558
       have p559:0 ≤ (x5_1:Int):=oD
       have q559:x5_1 < (l0.length:Int):=oD
       obtain⟨ad559,A559_1,c559_1,e559,hx559_0,hx559_1,hl559_1,hi559_1⟩:=at_T29 HR0.out x5_1 p559 q559
       obtain rfl:ad558 = ad559:=(by injection e559)
       have HR559_1:=mk0 hi559_1
       have HC559_1:=mk0 hl559_1
       clear hi559_1 hl559_1
       replace p559:=eq_true p559
       replace q559:=eq_true q559
       have ea_:=Option.some.inj (hx558_1.symm.trans hx559_1)
       injection ea_ with ea_ en_ ec_
       subst ea_
       subst ec_
       clear en_
       go_wp2_with (first|((with_reducible refine gate_callee (f:=56) rfl ?_);refine gL (some 27) Try.func56 #[.slice A558_1 ((rd_T29 l0 x5_1).f1).length c558_1,.int .i64 (wrap64 (x1_1 + 1))] ?_;(with_reducible refine (laws_heldUint64S.calls k1 _ _ ((rd_T29 l0 x5_1).f1) (wrap64 (x1_1 + 1)) t560 _ ?side1 ?side2 A6.out).mono ?_);(case side1=>exact kC HR559_1.out);(case side2=>exact HC559_1.out);rintro e w' ⟨rfl,⟨nd,rfl⟩⟩;refine⟨_,rfl,?_⟩))
       go_roundg k1
       case measure=>have:=HK1.out;omega
       case rel=>exact⟨(t560),(wrap64 (x5_1 + 1)),eS,eS,H',⟨by have:=HK1.out;omega⟩,by repeat (first|exact Drawn0.refl _|apply Drawn0.step)⟩
     ·rw [if_neg c5] at H
      exact nn H
    ·rw [if_neg c4] at H
     exact nn H
   ·rw [if_neg c3] at H
    have c3b0:decide (x5_1 < (l0.length:Int)) = false:=decide_eq_false c3
    (try simp only [hl558_1] at c3b0)
    (try simp only [hl559_1] at c3b0)
    clear c3
    obtain rfl:=Option.some.inj H
    go_wp2
    go_ret
    exact⟨by first|rfl|(simp;done)|(simp [*];done),by repeat (first|exact Drawn0.refl _|apply Drawn0.step)⟩
/-! ### laws_heldWave: function 34 -/
def laws_heldWave.f (k : Nat) (a0_0 : Int) (l0_1 : List Int) (l0_2 : List (S29)) (a1 : Int) : Option (Int) := (laws_heldIntS.f k l0_1 a1).bind fun t562 => (if t562 < 0 then (none) else ((laws_heldBitsS.f k l0_2 t562).bind fun t563 => (if t563 < 0 then (none) else (some t563))))
set_option maxHeartbeats 8000000 in
set_option maxRecDepth 100000 in
theorem laws_heldWave.calls (k : Nat) (a0_0 : Int) (A0_1 : Option Addr) (c0_1 : Nat) (l0_1 : List Int) (A0_2 : Option Addr) (c0_2 : Nat) (l0_2 : List (S29)) (a1 : Int) (r : Int) (w : World) (hr0_1 : Kd.C (Kd.int .i64) w A0_1 l0_1.length l0_1) (hc0_1 : l0_1.length ≤ c0_1) (hr0_2 : Kd.C k29 w A0_2 l0_2.length l0_2) (hc0_2 : l0_2.length ≤ c0_2) (h : laws_heldWave.f k a0_0 l0_1 l0_2 a1 = some r) :
  Calls Try.prog 34 #[.agg #[.int .i64 a0_0, .slice A0_1 l0_1.length c0_1, .slice A0_2 l0_2.length c0_2], .int .i64 a1] w fun e w' => e = .returned (.int .i64 r) ∧ Below w.heap.size w w' := by
 have hu26:=Try.underlying26
 have HR0_1:=mk0 hr0_1
 have HC0_1:=mk0 hc0_1
 clear hr0_1 hc0_1
 have HR0_2:=mk0 hr0_2
 have HC0_2:=mk0 hc0_2
 clear hr0_2 hc0_2
 have HB:=mk0 (Below.refl w.heap.size w)
 have H:((laws_heldIntS.f k l0_1 a1).bind fun t562=>(if t562 < 0 then (none) else ((laws_heldBitsS.f k l0_2 t562).bind fun t563=>(if t563 < 0 then (none) else (some t563))))) = some r:=h
 clear h
 replace H:=bE H
 obtain⟨t562,A3,H⟩:=H
 by_cases c4:t562 < 0
 ·rw [if_pos c4] at H
  exact nn H
 ·rw [if_neg c4] at H
  have c4b0:decide (t562 < 0) = false:=decide_eq_false c4
  clear c4
  replace H:=bE H
  obtain⟨t563,A5,H⟩:=H
  by_cases c6:t563 < 0
  ·rw [if_pos c6] at H
   exact nn H
  ·rw [if_neg c6] at H
   have c6b0:decide (t563 < 0) = false:=decide_eq_false c6
   clear c6
   obtain rfl:=Option.some.inj H
   go_enter Try.func34,Try.ntmps34
   go_wp2_with (first|((with_reducible refine gate_dst (N:=2) rfl ?_);refine box_event ?hg (N:=2) ?hd (cs:=#[.int .i64 a0_0,.slice A0_1 l0_1.length c0_1,.slice A0_2 l0_2.length c0_2]) (t:=26) ?hr ?_;(case hd=>rfl);(case hg=>rfl);(case hr=>first|(go_simp;done)|(go_simp;rfl));intro gb561 hg w7 hbox hb;have BK561:=mk0 (hbox);have GW561:=mk0 ((by rw [hg];exact (kZ HB.out):w.heap.size ≤ gb561));have GE561:=mk0 ((by rw [hg];exact (kZ HB.out):w.heap.size ≤ gb561));replace HB:=mk0 (kS HB.out hb);clear hb hbox hg;obtain⟨hcz8_0,hcz8_1,hcz8_2,hfz8_0,hfz8_1,hfz8_2⟩:=cz3 BK561.out)|((with_reducible refine gate_callee (f:=35) rfl ?_);refine gL (some 8) Try.func35 #[.slice A0_1 l0_1.length c0_1,.int .i64 a1] ?_;(with_reducible refine (laws_heldIntS.calls k _ _ l0_1 a1 t562 _ ?side1 ?side2 A3.out).mono ?_);(case side1=>exact kC (Kd.C_below HR0_1.out HB.out));(case side2=>exact HC0_1.out);rintro e w' ⟨rfl,⟨nd,rfl⟩⟩;refine⟨_,rfl,?_⟩)|((with_reducible refine gate_callee (f:=55) rfl ?_);refine gL (some 14) Try.func55 #[.slice A0_2 l0_2.length c0_2,.int .i64 t562] ?_;(with_reducible refine (laws_heldBitsS.calls k _ _ l0_2 t562 t563 _ ?side1 ?side2 A5.out).mono ?_);(case side1=>repeat (first|exact (Kd.C_below HR0_2.out (kB HB.out))|(with_reducible first|apply aC|apply nC|apply dC)));(case side2=>exact HC0_2.out);rintro e w' ⟨rfl,⟨nd,rfl⟩⟩;refine⟨_,rfl,?_⟩))
   go_ret
   exact⟨eR,kB HB.out⟩
/-! ### laws_heldBits: function 36 -/
def laws_heldBits.f (k : Nat) (a0_0 : Int) (l0_1 : List Int) (a1 : Int) : Option (Int) := (laws_heldUint64S.f k l0_1 a1).bind fun t565 => (if t565 < 0 then (none) else (some t565))
set_option maxHeartbeats 8000000 in
set_option maxRecDepth 100000 in
theorem laws_heldBits.calls (k : Nat) (a0_0 : Int) (A0_1 : Option Addr) (c0_1 : Nat) (l0_1 : List Int) (a1 : Int) (r : Int) (w : World) (hr0_1 : Kd.C (Kd.int .u64) w A0_1 l0_1.length l0_1) (hc0_1 : l0_1.length ≤ c0_1) (h : laws_heldBits.f k a0_0 l0_1 a1 = some r) :
  Calls Try.prog 36 #[.agg #[.int .i64 a0_0, .slice A0_1 l0_1.length c0_1], .int .i64 a1] w fun e w' => e = .returned (.int .i64 r) ∧ Below w.heap.size w w' := by
 have hu29:=Try.underlying29
 have HR0_1:=mk0 hr0_1
 have HC0_1:=mk0 hc0_1
 clear hr0_1 hc0_1
 have HB:=mk0 (Below.refl w.heap.size w)
 have H:((laws_heldUint64S.f k l0_1 a1).bind fun t565=>(if t565 < 0 then (none) else (some t565))) = some r:=h
 clear h
 replace H:=bE H
 obtain⟨t565,A3,H⟩:=H
 by_cases c4:t565 < 0
 ·rw [if_pos c4] at H
  exact nn H
 ·rw [if_neg c4] at H
  have c4b0:decide (t565 < 0) = false:=decide_eq_false c4
  clear c4
  obtain rfl:=Option.some.inj H
  go_enter Try.func36,Try.ntmps36
  go_wp2_with (first|((with_reducible refine gate_dst (N:=2) rfl ?_);refine box_event ?hg (N:=2) ?hd (cs:=#[.int .i64 a0_0,.slice A0_1 l0_1.length c0_1]) (t:=29) ?hr ?_;(case hd=>rfl);(case hg=>rfl);(case hr=>first|(go_simp;done)|(go_simp;rfl));intro gb564 hg w5 hbox hb;have BK564:=mk0 (hbox);have GW564:=mk0 ((by rw [hg];exact (kZ HB.out):w.heap.size ≤ gb564));have GE564:=mk0 ((by rw [hg];exact (kZ HB.out):w.heap.size ≤ gb564));replace HB:=mk0 (kS HB.out hb);clear hb hbox hg;obtain⟨hcz6_0,hcz6_1,hfz6_0,hfz6_1⟩:=cz2 BK564.out)|((with_reducible refine gate_callee (f:=56) rfl ?_);refine gL (some 8) Try.func56 #[.slice A0_1 l0_1.length c0_1,.int .i64 a1] ?_;(with_reducible refine (laws_heldUint64S.calls k _ _ l0_1 a1 t565 _ ?side1 ?side2 A3.out).mono ?_);(case side1=>exact kC (Kd.C_below HR0_1.out HB.out));(case side2=>exact HC0_1.out);rintro e w' ⟨rfl,⟨nd,rfl⟩⟩;refine⟨_,rfl,?_⟩))
  go_ret
  exact⟨eR,kB HB.out⟩
/-! ### laws_heldPacked: function 37 -/
def laws_heldPacked.f (k : Nat) (a0_0 : Int) (a0_1 : Int) (a0_2 : Int) (l0_3 : List Int) (a1 : Int) : Option (Int) := (laws_heldBits.f k a0_2 l0_3 a1).bind fun t567 => (if t567 < 0 then (none) else (some t567))
set_option maxHeartbeats 8000000 in
set_option maxRecDepth 100000 in
theorem laws_heldPacked.calls (k : Nat) (a0_0 : Int) (a0_1 : Int) (a0_2 : Int) (A0_3 : Option Addr) (c0_3 : Nat) (l0_3 : List Int) (a1 : Int) (r : Int) (w : World) (hr0_3 : Kd.C (Kd.int .u64) w A0_3 l0_3.length l0_3) (hc0_3 : l0_3.length ≤ c0_3) (h : laws_heldPacked.f k a0_0 a0_1 a0_2 l0_3 a1 = some r) :
  Calls Try.prog 37 #[.agg #[.int .i64 a0_0, .int .i64 a0_1, .int .i64 a0_2, .slice A0_3 l0_3.length c0_3], .int .i64 a1] w fun e w' => e = .returned (.int .i64 r) ∧ Below w.heap.size w w' := by
 have hu31:=Try.underlying31
 have hu29:=Try.underlying29
 have HR0_3:=mk0 hr0_3
 have HC0_3:=mk0 hc0_3
 clear hr0_3 hc0_3
 have HB:=mk0 (Below.refl w.heap.size w)
 have H:((laws_heldBits.f k a0_2 l0_3 a1).bind fun t567=>(if t567 < 0 then (none) else (some t567))) = some r:=h
 clear h
 replace H:=bE H
 obtain⟨t567,A3,H⟩:=H
 by_cases c4:t567 < 0
 ·rw [if_pos c4] at H
  exact nn H
 ·rw [if_neg c4] at H
  have c4b0:decide (t567 < 0) = false:=decide_eq_false c4
  clear c4
  obtain rfl:=Option.some.inj H
  go_enter Try.func37,Try.ntmps37
  go_wp2_with (first|((with_reducible refine gate_dst (N:=2) rfl ?_);refine box_event ?hg (N:=2) ?hd (cs:=#[.int .i64 a0_0,.int .i64 a0_1,.int .i64 a0_2,.slice A0_3 l0_3.length c0_3]) (t:=31) ?hr ?_;(case hd=>rfl);(case hg=>rfl);(case hr=>first|(go_simp;done)|(go_simp;rfl));intro gb566 hg w5 hbox hb;have BK566:=mk0 (hbox);have GW566:=mk0 ((by rw [hg];exact (kZ HB.out):w.heap.size ≤ gb566));have GE566:=mk0 ((by rw [hg];exact (kZ HB.out):w.heap.size ≤ gb566));replace HB:=mk0 (kS HB.out hb);clear hb hbox hg;obtain⟨hcz6_0,hcz6_1,hcz6_2,hcz6_3,hfz6_0,hfz6_1,hfz6_2,hfz6_3⟩:=cz4 BK566.out)|((with_reducible refine gate_callee (f:=36) rfl ?_);refine gL (some 8) Try.func36 #[.agg #[.int .i64 a0_2,.slice A0_3 l0_3.length c0_3],.int .i64 a1] ?_;(with_reducible refine (laws_heldBits.calls k a0_2 _ _ l0_3 a1 t567 _ ?side1 ?side2 A3.out).mono ?_);(case side1=>exact kC (Kd.C_below HR0_3.out HB.out));(case side2=>exact HC0_3.out);rintro e w7 ⟨rfl,hb⟩;refine⟨_,rfl,?_⟩;replace BK566:=mk0 (kK BK566.out hb);replace HB:=mk0 (kS HB.out hb);(try clear hb)))
  go_ret
  exact⟨eR,kB HB.out⟩
/-! ### laws_heldFm: function 11 -/
def laws_heldFm.f (k : Nat) (a0_0 : Int) (a0_1 : Int) (a0_2 : Int) (l0_3 : List Int) (l0_4 : List (S29)) (l0_5 : List Int) (a0_6 : Int) (l0_7 : List Int) (a0_8 : Int) (a0_9 : Int) (a0_10 : Int) (l0_11 : List Int) (a0_12 : Int) (a0_13 : Int) (a0_14 : Int) (l0_15 : List Int) (a1 : Int) : Option (Int) := (laws_heldWave.f k a0_2 l0_3 l0_4 a1).bind fun t569 => (if t569 < 0 then (none) else ((laws_heldIntS.f k l0_5 t569).bind fun t570 => (if t570 < 0 then (none) else ((laws_heldBits.f k a0_6 l0_7 t570).bind fun t571 => (if t571 < 0 then (none) else ((laws_heldPacked.f k a0_8 a0_9 a0_10 l0_11 t571).bind fun t572 => (if t572 < 0 then (none) else ((laws_heldPacked.f k a0_12 a0_13 a0_14 l0_15 t572).bind fun t573 => (if t573 < 0 then (none) else (some t573))))))))))
set_option maxHeartbeats 8000000 in
set_option maxRecDepth 100000 in
theorem laws_heldFm.calls (k : Nat) (a0_0 : Int) (a0_1 : Int) (a0_2 : Int) (A0_3 : Option Addr) (c0_3 : Nat) (l0_3 : List Int) (A0_4 : Option Addr) (c0_4 : Nat) (l0_4 : List (S29)) (A0_5 : Option Addr) (c0_5 : Nat) (l0_5 : List Int) (a0_6 : Int) (A0_7 : Option Addr) (c0_7 : Nat) (l0_7 : List Int) (a0_8 : Int) (a0_9 : Int) (a0_10 : Int) (A0_11 : Option Addr) (c0_11 : Nat) (l0_11 : List Int) (a0_12 : Int) (a0_13 : Int) (a0_14 : Int) (A0_15 : Option Addr) (c0_15 : Nat) (l0_15 : List Int) (a1 : Int) (r : Int) (w : World) (hr0_3 : Kd.C (Kd.int .i64) w A0_3 l0_3.length l0_3) (hc0_3 : l0_3.length ≤ c0_3) (hr0_4 : Kd.C k29 w A0_4 l0_4.length l0_4) (hc0_4 : l0_4.length ≤ c0_4) (hr0_5 : Kd.C (Kd.int .i64) w A0_5 l0_5.length l0_5) (hc0_5 : l0_5.length ≤ c0_5) (hr0_7 : Kd.C (Kd.int .u64) w A0_7 l0_7.length l0_7) (hc0_7 : l0_7.length ≤ c0_7) (hr0_11 : Kd.C (Kd.int .u64) w A0_11 l0_11.length l0_11) (hc0_11 : l0_11.length ≤ c0_11) (hr0_15 : Kd.C (Kd.int .u64) w A0_15 l0_15.length l0_15) (hc0_15 : l0_15.length ≤ c0_15) (h : laws_heldFm.f k a0_0 a0_1 a0_2 l0_3 l0_4 l0_5 a0_6 l0_7 a0_8 a0_9 a0_10 l0_11 a0_12 a0_13 a0_14 l0_15 a1 = some r) :
  Calls Try.prog 11 #[.agg #[.int .i64 a0_0, .int .i64 a0_1, .int .i64 a0_2, .slice A0_3 l0_3.length c0_3, .slice A0_4 l0_4.length c0_4, .slice A0_5 l0_5.length c0_5, .int .i64 a0_6, .slice A0_7 l0_7.length c0_7, .int .i64 a0_8, .int .i64 a0_9, .int .i64 a0_10, .slice A0_11 l0_11.length c0_11, .int .i64 a0_12, .int .i64 a0_13, .int .i64 a0_14, .slice A0_15 l0_15.length c0_15], .int .i64 a1] w fun e w' => e = .returned (.int .i64 r) ∧ Below w.heap.size w w' := by
 have hu33:=Try.underlying33
 have hu26:=Try.underlying26
 have hu29:=Try.underlying29
 have hu31:=Try.underlying31
 have HR0_3:=mk0 hr0_3
 have HC0_3:=mk0 hc0_3
 clear hr0_3 hc0_3
 have HR0_4:=mk0 hr0_4
 have HC0_4:=mk0 hc0_4
 clear hr0_4 hc0_4
 have HR0_5:=mk0 hr0_5
 have HC0_5:=mk0 hc0_5
 clear hr0_5 hc0_5
 have HR0_7:=mk0 hr0_7
 have HC0_7:=mk0 hc0_7
 clear hr0_7 hc0_7
 have HR0_11:=mk0 hr0_11
 have HC0_11:=mk0 hc0_11
 clear hr0_11 hc0_11
 have HR0_15:=mk0 hr0_15
 have HC0_15:=mk0 hc0_15
 clear hr0_15 hc0_15
 have HB:=mk0 (Below.refl w.heap.size w)
 have H:((laws_heldWave.f k a0_2 l0_3 l0_4 a1).bind fun t569=>(if t569 < 0 then (none) else ((laws_heldIntS.f k l0_5 t569).bind fun t570=>(if t570 < 0 then (none) else ((laws_heldBits.f k a0_6 l0_7 t570).bind fun t571=>(if t571 < 0 then (none) else ((laws_heldPacked.f k a0_8 a0_9 a0_10 l0_11 t571).bind fun t572=>(if t572 < 0 then (none) else ((laws_heldPacked.f k a0_12 a0_13 a0_14 l0_15 t572).bind fun t573=>(if t573 < 0 then (none) else (some t573))))))))))) = some r:=h
 clear h
 replace H:=bE H
 obtain⟨t569,A3,H⟩:=H
 by_cases c4:t569 < 0
 ·rw [if_pos c4] at H
  exact nn H
 rw [if_neg c4] at H
 have c4b0:decide (t569 < 0) = false:=decide_eq_false c4
 clear c4
 replace H:=bE H
 obtain⟨t570,A5,H⟩:=H
 by_cases c6:t570 < 0
 ·rw [if_pos c6] at H
  exact nn H
 rw [if_neg c6] at H
 have c6b0:decide (t570 < 0) = false:=decide_eq_false c6
 clear c6
 replace H:=bE H
 obtain⟨t571,A7,H⟩:=H
 by_cases c8:t571 < 0
 ·rw [if_pos c8] at H
  exact nn H
 rw [if_neg c8] at H
 have c8b0:decide (t571 < 0) = false:=decide_eq_false c8
 clear c8
 replace H:=bE H
 obtain⟨t572,A9,H⟩:=H
 by_cases c10:t572 < 0
 ·rw [if_pos c10] at H
  exact nn H
 rw [if_neg c10] at H
 have c10b0:decide (t572 < 0) = false:=decide_eq_false c10
 clear c10
 replace H:=bE H
 obtain⟨t573,A11,H⟩:=H
 by_cases c12:t573 < 0
 ·rw [if_pos c12] at H
  exact nn H
 rw [if_neg c12] at H
 have c12b0:decide (t573 < 0) = false:=decide_eq_false c12
 clear c12
 obtain rfl:=Option.some.inj H
 go_enter Try.func11,Try.ntmps11
 go_wp2_with (first|((with_reducible refine gate_dst (N:=2) rfl ?_);refine box_event ?hg (N:=2) ?hd (cs:=#[.int .i64 a0_0,.int .i64 a0_1,.int .i64 a0_2,.slice A0_3 l0_3.length c0_3,.slice A0_4 l0_4.length c0_4,.slice A0_5 l0_5.length c0_5,.int .i64 a0_6,.slice A0_7 l0_7.length c0_7,.int .i64 a0_8,.int .i64 a0_9,.int .i64 a0_10,.slice A0_11 l0_11.length c0_11,.int .i64 a0_12,.int .i64 a0_13,.int .i64 a0_14,.slice A0_15 l0_15.length c0_15]) (t:=33) ?hr ?_;(case hd=>rfl);(case hg=>rfl);(case hr=>first|(go_simp;done)|(go_simp;rfl));intro gb568 hg w13 hbox hb;have BK568:=mk0 (hbox);have GW568:=mk0 ((by rw [hg];exact (kZ HB.out):w.heap.size ≤ gb568));have GE568:=mk0 ((by rw [hg];exact (kZ HB.out):w.heap.size ≤ gb568));replace HB:=mk0 (kS HB.out hb);clear hb hbox hg;have hcz14_0:w13.cell? ⟨gb568,0,none⟩ = some (.int .i64 a0_0):=(blk_cell BK568.out 0).trans rfl;have hcz14_1:w13.cell? ⟨gb568,1,none⟩ = some (.int .i64 a0_1):=(blk_cell BK568.out 1).trans rfl;have hcz14_2:w13.cell? ⟨gb568,2,none⟩ = some (.int .i64 a0_2):=(blk_cell BK568.out 2).trans rfl;have hcz14_3:w13.cell? ⟨gb568,3,none⟩ = some (.slice A0_3 l0_3.length c0_3):=(blk_cell BK568.out 3).trans rfl;have hcz14_4:w13.cell? ⟨gb568,4,none⟩ = some (.slice A0_4 l0_4.length c0_4):=(blk_cell BK568.out 4).trans rfl;have hcz14_5:w13.cell? ⟨gb568,5,none⟩ = some (.slice A0_5 l0_5.length c0_5):=(blk_cell BK568.out 5).trans rfl;have hcz14_6:w13.cell? ⟨gb568,6,none⟩ = some (.int .i64 a0_6):=(blk_cell BK568.out 6).trans rfl;have hcz14_7:w13.cell? ⟨gb568,7,none⟩ = some (.slice A0_7 l0_7.length c0_7):=(blk_cell BK568.out 7).trans rfl;have hcz14_8:w13.cell? ⟨gb568,8,none⟩ = some (.int .i64 a0_8):=(blk_cell BK568.out 8).trans rfl;have hcz14_9:w13.cell? ⟨gb568,9,none⟩ = some (.int .i64 a0_9):=(blk_cell BK568.out 9).trans rfl;have hcz14_10:w13.cell? ⟨gb568,10,none⟩ = some (.int .i64 a0_10):=(blk_cell BK568.out 10).trans rfl;have hcz14_11:w13.cell? ⟨gb568,11,none⟩ = some (.slice A0_11 l0_11.length c0_11):=(blk_cell BK568.out 11).trans rfl;have hcz14_12:w13.cell? ⟨gb568,12,none⟩ = some (.int .i64 a0_12):=(blk_cell BK568.out 12).trans rfl;have hcz14_13:w13.cell? ⟨gb568,13,none⟩ = some (.int .i64 a0_13):=(blk_cell BK568.out 13).trans rfl;have hcz14_14:w13.cell? ⟨gb568,14,none⟩ = some (.int .i64 a0_14):=(blk_cell BK568.out 14).trans rfl;have hcz14_15:w13.cell? ⟨gb568,15,none⟩ = some (.slice A0_15 l0_15.length c0_15):=(blk_cell BK568.out 15).trans rfl;have hfz14_0:=blk_frozen BK568.out 0;have hfz14_1:=blk_frozen BK568.out 1;have hfz14_2:=blk_frozen BK568.out 2;have hfz14_3:=blk_frozen BK568.out 3;have hfz14_4:=blk_frozen BK568.out 4;have hfz14_5:=blk_frozen BK568.out 5;have hfz14_6:=blk_frozen BK568.out 6;have hfz14_7:=blk_frozen BK568.out 7;have hfz14_8:=blk_frozen BK568.out 8;have hfz14_9:=blk_frozen BK568.out 9;have hfz14_10:=blk_frozen BK568.out 10;have hfz14_11:=blk_frozen BK568.out 11;have hfz14_12:=blk_frozen BK568.out 12;have hfz14_13:=blk_frozen BK568.out 13;have hfz14_14:=blk_frozen BK568.out 14;have hfz14_15:=blk_frozen BK568.out 15)|((with_reducible refine gate_callee (f:=34) rfl ?_);refine gL (some 8) Try.func34 #[.agg #[.int .i64 a0_2,.slice A0_3 l0_3.length c0_3,.slice A0_4 l0_4.length c0_4],.int .i64 a1] ?_;(with_reducible refine (laws_heldWave.calls k a0_2 _ _ l0_3 _ _ l0_4 a1 t569 _ ?side1 ?side2 ?side3 ?side4 A3.out).mono ?_);(case side1=>exact kC (Kd.C_below HR0_3.out HB.out));(case side2=>exact HC0_3.out);(case side3=>exact kC (Kd.C_below HR0_4.out HB.out));(case side4=>exact HC0_4.out);rintro e w15 ⟨rfl,hb⟩;refine⟨_,rfl,?_⟩;replace BK568:=mk0 (kK BK568.out hb);replace HB:=mk0 (kS HB.out hb);(try clear hb);have hcz16_0:w15.cell? ⟨gb568,0,none⟩ = some (.int .i64 a0_0):=(blk_cell BK568.out 0).trans rfl;have hcz16_1:w15.cell? ⟨gb568,1,none⟩ = some (.int .i64 a0_1):=(blk_cell BK568.out 1).trans rfl;have hcz16_2:w15.cell? ⟨gb568,2,none⟩ = some (.int .i64 a0_2):=(blk_cell BK568.out 2).trans rfl;have hcz16_3:w15.cell? ⟨gb568,3,none⟩ = some (.slice A0_3 l0_3.length c0_3):=(blk_cell BK568.out 3).trans rfl;have hcz16_4:w15.cell? ⟨gb568,4,none⟩ = some (.slice A0_4 l0_4.length c0_4):=(blk_cell BK568.out 4).trans rfl;have hcz16_5:w15.cell? ⟨gb568,5,none⟩ = some (.slice A0_5 l0_5.length c0_5):=(blk_cell BK568.out 5).trans rfl;have hcz16_6:w15.cell? ⟨gb568,6,none⟩ = some (.int .i64 a0_6):=(blk_cell BK568.out 6).trans rfl;have hcz16_7:w15.cell? ⟨gb568,7,none⟩ = some (.slice A0_7 l0_7.length c0_7):=(blk_cell BK568.out 7).trans rfl;have hcz16_8:w15.cell? ⟨gb568,8,none⟩ = some (.int .i64 a0_8):=(blk_cell BK568.out 8).trans rfl;have hcz16_9:w15.cell? ⟨gb568,9,none⟩ = some (.int .i64 a0_9):=(blk_cell BK568.out 9).trans rfl;have hcz16_10:w15.cell? ⟨gb568,10,none⟩ = some (.int .i64 a0_10):=(blk_cell BK568.out 10).trans rfl;have hcz16_11:w15.cell? ⟨gb568,11,none⟩ = some (.slice A0_11 l0_11.length c0_11):=(blk_cell BK568.out 11).trans rfl;have hcz16_12:w15.cell? ⟨gb568,12,none⟩ = some (.int .i64 a0_12):=(blk_cell BK568.out 12).trans rfl;have hcz16_13:w15.cell? ⟨gb568,13,none⟩ = some (.int .i64 a0_13):=(blk_cell BK568.out 13).trans rfl;have hcz16_14:w15.cell? ⟨gb568,14,none⟩ = some (.int .i64 a0_14):=(blk_cell BK568.out 14).trans rfl;have hcz16_15:w15.cell? ⟨gb568,15,none⟩ = some (.slice A0_15 l0_15.length c0_15):=(blk_cell BK568.out 15).trans rfl;have hfz16_0:=blk_frozen BK568.out 0;have hfz16_1:=blk_frozen BK568.out 1;have hfz16_2:=blk_frozen BK568.out 2;have hfz16_3:=blk_frozen BK568.out 3;have hfz16_4:=blk_frozen BK568.out 4;have hfz16_5:=blk_frozen BK568.out 5;have hfz16_6:=blk_frozen BK568.out 6;have hfz16_7:=blk_frozen BK568.out 7;have hfz16_8:=blk_frozen BK568.out 8;have hfz16_9:=blk_frozen BK568.out 9;have hfz16_10:=blk_frozen BK568.out 10;have hfz16_11:=blk_frozen BK568.out 11;have hfz16_12:=blk_frozen BK568.out 12;have hfz16_13:=blk_frozen BK568.out 13;have hfz16_14:=blk_frozen BK568.out 14;have hfz16_15:=blk_frozen BK568.out 15)|((with_reducible refine gate_callee (f:=35) rfl ?_);refine gL (some 14) Try.func35 #[.slice A0_5 l0_5.length c0_5,.int .i64 t569] ?_;(with_reducible refine (laws_heldIntS.calls k _ _ l0_5 t569 t570 _ ?side1 ?side2 A5.out).mono ?_);(case side1=>exact kC (Kd.C_below HR0_5.out HB.out));(case side2=>exact HC0_5.out);rintro e w' ⟨rfl,⟨nd,rfl⟩⟩;refine⟨_,rfl,?_⟩)|((with_reducible refine gate_callee (f:=36) rfl ?_);refine gL (some 20) Try.func36 #[.agg #[.int .i64 a0_6,.slice A0_7 l0_7.length c0_7],.int .i64 t570] ?_;(with_reducible refine (laws_heldBits.calls k a0_6 _ _ l0_7 t570 t571 _ ?side1 ?side2 A7.out).mono ?_);(case side1=>repeat (first|exact (Kd.C_below HR0_7.out (kB HB.out))|(with_reducible first|apply aC|apply nC|apply dC)));(case side2=>exact HC0_7.out);rintro e w17 ⟨rfl,hb⟩;refine⟨_,rfl,?_⟩;replace BK568:=mk0 (kK BK568.out hb);replace HB:=mk0 (kS HB.out hb);(try clear hb);have hcz18_0:w17.cell? ⟨gb568,0,none⟩ = some (.int .i64 a0_0):=(blk_cell BK568.out 0).trans rfl;have hcz18_1:w17.cell? ⟨gb568,1,none⟩ = some (.int .i64 a0_1):=(blk_cell BK568.out 1).trans rfl;have hcz18_2:w17.cell? ⟨gb568,2,none⟩ = some (.int .i64 a0_2):=(blk_cell BK568.out 2).trans rfl;have hcz18_3:w17.cell? ⟨gb568,3,none⟩ = some (.slice A0_3 l0_3.length c0_3):=(blk_cell BK568.out 3).trans rfl;have hcz18_4:w17.cell? ⟨gb568,4,none⟩ = some (.slice A0_4 l0_4.length c0_4):=(blk_cell BK568.out 4).trans rfl;have hcz18_5:w17.cell? ⟨gb568,5,none⟩ = some (.slice A0_5 l0_5.length c0_5):=(blk_cell BK568.out 5).trans rfl;have hcz18_6:w17.cell? ⟨gb568,6,none⟩ = some (.int .i64 a0_6):=(blk_cell BK568.out 6).trans rfl;have hcz18_7:w17.cell? ⟨gb568,7,none⟩ = some (.slice A0_7 l0_7.length c0_7):=(blk_cell BK568.out 7).trans rfl;have hcz18_8:w17.cell? ⟨gb568,8,none⟩ = some (.int .i64 a0_8):=(blk_cell BK568.out 8).trans rfl;have hcz18_9:w17.cell? ⟨gb568,9,none⟩ = some (.int .i64 a0_9):=(blk_cell BK568.out 9).trans rfl;have hcz18_10:w17.cell? ⟨gb568,10,none⟩ = some (.int .i64 a0_10):=(blk_cell BK568.out 10).trans rfl;have hcz18_11:w17.cell? ⟨gb568,11,none⟩ = some (.slice A0_11 l0_11.length c0_11):=(blk_cell BK568.out 11).trans rfl;have hcz18_12:w17.cell? ⟨gb568,12,none⟩ = some (.int .i64 a0_12):=(blk_cell BK568.out 12).trans rfl;have hcz18_13:w17.cell? ⟨gb568,13,none⟩ = some (.int .i64 a0_13):=(blk_cell BK568.out 13).trans rfl;have hcz18_14:w17.cell? ⟨gb568,14,none⟩ = some (.int .i64 a0_14):=(blk_cell BK568.out 14).trans rfl;have hcz18_15:w17.cell? ⟨gb568,15,none⟩ = some (.slice A0_15 l0_15.length c0_15):=(blk_cell BK568.out 15).trans rfl;have hfz18_0:=blk_frozen BK568.out 0;have hfz18_1:=blk_frozen BK568.out 1;have hfz18_2:=blk_frozen BK568.out 2;have hfz18_3:=blk_frozen BK568.out 3;have hfz18_4:=blk_frozen BK568.out 4;have hfz18_5:=blk_frozen BK568.out 5;have hfz18_6:=blk_frozen BK568.out 6;have hfz18_7:=blk_frozen BK568.out 7;have hfz18_8:=blk_frozen BK568.out 8;have hfz18_9:=blk_frozen BK568.out 9;have hfz18_10:=blk_frozen BK568.out 10;have hfz18_11:=blk_frozen BK568.out 11;have hfz18_12:=blk_frozen BK568.out 12;have hfz18_13:=blk_frozen BK568.out 13;have hfz18_14:=blk_frozen BK568.out 14;have hfz18_15:=blk_frozen BK568.out 15)|((with_reducible refine gate_callee (f:=37) rfl ?_);refine gL (some 26) Try.func37 #[.agg #[.int .i64 a0_8,.int .i64 a0_9,.int .i64 a0_10,.slice A0_11 l0_11.length c0_11],.int .i64 t571] ?_;(with_reducible refine (laws_heldPacked.calls k a0_8 a0_9 a0_10 _ _ l0_11 t571 t572 _ ?side1 ?side2 A9.out).mono ?_);(case side1=>exact kC (Kd.C_below HR0_11.out HB.out));(case side2=>exact HC0_11.out);rintro e w19 ⟨rfl,hb⟩;refine⟨_,rfl,?_⟩;replace BK568:=mk0 (kK BK568.out hb);replace HB:=mk0 (kS HB.out hb);(try clear hb);have hcz20_0:w19.cell? ⟨gb568,0,none⟩ = some (.int .i64 a0_0):=(blk_cell BK568.out 0).trans rfl;have hcz20_1:w19.cell? ⟨gb568,1,none⟩ = some (.int .i64 a0_1):=(blk_cell BK568.out 1).trans rfl;have hcz20_2:w19.cell? ⟨gb568,2,none⟩ = some (.int .i64 a0_2):=(blk_cell BK568.out 2).trans rfl;have hcz20_3:w19.cell? ⟨gb568,3,none⟩ = some (.slice A0_3 l0_3.length c0_3):=(blk_cell BK568.out 3).trans rfl;have hcz20_4:w19.cell? ⟨gb568,4,none⟩ = some (.slice A0_4 l0_4.length c0_4):=(blk_cell BK568.out 4).trans rfl;have hcz20_5:w19.cell? ⟨gb568,5,none⟩ = some (.slice A0_5 l0_5.length c0_5):=(blk_cell BK568.out 5).trans rfl;have hcz20_6:w19.cell? ⟨gb568,6,none⟩ = some (.int .i64 a0_6):=(blk_cell BK568.out 6).trans rfl;have hcz20_7:w19.cell? ⟨gb568,7,none⟩ = some (.slice A0_7 l0_7.length c0_7):=(blk_cell BK568.out 7).trans rfl;have hcz20_8:w19.cell? ⟨gb568,8,none⟩ = some (.int .i64 a0_8):=(blk_cell BK568.out 8).trans rfl;have hcz20_9:w19.cell? ⟨gb568,9,none⟩ = some (.int .i64 a0_9):=(blk_cell BK568.out 9).trans rfl;have hcz20_10:w19.cell? ⟨gb568,10,none⟩ = some (.int .i64 a0_10):=(blk_cell BK568.out 10).trans rfl;have hcz20_11:w19.cell? ⟨gb568,11,none⟩ = some (.slice A0_11 l0_11.length c0_11):=(blk_cell BK568.out 11).trans rfl;have hcz20_12:w19.cell? ⟨gb568,12,none⟩ = some (.int .i64 a0_12):=(blk_cell BK568.out 12).trans rfl;have hcz20_13:w19.cell? ⟨gb568,13,none⟩ = some (.int .i64 a0_13):=(blk_cell BK568.out 13).trans rfl;have hcz20_14:w19.cell? ⟨gb568,14,none⟩ = some (.int .i64 a0_14):=(blk_cell BK568.out 14).trans rfl;have hcz20_15:w19.cell? ⟨gb568,15,none⟩ = some (.slice A0_15 l0_15.length c0_15):=(blk_cell BK568.out 15).trans rfl;have hfz20_0:=blk_frozen BK568.out 0;have hfz20_1:=blk_frozen BK568.out 1;have hfz20_2:=blk_frozen BK568.out 2;have hfz20_3:=blk_frozen BK568.out 3;have hfz20_4:=blk_frozen BK568.out 4;have hfz20_5:=blk_frozen BK568.out 5;have hfz20_6:=blk_frozen BK568.out 6;have hfz20_7:=blk_frozen BK568.out 7;have hfz20_8:=blk_frozen BK568.out 8;have hfz20_9:=blk_frozen BK568.out 9;have hfz20_10:=blk_frozen BK568.out 10;have hfz20_11:=blk_frozen BK568.out 11;have hfz20_12:=blk_frozen BK568.out 12;have hfz20_13:=blk_frozen BK568.out 13;have hfz20_14:=blk_frozen BK568.out 14;have hfz20_15:=blk_frozen BK568.out 15)|((with_reducible refine gate_callee (f:=37) rfl ?_);refine gL (some 32) Try.func37 #[.agg #[.int .i64 a0_12,.int .i64 a0_13,.int .i64 a0_14,.slice A0_15 l0_15.length c0_15],.int .i64 t572] ?_;(with_reducible refine (laws_heldPacked.calls k a0_12 a0_13 a0_14 _ _ l0_15 t572 t573 _ ?side1 ?side2 A11.out).mono ?_);(case side1=>exact kC (Kd.C_below HR0_15.out HB.out));(case side2=>exact HC0_15.out);rintro e w21 ⟨rfl,hb⟩;refine⟨_,rfl,?_⟩;replace BK568:=mk0 (kK BK568.out hb);replace HB:=mk0 (kS HB.out hb);(try clear hb)))
 go_ret
 exact⟨eR,kB HB.out⟩
end Go.Proofs.Ytjfoaiabbmkdpaa.QFnExactFmOf
