-- A walk, made by walk.py, a program of this session's.
import Derived.Test.YtjfoaiabbmkdpaaQFnExactFmOfx0
import Derived.Test.YtjfoaiabbmkdpaaQFnExactFmOfx8
namespace Go.Proofs.Ytjfoaiabbmkdpaa.QFnExactFmOf
open Go.RowKit Go.Proofs.YtjfoaiabbmkdpaaW.PrintWords Go.Proofs.YtjfoaiabbmkdpaaW.PrintLast Go.Proofs.YtjfoaiabbmkdpaaW.PrintMore
attribute [local go_sem] max2_int min2_int max_two min_two max_three min_three max_four min_four   -- for this text's walks alone
set_option linter.unusedVariables false
set_option linter.unusedSimpArgs false
/-! ### slices_Concat_int_int: function 62 -/
mutual
def slices_Concat_int_int.l0 : Nat → List (List Int) → Int → List (List Int) → Int → Int → Option (List Int)
 | 0, _, _, _, _, _ => none
 | k + 1, x0, x3, x9, x10, x11 => if x11 < x10 then (if 0 ≤ x11 then (if x11 < (x9.length : Int) then (if (wrap64 (x3 + ((rd_L5 x9 x11).length : Int))) < 0 then (none) else (slices_Concat_int_int.l0 k x0 (wrap64 (x3 + ((rd_L5 x9 x11).length : Int))) x9 x10 (wrap64 (x11 + 1)))) else (none)) else (none)) else ((slices_Grow_nil23.f x3).bind fun t352 => (slices_Concat_int_int.l1 k t352 x0 (x0.length : Int) 0))
def slices_Concat_int_int.l1 : Nat → List Int → List (List Int) → Int → Int → Option (List Int)
 | 0, _, _, _, _ => none
 | k + 1, x6, x25, x26, x27 => if x27 < x26 then (if 0 ≤ x27 then (if x27 < (x25.length : Int) then (if x6.length + (rd_L5 x25 x27).length < 17592186044416 then (slices_Concat_int_int.l1 k (x6 ++ (rd_L5 x25 x27)) x25 x26 (wrap64 (x27 + 1))) else (none)) else (none)) else (none)) else (some x6)
end
def slices_Concat_int_int.f (k : Nat) (l0 : List (List Int)) : Option (List Int) := slices_Concat_int_int.l0 k l0 0 l0 (l0.length : Int) 0
set_option maxHeartbeats 8000000 in
set_option maxRecDepth 100000 in
theorem slices_Concat_int_int.calls (k : Nat) (A0 : Option Addr) (c0 : Nat) (l0 : List (List Int)) (r : List Int) (w : World) (hr0 : Kd.C (Kd.slice 3 (Kd.int .i64)) w A0 l0.length l0) (hc0 : l0.length ≤ c0) (h : slices_Concat_int_int.f k l0 = some r) :
  Calls Try.prog 62 #[.slice A0 l0.length c0] w fun e w' => ∃ v0_ : Value, e = .returned (v0_) ∧ Kd.R (Kd.int .i64) 3 w' w.heap.size (fun _ => True) v0_ r ∧ Below w.heap.size w w' := by
 have HR0:=mk0 hr0
 have HC0:=mk0 hc0
 clear hr0 hc0
 have HB:=mk0 (Below.refl w.heap.size w)
 have H:(slices_Concat_int_int.l0 k l0 0 l0 (l0.length:Int) 0) = some r:=h
 clear h
 have H':=mk0 H
 clear H
 go_enter Try.func62,Try.ntmps62
 go_wp2
 go_loopg [3,11] k (fun kq v3 v11 w'=>∃ (x3_1:Int) (x11_1:Int),v3 = .int .i64 x3_1 ∧ v11 = .int .i64 x11_1 ∧ Aside0 (slices_Concat_int_int.l0 kq l0 x3_1 l0 (l0.length:Int) x11_1 = some r) ∧ Aside0 (kq ≤ k) ∧ Aside0 (Below w.heap.size w w'))
 case atStart=>exact⟨(0),(0),eS,eS,H',⟨Nat.le_refl _⟩,⟨kB HB.out⟩⟩
 case round =>
  clear H'
  obtain⟨x3_1,x11_1,rfl,rfl,HA,HK1,HB⟩:=hrel
  cases gk with
  | zero=>exact absurd HA.out (by simp [slices_Concat_int_int.l0])
  | succ k1 =>
   have H:=HA.out
   clear HA
   simp only [slices_Concat_int_int.l0] at H
   by_cases c2:x11_1 < (l0.length:Int)
   ·rw [if_pos c2] at H
    have c2b0:decide (x11_1 < (l0.length:Int)) = true:=decide_eq_true c2
    (try simp only [hl351_0] at c2b0)
    (try simp only [hl355_0] at c2b0)
    clear c2
    by_cases c3:0 ≤ x11_1
    ·rw [if_pos c3] at H
     have c3b0:decide (0 ≤ x11_1) = true:=decide_eq_true c3
     clear c3
     by_cases c4:x11_1 < (l0.length:Int)
     ·rw [if_pos c4] at H
      have c4b0:decide (x11_1 < (l0.length:Int)) = true:=decide_eq_true c4
      (try simp only [hl351_0] at c4b0)
      (try simp only [hl355_0] at c4b0)
      clear c4
      by_cases c5:(wrap64 (x3_1 + ((rd_L5 l0 x11_1).length:Int))) < 0
      ·rw [if_pos c5] at H
       exact nn H
      ·rw [if_neg c5] at H
       have c5b0:decide ((wrap64 (x3_1 + ((rd_L5 l0 x11_1).length:Int))) < 0) = false:=decide_eq_false c5
       (try simp only [hl351_0] at c5b0)
       (try simp only [hl355_0] at c5b0)
       clear c5
       have H':=mk0 H
       clear H
       have p351:0 ≤ (x11_1:Int):=oD
       have q351:x11_1 < (l0.length:Int):=oD
       obtain⟨ad351,A351_0,c351_0,e351,hx351_0,hl351_0,hi351_0⟩:=at_L5 HR0.out x11_1 p351 q351
       cases e351
       replace hx351_0:=(HB.out.cell (World.block_lt_of_cell? w _ hx351_0)).trans hx351_0
       have HR351_0:=mk0 hi351_0
       have HC351_0:=mk0 hl351_0
       clear hi351_0 hl351_0
       replace p351:=eq_true p351
       replace q351:=eq_true q351
       go_wp2
       go_roundg k1
       case measure=>have:=HK1.out;omega
       case rel=>exact⟨(wrap64 (x3_1 + ((rd_L5 l0 x11_1).length:Int))),(wrap64 (x11_1 + 1)),eS,eS,H',⟨by have:=HK1.out;omega⟩,⟨kB HB.out⟩⟩
     ·rw [if_neg c4] at H
      exact nn H
    ·rw [if_neg c3] at H
     exact nn H
   ·rw [if_neg c2] at H
    have c2b0:decide (x11_1 < (l0.length:Int)) = false:=decide_eq_false c2
    (try simp only [hl351_0] at c2b0)
    (try simp only [hl355_0] at c2b0)
    clear c2
    replace H:=bE H
    obtain⟨t352,A6,H⟩:=H
    have H':=mk0 H
    clear H
    go_wp2_with (first|((with_reducible refine gate_callee (f:=70) rfl ?_);refine gL (some 24) Try.func70 #[.slice none 0 0,.int .i64 x3_1] ?_;(with_reducible refine (slices_Grow_nil23.calls x3_1 t352 _ A6.out).mono ?_);rintro e w7 ⟨v353,rfl,ho0,hb⟩;refine⟨_,rfl,?_⟩;have HO354:=mk0 (Kd.R_lower ho0 (kZ HB.out));replace HB:=mk0 (kS HB.out hb);(try clear hb);(try clear ho0)))
    go_loopg [6,27] k1 (fun kq v6 v27 w'=>∃ (x6_2:List Int) (x27_2:Int),v27 = .int .i64 x27_2 ∧ Aside0 (slices_Concat_int_int.l1 kq x6_2 l0 (l0.length:Int) x27_2 = some r) ∧ Aside0 (kq ≤ k1) ∧ Aside0 (Kd.R (Kd.int .i64) 3 w' w.heap.size (fun _=>True) v6 x6_2) ∧ Aside0 (Below w.heap.size w w'))
    case atStart=>exact⟨(t352),(0),eS,H',⟨Nat.le_refl _⟩,⟨rR HO354.out⟩,⟨kB HB.out⟩⟩
    case round =>
     clear H'
     try clear c2
     try clear c2b0
     try clear p2
     try clear c3
     try clear c3b0
     try clear p3
     try clear q3
     try clear hx3
     try clear c4
     try clear c4b0
     try clear c5
     try clear c5b0
     try clear c6
     try clear p6
     try clear hx351_0
     try clear p351
     try clear q351
     obtain⟨x6_2,x27_2,rfl,HA,HK2,HO_6,HB⟩:=hrel
     cases gk with
     | zero=>exact absurd HA.out (by simp [slices_Concat_int_int.l1])
     | succ k2 =>
      have H:=HA.out
      clear HA
      simp only [slices_Concat_int_int.l1] at H
      by_cases c8:x27_2 < (l0.length:Int)
      ·rw [if_pos c8] at H
       have c8b0:decide (x27_2 < (l0.length:Int)) = true:=decide_eq_true c8
       (try simp only [hl351_0] at c8b0)
       (try simp only [hl355_0] at c8b0)
       clear c8
       by_cases c9:0 ≤ x27_2
       ·rw [if_pos c9] at H
        have c9b0:decide (0 ≤ x27_2) = true:=decide_eq_true c9
        clear c9
        by_cases c10:x27_2 < (l0.length:Int)
        ·rw [if_pos c10] at H
         have c10b0:decide (x27_2 < (l0.length:Int)) = true:=decide_eq_true c10
         (try simp only [hl351_0] at c10b0)
         (try simp only [hl355_0] at c10b0)
         clear c10
         by_cases c11:x6_2.length + (rd_L5 l0 x27_2).length < 17592186044416
         ·rw [if_pos c11] at H
          have LMc11:=mk0 c11
          clear c11
          obtain⟨y356,hy356⟩:∃ y_:List Int,y_ = (x6_2 ++ (rd_L5 l0 x27_2)):=⟨_,rfl⟩
          first|(with_reducible replace H:=yB hy356 H)|rw [← hy356] at H|skip
          have Ny356:=mk0 hy356
          clear hy356
          have H':=mk0 H
          clear H
          have p355:0 ≤ (x27_2:Int):=oD
          have q355:x27_2 < (l0.length:Int):=oD
          obtain⟨ad355,A355_0,c355_0,e355,hx355_0,hl355_0,hi355_0⟩:=at_L5 HR0.out x27_2 p355 q355
          cases e355
          replace hx355_0:=(HB.out.cell (World.block_lt_of_cell? w _ hx355_0)).trans hx355_0
          have HR355_0:=mk0 hi355_0
          have HC355_0:=mk0 hl355_0
          clear hi355_0 hl355_0
          replace p355:=eq_true p355
          replace q355:=eq_true q355
          go_wp2_with (first|((with_reducible refine gate_builtin (b:=.append) (xs:=#[.tmp 31,.tmp 32]) rfl ?_);at_builtin;refine Kd.R_append_rows (Kd.int .i64) (w0:=w) w.heap.size rfl (.tmp 31) (.tmp 32) 23 3 (.int .i64 0) 8 rfl Try.underlying23 info3 rfl (by decide) (by omega) u6 x6_2 (rd_L5 l0 x27_2) _ _ _ (fun _=>True) (fun _=>False) rfl rfl ?aO ?aR (fun _ _ h=>h) (fun _ h=>h.elim) ?aF ?aB ?aS ?aL ?_;(case aR=>repeat (first|exact (Kd.C_below HR355_0.out HB.out)|(with_reducible first|apply aC|apply nC|apply dC)));(case aB=>exact (kB HB.out));(case aF=>exact (fun _ _=>trivial));(case aO=>exact (rR HO_6.out));(case aS=>exact (kZ HB.out));(case aL=>have:=LMc11.out;omega);intro v357 w12 ho hb hg hat;rw [← Ny356.out] at ho;replace HB:=mk0 (hb);have HO358:=mk0 (ho);clear HO_6 ho hb hg hat))
          go_roundg k2
          case measure=>have:=HK1.out;have:=HK2.out;omega
          case rel=>exact⟨(y356),(wrap64 (x27_2 + 1)),eS,H',⟨by have:=HK1.out;have:=HK2.out;omega⟩,⟨rR HO358.out⟩,⟨kB HB.out⟩⟩
         ·rw [if_neg c11] at H
          exact nn H
        ·rw [if_neg c10] at H
         exact nn H
       ·rw [if_neg c9] at H
        exact nn H
      ·rw [if_neg c8] at H
       have c8b0:decide (x27_2 < (l0.length:Int)) = false:=decide_eq_false c8
       (try simp only [hl351_0] at c8b0)
       (try simp only [hl355_0] at c8b0)
       clear c8
       obtain rfl:=Option.some.inj H
       go_wp2
       go_ret
       exact⟨_,eR,rR HO_6.out,kB HB.out⟩
/-! ### impl_areAll_61: areAll at the function value 61 -/
def impl_areAll_61.f (l0 : List Int) : Option (Bool) := if l0.length ≤ maxLen then some (l0.all Fv.p61) else none
theorem impl_areAll_61.calls (A0 : Option Addr) (c0 : Nat) (l0 : List Int) (r : Bool) (w : World) (hr0 : Kd.C (Kd.int .i64) w A0 l0.length l0) (hc0 : l0.length ≤ c0) (h : impl_areAll_61.f l0 = some r) :
    Calls Try.prog 60 #[.slice A0 l0.length c0, .func (.func 61) #[] #[]] w fun e w' => e = .returned (.bool r) ∧ Below w.heap.size w w' := by
  unfold impl_areAll_61.f at h
  by_cases hm : l0.length ≤ maxLen
  · rw [if_pos hm] at h
    obtain rfl := Option.some.inj h
    exact Fv.areAll 61 #[] _ (enters_of Try.func61 (by kernel_rfl) rfl) A0 c0 l0 w hr0 hc0 hm (Fv.tells61 w)
  · rw [if_neg hm] at h
    exact absurd h (by simp)
/-! ### impl_WaveOf: function 46 -/
mutual
def impl_WaveOf.j0 : Nat → List Int → Bool → Option (Int × List Int × (List (S29)) × Bool)
 | 0, _, _ => none
 | k + 1, x0, x19 => if x19 = true then (some (0, ([] : List Int), ([] : List (S29)), false)) else (impl_WaveOf.l0 k x0 0 (x0.length : Int) ([] : List Int) ([] : List (S29)))
def impl_WaveOf.l0 : Nat → List Int → Int → Int → List Int → List (S29) → Option (Int × List Int × (List (S29)) × Bool)
 | 0, _, _, _, _, _ => none
 | k + 1, x0, x24, x362000, x362001, x362002 => if x24 < 9 then (impl_WaveOf.l1 k x0 x24 ([] : List Int) ([] : List Int) ([] : List Int) x24 (x0.length : Int) 0 x362000 x362001 x362002) else (some (x362000, x362001, x362002, true))
def impl_WaveOf.l1 : Nat → List Int → Int → List Int → List Int → List Int → Int → Int → Int → Int → List Int → List (S29) → Option (Int × List Int × (List (S29)) × Bool)
 | 0, _, _, _, _, _, _, _, _, _, _, _ => none
 | k + 1, x0, x5, x6, x7, x8, x24, x28, x29, x362000, x362001, x362002 => if x29 < x28 then (if 0 ≤ x29 then (if x29 < (x0.length : Int) then (if 0 ≤ (wrap64 (8 - x5)) then (if x8.length < 17592186044416 then ((some (x8 ++ [Go.bits .and .i64 (shr .i64 (rd x0 x29) (wrap64 (8 - x5))) 1] : List Int)).bind fun y363 => (if (Go.bits .and .i64 (shr .i64 (rd x0 x29) (wrap64 (8 - x5))) 1) = 0 then (if x6.length < 17592186044416 then (impl_WaveOf.l1 k x0 x5 (x6 ++ [rd x0 x29]) x7 y363 x24 x28 (wrap64 (x29 + 1)) x362000 x362001 x362002) else (none)) else (if x7.length < 17592186044416 then (impl_WaveOf.l1 k x0 x5 x6 (x7 ++ [rd x0 x29]) y363 x24 x28 (wrap64 (x29 + 1)) x362000 x362001 x362002) else (none)))) else (none)) else (none)) else (none)) else (none)) else (if x362001.length < 17592186044416 then ((impl_bitsOf.f k x8).bind fun bt375 => (if x362002.length < 4398046511104 then ((slices_Concat_int_int.f k (([x6, x7] : List (List Int)))).bind fun t385 => (impl_WaveOf.l0 k t385 (wrap64 (x24 + 1)) x362000 (x362001 ++ [(x6.length : Int)]) (x362002 ++ [(⟨bt375.1, bt375.2⟩ : S29)]))) else (none))) else (none))
end
def impl_WaveOf.f (k : Nat) (l0 : List Int) : Option (Int × List Int × (List (S29)) × Bool) := if (l0.length : Int) > 1000 then (impl_WaveOf.j0 k l0 true) else ((impl_areAll_61.f l0).bind fun t360 => (impl_WaveOf.j0 k l0 (!t360)))
def impl_WaveOf.T18 : Bool × List (List Nat × List Nat) := (true, [([], []), ([0], [0]), ([], []), ([2], [2]), ([3], [3]), ([1, 4, 3], [1, 4]), ([0, 1, 2, 3, 4, 5], []), ([6, 5, 5, 0, 1, 2, 3, 4, 5], [5, 6])])
def impl_WaveOf.B18 : List Nat := [0, 1, 0, 4, 12, 31, 63, 127]
theorem impl_WaveOf.tab18 : rtab .any (opsOf Try.f46 18) = impl_WaveOf.T18 := by kernel_rfl
theorem impl_WaveOf.bits18 : waitsOk impl_WaveOf.T18.2 impl_WaveOf.B18 = true := by kernel_rfl
set_option maxHeartbeats 8000000 in
set_option maxRecDepth 100000 in
theorem impl_WaveOf.calls (k : Nat) (P0_ : Nat → Prop) (A0 : Option Addr) (c0 : Nat) (l0 : List Int) (r1 : Int) (r2 : List Int) (r3 : List (S29)) (r4 : Bool) (w : World) (hs0 : Kd.V (Kd.int .i64) 3 w w.heap.size (fun k_ => P0_ k_) (.slice A0 l0.length c0) l0) (h : impl_WaveOf.f k l0 = some (r1, r2, r3, r4)) :
  Calls Try.prog 46 #[.slice A0 l0.length c0] w fun e w' => ∃ v1_ v2_ : Value, e = .returned (.tuple #[.agg #[.int .i64 r1, v1_, v2_], .bool r4]) ∧ Kd.R (Kd.int .i64) 3 w' w.heap.size (fun k_ => (w.heap.size ≤ k_)) v1_ r2 ∧ Kd.S k29 29 w' w.heap.size (fun k_ => (w.heap.size ≤ k_)) v2_ r3 ∧ Below w.heap.size w w' := by
 have hu26:=Try.underlying26
 have HO0:=mk0 (show Kd.V (Kd.int .i64) 3 w w.heap.size (fun k_=>(P0_ k_ ∨ w.heap.size ≤ k_)) (.slice A0 l0.length c0) l0 from Kd.V_mono hs0 (fun k_ hk=>.inl hk))
 have HB:=mk0 (Below.refl w.heap.size w)
 have H:(if (l0.length:Int) > 1000 then (impl_WaveOf.j0 k l0 true) else ((impl_areAll_61.f l0).bind fun t360=>(impl_WaveOf.j0 k l0 (!t360)))) = some (r1,r2,r3,r4):=h
 clear h
 have HC2:=mk0 H
 clear H
 go_enter Try.func46,Try.ntmps46
 go_upto_region 1 with (first|((with_reducible refine gate_dst (N:=2) rfl ?_);refine box_event ?hg (N:=2) ?hd (cs:=#[.int .i64 0,.slice none 0 0,.slice none 0 0]) (t:=26) ?hr ?_;(case hd=>rfl);(case hg=>rfl);(case hr=>first|(go_simp;done)|(go_simp;rfl));intro gb359 hg w3 hbox hb;replace HO0:=mk0 (Kd.V_below (Kd.V_elderB (rV HO0.out) gb359 (Nat.le_of_eq hg.symm)) hb);have BK359:=mk0 (hbox);have GW359:=mk0 ((by rw [hg];exact (kZ HB.out):w.heap.size ≤ gb359));have GE359:=mk0 ((by rw [hg];exact (kZ HB.out):w.heap.size ≤ gb359));replace HB:=mk0 (kS HB.out hb);clear hb hbox hg))
 (try simp only [Act.put,sA,sO,sS])
 go_cut [19] (fun v19 wc=>∃ (kq:Nat) (x19_1:Bool),v19 = .bool x19_1 ∧ Aside0 (impl_WaveOf.j0 kq l0 x19_1 = some (r1,r2,r3,r4)) ∧ Aside0 (kq ≤ k) ∧ Aside0 (Kd.V (Kd.int .i64) 3 wc w.heap.size (fun k_=>(P0_ k_ ∨ w.heap.size ≤ k_) ∧ k_ ≠ gb359) (.slice A0 l0.length c0) l0) ∧ Aside0 (wc.heap[gb359]? = some (.cells #[.int .i64 0,(.slice none 0 0),(.slice none 0 0)] 26 (0,0))) ∧ Aside0 (Below w.heap.size w wc))
 case first =>
  have H:=HC2.out
  clear HC2
  by_cases c4:(l0.length:Int) > 1000
  ·rw [if_pos c4] at H
   have c4b0:decide (1000 < (l0.length:Int)) = true:=decide_eq_true c4
   have c4b1:decide (1000 < l0.length) = true:=decide_eq_true (by omega)
   clear c4
   (first|rw [c4b0]|(simp only [i64_w,i32_w];rw [c4b0])|skip)
   have H':=mk0 H
   clear H
   go_wp2
   go_meet
   case rel=>exact⟨_,(true),eS,H',⟨by first|omega|exact Nat.le_refl _⟩,⟨rV HO0.out⟩,⟨kN BK359.out⟩,⟨kB HB.out⟩⟩
  rw [if_neg c4] at H
  have c4b0:decide (1000 < (l0.length:Int)) = false:=decide_eq_false c4
  have c4b1:decide (1000 < l0.length) = false:=decide_eq_false (by omega)
  clear c4
  (first|rw [c4b0]|(simp only [i64_w,i32_w];rw [c4b0])|skip)
  replace H:=bE H
  obtain⟨t360,A5,H⟩:=H
  have H':=mk0 H
  clear H
  go_wp2_with (first|(go_at_call 60;(with_reducible refine (impl_areAll_61.calls _ _ l0 t360 _ ?side1 ?side2 A5.out).mono ?_);(case side1=>exact kC (Kd.V_reads' HO0.out).2.2);(case side2=>exact (Kd.V_reads' HO0.out).2.1);rintro e w6 ⟨rfl,hb⟩;replace HO0:=mk0 (bV HO0.out hb);replace BK359:=mk0 (kK BK359.out hb);replace HB:=mk0 (kS HB.out hb);(try clear hb)))
  go_meet
  case rel=>exact⟨_,(!t360),eS,H',⟨by first|omega|exact Nat.le_refl _⟩,⟨rV HO0.out⟩,⟨kN BK359.out⟩,⟨kB HB.out⟩⟩
 case rest =>
  clear HC2
  try clear p2
  try clear c4
  try clear c4b0
  try clear c4b1
  obtain⟨kq,x19_1,rfl,HA,HJ1,HO_0,BK359,HB⟩:=hcut
  cases kq with
  | zero=>exact absurd HA.out (by simp [impl_WaveOf.j0])
  | succ kj1 =>
   have H:=HA.out
   clear HA
   simp only [impl_WaveOf.j0] at H
   by_cases c7:x19_1 = true
   ·subst c7
    replace H:=iT H
    simp only [Option.some.injEq,Prod.mk.injEq] at H
    obtain⟨rfl,rfl,rfl,rfl⟩:=H
    obtain⟨hcz8_0,hcz8_1,hcz8_2,hfz8_0,hfz8_1,hfz8_2⟩:=cz3 BK359.out
    go_wp2
    refine bodyPost_ret (results_ct rfl _ _ gb359 26 #[.int .i64 0,.slice none 0 0,.slice none 0 0] (0,0) _ rfl (by (with_reducible repeat (first|apply nB|apply dB|apply aB));refine blk_put (cs:=#[.int .i64 0,.slice none 0 0,.slice none 0 0]) ?_ 2 _ rfl;(with_reducible repeat (first|apply nB|apply dB|apply aB));refine blk_put (cs:=#[.int .i64 0,.slice none 0 0,.slice none 0 0]) ?_ 1 _ rfl;(with_reducible repeat (first|apply nB|apply dB|apply aB));refine blk_put (cs:=#[.int .i64 0,.slice none 0 0,.slice none 0 0]) ?_ 0 _ rfl;(with_reducible repeat (first|apply nB|apply dB|apply aB));exact BK359.out) Try.underlying26 rfl (by kernel_rfl)) rfl ?_
    exact⟨_,_,eR,by first|exact Kd.R_nil _ _ _ _ _|exact Kd.N_nil _ _ _ _ _|exact Kd.V_nil _ _ _ _ _|exact Kd.Q_nil _ _ _ _ _|exact Kd.S_nil _ _ _ _ _,by first|exact Kd.S_nil _ _ _ _ _|exact Kd.N_nil _ _ _ _ _|exact Kd.V_nil _ _ _ _ _|exact Kd.Q_nil _ _ _ _ _|exact Kd.R_nil _ _ _ _ _,kB HB.out⟩
   replace c7:=Bool.eq_false_iff.mpr c7
   subst c7
   replace H:=iF H
   have H':=mk0 H
   clear H
   go_wp2_with (first|((with_reducible refine gate_dst (N:=4) rfl ?_);refine box_event ?hg (N:=4) ?hd (cs:=#[.int .i64 0,.slice none 0 0,.slice none 0 0]) (t:=26) ?hr ?_;(case hd=>rfl);(case hg=>rfl);(case hr=>first|(go_simp;done)|(go_simp;rfl));intro gb361 hg w9 hbox hb;replace HO_0:=mk0 (Kd.V_below (Kd.V_elderB (rV HO_0.out) gb361 (Nat.le_of_eq hg.symm)) hb);have BK361:=mk0 (hbox);have GW361:=mk0 ((by rw [hg];exact (kZ HB.out):w.heap.size ≤ gb361));have GE361:=mk0 ((by rw [hg];exact (kZ HB.out):w.heap.size ≤ gb361));replace HB:=mk0 (kS HB.out hb);have NB359_361:=mk0 ((by rw [hg];exact Nat.ne_of_lt (kL BK359.out):gb359 ≠ gb361));have NB361_359:=mk0 ((by rw [hg];exact Nat.ne_of_gt (kL BK359.out):gb361 ≠ gb359));replace BK359:=mk0 (kK BK359.out hb);clear hb hbox hg;have hnb10:=NB361_359.out;have hnc10:=NB359_361.out;obtain⟨hcz11_0,hcz11_1,hcz11_2,hfz11_0,hfz11_1,hfz11_2⟩:=cz3 BK361.out))
   go_loopg [0,24] kj1 (fun kq v0 v24 w'=>∃ (x0_2:List Int) (x24_2:Int) (x362001_2:List Int) (x362002_2:List (S29)) (u362001:Value) (u362002:Value),v24 = .int .i64 x24_2 ∧ Aside0 (impl_WaveOf.l0 kq x0_2 x24_2 (l0.length:Int) x362001_2 x362002_2 = some (r1,r2,r3,r4)) ∧ Aside0 (kq ≤ kj1) ∧ Aside0 (Kd.V (Kd.int .i64) 3 w' w.heap.size (fun k_=>(P0_ k_ ∨ w.heap.size ≤ k_) ∧ some k_ ≠ (u362001:Value).ownBlock ∧ some k_ ≠ (u362002:Value).ownBlock ∧ k_ ≠ gb359 ∧ k_ ≠ gb361) v0 x0_2) ∧ Aside0 (Kd.R (Kd.int .i64) 3 w' w.heap.size (fun k_=>(w.heap.size ≤ k_)) u362001 x362001_2) ∧ Aside0 (Kd.S k29 29 w' w.heap.size (fun k_=>(w.heap.size ≤ k_)) u362002 x362002_2) ∧ Aside0 (w'.heap[gb359]? = some (.cells #[.int .i64 0,(.slice none 0 0),(.slice none 0 0)] 26 (0,0))) ∧ Aside0 (w'.heap[gb361]? = some (.cells #[.int .i64 (l0.length:Int),u362001,u362002] 26 (0,0))) ∧ Aside0 (Below w.heap.size w w'))
   case atStart=>exact⟨(l0),(0),(([]:List Int)),(([]:List (S29))),(.slice none 0 0),(.slice none 0 0),eS,H',⟨Nat.le_refl _⟩,⟨by (with_reducible repeat (first|apply aV|apply nV|apply dV));exact Kd.V_mono (Kd.V_far (p:=⟨gb361,2,none⟩) (Kd.V_far (p:=⟨gb361,1,none⟩) (Kd.V_far (p:=⟨gb361,0,none⟩) (Kd.V_mono HO_0.out (fun k_ hk=>(⟨hk,hk.2⟩:_ ∧ k_ ≠ gb361))) (fun _ hk=>hk.2) (.int .i64 (l0.length:Int))) (fun _ hk=>hk.2) (.slice none 0 0)) (fun _ hk=>hk.2) (.slice none 0 0)) (fun _ hk=>⟨hk.1.1.1,⟨(by simp [Value.ownBlock]),⟨(by simp [Value.ownBlock]),⟨hk.1.1.2,hk.1.2⟩⟩⟩⟩)⟩,⟨by first|exact Kd.R_nil _ _ _ _ _|exact Kd.N_nil _ _ _ _ _|exact Kd.V_nil _ _ _ _ _|exact Kd.Q_nil _ _ _ _ _|exact Kd.S_nil _ _ _ _ _⟩,⟨by first|exact Kd.S_nil _ _ _ _ _|exact Kd.N_nil _ _ _ _ _|exact Kd.V_nil _ _ _ _ _|exact Kd.Q_nil _ _ _ _ _|exact Kd.R_nil _ _ _ _ _⟩,⟨by (with_reducible repeat (first|apply nB|apply dB|apply aB));refine blk_far ?_ NB359_361.out _;(with_reducible repeat (first|apply nB|apply dB|apply aB));refine blk_far ?_ NB359_361.out _;(with_reducible repeat (first|apply nB|apply dB|apply aB));refine blk_far ?_ NB359_361.out _;(with_reducible repeat (first|apply nB|apply dB|apply aB));exact BK359.out⟩,⟨by (with_reducible repeat (first|apply nB|apply dB|apply aB));refine blk_put (cs:=#[.int .i64 (l0.length:Int),.slice none 0 0,.slice none 0 0]) ?_ 2 _ rfl;(with_reducible repeat (first|apply nB|apply dB|apply aB));refine blk_put (cs:=#[.int .i64 (l0.length:Int),.slice none 0 0,.slice none 0 0]) ?_ 1 _ rfl;(with_reducible repeat (first|apply nB|apply dB|apply aB));refine blk_put (cs:=#[.int .i64 0,.slice none 0 0,.slice none 0 0]) ?_ 0 _ rfl;(with_reducible repeat (first|apply nB|apply dB|apply aB));exact BK361.out⟩,⟨kB HB.out⟩⟩
   case round =>
    clear H'
    try clear c1
    try clear p2
    try clear c4
    try clear c4b0
    try clear c4b1
    try clear c7
    try clear c10
    try clear hcz11_0
    try clear hcz11_1
    try clear hcz11_2
    try clear hcz8_0
    try clear hcz8_1
    try clear hcz8_2
    try clear hfz11_0
    try clear hfz11_1
    try clear hfz11_2
    try clear hfz8_0
    try clear hfz8_1
    try clear hfz8_2
    try clear p2
    obtain⟨x0_2,x24_2,x362001_2,x362002_2,u362001,u362002,rfl,HA,HK2,HO_0,HO_362001,HO_362002,BK359,BK361,HB⟩:=hrel
    cases gk with
    | zero=>exact absurd HA.out (by simp [impl_WaveOf.l0])
    | succ k2 =>
     have H:=HA.out
     clear HA
     simp only [impl_WaveOf.l0] at H
     by_cases c12:x24_2 < 9
     rotate_left
     ·rw [if_neg c12] at H
      have c12b0:decide (x24_2 < 9) = false:=decide_eq_false c12
      clear c12
      simp only [Option.some.injEq,Prod.mk.injEq] at H
      obtain⟨rfl,rfl,rfl,rfl⟩:=H
      have hnb52:=NB361_359.out
      have hnc52:=NB359_361.out
      obtain⟨hcz53_0,hcz53_1,hcz53_2,hfz53_0,hfz53_1,hfz53_2⟩:=cz3 BK361.out
      obtain⟨hcz54_0,hcz54_1,hcz54_2,hfz54_0,hfz54_1,hfz54_2⟩:=cz3 BK359.out
      obtain⟨Ao55,co55,eo55⟩:=Kd.R_slice HO_362001.out
      subst eo55
      obtain⟨Ao56,co56,eo56⟩:=Kd.S_slice HO_362002.out
      subst eo56
      go_wp2
      refine bodyPost_ret (results_ct rfl _ _ gb359 26 #[.int .i64 (l0.length:Int),.slice Ao55 x362001_2.length co55,.slice Ao56 x362002_2.length co56] (0,0) _ rfl (by (with_reducible repeat (first|apply nB|apply dB|apply aB));refine blk_put (cs:=#[.int .i64 (l0.length:Int),.slice Ao55 x362001_2.length co55,.slice none 0 0]) ?_ 2 _ rfl;(with_reducible repeat (first|apply nB|apply dB|apply aB));refine blk_put (cs:=#[.int .i64 (l0.length:Int),.slice none 0 0,.slice none 0 0]) ?_ 1 _ rfl;(with_reducible repeat (first|apply nB|apply dB|apply aB));refine blk_put (cs:=#[.int .i64 0,.slice none 0 0,.slice none 0 0]) ?_ 0 _ rfl;(with_reducible repeat (first|apply nB|apply dB|apply aB));exact BK359.out) Try.underlying26 rfl (by kernel_rfl)) rfl ?_
      exact⟨_,_,eR,by (with_reducible repeat (first|apply aR|apply nR|apply dR));exact Kd.R_mono (Kd.R_far (p:=⟨gb359,2,none⟩) (Kd.R_far (p:=⟨gb359,1,none⟩) (Kd.R_far (p:=⟨gb359,0,none⟩) (Kd.R_types HO_362001.out BK359.out (by decide)) (fun _ hk=>hk.2) (.int .i64 (l0.length:Int))) (fun _ hk=>hk.2) (.slice Ao55 x362001_2.length co55)) (fun _ hk=>hk.2) (.slice Ao56 x362002_2.length co56)) (fun _ hk=>hk.1),by (with_reducible repeat (first|apply aS|apply nS|apply dS));exact Kd.S_mono (Kd.S_far (p:=⟨gb359,2,none⟩) (Kd.S_far (p:=⟨gb359,1,none⟩) (Kd.S_far (p:=⟨gb359,0,none⟩) (Kd.S_types HO_362002.out BK359.out (by decide)) (fun _ hk=>hk.2) (.int .i64 (l0.length:Int))) (fun _ hk=>hk.2) (.slice Ao55 x362001_2.length co55)) (fun _ hk=>hk.2) (.slice Ao56 x362002_2.length co56)) (fun _ hk=>hk.1),kB HB.out⟩
     rw [if_pos c12] at H
     have c12b0:decide (x24_2 < 9) = true:=decide_eq_true c12
     clear c12
     have H':=mk0 H
     clear H
     obtain⟨Ao13,co13,eo13⟩:=Kd.V_slice HO_0.out
     subst eo13
     go_wp2
     go_loopg [6,7,8,29] k2 (fun kq v6 v7 v8 v29 w'=>∃ (x6_3:List Int) (x7_3:List Int) (x8_3:List Int) (x29_3:Int),v29 = .int .i64 x29_3 ∧ Aside0 (impl_WaveOf.l1 kq x0_2 x24_2 x6_3 x7_3 x8_3 x24_2 (x0_2.length:Int) x29_3 (l0.length:Int) x362001_2 x362002_2 = some (r1,r2,r3,r4)) ∧ Aside0 (kq ≤ k2) ∧ Aside0 (Kd.V (Kd.int .i64) 3 w' w.heap.size (fun k_=>(P0_ k_ ∨ w.heap.size ≤ k_) ∧ some k_ ≠ (v6:Value).ownBlock ∧ some k_ ≠ (v7:Value).ownBlock ∧ some k_ ≠ (v8:Value).ownBlock ∧ some k_ ≠ (u362001:Value).ownBlock ∧ some k_ ≠ (u362002:Value).ownBlock ∧ k_ ≠ gb359 ∧ k_ ≠ gb361) (.slice Ao13 x0_2.length co13) x0_2) ∧ Aside0 (Kd.R (Kd.int .i64) 3 w' w.heap.size (fun k_=>(w.heap.size ≤ k_) ∧ some k_ ≠ (v7:Value).ownBlock ∧ some k_ ≠ (v8:Value).ownBlock ∧ some k_ ≠ (u362001:Value).ownBlock) v6 x6_3) ∧ Aside0 (Kd.R (Kd.int .i64) 3 w' w.heap.size (fun k_=>(w.heap.size ≤ k_) ∧ some k_ ≠ (v6:Value).ownBlock ∧ some k_ ≠ (v8:Value).ownBlock ∧ some k_ ≠ (u362001:Value).ownBlock) v7 x7_3) ∧ Aside0 (Kd.R (Kd.int .i64) 3 w' w.heap.size (fun k_=>(w.heap.size ≤ k_) ∧ some k_ ≠ (v6:Value).ownBlock ∧ some k_ ≠ (v7:Value).ownBlock ∧ some k_ ≠ (u362001:Value).ownBlock) v8 x8_3) ∧ Aside0 (Kd.R (Kd.int .i64) 3 w' w.heap.size (fun k_=>(w.heap.size ≤ k_) ∧ some k_ ≠ (v6:Value).ownBlock ∧ some k_ ≠ (v7:Value).ownBlock ∧ some k_ ≠ (v8:Value).ownBlock) u362001 x362001_2) ∧ Aside0 (Kd.S k29 29 w' w.heap.size (fun k_=>(w.heap.size ≤ k_)) u362002 x362002_2) ∧ Aside0 (w'.heap[gb359]? = some (.cells #[.int .i64 0,(.slice none 0 0),(.slice none 0 0)] 26 (0,0))) ∧ Aside0 (w'.heap[gb361]? = some (.cells #[.int .i64 (l0.length:Int),u362001,u362002] 26 (0,0))) ∧ Aside0 (Below w.heap.size w w'))
     case atStart=>exact⟨(([]:List Int)),(([]:List Int)),(([]:List Int)),(0),eS,H',⟨Nat.le_refl _⟩,⟨by (with_reducible repeat (first|apply aV|apply nV|apply dV));exact Kd.V_mono HO_0.out (fun _ hk=>⟨hk.1,⟨(by simp [Value.ownBlock]),⟨(by simp [Value.ownBlock]),⟨(by simp [Value.ownBlock]),⟨hk.2.1,⟨hk.2.2.1,⟨hk.2.2.2.1,hk.2.2.2.2⟩⟩⟩⟩⟩⟩⟩)⟩,⟨by first|exact Kd.R_nil _ _ _ _ _|exact Kd.N_nil _ _ _ _ _|exact Kd.V_nil _ _ _ _ _|exact Kd.Q_nil _ _ _ _ _|exact Kd.S_nil _ _ _ _ _⟩,⟨by first|exact Kd.R_nil _ _ _ _ _|exact Kd.N_nil _ _ _ _ _|exact Kd.V_nil _ _ _ _ _|exact Kd.Q_nil _ _ _ _ _|exact Kd.S_nil _ _ _ _ _⟩,⟨by first|exact Kd.R_nil _ _ _ _ _|exact Kd.N_nil _ _ _ _ _|exact Kd.V_nil _ _ _ _ _|exact Kd.Q_nil _ _ _ _ _|exact Kd.S_nil _ _ _ _ _⟩,⟨by (with_reducible repeat (first|apply aR|apply nR|apply dR));exact Kd.R_mono HO_362001.out (fun _ hk=>⟨hk,⟨(by simp [Value.ownBlock]),⟨(by simp [Value.ownBlock]),(by simp [Value.ownBlock])⟩⟩⟩)⟩,⟨rS HO_362002.out⟩,⟨kN BK359.out⟩,⟨kN BK361.out⟩,⟨kB HB.out⟩⟩
     case round =>
      clear H'
      try clear c1
      try clear p2
      try clear c4
      try clear c4b0
      try clear c4b1
      try clear c7
      try clear c10
      try clear c12
      try clear c12b0
      try clear hcz11_0
      try clear hcz11_1
      try clear hcz11_2
      try clear hcz8_0
      try clear hcz8_1
      try clear hcz8_2
      try clear hfz11_0
      try clear hfz11_1
      try clear hfz11_2
      try clear hfz8_0
      try clear hfz8_1
      try clear hfz8_2
      try clear p2
      obtain⟨x6_3,x7_3,x8_3,x29_3,rfl,HA,HK3,HO_0,HO_6,HO_7,HO_8,HO_362001,HO_362002,BK359,BK361,HB⟩:=hrel
      cases gk with
      | zero=>exact absurd HA.out (by simp [impl_WaveOf.l1])
      | succ k3 =>
       have H:=HA.out
       clear HA
       simp only [impl_WaveOf.l1] at H
       by_cases c14:x29_3 < (x0_2.length:Int)
       ·rw [if_pos c14] at H
        have c14b0:decide (x29_3 < (x0_2.length:Int)) = true:=decide_eq_true c14
        clear c14
        by_cases c15:0 ≤ x29_3
        rotate_left
        ·rw [if_neg c15] at H
         exact nn H
        rw [if_pos c15] at H
        have c15b0:decide (0 ≤ x29_3) = true:=decide_eq_true c15
        clear c15
        by_cases c16:x29_3 < (x0_2.length:Int)
        rotate_left
        ·rw [if_neg c16] at H
         exact nn H
        rw [if_pos c16] at H
        have c16b0:decide (x29_3 < (x0_2.length:Int)) = true:=decide_eq_true c16
        clear c16
        obtain⟨ji17,hji17⟩:∃ j_:Int,(wrap64 (8 - x24_2)) = j_:=⟨_,rfl⟩
        first|rw [hji17] at H|simp only [hji17] at H
        have hji17w:(IntKind.i64.wrap (8 - x24_2)) = ji17:=(i64_w _).trans hji17
        by_cases c18:0 ≤ (ji17)
        rotate_left
        ·rw [if_neg c18] at H
         exact nn H
        rw [if_pos c18] at H
        have c18b0:=eq_true c18
        have c18b1:decide (0 ≤ (ji17)) = true:=decide_eq_true c18
        clear c18
        obtain⟨ji19,hji19⟩:∃ j_:Int,(shr .i64 (rd x0_2 x29_3) (ji17)) = j_:=⟨_,rfl⟩
        first|rw [hji19] at H|simp only [hji19] at H
        have hji19_:((rd x0_2 x29_3) / 2 ^ min (ji17).toNat 64) = ji19:=hji19
        have hji19z:(ji17) ≤ 64 → ((rd x0_2 x29_3) / 2 ^ (ji17).toNat) = ji19:=shr_small hji19
        by_cases c20:x8_3.length < 17592186044416
        rotate_left
        ·rw [if_neg c20] at H
         exact nn H
        rw [if_pos c20] at H
        have LMc20:=mk0 c20
        clear c20
        obtain⟨y363,hy363⟩:∃ y_:List Int,y_ = (x8_3 ++ [Go.bits .and .i64 (ji19) 1]):=⟨_,rfl⟩
        first|(with_reducible replace H:=yB hy363 H)|rw [← hy363] at H|skip
        have Ny363:=mk0 hy363
        clear hy363
        by_cases c21:(Go.bits .and .i64 (ji19) 1) = 0
        rotate_left
        ·rw [if_neg c21] at H
         have c21b0:((Go.bits .and .i64 (ji19) 1) == 0) = false:=beq_eq_false_iff_ne.mpr c21
         have c21b1:((Go.bits .and .i64 (ji19) 1) != 0) = true:=bne_iff_ne.mpr c21
         by_cases c25:x7_3.length < 17592186044416
         rotate_left
         ·rw [if_neg c25] at H
          exact nn H
         rw [if_pos c25] at H
         have LMc25:=mk0 c25
         clear c25
         obtain⟨y369,hy369⟩:∃ y_:List Int,y_ = (x7_3 ++ [rd x0_2 x29_3]):=⟨_,rfl⟩
         first|(with_reducible replace H:=yB hy369 H)|rw [← hy369] at H|skip
         have Ny369:=mk0 hy369
         clear hy369
         have H':=mk0 H
         clear H
         have p362:0 ≤ (x29_3:Int):=oD
         have q362:x29_3 < (x0_2.length:Int):=oD
         obtain⟨ad362,e362,hx362_0⟩:=Kd.at_int (Kd.V_reads' HO_0.out).2.2 x29_3 p362 q362
         cases e362
         replace p362:=eq_true p362
         replace q362:=eq_true q362
         go_wp2_with (first|((with_reducible refine gate_builtin (b:=.append) (xs:=#[.tmp 38,.tmp 40]) rfl ?_);at_builtin;refine Kd.R_append (Kd.int .i64) (w0:=w) w.heap.size rfl (.tmp 38) (.tmp 40) 23 3 (.int .i64 0) 8 rfl Try.underlying23 info3 rfl (by decide) (by omega) u8 x8_3 (Go.bits .and .i64 (ji19) 1) [.int .i64 (Go.bits .and .i64 (ji19) 1)] (fun k_=>(w.heap.size ≤ k_) ∧ some k_ ≠ (u6:Value).ownBlock ∧ some k_ ≠ (u7:Value).ownBlock ∧ some k_ ≠ (u362001:Value).ownBlock) (fun _=>False) rfl rfl ?aP (fun _ hk=>hk.elim) ?aF ?aO ?aB ?aS ?aL ?_;(case aP=>exact rfl);(case aB=>exact (kB HB.out));(case aF=>exact (fun k_ hk=>⟨(Nat.le_trans (kZ HB.out) hk),Kd.fresh' (Kd.R_lt (rR HO_6.out)) k_ hk,Kd.fresh' (Kd.R_lt (rR HO_7.out)) k_ hk,Kd.fresh' (Kd.R_lt (rR HO_362001.out)) k_ hk⟩));(case aO=>exact (rR HO_8.out));(case aS=>exact (kZ HB.out));(case aL=>have:=LMc20.out;omega);intro v364 w26 ho hb hg hat;rw [← Ny363.out] at ho;replace HO_0:=mk0 (Kd.V_afterv (ok:=(fun k_=>(P0_ k_ ∨ w.heap.size ≤ k_) ∧ some k_ ≠ (u6:Value).ownBlock ∧ some k_ ≠ (u7:Value).ownBlock ∧ some k_ ≠ (u362001:Value).ownBlock ∧ some k_ ≠ (u362002:Value).ownBlock ∧ k_ ≠ gb359 ∧ k_ ≠ gb361)) (rV (Kd.V_mono HO_0.out (fun _ hk=>⟨⟨hk.1,⟨hk.2.1,⟨hk.2.2.1,⟨hk.2.2.2.2.1,⟨hk.2.2.2.2.2.1,⟨hk.2.2.2.2.2.2.1,hk.2.2.2.2.2.2.2⟩⟩⟩⟩⟩⟩,hk.2.2.2.1⟩))) hg hat);replace HO_6:=mk0 (Kd.R_after (ok:=(fun k_=>(w.heap.size ≤ k_) ∧ some k_ ≠ (u7:Value).ownBlock ∧ some k_ ≠ (u362001:Value).ownBlock)) (rR (Kd.R_mono HO_6.out (fun _ hk=>⟨⟨hk.1,⟨hk.2.1,hk.2.2.2⟩⟩,hk.2.2.1⟩))) hg hat);replace HO_7:=mk0 (Kd.R_after (ok:=(fun k_=>(w.heap.size ≤ k_) ∧ some k_ ≠ (u6:Value).ownBlock ∧ some k_ ≠ (u362001:Value).ownBlock)) (rR (Kd.R_mono HO_7.out (fun _ hk=>⟨⟨hk.1,⟨hk.2.1,hk.2.2.2⟩⟩,hk.2.2.1⟩))) hg hat);replace HO_362001:=mk0 (Kd.R_after (ok:=(fun k_=>(w.heap.size ≤ k_) ∧ some k_ ≠ (u6:Value).ownBlock ∧ some k_ ≠ (u7:Value).ownBlock)) (rR (Kd.R_mono HO_362001.out (fun _ hk=>⟨⟨hk.1,⟨hk.2.1,hk.2.2.1⟩⟩,hk.2.2.2⟩))) hg hat);replace HO_362002:=mk0 (Kd.S_over' (rS HO_362002.out) (Kd.R_typed (rR HO_8.out)) (by decide) hg);replace BK359:=mk0 (blk_grown (kN BK359.out) hg (Kd.R_ne HO_8.out BK359.out (by decide)));replace BK361:=mk0 (blk_grown (kN BK361.out) hg (Kd.R_ne HO_8.out BK361.out (by decide)));replace HB:=mk0 (hb);have HO365:=mk0 (ho);clear HO_8 ho hb hg hat)|((with_reducible refine gate_builtin (b:=.append) (xs:=#[.tmp 48,.tmp 50]) rfl ?_);at_builtin;refine Kd.R_append (Kd.int .i64) (w0:=w) w.heap.size rfl (.tmp 48) (.tmp 50) 23 3 (.int .i64 0) 8 rfl Try.underlying23 info3 rfl (by decide) (by omega) u7 x7_3 (rd x0_2 x29_3) [.int .i64 (rd x0_2 x29_3)] (fun k_=>(w.heap.size ≤ k_) ∧ some k_ ≠ (u6:Value).ownBlock ∧ some k_ ≠ (u362001:Value).ownBlock ∧ some k_ ≠ (v364:Value).ownBlock) (fun _=>False) rfl rfl ?aP (fun _ hk=>hk.elim) ?aF ?aO ?aB ?aS ?aL ?_;(case aP=>exact rfl);(case aB=>exact (kB HB.out));(case aF=>exact (fun k_ hk=>⟨(Nat.le_trans (kZ HB.out) hk),Kd.fresh' (Kd.R_lt (rR HO_6.out)) k_ hk,Kd.fresh' (Kd.R_lt (rR HO_362001.out)) k_ hk,Kd.fresh' (Kd.R_lt (rR HO365.out)) k_ hk⟩));(case aO=>exact (rR (Kd.R_mono HO_7.out (fun _ hk=>⟨hk.1.1,⟨hk.1.2.1,⟨hk.1.2.2,hk.2⟩⟩⟩))));(case aS=>exact (kZ HB.out));(case aL=>have:=LMc25.out;omega);intro v370 w27 ho hb hg hat;rw [← Ny369.out] at ho;replace HO_0:=mk0 (Kd.V_afterv (ok:=(fun k_=>(P0_ k_ ∨ w.heap.size ≤ k_) ∧ some k_ ≠ (u6:Value).ownBlock ∧ some k_ ≠ (u362001:Value).ownBlock ∧ some k_ ≠ (u362002:Value).ownBlock ∧ some k_ ≠ (v364:Value).ownBlock ∧ k_ ≠ gb359 ∧ k_ ≠ gb361)) (rV (Kd.V_mono HO_0.out (fun _ hk=>⟨⟨hk.1.1,⟨hk.1.2.1,⟨hk.1.2.2.2.1,⟨hk.1.2.2.2.2.1,⟨hk.2,⟨hk.1.2.2.2.2.2.1,hk.1.2.2.2.2.2.2⟩⟩⟩⟩⟩⟩,hk.1.2.2.1⟩))) hg hat);replace HO_6:=mk0 (Kd.R_after (ok:=(fun k_=>(w.heap.size ≤ k_) ∧ some k_ ≠ (u362001:Value).ownBlock ∧ some k_ ≠ (v364:Value).ownBlock)) (rR (Kd.R_mono HO_6.out (fun _ hk=>⟨⟨hk.1.1,⟨hk.1.2.2,hk.2⟩⟩,hk.1.2.1⟩))) hg hat);replace HO_362001:=mk0 (Kd.R_after (ok:=(fun k_=>(w.heap.size ≤ k_) ∧ some k_ ≠ (u6:Value).ownBlock ∧ some k_ ≠ (v364:Value).ownBlock)) (rR (Kd.R_mono HO_362001.out (fun _ hk=>⟨⟨hk.1.1,⟨hk.1.2.1,hk.2⟩⟩,hk.1.2.2⟩))) hg hat);replace HO_362002:=mk0 (Kd.S_over' (rS HO_362002.out) (Kd.R_typed (rR HO_7.out)) (by decide) hg);replace BK359:=mk0 (blk_grown (kN BK359.out) hg (Kd.R_ne HO_7.out BK359.out (by decide)));replace BK361:=mk0 (blk_grown (kN BK361.out) hg (Kd.R_ne HO_7.out BK361.out (by decide)));replace HO365:=mk0 (Kd.R_after (ok:=(fun k_=>(w.heap.size ≤ k_) ∧ some k_ ≠ (u6:Value).ownBlock ∧ some k_ ≠ (u362001:Value).ownBlock)) (rR (Kd.R_mono HO365.out (fun _ hk=>⟨⟨hk.1,⟨hk.2.1,hk.2.2.2⟩⟩,hk.2.2.1⟩))) hg hat);replace HB:=mk0 (hb);have HO371:=mk0 (ho);clear HO_7 ho hb hg hat))
         go_roundg k3
         case measure=>have:=HJ1.out;have:=HK2.out;have:=HK3.out;omega
         case rel=>exact⟨(x6_3),(y369),(y363),(wrap64 (x29_3 + 1)),eS,H',⟨by have:=HJ1.out;have:=HK2.out;have:=HK3.out;omega⟩,⟨rV (Kd.V_mono HO_0.out (fun _ hk=>⟨hk.1.1,⟨hk.1.2.1,⟨hk.2,⟨hk.1.2.2.2.2.1,⟨hk.1.2.2.1,⟨hk.1.2.2.2.1,⟨hk.1.2.2.2.2.2.1,hk.1.2.2.2.2.2.2⟩⟩⟩⟩⟩⟩⟩))⟩,⟨rR (Kd.R_mono HO_6.out (fun _ hk=>⟨hk.1.1,⟨hk.2,⟨hk.1.2.2,hk.1.2.1⟩⟩⟩))⟩,⟨rR (Kd.R_mono HO371.out (fun _ hk=>⟨hk.1,⟨hk.2.1,⟨hk.2.2.2,hk.2.2.1⟩⟩⟩))⟩,⟨rR (Kd.R_mono HO365.out (fun _ hk=>⟨hk.1.1,⟨hk.1.2.1,⟨hk.2,hk.1.2.2⟩⟩⟩))⟩,⟨rR (Kd.R_mono HO_362001.out (fun _ hk=>⟨hk.1.1,⟨hk.1.2.1,⟨hk.2,hk.1.2.2⟩⟩⟩))⟩,⟨rS HO_362002.out⟩,⟨kN BK359.out⟩,⟨kN BK361.out⟩,⟨kB HB.out⟩⟩
        rw [if_pos c21] at H
        have c21b0:((Go.bits .and .i64 (ji19) 1) == 0) = true:=beq_iff_eq.mpr c21
        have c21b1:((Go.bits .and .i64 (ji19) 1) != 0) = false:=bne_eq_false_iff_eq.mpr c21
        clear c21
        by_cases c22:x6_3.length < 17592186044416
        rotate_left
        ·rw [if_neg c22] at H
         exact nn H
        rw [if_pos c22] at H
        have LMc22:=mk0 c22
        clear c22
        obtain⟨y366,hy366⟩:∃ y_:List Int,y_ = (x6_3 ++ [rd x0_2 x29_3]):=⟨_,rfl⟩
        first|(with_reducible replace H:=yB hy366 H)|rw [← hy366] at H|skip
        have Ny366:=mk0 hy366
        clear hy366
        have H':=mk0 H
        clear H
        have p362:0 ≤ (x29_3:Int):=oD
        have q362:x29_3 < (x0_2.length:Int):=oD
        obtain⟨ad362,e362,hx362_0⟩:=Kd.at_int (Kd.V_reads' HO_0.out).2.2 x29_3 p362 q362
        cases e362
        replace p362:=eq_true p362
        replace q362:=eq_true q362
        go_wp2_with (first|((with_reducible refine gate_builtin (b:=.append) (xs:=#[.tmp 38,.tmp 40]) rfl ?_);at_builtin;refine Kd.R_append (Kd.int .i64) (w0:=w) w.heap.size rfl (.tmp 38) (.tmp 40) 23 3 (.int .i64 0) 8 rfl Try.underlying23 info3 rfl (by decide) (by omega) u8 x8_3 (Go.bits .and .i64 (ji19) 1) [.int .i64 (Go.bits .and .i64 (ji19) 1)] (fun k_=>(w.heap.size ≤ k_) ∧ some k_ ≠ (u6:Value).ownBlock ∧ some k_ ≠ (u7:Value).ownBlock ∧ some k_ ≠ (u362001:Value).ownBlock) (fun _=>False) rfl rfl ?aP (fun _ hk=>hk.elim) ?aF ?aO ?aB ?aS ?aL ?_;(case aP=>exact rfl);(case aB=>exact (kB HB.out));(case aF=>exact (fun k_ hk=>⟨(Nat.le_trans (kZ HB.out) hk),Kd.fresh' (Kd.R_lt (rR HO_6.out)) k_ hk,Kd.fresh' (Kd.R_lt (rR HO_7.out)) k_ hk,Kd.fresh' (Kd.R_lt (rR HO_362001.out)) k_ hk⟩));(case aO=>exact (rR HO_8.out));(case aS=>exact (kZ HB.out));(case aL=>have:=LMc20.out;omega);intro v364 w23 ho hb hg hat;rw [← Ny363.out] at ho;replace HO_0:=mk0 (Kd.V_afterv (ok:=(fun k_=>(P0_ k_ ∨ w.heap.size ≤ k_) ∧ some k_ ≠ (u6:Value).ownBlock ∧ some k_ ≠ (u7:Value).ownBlock ∧ some k_ ≠ (u362001:Value).ownBlock ∧ some k_ ≠ (u362002:Value).ownBlock ∧ k_ ≠ gb359 ∧ k_ ≠ gb361)) (rV (Kd.V_mono HO_0.out (fun _ hk=>⟨⟨hk.1,⟨hk.2.1,⟨hk.2.2.1,⟨hk.2.2.2.2.1,⟨hk.2.2.2.2.2.1,⟨hk.2.2.2.2.2.2.1,hk.2.2.2.2.2.2.2⟩⟩⟩⟩⟩⟩,hk.2.2.2.1⟩))) hg hat);replace HO_6:=mk0 (Kd.R_after (ok:=(fun k_=>(w.heap.size ≤ k_) ∧ some k_ ≠ (u7:Value).ownBlock ∧ some k_ ≠ (u362001:Value).ownBlock)) (rR (Kd.R_mono HO_6.out (fun _ hk=>⟨⟨hk.1,⟨hk.2.1,hk.2.2.2⟩⟩,hk.2.2.1⟩))) hg hat);replace HO_7:=mk0 (Kd.R_after (ok:=(fun k_=>(w.heap.size ≤ k_) ∧ some k_ ≠ (u6:Value).ownBlock ∧ some k_ ≠ (u362001:Value).ownBlock)) (rR (Kd.R_mono HO_7.out (fun _ hk=>⟨⟨hk.1,⟨hk.2.1,hk.2.2.2⟩⟩,hk.2.2.1⟩))) hg hat);replace HO_362001:=mk0 (Kd.R_after (ok:=(fun k_=>(w.heap.size ≤ k_) ∧ some k_ ≠ (u6:Value).ownBlock ∧ some k_ ≠ (u7:Value).ownBlock)) (rR (Kd.R_mono HO_362001.out (fun _ hk=>⟨⟨hk.1,⟨hk.2.1,hk.2.2.1⟩⟩,hk.2.2.2⟩))) hg hat);replace HO_362002:=mk0 (Kd.S_over' (rS HO_362002.out) (Kd.R_typed (rR HO_8.out)) (by decide) hg);replace BK359:=mk0 (blk_grown (kN BK359.out) hg (Kd.R_ne HO_8.out BK359.out (by decide)));replace BK361:=mk0 (blk_grown (kN BK361.out) hg (Kd.R_ne HO_8.out BK361.out (by decide)));replace HB:=mk0 (hb);have HO365:=mk0 (ho);clear HO_8 ho hb hg hat)|((with_reducible refine gate_builtin (b:=.append) (xs:=#[.tmp 44,.tmp 46]) rfl ?_);at_builtin;refine Kd.R_append (Kd.int .i64) (w0:=w) w.heap.size rfl (.tmp 44) (.tmp 46) 23 3 (.int .i64 0) 8 rfl Try.underlying23 info3 rfl (by decide) (by omega) u6 x6_3 (rd x0_2 x29_3) [.int .i64 (rd x0_2 x29_3)] (fun k_=>(w.heap.size ≤ k_) ∧ some k_ ≠ (u7:Value).ownBlock ∧ some k_ ≠ (u362001:Value).ownBlock ∧ some k_ ≠ (v364:Value).ownBlock) (fun _=>False) rfl rfl ?aP (fun _ hk=>hk.elim) ?aF ?aO ?aB ?aS ?aL ?_;(case aP=>exact rfl);(case aB=>exact (kB HB.out));(case aF=>exact (fun k_ hk=>⟨(Nat.le_trans (kZ HB.out) hk),Kd.fresh' (Kd.R_lt (rR HO_7.out)) k_ hk,Kd.fresh' (Kd.R_lt (rR HO_362001.out)) k_ hk,Kd.fresh' (Kd.R_lt (rR HO365.out)) k_ hk⟩));(case aO=>exact (rR (Kd.R_mono HO_6.out (fun _ hk=>⟨hk.1.1,⟨hk.1.2.1,⟨hk.1.2.2,hk.2⟩⟩⟩))));(case aS=>exact (kZ HB.out));(case aL=>have:=LMc22.out;omega);intro v367 w24 ho hb hg hat;rw [← Ny366.out] at ho;replace HO_0:=mk0 (Kd.V_afterv (ok:=(fun k_=>(P0_ k_ ∨ w.heap.size ≤ k_) ∧ some k_ ≠ (u7:Value).ownBlock ∧ some k_ ≠ (u362001:Value).ownBlock ∧ some k_ ≠ (u362002:Value).ownBlock ∧ some k_ ≠ (v364:Value).ownBlock ∧ k_ ≠ gb359 ∧ k_ ≠ gb361)) (rV (Kd.V_mono HO_0.out (fun _ hk=>⟨⟨hk.1.1,⟨hk.1.2.2.1,⟨hk.1.2.2.2.1,⟨hk.1.2.2.2.2.1,⟨hk.2,⟨hk.1.2.2.2.2.2.1,hk.1.2.2.2.2.2.2⟩⟩⟩⟩⟩⟩,hk.1.2.1⟩))) hg hat);replace HO_7:=mk0 (Kd.R_after (ok:=(fun k_=>(w.heap.size ≤ k_) ∧ some k_ ≠ (u362001:Value).ownBlock ∧ some k_ ≠ (v364:Value).ownBlock)) (rR (Kd.R_mono HO_7.out (fun _ hk=>⟨⟨hk.1.1,⟨hk.1.2.2,hk.2⟩⟩,hk.1.2.1⟩))) hg hat);replace HO_362001:=mk0 (Kd.R_after (ok:=(fun k_=>(w.heap.size ≤ k_) ∧ some k_ ≠ (u7:Value).ownBlock ∧ some k_ ≠ (v364:Value).ownBlock)) (rR (Kd.R_mono HO_362001.out (fun _ hk=>⟨⟨hk.1.1,⟨hk.1.2.2,hk.2⟩⟩,hk.1.2.1⟩))) hg hat);replace HO_362002:=mk0 (Kd.S_over' (rS HO_362002.out) (Kd.R_typed (rR HO_6.out)) (by decide) hg);replace BK359:=mk0 (blk_grown (kN BK359.out) hg (Kd.R_ne HO_6.out BK359.out (by decide)));replace BK361:=mk0 (blk_grown (kN BK361.out) hg (Kd.R_ne HO_6.out BK361.out (by decide)));replace HO365:=mk0 (Kd.R_after (ok:=(fun k_=>(w.heap.size ≤ k_) ∧ some k_ ≠ (u7:Value).ownBlock ∧ some k_ ≠ (u362001:Value).ownBlock)) (rR (Kd.R_mono HO365.out (fun _ hk=>⟨⟨hk.1,⟨hk.2.2.1,hk.2.2.2⟩⟩,hk.2.1⟩))) hg hat);replace HB:=mk0 (hb);have HO368:=mk0 (ho);clear HO_6 ho hb hg hat))
        go_roundg k3
        case measure=>have:=HJ1.out;have:=HK2.out;have:=HK3.out;omega
        case rel=>exact⟨(y366),(x7_3),(y363),(wrap64 (x29_3 + 1)),eS,H',⟨by have:=HJ1.out;have:=HK2.out;have:=HK3.out;omega⟩,⟨rV (Kd.V_mono HO_0.out (fun _ hk=>⟨hk.1.1,⟨hk.2,⟨hk.1.2.1,⟨hk.1.2.2.2.2.1,⟨hk.1.2.2.1,⟨hk.1.2.2.2.1,⟨hk.1.2.2.2.2.2.1,hk.1.2.2.2.2.2.2⟩⟩⟩⟩⟩⟩⟩))⟩,⟨rR (Kd.R_mono HO368.out (fun _ hk=>⟨hk.1,⟨hk.2.1,⟨hk.2.2.2,hk.2.2.1⟩⟩⟩))⟩,⟨rR (Kd.R_mono HO_7.out (fun _ hk=>⟨hk.1.1,⟨hk.2,⟨hk.1.2.2,hk.1.2.1⟩⟩⟩))⟩,⟨rR (Kd.R_mono HO365.out (fun _ hk=>⟨hk.1.1,⟨hk.2,⟨hk.1.2.1,hk.1.2.2⟩⟩⟩))⟩,⟨rR (Kd.R_mono HO_362001.out (fun _ hk=>⟨hk.1.1,⟨hk.2,⟨hk.1.2.1,hk.1.2.2⟩⟩⟩))⟩,⟨rS HO_362002.out⟩,⟨kN BK359.out⟩,⟨kN BK361.out⟩,⟨kB HB.out⟩⟩
       rw [if_neg c14] at H
       have c14b0:decide (x29_3 < (x0_2.length:Int)) = false:=decide_eq_false c14
       clear c14
       by_cases c28:x362001_2.length < 17592186044416
       rotate_left
       ·rw [if_neg c28] at H
        exact nn H
       rw [if_pos c28] at H
       have LMc28:=mk0 c28
       clear c28
       obtain⟨y372,hy372⟩:∃ y_:List Int,y_ = (x362001_2 ++ [(x6_3.length:Int)]):=⟨_,rfl⟩
       first|(with_reducible replace H:=yB hy372 H)|rw [← hy372] at H|skip
       have Ny372:=mk0 hy372
       clear hy372
       replace H:=bE H
       obtain⟨⟨t375,t376⟩,A29,H⟩:=H
       dsimp only at H
       by_cases c30:x362002_2.length < 4398046511104
       rotate_left
       ·rw [if_neg c30] at H
        exact nn H
       rw [if_pos c30] at H
       have LMc30:=mk0 c30
       clear c30
       obtain⟨y379,hy379⟩:∃ y_:List (S29),y_ = (x362002_2 ++ [(⟨t375,t376⟩:S29)]):=⟨_,rfl⟩
       first|(with_reducible replace H:=yB hy379 H)|rw [← hy379] at H|skip
       have Ny379:=mk0 hy379
       clear hy379
       obtain⟨y382,hy382⟩:∃ y_:List (List Int),y_ = (([x6_3,x7_3]:List (List Int))):=⟨_,rfl⟩
       first|(with_reducible replace H:=yB hy382 H)|rw [← hy382] at H|skip
       have Ny382:=mk0 hy382
       clear hy382
       replace H:=bE H
       obtain⟨t385,A31,H⟩:=H
       have H':=mk0 H
       clear H
       have hnb32:=NB361_359.out
       have hnc32:=NB359_361.out
       obtain⟨hcz33_0,hcz33_1,hcz33_2,hfz33_0,hfz33_1,hfz33_2⟩:=cz3 BK361.out
       obtain⟨Ao34,co34,eo34⟩:=Kd.R_slice HO_6.out
       subst eo34
       try go_wp2_with (first|((with_reducible refine gate_builtin (b:=.append) (xs:=#[.tmp 54,.tmp 57]) rfl ?_);at_builtin;refine Kd.R_append (Kd.int .i64) (w0:=w) w.heap.size rfl (.tmp 54) (.tmp 57) 23 3 (.int .i64 0) 8 rfl Try.underlying23 info3 rfl (by decide) (by omega) u362001 x362001_2 (x6_3.length:Int) [.int .i64 (x6_3.length:Int)] (fun k_=>(w.heap.size ≤ k_) ∧ some k_ ≠ (.slice Ao34 x6_3.length co34:Value).ownBlock ∧ some k_ ≠ (u7:Value).ownBlock ∧ some k_ ≠ (u8:Value).ownBlock) (fun _=>False) rfl rfl ?aP (fun _ hk=>hk.elim) ?aF ?aO ?aB ?aS ?aL ?_;(case aP=>exact rfl);(case aB=>exact (kB HB.out));(case aF=>exact (fun k_ hk=>⟨(Nat.le_trans (kZ HB.out) hk),Kd.fresh' (Kd.R_lt (rR HO_6.out)) k_ hk,Kd.fresh' (Kd.R_lt (rR HO_7.out)) k_ hk,Kd.fresh' (Kd.R_lt (rR HO_8.out)) k_ hk⟩));(case aO=>exact (rR HO_362001.out));(case aS=>exact (kZ HB.out));(case aL=>have:=LMc28.out;omega);intro v373 w35 ho hb hg hat;rw [← Ny372.out] at ho;replace HO_0:=mk0 (Kd.V_afterv (ok:=(fun k_=>(P0_ k_ ∨ w.heap.size ≤ k_) ∧ some k_ ≠ (.slice Ao34 x6_3.length co34:Value).ownBlock ∧ some k_ ≠ (u7:Value).ownBlock ∧ some k_ ≠ (u8:Value).ownBlock ∧ some k_ ≠ (u362002:Value).ownBlock ∧ k_ ≠ gb359 ∧ k_ ≠ gb361)) (rV (Kd.V_mono HO_0.out (fun _ hk=>⟨⟨hk.1,⟨hk.2.1,⟨hk.2.2.1,⟨hk.2.2.2.1,⟨hk.2.2.2.2.2.1,⟨hk.2.2.2.2.2.2.1,hk.2.2.2.2.2.2.2⟩⟩⟩⟩⟩⟩,hk.2.2.2.2.1⟩))) hg hat);replace HO_6:=mk0 (Kd.R_after (ok:=(fun k_=>(w.heap.size ≤ k_) ∧ some k_ ≠ (u7:Value).ownBlock ∧ some k_ ≠ (u8:Value).ownBlock)) (rR (Kd.R_mono HO_6.out (fun _ hk=>⟨⟨hk.1,⟨hk.2.1,hk.2.2.1⟩⟩,hk.2.2.2⟩))) hg hat);replace HO_7:=mk0 (Kd.R_after (ok:=(fun k_=>(w.heap.size ≤ k_) ∧ some k_ ≠ (.slice Ao34 x6_3.length co34:Value).ownBlock ∧ some k_ ≠ (u8:Value).ownBlock)) (rR (Kd.R_mono HO_7.out (fun _ hk=>⟨⟨hk.1,⟨hk.2.1,hk.2.2.1⟩⟩,hk.2.2.2⟩))) hg hat);replace HO_8:=mk0 (Kd.R_after (ok:=(fun k_=>(w.heap.size ≤ k_) ∧ some k_ ≠ (.slice Ao34 x6_3.length co34:Value).ownBlock ∧ some k_ ≠ (u7:Value).ownBlock)) (rR (Kd.R_mono HO_8.out (fun _ hk=>⟨⟨hk.1,⟨hk.2.1,hk.2.2.1⟩⟩,hk.2.2.2⟩))) hg hat);replace HO_362002:=mk0 (Kd.S_over' (rS HO_362002.out) (Kd.R_typed (rR HO_362001.out)) (by decide) hg);replace BK359:=mk0 (blk_grown (kN BK359.out) hg (Kd.R_ne HO_362001.out BK359.out (by decide)));replace BK361:=mk0 (blk_grown (kN BK361.out) hg (Kd.R_ne HO_362001.out BK361.out (by decide)));replace HB:=mk0 (hb);have HO374:=mk0 (ho);clear HO_362001 ho hb hg hat;obtain⟨Ao36,co36,eo36⟩:=Kd.R_slice HO374.out;subst eo36;obtain⟨hcz37_0,hcz37_1,hcz37_2,hfz37_0,hfz37_1,hfz37_2⟩:=cz3 BK361.out)|((with_reducible refine gate_store (t:=23) (p:=59) rfl ?_);refine store_event (t:=23) (p:=59) (v:=?vo_w38) (w1:=(w35.setCell ⟨gb361,1,none⟩ (.slice Ao36 y372.length co36))) ?hg ?ho ?hn ?hr ?_;(case ho=>rfl);(case hg=>rfl);(case hn=>rfl);(case hr=>first|(go_simp;done)|(go_simp;rfl));intro w38 hw;have n0_:Aside0 (Kd.V (Kd.int .i64) 3 w38 w.heap.size (fun k_=>(P0_ k_ ∨ w.heap.size ≤ k_) ∧ some k_ ≠ (.slice Ao34 x6_3.length co34:Value).ownBlock ∧ some k_ ≠ (u7:Value).ownBlock ∧ some k_ ≠ (u8:Value).ownBlock ∧ some k_ ≠ (u362002:Value).ownBlock ∧ some k_ ≠ (.slice Ao36 y372.length co36:Value).ownBlock ∧ k_ ≠ gb359 ∧ k_ ≠ gb361) (.slice Ao13 x0_2.length co13) x0_2):=⟨(by rw [hw];exact (by (with_reducible repeat (first|apply aV|apply nV|apply dV));exact Kd.V_mono (Kd.V_far (p:=⟨gb361,1,none⟩) (Kd.V_mono HO_0.out (fun k_ hk=>(⟨hk,hk.1.2.2.2.2.2.2⟩:_ ∧ k_ ≠ gb361))) (fun _ hk=>hk.2) (.slice Ao36 y372.length co36)) (fun _ hk=>⟨hk.1.1.1,⟨hk.1.1.2.1,⟨hk.1.1.2.2.1,⟨hk.1.1.2.2.2.1,⟨hk.1.1.2.2.2.2.1,⟨hk.1.2,⟨hk.1.1.2.2.2.2.2.1,hk.1.1.2.2.2.2.2.2⟩⟩⟩⟩⟩⟩⟩)))⟩;have n1_:Aside0 (Kd.R (Kd.int .i64) 3 w38 w.heap.size (fun k_=>(w.heap.size ≤ k_) ∧ some k_ ≠ (u7:Value).ownBlock ∧ some k_ ≠ (u8:Value).ownBlock ∧ some k_ ≠ (.slice Ao36 y372.length co36:Value).ownBlock) (.slice Ao34 x6_3.length co34) x6_3):=⟨(by rw [hw];exact (by (with_reducible repeat (first|apply aR|apply nR|apply dR));exact Kd.R_mono (Kd.R_far (p:=⟨gb361,1,none⟩) (Kd.R_types HO_6.out BK361.out (by decide)) (fun _ hk=>hk.2) (.slice Ao36 y372.length co36)) (fun _ hk=>⟨hk.1.1.1,⟨hk.1.1.2.1,⟨hk.1.1.2.2,hk.1.2⟩⟩⟩)))⟩;have n2_:Aside0 (Kd.R (Kd.int .i64) 3 w38 w.heap.size (fun k_=>(w.heap.size ≤ k_) ∧ some k_ ≠ (.slice Ao34 x6_3.length co34:Value).ownBlock ∧ some k_ ≠ (u8:Value).ownBlock ∧ some k_ ≠ (.slice Ao36 y372.length co36:Value).ownBlock) u7 x7_3):=⟨(by rw [hw];exact (by (with_reducible repeat (first|apply aR|apply nR|apply dR));exact Kd.R_mono (Kd.R_far (p:=⟨gb361,1,none⟩) (Kd.R_types HO_7.out BK361.out (by decide)) (fun _ hk=>hk.2) (.slice Ao36 y372.length co36)) (fun _ hk=>⟨hk.1.1.1,⟨hk.1.1.2.1,⟨hk.1.1.2.2,hk.1.2⟩⟩⟩)))⟩;have n3_:Aside0 (Kd.R (Kd.int .i64) 3 w38 w.heap.size (fun k_=>(w.heap.size ≤ k_) ∧ some k_ ≠ (.slice Ao34 x6_3.length co34:Value).ownBlock ∧ some k_ ≠ (u7:Value).ownBlock ∧ some k_ ≠ (.slice Ao36 y372.length co36:Value).ownBlock) u8 x8_3):=⟨(by rw [hw];exact (by (with_reducible repeat (first|apply aR|apply nR|apply dR));exact Kd.R_mono (Kd.R_far (p:=⟨gb361,1,none⟩) (Kd.R_types HO_8.out BK361.out (by decide)) (fun _ hk=>hk.2) (.slice Ao36 y372.length co36)) (fun _ hk=>⟨hk.1.1.1,⟨hk.1.1.2.1,⟨hk.1.1.2.2,hk.1.2⟩⟩⟩)))⟩;have n4_:Aside0 (Kd.S k29 29 w38 w.heap.size (fun k_=>(w.heap.size ≤ k_)) u362002 x362002_2):=⟨(by rw [hw];exact (by (with_reducible repeat (first|apply aS|apply nS|apply dS));exact Kd.S_mono (Kd.S_far (p:=⟨gb361,1,none⟩) (Kd.S_types HO_362002.out BK361.out (by decide)) (fun _ hk=>hk.2) (.slice Ao36 y372.length co36)) (fun _ hk=>hk.1)))⟩;have n5_:Aside0 (Kd.R (Kd.int .i64) 3 w38 w.heap.size (fun k_=>(w.heap.size ≤ k_) ∧ some k_ ≠ (.slice Ao34 x6_3.length co34:Value).ownBlock ∧ some k_ ≠ (u7:Value).ownBlock ∧ some k_ ≠ (u8:Value).ownBlock) (.slice Ao36 y372.length co36) y372):=⟨(by rw [hw];exact (by (with_reducible repeat (first|apply aR|apply nR|apply dR));exact Kd.R_mono (Kd.R_far (p:=⟨gb361,1,none⟩) (Kd.R_types HO374.out BK361.out (by decide)) (fun _ hk=>hk.2) (.slice Ao36 y372.length co36)) (fun _ hk=>⟨hk.1.1,⟨hk.1.2.1,⟨hk.1.2.2.1,hk.1.2.2.2⟩⟩⟩)))⟩;have n6_:Aside0 (w38.heap[gb359]? = some (.cells #[.int .i64 0,.slice none 0 0,.slice none 0 0] 26 (0,0))):=⟨(by rw [hw];exact (by (with_reducible repeat (first|apply nB|apply dB|apply aB));refine blk_far ?_ NB359_361.out _;(with_reducible repeat (first|apply nB|apply dB|apply aB));exact BK359.out))⟩;have n7_:Aside0 (w38.heap[gb361]? = some (.cells #[.int .i64 (l0.length:Int),.slice Ao36 y372.length co36,u362002] 26 (0,0))):=⟨(by rw [hw];exact (by (with_reducible repeat (first|apply nB|apply dB|apply aB));refine blk_put (cs:=#[.int .i64 (l0.length:Int),u362001,u362002]) ?_ 1 _ rfl;(with_reducible repeat (first|apply nB|apply dB|apply aB));exact BK361.out))⟩;have n8_:Aside0 (Below w.heap.size w w38):=⟨(by rw [hw];exact (kB HB.out))⟩;clear hw HO_0 HO_6 HO_7 HO_8 HO_362002 HO374 BK359 BK361 HB;have HO_0:=n0_;have HO_6:=n1_;have HO_7:=n2_;have HO_8:=n3_;have HO_362002:=n4_;have HO374:=n5_;have BK359:=n6_;have BK361:=n7_;have HB:=n8_;clear n0_ n1_ n2_ n3_ n4_ n5_ n6_ n7_ n8_))
       replace HO_0:=mk0 (dV HO_0.out)
       replace HO_6:=mk0 (dR HO_6.out)
       replace HO_7:=mk0 (dR HO_7.out)
       replace HO_8:=mk0 (dR HO_8.out)
       replace HO_362002:=mk0 (dS HO_362002.out)
       replace HO374:=mk0 (dR HO374.out)
       replace BK359:=mk0 (dB BK359.out)
       replace BK361:=mk0 (dB BK361.out)
       replace HB:=mk0 (dZ HB.out)
       obtain⟨Ao40,co40,eo40⟩:=Kd.R_slice HO_8.out
       (first|subst eo40|(injection eo40 with f1_ f2_ f3_;have f4_:=f1_.symm;have f5_:=f3_.symm;clear f1_ f2_ f3_;subst f4_;subst f5_))
       refine start_ (n:=8) (S:=fun w'=>w'.cell? ⟨gb361,0,none⟩ = some (.int .i64 (l0.length:Int)) ∧ w'.cell? ⟨gb361,1,none⟩ = some (.slice Ao36 y372.length co36) ∧ w'.cell? ⟨gb361,2,none⟩ = some (u362002)) (ds:=[7]) (bm 8 0) (by kernel_rfl) rfl (by kernel_rfl) (ck3 BK361.out) (fun hHeld=>?_);refine with_tabW impl_WaveOf.tab18 impl_WaveOf.bits18 (fun HT_ HW_=>?_)
       generalize w38.drew = w39 at HO_0 HO_6 HO_7 HO_8 HO_362002 HO374 BK359 BK361 HB hHeld ⊢
       refine pU 0 (some 60) (bm 8 1) HT_ ?_
       refine pU 2 (some 62) (bm 8 5) HT_ ?_
       refine pT 1 (some 61) (bm 8 7) HT_ HW_ hHeld ?_
       refine pO 3 (some 63) (bm 8 15) HT_ (fun K hK=>?_)
       refine gO Try.func48 #[.slice Ao40 x8_3.length co40] ?_
       with_reducible refine (impl_bitsOf.calls k3 _ _ x8_3 t375 t376 _ ?side1 ?side2 A29.out).mono ?_
       (case side1=>exact kC (Kd.R_reads' HO_8.out).2.2)
       (case side2=>exact (Kd.R_reads' HO_8.out).2.1)
       rintro e w41 ⟨v377,rfl,ho0,hb⟩
       refine⟨_,rfl,?_⟩
       replace HO_0:=mk0 (Kd.V_elder' (rV HO_0.out) (Kd.R_base ho0) hb)
       replace HO_6:=mk0 (bR HO_6.out hb)
       replace HO_7:=mk0 (bR HO_7.out hb)
       replace HO_8:=mk0 (bR HO_8.out hb)
       replace HO_362002:=mk0 (Kd.S_elder' (rS HO_362002.out) (Kd.R_base ho0) hb)
       replace HO374:=mk0 (bR HO374.out hb)
       have HO378:=mk0 (Kd.R_lower (Kd.R_newM (M:=fun k_=>(w.heap.size ≤ k_)) ho0 (kZ HB.out) (fun k_ h_=>h_)) (kZ HB.out))
       replace BK359:=mk0 (kK BK359.out hb)
       replace BK361:=mk0 (kK BK361.out hb)
       replace HB:=mk0 (kS HB.out hb)
       (try clear hb)
       (try clear ho0)
       obtain⟨Ao43,co43,eo43⟩:=Kd.R_slice HO378.out
       (first|subst eo43|(injection eo43 with f1_ f2_ f3_;have f4_:=f1_.symm;have f5_:=f3_.symm;clear f1_ f2_ f3_;subst f4_;subst f5_))
       refine hK.out _ _ (ck3 BK361.out) (fun hHeld=>?_)
       clear hK K
       refine pN (some 63) ?_
       refine pO 4 (some 64) (bm 8 31) HT_ (fun K hK=>?_)
       refine value_ (w1:=?_) (v:=?_) (by rfl) rfl ?_ ?_
       rotate_left 2
       ·go_simp
        constructor
        ·rfl
        ·rfl
       refine hK.out _ _ ⟨(blk_cell (aB BK361.out _) 0).trans rfl,(blk_cell (aB BK361.out _) 1).trans rfl,(blk_cell (aB BK361.out _) 2).trans rfl⟩ (fun hHeld=>?_)
       clear hK K
       refine pN (some 64) ?_
       refine pO 5 (some 65) #[true,true,true,true,true,true,false,false] HT_ (fun K hK=>?_)
       refine Kd.S_append_step k29 (w0:=w) w.heap.size (by rfl) (.tmp 61) (.tmp 64) 24 29 (.agg #[(.int .i64 0),(.slice none 0 0)]) 32 rfl Try.underlying24 info29 rfl (by decide) (by omega) u362002 x362002_2 (⟨t375,t376⟩:S29) [.int .i64 t375,.slice Ao43 t376.length co43] (fun k_=>(w.heap.size ≤ k_)) (fun k_=>some k_ = (.slice Ao43 t376.length co43:Value).ownBlock) rfl rfl ?aP (fun k_ hk_=>((Kd.R_mono (ok':=fun k_=>((fun k_=>(w.heap.size ≤ k_))) k_ ∧ some k_ ≠ (u362002:Value).ownBlock) (Kd.R_apart' (HO378.out) (Kd.S_typed HO_362002.out) (by decide)) (fun k_ hk=>⟨hk.1.1,hk.2⟩))).1 k_ hk_.symm) ?aF ?aO ?aB ?aS ?aL ?_
       (case aP=>exact k29_mkM _ _ _ (⟨t375,t376⟩:S29) (Kd.R_mono (Kd.R_tight rfl (Kd.R_mono (ok':=fun k_=>((fun k_=>(w.heap.size ≤ k_))) k_ ∧ some k_ ≠ (u362002:Value).ownBlock) (Kd.R_apart' (HO378.out) (Kd.S_typed HO_362002.out) (by decide)) (fun k_ hk=>⟨hk.1.1,hk.2⟩))) (fun _ h_=>h_)))
       (case aB=>exact (kB HB.out))
       (case aF=>exact (fun k_ hk=>(Nat.le_trans (kZ HB.out) hk)))
       (case aO=>exact (by (with_reducible repeat (first|apply aS|apply nS|apply dS));exact Kd.S_mono HO_362002.out (fun k_ hk=>⟨hk.1,fun e_=>hk.2 e_⟩)))
       (case aS=>exact (kZ HB.out))
       (case aL=>have:=LMc30.out;omega)
       intro v380 w42 ho hb hg hat
       rw [← Ny379.out] at ho
       replace HO_0:=mk0 (Kd.V_afterv (ok:=(fun k_=>(P0_ k_ ∨ w.heap.size ≤ k_) ∧ some k_ ≠ (.slice Ao34 x6_3.length co34:Value).ownBlock ∧ some k_ ≠ (u7:Value).ownBlock ∧ some k_ ≠ (.slice Ao40 x8_3.length co40:Value).ownBlock ∧ some k_ ≠ (.slice Ao36 y372.length co36:Value).ownBlock ∧ some k_ ≠ (.slice Ao43 t376.length co43:Value).ownBlock ∧ k_ ≠ gb359 ∧ k_ ≠ gb361)) (rV (Kd.V_mono HO_0.out (fun _ hk=>⟨⟨hk.1.1,⟨hk.1.2.1,⟨hk.1.2.2.1,⟨hk.1.2.2.2.1,⟨hk.1.2.2.2.2.2.1,⟨hk.2,⟨hk.1.2.2.2.2.2.2.1,hk.1.2.2.2.2.2.2.2⟩⟩⟩⟩⟩⟩⟩,hk.1.2.2.2.2.1⟩))) hg hat)
       replace HO_6:=mk0 (Kd.R_over' (rR HO_6.out) (Kd.S_typed (rS HO_362002.out)) (by decide) hg)
       replace HO_7:=mk0 (Kd.R_over' (rR HO_7.out) (Kd.S_typed (rS HO_362002.out)) (by decide) hg)
       replace HO_8:=mk0 (Kd.R_over' (rR HO_8.out) (Kd.S_typed (rS HO_362002.out)) (by decide) hg)
       replace BK359:=mk0 (blk_grown (kN BK359.out) hg (Kd.S_ne HO_362002.out BK359.out (by decide)))
       replace BK361:=mk0 (blk_grown (kN BK361.out) hg (Kd.S_ne HO_362002.out BK361.out (by decide)))
       replace HO374:=mk0 (Kd.R_over' (rR HO374.out) (Kd.S_typed (rS HO_362002.out)) (by decide) hg)
       replace HB:=mk0 (hb)
       have HO381:=mk0 (ho)
       clear HO_362002 HO378
       clear ho hb hg hat
       obtain⟨Ao44,co44,eo44⟩:=Kd.S_slice HO381.out
       (first|subst eo44|(injection eo44 with f1_ f2_ f3_;have f4_:=f1_.symm;have f5_:=f3_.symm;clear f1_ f2_ f3_;subst f4_;subst f5_))
       refine hK.out _ _ (ck3 BK361.out) (fun hHeld=>?_)
       clear hK K
       refine pN (some 65) ?_
       refine pU 6 (some 66) #[true,true,true,true,true,true,true,false] HT_ ?_
       refine pL 7 none #[true,true,true,true,true,true,true,true] HT_ (fun K hK=>?_)
       have hs45:w42.cell? ⟨gb361,2,none⟩ = some (u362002):=(blk_cell BK361.out 2).trans rfl
       have hfs45:=blk_frozen BK361.out 2
       have hns45_0:=NB359_361.out
       have hms45_0:=NB361_359.out
       refine skip_ (w1:=?_) (by rfl) rfl ?_ ?_
       rotate_left
       ·go_simp
        rfl
       refine hK.out _ _ ?_
       clear hK K
       refine pD HT_ ?_
       have n0_:Aside0 (Kd.V (Kd.int .i64) 3 (w42.setCell ⟨gb361,2,none⟩ (.slice Ao44 y379.length co44)) w.heap.size (fun k_=>(P0_ k_ ∨ w.heap.size ≤ k_) ∧ some k_ ≠ (.slice Ao34 x6_3.length co34:Value).ownBlock ∧ some k_ ≠ (u7:Value).ownBlock ∧ some k_ ≠ (.slice Ao40 x8_3.length co40:Value).ownBlock ∧ some k_ ≠ (.slice Ao36 y372.length co36:Value).ownBlock ∧ some k_ ≠ (.slice Ao44 y379.length co44:Value).ownBlock ∧ k_ ≠ gb359 ∧ k_ ≠ gb361) (.slice Ao13 x0_2.length co13) x0_2):=⟨by (with_reducible repeat (first|apply aV|apply nV|apply dV));exact Kd.V_mono (Kd.V_far (p:=⟨gb361,2,none⟩) (Kd.V_mono HO_0.out (fun k_ hk=>(⟨hk,hk.1.2.2.2.2.2.2.2⟩:_ ∧ k_ ≠ gb361))) (fun _ hk=>hk.2) (.slice Ao44 y379.length co44)) (fun _ hk=>⟨hk.1.1.1,⟨hk.1.1.2.1,⟨hk.1.1.2.2.1,⟨hk.1.1.2.2.2.1,⟨hk.1.1.2.2.2.2.1,⟨hk.1.2,⟨hk.1.1.2.2.2.2.2.2.1,hk.1.1.2.2.2.2.2.2.2⟩⟩⟩⟩⟩⟩⟩)⟩
       have n1_:Aside0 (Kd.R (Kd.int .i64) 3 (w42.setCell ⟨gb361,2,none⟩ (.slice Ao44 y379.length co44)) w.heap.size (fun k_=>(w.heap.size ≤ k_) ∧ some k_ ≠ (u7:Value).ownBlock ∧ some k_ ≠ (.slice Ao40 x8_3.length co40:Value).ownBlock ∧ some k_ ≠ (.slice Ao36 y372.length co36:Value).ownBlock) (.slice Ao34 x6_3.length co34) x6_3):=⟨by (with_reducible repeat (first|apply aR|apply nR|apply dR));exact Kd.R_mono (Kd.R_far (p:=⟨gb361,2,none⟩) (Kd.R_types HO_6.out BK361.out (by decide)) (fun _ hk=>hk.2) (.slice Ao44 y379.length co44)) (fun _ hk=>⟨hk.1.1,⟨hk.1.2.1,⟨hk.1.2.2.1,hk.1.2.2.2⟩⟩⟩)⟩
       have n2_:Aside0 (Kd.R (Kd.int .i64) 3 (w42.setCell ⟨gb361,2,none⟩ (.slice Ao44 y379.length co44)) w.heap.size (fun k_=>(w.heap.size ≤ k_) ∧ some k_ ≠ (.slice Ao34 x6_3.length co34:Value).ownBlock ∧ some k_ ≠ (.slice Ao40 x8_3.length co40:Value).ownBlock ∧ some k_ ≠ (.slice Ao36 y372.length co36:Value).ownBlock) u7 x7_3):=⟨by (with_reducible repeat (first|apply aR|apply nR|apply dR));exact Kd.R_mono (Kd.R_far (p:=⟨gb361,2,none⟩) (Kd.R_types HO_7.out BK361.out (by decide)) (fun _ hk=>hk.2) (.slice Ao44 y379.length co44)) (fun _ hk=>⟨hk.1.1,⟨hk.1.2.1,⟨hk.1.2.2.1,hk.1.2.2.2⟩⟩⟩)⟩
       have n3_:Aside0 (Kd.R (Kd.int .i64) 3 (w42.setCell ⟨gb361,2,none⟩ (.slice Ao44 y379.length co44)) w.heap.size (fun k_=>(w.heap.size ≤ k_) ∧ some k_ ≠ (.slice Ao34 x6_3.length co34:Value).ownBlock ∧ some k_ ≠ (u7:Value).ownBlock ∧ some k_ ≠ (.slice Ao36 y372.length co36:Value).ownBlock) (.slice Ao40 x8_3.length co40) x8_3):=⟨by (with_reducible repeat (first|apply aR|apply nR|apply dR));exact Kd.R_mono (Kd.R_far (p:=⟨gb361,2,none⟩) (Kd.R_types HO_8.out BK361.out (by decide)) (fun _ hk=>hk.2) (.slice Ao44 y379.length co44)) (fun _ hk=>⟨hk.1.1,⟨hk.1.2.1,⟨hk.1.2.2.1,hk.1.2.2.2⟩⟩⟩)⟩
       have n4_:Aside0 (Kd.R (Kd.int .i64) 3 (w42.setCell ⟨gb361,2,none⟩ (.slice Ao44 y379.length co44)) w.heap.size (fun k_=>(w.heap.size ≤ k_) ∧ some k_ ≠ (.slice Ao34 x6_3.length co34:Value).ownBlock ∧ some k_ ≠ (u7:Value).ownBlock ∧ some k_ ≠ (.slice Ao40 x8_3.length co40:Value).ownBlock) (.slice Ao36 y372.length co36) y372):=⟨by (with_reducible repeat (first|apply aR|apply nR|apply dR));exact Kd.R_mono (Kd.R_far (p:=⟨gb361,2,none⟩) (Kd.R_types HO374.out BK361.out (by decide)) (fun _ hk=>hk.2) (.slice Ao44 y379.length co44)) (fun _ hk=>⟨hk.1.1,⟨hk.1.2.1,⟨hk.1.2.2.1,hk.1.2.2.2⟩⟩⟩)⟩
       have n5_:Aside0 (Kd.S k29 29 (w42.setCell ⟨gb361,2,none⟩ (.slice Ao44 y379.length co44)) w.heap.size (fun k_=>(w.heap.size ≤ k_)) (.slice Ao44 y379.length co44) y379):=⟨by (with_reducible repeat (first|apply aS|apply nS|apply dS));exact Kd.S_mono (Kd.S_far (p:=⟨gb361,2,none⟩) (Kd.S_types HO381.out BK361.out (by decide)) (fun _ hk=>hk.2) (.slice Ao44 y379.length co44)) (fun _ hk=>hk.1)⟩
       have n6_:Aside0 ((w42.setCell ⟨gb361,2,none⟩ (.slice Ao44 y379.length co44)).heap[gb359]? = some (.cells #[.int .i64 0,.slice none 0 0,.slice none 0 0] 26 (0,0))):=⟨by (with_reducible repeat (first|apply nB|apply dB|apply aB));refine blk_far ?_ NB359_361.out _;(with_reducible repeat (first|apply nB|apply dB|apply aB));exact BK359.out⟩
       have n7_:Aside0 ((w42.setCell ⟨gb361,2,none⟩ (.slice Ao44 y379.length co44)).heap[gb361]? = some (.cells #[.int .i64 (l0.length:Int),.slice Ao36 y372.length co36,.slice Ao44 y379.length co44] 26 (0,0))):=⟨by (with_reducible repeat (first|apply nB|apply dB|apply aB));refine blk_put (cs:=#[.int .i64 (l0.length:Int),.slice Ao36 y372.length co36,u362002]) ?_ 2 _ rfl;(with_reducible repeat (first|apply nB|apply dB|apply aB));exact BK361.out⟩
       have n8_:Aside0 (Below w.heap.size w (w42.setCell ⟨gb361,2,none⟩ (.slice Ao44 y379.length co44))):=⟨kB HB.out⟩
       (try clear HO_0)
       (try clear HO_6)
       (try clear HO_7)
       (try clear HO_8)
       (try clear HO374)
       (try clear HO381)
       (try clear BK359)
       (try clear BK361)
       (try clear HB)
       generalize (w42.setCell ⟨gb361,2,none⟩ (.slice Ao44 y379.length co44)) = w46 at n0_ n1_ n2_ n3_ n4_ n5_ n6_ n7_ n8_ ⊢
       have HO_0:=n0_
       have HO_6:=n1_
       have HO_7:=n2_
       have HO_8:=n3_
       have HO374:=n4_
       have HO381:=n5_
       have BK359:=n6_
       have BK361:=n7_
       have HB:=n8_
       clear n0_ n1_ n2_ n3_ n4_ n5_ n6_ n7_ n8_
       obtain⟨Ao47,co47,eo47⟩:=Kd.R_slice HO_7.out
       subst eo47
       try go_wp2_with (first|((with_reducible refine gate_dst (N:=69) rfl ?_);refine Kd.N_lit (Kd.slice 3 (Kd.int .i64)) _ 23 ?hg (N':=69) ?hd (xs:=([x6_3,x7_3]:List (List Int))) (inner:=[.slice Ao34 x6_3.length co34,.slice Ao47 x7_3.length co47]) (ok:=(fun k_=>(P0_ k_ ∨ w.heap.size ≤ k_) ∧ some k_ ≠ (.slice Ao40 x8_3.length co40:Value).ownBlock ∧ some k_ ≠ (.slice Ao36 y372.length co36:Value).ownBlock ∧ some k_ ≠ (.slice Ao44 y379.length co44:Value).ownBlock ∧ k_ ≠ gb359 ∧ k_ ≠ gb361)) (okp:=(fun k_=>(P0_ k_ ∨ w.heap.size ≤ k_) ∧ some k_ ≠ (.slice Ao40 x8_3.length co40:Value).ownBlock ∧ some k_ ≠ (.slice Ao36 y372.length co36:Value).ownBlock ∧ some k_ ≠ (.slice Ao44 y379.length co44:Value).ownBlock ∧ k_ ≠ gb359 ∧ k_ ≠ gb361)) ?hr ?hp (fun _ hk=>hk) ((show ∀ k_,w46.heap.size ≤ k_ → (fun k_=>(P0_ k_ ∨ w.heap.size ≤ k_) ∧ some k_ ≠ (.slice Ao40 x8_3.length co40:Value).ownBlock ∧ some k_ ≠ (.slice Ao36 y372.length co36:Value).ownBlock ∧ some k_ ≠ (.slice Ao44 y379.length co44:Value).ownBlock ∧ k_ ≠ gb359 ∧ k_ ≠ gb361) k_ from fun k_ hk=>⟨(.inr (Nat.le_trans (kZ HB.out) hk)),Kd.fresh' (Kd.R_lt (rR HO_8.out)) k_ hk,Kd.fresh' (Kd.R_lt (rR HO374.out)) k_ hk,Kd.fresh' (Kd.S_lt (rS HO381.out)) k_ hk,Kd.freshB (g:=gb359) (kN BK359.out) k_ hk,Kd.freshB (g:=gb361) (kN BK361.out) k_ hk⟩) _ (Nat.le_refl _)) (Below.refl _ _) (Nat.le_refl _) (by simp) ?_;(case hd=>rfl);(case hg=>rfl);(case hr=>first|(go_simp;done)|(go_simp;rfl));(case hp=>exact (Reps.one (show Kd.FK (Kd.slice 3 (Kd.int .i64)) _ _ x6_3 [.slice Ao34 x6_3.length co34] from (Kd.FK_slice_mk (Kd.R_reads' (Kd.R_mono (ok':=(fun k_=>(P0_ k_ ∨ w.heap.size ≤ k_) ∧ some k_ ≠ (.slice Ao40 x8_3.length co40:Value).ownBlock ∧ some k_ ≠ (.slice Ao36 y372.length co36:Value).ownBlock ∧ some k_ ≠ (.slice Ao44 y379.length co44:Value).ownBlock ∧ k_ ≠ gb359 ∧ k_ ≠ gb361)) (Kd.R_types (Kd.R_types (Kd.R_apart' (HO_6.out) (Kd.S_typed HO381.out) (by decide)) BK359.out (by decide)) BK361.out (by decide)) (fun k_ hk=>⟨(.inr (hk.1.1.1.1)),⟨hk.1.1.1.2.2.1,⟨hk.1.1.1.2.2.2,⟨hk.1.1.2,⟨hk.1.2,hk.2⟩⟩⟩⟩⟩))).2.1 (Kd.R_F (Kd.R_mono (ok':=(fun k_=>(P0_ k_ ∨ w.heap.size ≤ k_) ∧ some k_ ≠ (.slice Ao40 x8_3.length co40:Value).ownBlock ∧ some k_ ≠ (.slice Ao36 y372.length co36:Value).ownBlock ∧ some k_ ≠ (.slice Ao44 y379.length co44:Value).ownBlock ∧ k_ ≠ gb359 ∧ k_ ≠ gb361)) (Kd.R_types (Kd.R_types (Kd.R_apart' (HO_6.out) (Kd.S_typed HO381.out) (by decide)) BK359.out (by decide)) BK361.out (by decide)) (fun k_ hk=>⟨(.inr (hk.1.1.1.1)),⟨hk.1.1.1.2.2.1,⟨hk.1.1.1.2.2.2,⟨hk.1.1.2,⟨hk.1.2,hk.2⟩⟩⟩⟩⟩))))) (Reps.one (show Kd.FK (Kd.slice 3 (Kd.int .i64)) _ _ x7_3 [.slice Ao47 x7_3.length co47] from (Kd.FK_slice_mk (Kd.R_reads' (Kd.R_mono (ok':=(fun k_=>(P0_ k_ ∨ w.heap.size ≤ k_) ∧ some k_ ≠ (.slice Ao40 x8_3.length co40:Value).ownBlock ∧ some k_ ≠ (.slice Ao36 y372.length co36:Value).ownBlock ∧ some k_ ≠ (.slice Ao44 y379.length co44:Value).ownBlock ∧ k_ ≠ gb359 ∧ k_ ≠ gb361)) (Kd.R_types (Kd.R_types (Kd.R_apart' (HO_7.out) (Kd.S_typed HO381.out) (by decide)) BK359.out (by decide)) BK361.out (by decide)) (fun k_ hk=>⟨(.inr (hk.1.1.1.1)),⟨hk.1.1.1.2.2.1,⟨hk.1.1.1.2.2.2,⟨hk.1.1.2,⟨hk.1.2,hk.2⟩⟩⟩⟩⟩))).2.1 (Kd.R_F (Kd.R_mono (ok':=(fun k_=>(P0_ k_ ∨ w.heap.size ≤ k_) ∧ some k_ ≠ (.slice Ao40 x8_3.length co40:Value).ownBlock ∧ some k_ ≠ (.slice Ao36 y372.length co36:Value).ownBlock ∧ some k_ ≠ (.slice Ao44 y379.length co44:Value).ownBlock ∧ k_ ≠ gb359 ∧ k_ ≠ gb361)) (Kd.R_types (Kd.R_types (Kd.R_apart' (HO_7.out) (Kd.S_typed HO381.out) (by decide)) BK359.out (by decide)) BK361.out (by decide)) (fun k_ hk=>⟨(.inr (hk.1.1.1.1)),⟨hk.1.1.1.2.2.1,⟨hk.1.1.1.2.2.2,⟨hk.1.1.2,⟨hk.1.2,hk.2⟩⟩⟩⟩⟩))))) (Reps.none _ _))));intro v383 w48 ho49 hb hg_ hnew_;clear hg_ hnew_;(first|rw [← Ny382.out] at ho49|(simp only [Int.reduceToNat] at ho49;rw [← Ny382.out] at ho49));replace HO_0:=mk0 (Kd.V_elder' (rV HO_0.out) (Kd.N_base ho49) hb);replace HO_8:=mk0 (bR HO_8.out hb);replace HO374:=mk0 (bR HO374.out hb);replace HO381:=mk0 (bS HO381.out hb);have HO384:=mk0 (Kd.N_lower ho49 (kZ HB.out));replace BK359:=mk0 (kK BK359.out hb);replace BK361:=mk0 (kK BK361.out hb);replace HB:=mk0 (kS HB.out hb);clear HO_6 HO_7 hb ho49;obtain⟨Ao50,co50,eo50⟩:=Kd.N_slice HO384.out;subst eo50)|((with_reducible refine gate_callee (f:=62) rfl ?_);refine gL (some 70) Try.func62 #[.slice Ao50 y382.length co50] ?_;(with_reducible refine (slices_Concat_int_int.calls k3 _ _ y382 t385 _ ?side1 ?side2 A31.out).mono ?_);(case side1=>exact kC (Kd.N_reads' HO384.out).2.2);(case side2=>exact (Kd.N_reads' HO384.out).2.1);rintro e w51 ⟨v386,rfl,ho0,hb⟩;refine⟨_,rfl,?_⟩;replace HO_0:=mk0 (Kd.V_elder' (rV HO_0.out) (Kd.R_base ho0) hb);replace HO381:=mk0 (bS HO381.out hb);replace HO384:=mk0 (Kd.N_elder' (rN HO384.out) (Kd.R_base ho0) hb);have HO387:=mk0 (Kd.R_lower (Kd.R_new' (Kd.R_new' (Kd.R_newM (M:=fun k_=>(w.heap.size ≤ k_)) ho0 (kZ HB.out) (fun k_ h_=>h_)) (Kd.R_lt (rR HO_8.out))) (Kd.R_lt (rR HO374.out))) (kZ HB.out));replace HO_8:=mk0 (Kd.R_elder' (rR HO_8.out) (Kd.R_base ho0) hb);replace HO374:=mk0 (Kd.R_elder' (rR HO374.out) (Kd.R_base ho0) hb);replace BK359:=mk0 (kK BK359.out hb);replace BK361:=mk0 (kK BK361.out hb);replace HB:=mk0 (kS HB.out hb);(try clear hb);(try clear ho0)))
       go_roundg k3
       case measure=>have:=HJ1.out;have:=HK2.out;have:=HK3.out;omega
       case rel=>exact⟨(t385),(wrap64 (x24_2 + 1)),(y372),(y379),(.slice Ao36 y372.length co36),(.slice Ao44 y379.length co44),eS,H',⟨by have:=HJ1.out;have:=HK2.out;have:=HK3.out;omega⟩,⟨Kd.V_mono (Kd.R_V (by (with_reducible repeat (first|apply aR|apply nR|apply dR));exact (Kd.R_types (Kd.R_types (Kd.R_apart' HO387.out (Kd.S_typed HO381.out) (by decide)) BK359.out (by decide)) BK361.out (by decide)))) (fun k_ hk=>by first|exact⟨(.inr (hk.1.1.1.1.1.1)),⟨hk.1.1.1.2,⟨hk.1.1.2,⟨hk.1.2,hk.2⟩⟩⟩⟩|(first|exact⟨(.inr (hk.1)),hk.2⟩|exact (.inr (hk))))⟩,⟨rR (Kd.R_mono HO374.out (fun _ hk=>hk.1.1))⟩,⟨rS HO381.out⟩,⟨kN BK359.out⟩,⟨kN BK361.out⟩,⟨kB HB.out⟩⟩
/-! ### impl_inverse: function 47 -/
def impl_inverse.l0 : Nat → List Int → List Int → Int → Int → Option (List Int)
 | 0, _, _, _, _ => none
 | k + 1, x8, x9, x10, x11 => if x11 < x10 then (if 0 ≤ x11 then (if x11 < (x9.length : Int) then (if 0 ≤ (rd x9 x11) then (if (rd x9 x11) < (x8.length : Int) then (impl_inverse.l0 k (x8.set ((rd x9 x11) : Int).toNat x11) x9 x10 (wrap64 (x11 + 1))) else (none)) else (none)) else (none)) else (none)) else (some x8)
def impl_inverse.f (k : Nat) (l0 : List Int) : Option (List Int) := if 0 ≤ (l0.length : Int) then (if ((l0.length : Int) : Int).toNat ≤ 35184372088832 then (impl_inverse.l0 k (List.replicate ((l0.length : Int) : Int).toNat 0) l0 (l0.length : Int) 0) else (none)) else (none)
set_option maxHeartbeats 8000000 in
set_option maxRecDepth 100000 in
theorem impl_inverse.calls (k : Nat) (A0 : Option Addr) (c0 : Nat) (l0 : List Int) (r : List Int) (w : World) (hr0 : Kd.C (Kd.int .i64) w A0 l0.length l0) (hc0 : l0.length ≤ c0) (h : impl_inverse.f k l0 = some r) :
  Calls Try.prog 47 #[.slice A0 l0.length c0] w fun e w' => ∃ v0_ : Value, e = .returned (v0_) ∧ Kd.R (Kd.int .i64) 3 w' w.heap.size (fun _ => True) v0_ r ∧ Below w.heap.size w w' := by
 have HR0:=mk0 hr0
 have HC0:=mk0 hc0
 clear hr0 hc0
 have HB:=mk0 (Below.refl w.heap.size w)
 have H:(if 0 ≤ (l0.length:Int) then (if ((l0.length:Int):Int).toNat ≤ 35184372088832 then (impl_inverse.l0 k (List.replicate ((l0.length:Int):Int).toNat 0) l0 (l0.length:Int) 0) else (none)) else (none)) = some r:=h
 clear h
 by_cases c2:0 ≤ (l0.length:Int)
 ·rw [if_pos c2] at H
  have c2b0:=eq_true c2
  have c2b1:decide (0 ≤ (l0.length:Int)) = true:=decide_eq_true c2
  clear c2
  by_cases c3:((l0.length:Int):Int).toNat ≤ 35184372088832
  ·rw [if_pos c3] at H
   have c3b0:=eq_true c3
   have c3b1:decide (((l0.length:Int):Int).toNat ≤ 35184372088832) = true:=decide_eq_true c3
   clear c3
   obtain⟨y388,hy388⟩:∃ y_:List Int,y_ = (List.replicate ((l0.length:Int):Int).toNat 0):=⟨_,rfl⟩
   first|(with_reducible replace H:=yB hy388 H)|rw [← hy388] at H|skip
   have Ny388:=mk0 hy388
   clear hy388
   have H':=mk0 H
   clear H
   go_enter Try.func47,Try.ntmps47
   go_wp2_with (first|((with_reducible refine gate_dst (N:=8) rfl ?_);refine Kd.R_make (Kd.int .i64) _ 3 rfl (N:=8) rfl 23 _ _ rfl (l0.length:Int) rfl rfl Try.underlying23 (.int .i64 0) 8 info3 rfl (by decide) (by omega) 0 (ok:=fun _=>True) (okp:=fun _=>True) rfl (fun _ hk=>hk) trivial (oD) (Nat.le_trans (Nat.mul_le_mul_right _ (oD:(l0.length:Int).toNat ≤ 35184372088832)) (by omega)) (Below.refl _ _) (Nat.le_refl _) ?_;intro v389 w4 ho5 hb hg_ hnew_;clear hg_ hnew_;(first|rw [← Ny388.out] at ho5|(simp only [Int.reduceToNat] at ho5;rw [← Ny388.out] at ho5));have HO390:=mk0 (Kd.R_lower ho5 (kZ HB.out));replace HB:=mk0 (kS HB.out hb);clear hb ho5))
   go_loopg [11] k (fun kq v11 w'=>∃ (x8_1:List Int) (x11_1:Int),v11 = .int .i64 x11_1 ∧ Aside0 (impl_inverse.l0 kq x8_1 l0 (l0.length:Int) x11_1 = some r) ∧ Aside0 (kq ≤ k) ∧ Aside0 (Kd.R (Kd.int .i64) 3 w' w.heap.size (fun _=>True) v389 x8_1) ∧ Aside0 (Below w.heap.size w w'))
   case atStart=>exact⟨(y388),(0),eS,H',⟨Nat.le_refl _⟩,⟨rR HO390.out⟩,⟨kB HB.out⟩⟩
   case round =>
    clear H'
    try clear c2
    try clear c2b0
    try clear c2b1
    try clear p2
    try clear c3
    try clear c3b0
    try clear c3b1
    try clear c4
    obtain⟨x8_1,x11_1,rfl,HA,HK1,HO_8,HB⟩:=hrel
    cases gk with
    | zero=>exact absurd HA.out (by simp [impl_inverse.l0])
    | succ k1 =>
     have H:=HA.out
     clear HA
     simp only [impl_inverse.l0] at H
     by_cases c6:x11_1 < (l0.length:Int)
     ·rw [if_pos c6] at H
      have c6b0:decide (x11_1 < (l0.length:Int)) = true:=decide_eq_true c6
      clear c6
      by_cases c7:0 ≤ x11_1
      ·rw [if_pos c7] at H
       have c7b0:decide (0 ≤ x11_1) = true:=decide_eq_true c7
       clear c7
       by_cases c8:x11_1 < (l0.length:Int)
       ·rw [if_pos c8] at H
        have c8b0:decide (x11_1 < (l0.length:Int)) = true:=decide_eq_true c8
        clear c8
        by_cases c9:0 ≤ (rd l0 x11_1)
        ·rw [if_pos c9] at H
         have c9b0:decide (0 ≤ (rd l0 x11_1)) = true:=decide_eq_true c9
         clear c9
         by_cases c10:(rd l0 x11_1) < (x8_1.length:Int)
         ·rw [if_pos c10] at H
          have c10b0:decide ((rd l0 x11_1) < (x8_1.length:Int)) = true:=decide_eq_true c10
          clear c10
          obtain⟨y392,hy392⟩:∃ y_:List Int,y_ = (x8_1.set ((rd l0 x11_1):Int).toNat x11_1):=⟨_,rfl⟩
          first|(with_reducible replace H:=yB hy392 H)|rw [← hy392] at H|skip
          have Ny392:=mk0 hy392
          clear hy392
          have H':=mk0 H
          clear H
          have p391:0 ≤ (x11_1:Int):=oD
          have q391:x11_1 < (l0.length:Int):=oD
          obtain⟨ad391,e391,hx391_0⟩:=Kd.at_int HR0.out x11_1 p391 q391
          cases e391
          replace hx391_0:=(HB.out.cell (World.block_lt_of_cell? w _ hx391_0)).trans hx391_0
          replace p391:=eq_true p391
          replace q391:=eq_true q391
          have p11:0 ≤ ((rd l0 x11_1):Int):=oD
          have q11:((rd l0 x11_1):Int) < ((x8_1.length:Int):Int):=oD
          obtain⟨go11,co11,eo11,gb11,gl11,cl11,HG11⟩:=Kd.R_form HO_8.out (by omega)
          (first|cases eo11|(injection eo11 with ea_ en_ ec_;(first|subst ea_|(injection ea_ with ea_;subst ea_));subst ec_;clear en_))
          have GB11:=mk0 gb11
          have GG11:=mk0 HG11
          clear gb11 gl11 HG11
          obtain⟨hx11_0,hf11_0⟩:=Kd.R_celln 0 HO_8.out ((rd l0 x11_1):Int) p11 q11
          replace p11:=eq_true p11
          replace q11:=eq_true q11
          have HP12:=Kd.R_putg HO_8.out ((rd l0 x11_1):Int) x11_1
          go_wp2_with (first|((with_reducible refine gate_store (t:=3) (p:=19) rfl ?_);refine store_event (t:=3) (p:=19) (v:=?vo_w13) (w1:=(wr.setCell ⟨go11,((rd l0 x11_1):Int).toNat,none⟩ (.int .i64 x11_1))) ?hg ?ho ?hn ?hr ?_;(case ho=>rfl);(case hg=>rfl);(case hn=>rfl);(case hr=>first|(go_simp;done)|(go_simp;rfl));intro w13 hw;have hg:wr.grownBy w13 (some go11):=(by rw [hw];exact HP12.2);have hp_:Kd.R (Kd.int .i64) 3 w13 w.heap.size (fun _=>True) (.slice (some ⟨go11,0,none⟩) x8_1.length co11) y392:=(by rw [hw,Ny392.out];exact HP12.1);clear HP12;replace HO_8:=mk0 (hp_);replace HB:=mk0 ((by rw [hw];exact sZ (HB.out) GB11.out:Below w.heap.size w w13));clear hg hw hp_))
          go_roundg k1
          case measure=>have:=HK1.out;omega
          case rel=>exact⟨(y392),(wrap64 (x11_1 + 1)),eS,H',⟨by have:=HK1.out;omega⟩,⟨rR HO_8.out⟩,⟨kB HB.out⟩⟩
         ·rw [if_neg c10] at H
          exact nn H
        ·rw [if_neg c9] at H
         exact nn H
       ·rw [if_neg c8] at H
        exact nn H
      ·rw [if_neg c7] at H
       exact nn H
     ·rw [if_neg c6] at H
      have c6b0:decide (x11_1 < (l0.length:Int)) = false:=decide_eq_false c6
      clear c6
      obtain rfl:=Option.some.inj H
      go_wp2
      go_ret
      exact⟨_,eR,rR HO_8.out,kB HB.out⟩
  ·rw [if_neg c3] at H
   exact nn H
 ·rw [if_neg c2] at H
  exact nn H
end Go.Proofs.Ytjfoaiabbmkdpaa.QFnExactFmOf
