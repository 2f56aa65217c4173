-- A walk, made by walk.py, a program of this session's.
import Derived.Test.YtamdhfjnalglfaaQFnWavex0
import Derived.Test.YtamdhfjnalglfaaQFnWavex5
namespace Go.Proofs.Ytamdhfjnalglfaa.QFnWave
open Go.RowKit Go.Proofs.YtamdhfjnalglfaaW.PrintWords Go.Proofs.YtamdhfjnalglfaaW.PrintLast Go.Proofs.YtamdhfjnalglfaaW.PrintMore
attribute [local go_sem] max2_int min2_int max_two min_two max_three min_three max_four min_four   -- for this text's walks alone
set_option linter.unusedVariables false
set_option linter.unusedSimpArgs false


/-! ### slices_Grow_nil22: slices.Grow of nil, function 72 (by hand) -/
def slices_Grow_nil22.f (a0 : Int) : Option (List Int) := if 0 ≤ a0 ∧ a0 ≤ 1048576 then some [] else none
theorem slices_Grow_nil22.info : (Try.prog.info? 3).map (fun i => (i.zero, i.size, i.bytes)) = some (some (.int .i64 0), 1, 8) := by kernel_rfl
set_option maxHeartbeats 8000000 in
set_option maxRecDepth 100000 in
theorem slices_Grow_nil22.calls (a0 : Int) (r : List Int) (w : World) (h : slices_Grow_nil22.f a0 = some r) :
    Calls Try.prog 72 #[.slice none 0 0, .int .i64 a0] w fun e w' => ∃ v0_ : Value, e = .returned (v0_) ∧ Kd.R (Kd.int .i64) 3 w' w.heap.size (fun _ => True) v0_ r ∧ Below w.heap.size w w' := by
  unfold slices_Grow_nil22.f at h
  by_cases hm : 0 ≤ a0 ∧ a0 ≤ 1048576
  · rw [if_pos hm] at h
    obtain rfl := Option.some.inj h
    clear h
    have HB := Aside0.mk (Below.refl w.heap.size w)
    have hw1 : IntKind.i64.wrap a0 = a0 := by rw [i64_w]; unfold wrap64; omega
    have hcap : ∀ (ty : TypeId) (w_ : World), (Builtin.cap_ #[22] ty #[.slice none 0 0]).run Try.prog w_ = .ok (.int .i64 0) w_ := fun _ _ => by kernel_rfl
    have b0 : decide (a0 < 0) = false := decide_eq_false (by omega)
    obtain ⟨i0, hi0, _, hsz, _⟩ := info_parts slices_Grow_nil22.info
    have hcut0 := cut_to (P := Try.prog) 22 3 .i64 Try.underlying22 hi0 none 0 0 0 (by omega) (by omega) (by omega)
    by_cases hp : 0 < a0
    · have b1 : decide (0 < a0) = true := decide_eq_true hp
      have LM := Aside0.mk hm
      clear hm hp
      go_enter Try.func72, Try.ntmps72
      go_wp2_with (at_builtin; refine Kd.R_append_zeros (Kd.int .i64) (w0 := w) w.heap.size rfl (.tmp 20) (.tmp 21) 22 3 3 (.int .i64 0) 8 rfl Try.underlying22 Try.underlying3 slices_Grow_nil22.info rfl (by decide) (by omega) (.slice none 0 0) ([] : List Int) 0 (a0 : Int) (fun _ => True) rfl rfl rfl ?aF ?aO ?aN ?aB ?aS ?aL ?_; (case aF => exact (fun _ _ => trivial)); (case aO => exact (Kd.R_nil _ _ _ _ _)); (case aN => exact LM.out.1); (case aB => exact (by repeat (first | (with_reducible first | exact HB.out | apply below_alloc | apply pw_below_drewN | apply below_drew1) | exact HB.out))); (case aS => exact (below_size (by repeat (first | (with_reducible first | exact HB.out | apply below_alloc | apply pw_below_drewN | apply below_drew1) | exact HB.out)))); (case aL => have := LM.out; simp only [List.length_nil, Nat.zero_add]; omega); intro v1 w1 ho hb hg hat; obtain ⟨A1, c1, e1⟩ := Kd.R_slice ho; subst e1; have hroom := (Kd.R_reads' ho).2.1; have hcut1 := cut_to (P := Try.prog) 22 3 .i64 Try.underlying22 hi0 A1 ([] ++ List.replicate a0.toNat (0 : Int)).length c1 0 (by omega) (by omega) hroom; rw [show (0 : Int).toNat = 0 from rfl] at hcut1; have n1_ := Aside0.mk hb; have n2_ := Aside0.mk (Kd.R_take (m := 0) ho (Nat.zero_le _)); clear HB; have HB := n1_; have HO1 := n2_; clear n1_ n2_; clear ho hb hg hat hroom)
      go_ret
      exact ⟨_, by first | rfl | (simp; done), by (with_reducible repeat (first | apply Kd.R_alloc | apply Kd.R_drewN | apply Kd.R_drew)); exact HO1.out, by repeat (first | (with_reducible first | exact HB.out | apply below_alloc | apply pw_below_drewN | apply below_drew1) | exact HB.out)⟩
    · have b1 : decide (0 < a0) = false := decide_eq_false hp
      clear hm hp
      go_enter Try.func72, Try.ntmps72
      go_wp2
      go_ret
      exact ⟨_, by first | rfl | (simp; done), Kd.R_nil _ _ _ _ _, HB.out⟩
  · rw [if_neg hm] at h
    exact absurd h (by simp)

/-! ### slices_Concat_int_int: function 53 -/
mutual
def slices_Concat_int_int.l0 : Nat → List (List Int) → Int → List (List Int) → Int → Int → Option (List Int)
 | 0, _, _, _, _, _ => none
 | k + 1, x0, x3, x9, x10, x11 => if x11 < x10 then (if 0 ≤ x11 then (if x11 < (x9.length : Int) then (if (wrap64 (x3 + ((rd_L5 x9 x11).length : Int))) < 0 then (none) else (slices_Concat_int_int.l0 k x0 (wrap64 (x3 + ((rd_L5 x9 x11).length : Int))) x9 x10 (wrap64 (x11 + 1)))) else (none)) else (none)) else ((slices_Grow_nil22.f x3).bind fun t301 => (slices_Concat_int_int.l1 k t301 x0 (x0.length : Int) 0))
def slices_Concat_int_int.l1 : Nat → List Int → List (List Int) → Int → Int → Option (List Int)
 | 0, _, _, _, _ => none
 | k + 1, x6, x25, x26, x27 => if x27 < x26 then (if 0 ≤ x27 then (if x27 < (x25.length : Int) then (if x6.length + (rd_L5 x25 x27).length < 17592186044416 then (slices_Concat_int_int.l1 k (x6 ++ (rd_L5 x25 x27)) x25 x26 (wrap64 (x27 + 1))) else (none)) else (none)) else (none)) else (some x6)
end
def slices_Concat_int_int.f (k : Nat) (l0 : List (List Int)) : Option (List Int) := slices_Concat_int_int.l0 k l0 0 l0 (l0.length : Int) 0
theorem slices_Concat_int_int.mono_l : ∀ k, (∀ y0 y1 y2 y3 y4, LeO (slices_Concat_int_int.l0 k y0 y1 y2 y3 y4) (slices_Concat_int_int.l0 (k + 1) y0 y1 y2 y3 y4)) ∧ (∀ y0 y1 y2 y3, LeO (slices_Concat_int_int.l1 k y0 y1 y2 y3) (slices_Concat_int_int.l1 (k + 1) y0 y1 y2 y3))
 | 0 => ⟨fun _ _ _ _ _ r h => by simp [slices_Concat_int_int.l0] at h, fun _ _ _ _ r h => by simp [slices_Concat_int_int.l1] at h⟩
 | k + 1 => by
  obtain ⟨ih0, ih1⟩ := slices_Concat_int_int.mono_l k
  refine ⟨?_, ?_⟩
  ·intro y0 y1 y2 y3 y4
   unfold slices_Concat_int_int.l0
   repeat' first|(with_reducible first|exact ih0 _ _ _ _ _|exact ih1 _ _ _ _|exact LeO.refl _|exact LeO.none _|refine LeO.ite ?_ ?_|refine LeO.bind ?_ (fun _ => ?_))|exact LeO.none _|refine LeO.ite ?_ ?_|refine LeO.bind ?_ (fun _ => ?_)
  ·intro y0 y1 y2 y3
   unfold slices_Concat_int_int.l1
   repeat' first|(with_reducible first|exact ih0 _ _ _ _ _|exact ih1 _ _ _ _|exact LeO.refl _|exact LeO.none _|refine LeO.ite ?_ ?_|refine LeO.bind ?_ (fun _ => ?_))|exact LeO.none _|refine LeO.ite ?_ ?_|refine LeO.bind ?_ (fun _ => ?_)
theorem slices_Concat_int_int.mono : ∀ a0 k, LeO (slices_Concat_int_int.f k a0) (slices_Concat_int_int.f (k + 1) a0) := by
 intro a0 k
 obtain ⟨ih0, ih1⟩ := slices_Concat_int_int.mono_l k
 unfold slices_Concat_int_int.f
 repeat' first|(with_reducible first|exact ih0 _ _ _ _ _|exact ih1 _ _ _ _|exact LeO.refl _|exact LeO.none _|refine LeO.ite ?_ ?_|refine LeO.bind ?_ (fun _ => ?_))|exact LeO.none _|refine LeO.ite ?_ ?_|refine LeO.bind ?_ (fun _ => ?_)
set_option maxHeartbeats 8000000 in
set_option maxRecDepth 100000 in
theorem slices_Concat_int_int.calls (k : Nat) (A0 : Option Addr) (c0 : Nat) (l0 : List (List Int)) (r : List Int) (w : World) (hr0 : Kd.C (Kd.slice 3 (Kd.int .i64)) w A0 l0.length l0) (hc0 : l0.length ≤ c0) (h : slices_Concat_int_int.f k l0 = some r) :
  Calls Try.prog 53 #[.slice A0 l0.length c0] w fun e w' => ∃ v0_ : Value, e = .returned (v0_) ∧ Kd.R (Kd.int .i64) 3 w' w.heap.size (fun _ => True) v0_ r ∧ Below w.heap.size w w' := by
 have HR0:=mk0 hr0
 have HC0:=mk0 hc0
 clear hr0 hc0
 have HB:=mk0 (Below.refl w.heap.size w)
 have H:(slices_Concat_int_int.l0 k l0 0 l0 (l0.length:Int) 0) = some r:=h
 clear h
 have H':=mk0 H
 clear H
 go_enter Try.func53,Try.ntmps53
 go_wp2
 go_loopg [3,11] k (fun kq v3 v11 w'=>∃ (x3_1:Int) (x11_1:Int),v3 = .int .i64 x3_1 ∧ v11 = .int .i64 x11_1 ∧ Aside0 (slices_Concat_int_int.l0 kq l0 x3_1 l0 (l0.length:Int) x11_1 = some r) ∧ Aside0 (kq ≤ k) ∧ Aside0 (Below w.heap.size w w'))
 case atStart=>exact⟨(0),(0),(by first|rfl|(simp;done)|(simp [*];done)),(by first|rfl|(simp;done)|(simp [*];done)),H',⟨Nat.le_refl _⟩,⟨by repeat (first|(with_reducible first|exact HB.out|apply aZ|apply nZ|apply dZ)|exact HB.out)⟩⟩
 case round =>
  clear H'
  obtain⟨x3_1,x11_1,rfl,rfl,HA,HK1,HB⟩:=hrel
  cases gk with
  | zero=>exact absurd HA.out (by simp [slices_Concat_int_int.l0])
  | succ k1 =>
   have H:=HA.out
   clear HA
   simp only [slices_Concat_int_int.l0] at H
   by_cases c2:x11_1 < (l0.length:Int)
   ·rw [if_pos c2] at H
    have c2b0:decide (x11_1 < (l0.length:Int)) = true:=decide_eq_true c2
    (try simp only [hl300_0] at c2b0)
    (try simp only [hl304_0] at c2b0)
    clear c2
    by_cases c3:0 ≤ x11_1
    ·rw [if_pos c3] at H
     have c3b0:decide (0 ≤ x11_1) = true:=decide_eq_true c3
     clear c3
     by_cases c4:x11_1 < (l0.length:Int)
     ·rw [if_pos c4] at H
      have c4b0:decide (x11_1 < (l0.length:Int)) = true:=decide_eq_true c4
      (try simp only [hl300_0] at c4b0)
      (try simp only [hl304_0] at c4b0)
      clear c4
      by_cases c5:(wrap64 (x3_1 + ((rd_L5 l0 x11_1).length:Int))) < 0
      ·rw [if_pos c5] at H
       exact absurd H (by simp)
      ·rw [if_neg c5] at H
       have c5b0:decide ((wrap64 (x3_1 + ((rd_L5 l0 x11_1).length:Int))) < 0) = false:=decide_eq_false c5
       (try simp only [hl300_0] at c5b0)
       (try simp only [hl304_0] at c5b0)
       clear c5
       have H':=mk0 H
       clear H
       have p300:0 ≤ (x11_1:Int):=of_decide_eq_true (by first|(with_reducible assumption)|assumption)
       have q300:x11_1 < (l0.length:Int):=of_decide_eq_true (by first|(with_reducible assumption)|assumption)
       obtain⟨ad300,A300_0,c300_0,e300,hx300_0,hl300_0,hi300_0⟩:=at_L5 HR0.out x11_1 p300 q300
       cases e300
       replace hx300_0:=(HB.out.cell (World.block_lt_of_cell? w _ hx300_0)).trans hx300_0
       have HR300_0:=mk0 hi300_0
       have HC300_0:=mk0 hl300_0
       clear hi300_0 hl300_0
       replace p300:=eq_true p300
       replace q300:=eq_true q300
       go_wp2
       go_roundg k1
       case measure=>have:=HK1.out;omega
       case rel=>exact⟨(wrap64 (x3_1 + ((rd_L5 l0 x11_1).length:Int))),(wrap64 (x11_1 + 1)),(by first|rfl|(simp;done)|(simp [*];done)),(by first|rfl|(simp;done)|(simp [*];done)),H',⟨by have:=HK1.out;omega⟩,⟨by repeat (first|(with_reducible first|exact HB.out|apply aZ|apply nZ|apply dZ)|exact HB.out)⟩⟩
     ·rw [if_neg c4] at H
      exact absurd H (by simp)
    ·rw [if_neg c3] at H
     exact absurd H (by simp)
   ·rw [if_neg c2] at H
    have c2b0:decide (x11_1 < (l0.length:Int)) = false:=decide_eq_false c2
    (try simp only [hl300_0] at c2b0)
    (try simp only [hl304_0] at c2b0)
    clear c2
    replace H:=Option.bind_eq_some_iff.mp H
    obtain⟨t301,A60,H⟩:=H
    replace H:(slices_Concat_int_int.l1 k1 t301 l0 (l0.length:Int) 0) = some r:=H
    have A6:=mk0 A60
    clear A60
    have H':=mk0 H
    clear H
    go_wp2_with (first|((with_reducible refine gate_callee (f:=72) rfl ?_);refine goesL_ (some 24) rfl rfl Try.func72 (by kernel_rfl) rfl #[.slice none 0 0,.int .i64 x3_1] rfl (by (try simp only [mA,mC,mN]);first|done|rfl|(simp only [List.length_drop,List.length_take];rfl)) ?_;(with_reducible refine (slices_Grow_nil22.calls x3_1 t301 _ A6.out).mono ?_);rintro e w7 ⟨v302,rfl,ho0,hb⟩;refine⟨_,rfl,?_⟩;have n0_:=mk0 (Kd.R_lower ho0 (below_size (by repeat (first|(with_reducible first|exact HB.out|apply aZ|apply nZ|apply dZ)|exact HB.out))));have n1_:=mk0 (below_step (by repeat (first|(with_reducible first|exact HB.out|apply aZ|apply nZ|apply dZ)|exact HB.out)) hb);clear HB;have HO303:=n0_;have HB:=n1_;clear n0_ n1_;(try clear hb);(try clear hb2);(try clear hk);(try clear hi);(try clear ho0)))
    go_loopg [6,27] k1 (fun kq v6 v27 w'=>∃ (x6_2:List Int) (x27_2:Int),v27 = .int .i64 x27_2 ∧ Aside0 (slices_Concat_int_int.l1 kq x6_2 l0 (l0.length:Int) x27_2 = some r) ∧ Aside0 (kq ≤ k1) ∧ Aside0 (Kd.R (Kd.int .i64) 3 w' w.heap.size (fun _=>True) v6 x6_2) ∧ Aside0 (Below w.heap.size w w'))
    case atStart=>exact⟨(t301),(0),(by first|rfl|(simp;done)|(simp [*];done)),H',⟨Nat.le_refl _⟩,⟨by (with_reducible repeat (first|apply aR|apply nR|apply dR));exact HO303.out⟩,⟨by repeat (first|(with_reducible first|exact HB.out|apply aZ|apply nZ|apply dZ)|exact HB.out)⟩⟩
    case round =>
     clear H'
     try clear c2
     try clear c2b0
     try clear p2
     try clear c3
     try clear c3b0
     try clear p3
     try clear q3
     try clear hx3
     try clear c4
     try clear c4b0
     try clear c5
     try clear c5b0
     try clear p6
     try clear hx300_0
     try clear p300
     try clear q300
     obtain⟨x6_2,x27_2,rfl,HA,HK2,HO_6,HB⟩:=hrel
     cases gk with
     | zero=>exact absurd HA.out (by simp [slices_Concat_int_int.l1])
     | succ k2 =>
      have H:=HA.out
      clear HA
      simp only [slices_Concat_int_int.l1] at H
      by_cases c8:x27_2 < (l0.length:Int)
      ·rw [if_pos c8] at H
       have c8b0:decide (x27_2 < (l0.length:Int)) = true:=decide_eq_true c8
       (try simp only [hl300_0] at c8b0)
       (try simp only [hl304_0] at c8b0)
       clear c8
       by_cases c9:0 ≤ x27_2
       ·rw [if_pos c9] at H
        have c9b0:decide (0 ≤ x27_2) = true:=decide_eq_true c9
        clear c9
        by_cases c10:x27_2 < (l0.length:Int)
        ·rw [if_pos c10] at H
         have c10b0:decide (x27_2 < (l0.length:Int)) = true:=decide_eq_true c10
         (try simp only [hl300_0] at c10b0)
         (try simp only [hl304_0] at c10b0)
         clear c10
         by_cases c11:x6_2.length + (rd_L5 l0 x27_2).length < 17592186044416
         ·rw [if_pos c11] at H
          have LMc11:=mk0 c11
          clear c11
          obtain⟨y305,hy305⟩:∃ y_:List Int,y_ = (x6_2 ++ (rd_L5 l0 x27_2)):=⟨_,rfl⟩
          replace H:(slices_Concat_int_int.l1 k2 y305 l0 (l0.length:Int) (wrap64 (x27_2 + 1))) = some r:=by first|(rw [hy305];with_reducible exact H)|(have H2_:=(Option.bind_some _ _).symm.trans H;rw [hy305];with_reducible exact H2_)|(have H2_:=(Option.bind_some _ _).symm.trans H;with_reducible exact H2_)|with_reducible exact H|(rw [hy305];exact H)|exact H
          have Ny305:=mk0 hy305
          clear hy305
          have H':=mk0 H
          clear H
          have p304:0 ≤ (x27_2:Int):=of_decide_eq_true (by first|(with_reducible assumption)|assumption)
          have q304:x27_2 < (l0.length:Int):=of_decide_eq_true (by first|(with_reducible assumption)|assumption)
          obtain⟨ad304,A304_0,c304_0,e304,hx304_0,hl304_0,hi304_0⟩:=at_L5 HR0.out x27_2 p304 q304
          cases e304
          replace hx304_0:=(HB.out.cell (World.block_lt_of_cell? w _ hx304_0)).trans hx304_0
          have HR304_0:=mk0 hi304_0
          have HC304_0:=mk0 hl304_0
          clear hi304_0 hl304_0
          replace p304:=eq_true p304
          replace q304:=eq_true q304
          go_wp2_with (first|((with_reducible refine gate_builtin (b:=.append) (xs:=#[.tmp 31,.tmp 32]) rfl ?_);at_builtin;refine Kd.R_append_rows (Kd.int .i64) (w0:=w) w.heap.size rfl (.tmp 31) (.tmp 32) 22 3 (.int .i64 0) 8 rfl Try.underlying22 info3 rfl (by decide) (by omega) u6 x6_2 (rd_L5 l0 x27_2) _ _ _ (fun _=>True) (fun _=>False) rfl rfl ?aO ?aR (fun _ _ h=>h) (fun _ h=>h.elim) ?aF ?aB ?aS ?aL ?_;(case aR=>repeat (first|exact (Kd.C_below HR304_0.out HB.out)|(with_reducible first|apply aC|apply nC|apply dC)));(case aB=>exact (by repeat (first|(with_reducible first|exact HB.out|apply aZ|apply nZ|apply dZ)|exact HB.out)));(case aF=>exact (fun _ _=>trivial));(case aO=>exact (by (with_reducible repeat (first|apply aR|apply nR|apply dR));exact HO_6.out));(case aS=>exact (below_size (by repeat (first|(with_reducible first|exact HB.out|apply aZ|apply nZ|apply dZ)|exact HB.out))));(case aL=>have:=LMc11.out;omega);intro v306 w12 ho hb hg hat;rw [← Ny305.out] at ho;have n0_:=mk0 (hb);have n1_:=mk0 (ho);clear HB HO_6;have HB:=n0_;have HO307:=n1_;clear n0_ n1_ ho hb hg hat))
          go_roundg k2
          case measure=>have:=HK1.out;have:=HK2.out;omega
          case rel=>exact⟨(y305),(wrap64 (x27_2 + 1)),(by first|rfl|(simp;done)|(simp [*];done)),H',⟨by have:=HK1.out;have:=HK2.out;omega⟩,⟨by (with_reducible repeat (first|apply aR|apply nR|apply dR));exact HO307.out⟩,⟨by repeat (first|(with_reducible first|exact HB.out|apply aZ|apply nZ|apply dZ)|exact HB.out)⟩⟩
         ·rw [if_neg c11] at H
          exact absurd H (by simp)
        ·rw [if_neg c10] at H
         exact absurd H (by simp)
       ·rw [if_neg c9] at H
        exact absurd H (by simp)
      ·rw [if_neg c8] at H
       have c8b0:decide (x27_2 < (l0.length:Int)) = false:=decide_eq_false c8
       (try simp only [hl300_0] at c8b0)
       (try simp only [hl304_0] at c8b0)
       clear c8
       obtain rfl:=Option.some.inj H
       go_wp2
       go_ret
       exact⟨_,by first|rfl|(simp [errW_none,errW_some] <;> rfl)|(simp [*,errW_none,errW_some] <;> rfl),by (with_reducible repeat (first|apply aR|apply nR|apply dR));exact HO_6.out,by repeat (first|(with_reducible first|exact HB.out|apply aZ|apply nZ|apply dZ)|exact HB.out)⟩


/-! ### impl_areAll_51: areAll at the function value 51 -/
def impl_areAll_51.f (l0 : List Int) : Option (Bool) := if l0.length ≤ maxLen then some (l0.all Fv.p51) else none
theorem impl_areAll_51.calls (A0 : Option Addr) (c0 : Nat) (l0 : List Int) (r : Bool) (w : World) (hr0 : Kd.C (Kd.int .i64) w A0 l0.length l0) (hc0 : l0.length ≤ c0) (h : impl_areAll_51.f l0 = some r) :
    Calls Try.prog 50 #[.slice A0 l0.length c0, .func (.func 51) #[] #[]] w fun e w' => e = .returned (.bool r) ∧ Below w.heap.size w w' := by
  unfold impl_areAll_51.f at h
  by_cases hm : l0.length ≤ maxLen
  · rw [if_pos hm] at h
    obtain rfl := Option.some.inj h
    exact Fv.areAll 51 #[] _ (enters_of Try.func51 (by kernel_rfl) rfl) A0 c0 l0 w hr0 hc0 hm (Fv.tells51 w)
  · rw [if_neg hm] at h
    exact absurd h (by simp)

/-! ### impl_WaveOf: function 17 -/
mutual
def impl_WaveOf.j0 : Nat → List Int → Bool → Option (Int × List Int × (List (S64)) × Bool)
 | 0, _, _ => none
 | k + 1, x0, x19 => if x19 = true then (some (0, ([] : List Int), ([] : List (S64)), false)) else (impl_WaveOf.l0 k x0 0 (x0.length : Int) ([] : List Int) ([] : List (S64)))
def impl_WaveOf.l0 : Nat → List Int → Int → Int → List Int → List (S64) → Option (Int × List Int × (List (S64)) × Bool)
 | 0, _, _, _, _, _ => none
 | k + 1, x0, x24, x311000, x311001, x311002 => if x24 < 9 then (impl_WaveOf.l1 k x0 x24 ([] : List Int) ([] : List Int) ([] : List Int) x24 (x0.length : Int) 0 x311000 x311001 x311002) else (some (x311000, x311001, x311002, true))
def impl_WaveOf.l1 : Nat → List Int → Int → List Int → List Int → List Int → Int → Int → Int → Int → List Int → List (S64) → Option (Int × List Int × (List (S64)) × Bool)
 | 0, _, _, _, _, _, _, _, _, _, _, _ => none
 | k + 1, x0, x5, x6, x7, x8, x24, x28, x29, x311000, x311001, x311002 => if x29 < x28 then (if 0 ≤ x29 then (if x29 < (x0.length : Int) then (if 0 ≤ (wrap64 (8 - x5)) then (if x8.length < 17592186044416 then ((some (x8 ++ [Go.bits .and .i64 (shr .i64 (rd x0 x29) (wrap64 (8 - x5))) 1] : List Int)).bind fun y312 => (if (Go.bits .and .i64 (shr .i64 (rd x0 x29) (wrap64 (8 - x5))) 1) = 0 then (if x6.length < 17592186044416 then (impl_WaveOf.l1 k x0 x5 (x6 ++ [rd x0 x29]) x7 y312 x24 x28 (wrap64 (x29 + 1)) x311000 x311001 x311002) else (none)) else (if x7.length < 17592186044416 then (impl_WaveOf.l1 k x0 x5 x6 (x7 ++ [rd x0 x29]) y312 x24 x28 (wrap64 (x29 + 1)) x311000 x311001 x311002) else (none)))) else (none)) else (none)) else (none)) else (none)) else (if x311001.length < 17592186044416 then ((impl_bitsOf.f k x8).bind fun bt324 => (if x311002.length < 4398046511104 then ((slices_Concat_int_int.f k (([x6, x7] : List (List Int)))).bind fun t334 => (impl_WaveOf.l0 k t334 (wrap64 (x24 + 1)) x311000 (x311001 ++ [(x6.length : Int)]) (x311002 ++ [(⟨bt324.1, bt324.2⟩ : S64)]))) else (none))) else (none))
end
def impl_WaveOf.f (k : Nat) (l0 : List Int) : Option (Int × List Int × (List (S64)) × Bool) := if (l0.length : Int) > 1000 then (impl_WaveOf.j0 k l0 true) else ((impl_areAll_51.f l0).bind fun t309 => (impl_WaveOf.j0 k l0 (!t309)))
theorem impl_WaveOf.mono_l : ∀ k, (∀ y0 y1, LeO (impl_WaveOf.j0 k y0 y1) (impl_WaveOf.j0 (k + 1) y0 y1)) ∧ (∀ y0 y1 y2 y3 y4, LeO (impl_WaveOf.l0 k y0 y1 y2 y3 y4) (impl_WaveOf.l0 (k + 1) y0 y1 y2 y3 y4)) ∧ (∀ y0 y1 y2 y3 y4 y5 y6 y7 y8 y9 y10, LeO (impl_WaveOf.l1 k y0 y1 y2 y3 y4 y5 y6 y7 y8 y9 y10) (impl_WaveOf.l1 (k + 1) y0 y1 y2 y3 y4 y5 y6 y7 y8 y9 y10))
 | 0 => ⟨fun _ _ r h => by simp [impl_WaveOf.j0] at h, fun _ _ _ _ _ r h => by simp [impl_WaveOf.l0] at h, fun _ _ _ _ _ _ _ _ _ _ _ r h => by simp [impl_WaveOf.l1] at h⟩
 | k + 1 => by
  obtain ⟨ih0, ih1, ih2⟩ := impl_WaveOf.mono_l k
  refine ⟨?_, ?_, ?_⟩
  ·intro y0 y1
   unfold impl_WaveOf.j0
   repeat' first|(with_reducible first|exact ih0 _ _|exact ih1 _ _ _ _ _|exact ih2 _ _ _ _ _ _ _ _ _ _ _|exact impl_bitsOf.mono _ _|exact slices_Concat_int_int.mono _ _|exact LeO.refl _|exact LeO.none _|refine LeO.ite ?_ ?_|refine LeO.bind ?_ (fun _ => ?_))|exact LeO.none _|refine LeO.ite ?_ ?_|refine LeO.bind ?_ (fun _ => ?_)
  ·intro y0 y1 y2 y3 y4
   unfold impl_WaveOf.l0
   repeat' first|(with_reducible first|exact ih0 _ _|exact ih1 _ _ _ _ _|exact ih2 _ _ _ _ _ _ _ _ _ _ _|exact impl_bitsOf.mono _ _|exact slices_Concat_int_int.mono _ _|exact LeO.refl _|exact LeO.none _|refine LeO.ite ?_ ?_|refine LeO.bind ?_ (fun _ => ?_))|exact LeO.none _|refine LeO.ite ?_ ?_|refine LeO.bind ?_ (fun _ => ?_)
  ·intro y0 y1 y2 y3 y4 y5 y6 y7 y8 y9 y10
   unfold impl_WaveOf.l1
   repeat' first|(with_reducible first|exact ih0 _ _|exact ih1 _ _ _ _ _|exact ih2 _ _ _ _ _ _ _ _ _ _ _|exact impl_bitsOf.mono _ _|exact slices_Concat_int_int.mono _ _|exact LeO.refl _|exact LeO.none _|refine LeO.ite ?_ ?_|refine LeO.bind ?_ (fun _ => ?_))|exact LeO.none _|refine LeO.ite ?_ ?_|refine LeO.bind ?_ (fun _ => ?_)
theorem impl_WaveOf.mono : ∀ a0 k, LeO (impl_WaveOf.f k a0) (impl_WaveOf.f (k + 1) a0) := by
 intro a0 k
 obtain ⟨ih0, ih1, ih2⟩ := impl_WaveOf.mono_l k
 unfold impl_WaveOf.f
 repeat' first|(with_reducible first|exact ih0 _ _|exact ih1 _ _ _ _ _|exact ih2 _ _ _ _ _ _ _ _ _ _ _|exact impl_bitsOf.mono _ _|exact slices_Concat_int_int.mono _ _|exact LeO.refl _|exact LeO.none _|refine LeO.ite ?_ ?_|refine LeO.bind ?_ (fun _ => ?_))|exact LeO.none _|refine LeO.ite ?_ ?_|refine LeO.bind ?_ (fun _ => ?_)
def impl_WaveOf.T18 : Bool × List (List Nat × List Nat) := (true, [([], []), ([0], [0]), ([], []), ([2], [2]), ([3], [3]), ([1, 4, 3], [1, 4]), ([0, 1, 2, 3, 4, 5], []), ([6, 5, 5, 0, 1, 2, 3, 4, 5], [5, 6])])
def impl_WaveOf.B18 : List Nat := [0, 1, 0, 4, 12, 31, 63, 127]
theorem impl_WaveOf.tab18 : rtab .any (opsOf Try.f17 18) = impl_WaveOf.T18 := by kernel_rfl
theorem impl_WaveOf.bits18 : waitsOk impl_WaveOf.T18.2 impl_WaveOf.B18 = true := by kernel_rfl
abbrev impl_WaveOf.m0 : Array Bool := #[F,F,F,F,F,F,F,F]
abbrev impl_WaveOf.m1 : Array Bool := #[T,F,F,F,F,F,F,F]
abbrev impl_WaveOf.m2 : Array Bool := #[T,F,T,F,F,F,F,F]
abbrev impl_WaveOf.m3 : Array Bool := #[T,T,T,F,F,F,F,F]
abbrev impl_WaveOf.m4 : Array Bool := #[T,T,T,T,F,F,F,F]
abbrev impl_WaveOf.m5 : Array Bool := #[T,T,T,T,T,F,F,F]
set_option maxHeartbeats 8000000 in
set_option maxRecDepth 100000 in
theorem impl_WaveOf.calls (k : Nat) (P0_ : Nat → Prop) (A0 : Option Addr) (c0 : Nat) (l0 : List Int) (r1 : Int) (r2 : List Int) (r3 : List (S64)) (r4 : Bool) (w : World) (hs0 : Kd.V (Kd.int .i64) 3 w w.heap.size (fun k_ => P0_ k_) (.slice A0 l0.length c0) l0) (h : impl_WaveOf.f k l0 = some (r1, r2, r3, r4)) :
  Calls Try.prog 17 #[.slice A0 l0.length c0] w fun e w' => ∃ v1_ v2_ : Value, e = .returned (.tuple #[.agg #[.int .i64 r1, v1_, v2_], .bool r4]) ∧ Kd.R (Kd.int .i64) 3 w' w.heap.size (fun k_ => (w.heap.size ≤ k_)) v1_ r2 ∧ Kd.N k64 64 w' w.heap.size (fun k_ => (P0_ k_ ∨ w.heap.size ≤ k_) ∧ some k_ ≠ (v1_ : Value).ownBlock) v2_ r3 ∧ Below w.heap.size w w' := by
 have hu30:=Try.underlying30
 have HO0:=mk0 (show Kd.V (Kd.int .i64) 3 w w.heap.size (fun k_=>(P0_ k_ ∨ w.heap.size ≤ k_)) (.slice A0 l0.length c0) l0 from Kd.V_mono hs0 (fun k_ hk=>.inl hk))
 have HB:=mk0 (Below.refl w.heap.size w)
 have H:(if (l0.length:Int) > 1000 then (impl_WaveOf.j0 k l0 true) else ((impl_areAll_51.f l0).bind fun t309=>(impl_WaveOf.j0 k l0 (!t309)))) = some (r1,r2,r3,r4):=h
 clear h
 have HC2:=mk0 H
 clear H
 go_enter Try.func17,Try.ntmps17
 go_upto_region 1 with (first|((with_reducible refine gate_dst (N:=2) rfl ?_);refine box_event ?hg (N:=2) ?hd (cs:=#[.int .i64 0,.slice none 0 0,.slice none 0 0]) (t:=30) ?hr ?_;(case hd=>rfl);(case hg=>rfl);(case hr=>first|(go_simp;done)|(go_simp;rfl));intro gb308 hg w3 hbox hb;have n0_:=mk0 (Kd.V_below (Kd.V_elderB (by (with_reducible repeat (first|apply aV|apply nV|apply dV));exact HO0.out) gb308 (Nat.le_of_eq hg.symm)) hb);have n1_:=mk0 (below_step (by repeat (first|(with_reducible first|exact HB.out|apply aZ|apply nZ|apply dZ)|exact HB.out)) hb);have n2_:=mk0 (hbox);have n3_:=mk0 ((by rw [hg];exact (below_size (by repeat (first|(with_reducible first|exact HB.out|apply aZ|apply nZ|apply dZ)|exact HB.out))):w.heap.size ≤ gb308));have n4_:=mk0 ((by rw [hg];exact (below_size (by repeat (first|(with_reducible first|exact HB.out|apply aZ|apply nZ|apply dZ)|exact HB.out))):w.heap.size ≤ gb308));clear HO0 HB;have HO0:=n0_;have HB:=n1_;have BK308:=n2_;have GW308:=n3_;have GE308:=n4_;clear n0_ n1_ n2_ n3_ n4_ hb hbox hg))
 (try simp only [Act.put,sA,sO,sS])
 go_cut [19] (fun v19 wc=>∃ (kq:Nat) (x19_1:Bool),v19 = .bool x19_1 ∧ Aside0 (impl_WaveOf.j0 kq l0 x19_1 = some (r1,r2,r3,r4)) ∧ Aside0 (kq ≤ k) ∧ Aside0 (Kd.V (Kd.int .i64) 3 wc w.heap.size (fun k_=>(P0_ k_ ∨ w.heap.size ≤ k_) ∧ k_ ≠ gb308) (.slice A0 l0.length c0) l0) ∧ Aside0 (wc.heap[gb308]? = some (.cells #[.int .i64 0,(.slice none 0 0),(.slice none 0 0)] 30 (0,0))) ∧ Aside0 (Below w.heap.size w wc))
 case first =>
  have H:=HC2.out
  clear HC2
  by_cases c4:(l0.length:Int) > 1000
  ·rw [if_pos c4] at H
   have c4b0:decide (1000 < (l0.length:Int)) = true:=decide_eq_true c4
   have c4b1:decide (1000 < l0.length) = true:=decide_eq_true (by omega)
   clear c4
   (first|rw [c4b0]|(simp only [i64_w,i32_w];rw [c4b0])|skip)
   have H':=mk0 H
   clear H
   go_wp2
   go_meet
   case rel=>exact⟨_,(true),(by first|rfl|(simp;done)|(simp [*];done)),H',⟨by first|omega|exact Nat.le_refl _⟩,⟨by (with_reducible repeat (first|apply aV|apply nV|apply dV));exact HO0.out⟩,⟨by (with_reducible repeat (first|apply nB|apply dB|apply aB));exact BK308.out⟩,⟨by repeat (first|(with_reducible first|exact HB.out|apply aZ|apply nZ|apply dZ|refine sZ ?_ GE308.out)|exact HB.out)⟩⟩
  rw [if_neg c4] at H
  have c4b0:decide (1000 < (l0.length:Int)) = false:=decide_eq_false c4
  have c4b1:decide (1000 < l0.length) = false:=decide_eq_false (by omega)
  clear c4
  (first|rw [c4b0]|(simp only [i64_w,i32_w];rw [c4b0])|skip)
  replace H:=Option.bind_eq_some_iff.mp H
  obtain⟨t309,A50,H⟩:=H
  replace H:(impl_WaveOf.j0 k l0 (!t309)) = some (r1,r2,r3,r4):=H
  have A5:=mk0 A50
  clear A50
  have H':=mk0 H
  clear H
  go_wp2_with (first|(go_at_call 50;(with_reducible refine (impl_areAll_51.calls _ _ l0 t309 _ ?side1 ?side2 A5.out).mono ?_);(case side1=>repeat (first|exact (Kd.V_reads' HO0.out).2.2|(with_reducible first|apply aC|apply nC|apply dC)));(case side2=>exact (Kd.V_reads' HO0.out).2.1);rintro e w6 ⟨rfl,hb⟩;have n0_:=mk0 (Kd.V_below (by (with_reducible repeat (first|apply aV|apply nV|apply dV));exact HO0.out) hb);have n1_:=mk0 (blk_below (g:=gb308) (o:=.cells #[.int .i64 0,.slice none 0 0,.slice none 0 0] 30 (0,0)) (by (with_reducible repeat (first|apply nB|apply dB|apply aB));exact BK308.out) hb);have n2_:=mk0 (below_step (by repeat (first|(with_reducible first|exact HB.out|apply aZ|apply nZ|apply dZ|refine sZ ?_ GE308.out)|exact HB.out)) hb);clear HO0 BK308 HB;have HO0:=n0_;have BK308:=n1_;have HB:=n2_;clear n0_ n1_ n2_;(try clear hb);(try clear hb2);(try clear hk);(try clear hi)))
  go_meet
  case rel=>exact⟨_,(!t309),(by first|rfl|(simp;done)|(simp [*];done)),H',⟨by first|omega|exact Nat.le_refl _⟩,⟨by (with_reducible repeat (first|apply aV|apply nV|apply dV));exact HO0.out⟩,⟨by (with_reducible repeat (first|apply nB|apply dB|apply aB));exact BK308.out⟩,⟨by repeat (first|(with_reducible first|exact HB.out|apply aZ|apply nZ|apply dZ|refine sZ ?_ GE308.out)|exact HB.out)⟩⟩
 case rest =>
  clear HC2
  try clear c1
  try clear p2
  try clear c4
  try clear c4b0
  try clear c4b1
  obtain⟨kq,x19_1,rfl,HA,HJ1,HO_0,BK308,HB⟩:=hcut
  cases kq with
  | zero=>exact absurd HA.out (by simp [impl_WaveOf.j0])
  | succ kj1 =>
   have H:=HA.out
   clear HA
   simp only [impl_WaveOf.j0] at H
   by_cases c7:x19_1 = true
   ·subst c7
    have H1:(some (0,([]:List Int),([]:List (S64)),false)) = some (r1,r2,r3,r4):=by rw [if_pos rfl] at H;exact H
    clear H
    have H:=H1
    clear H1
    simp only [Option.some.injEq,Prod.mk.injEq] at H
    obtain⟨rfl,rfl,rfl,rfl⟩:=H
    have hcz8_0:wc.cell? ⟨gb308,0,none⟩ = some (.int .i64 0):=(blk_cell BK308.out 0).trans rfl
    have hcz8_1:wc.cell? ⟨gb308,1,none⟩ = some (.slice none 0 0):=(blk_cell BK308.out 1).trans rfl
    have hcz8_2:wc.cell? ⟨gb308,2,none⟩ = some (.slice none 0 0):=(blk_cell BK308.out 2).trans rfl
    have hfz8_0:=blk_frozen BK308.out 0
    have hfz8_1:=blk_frozen BK308.out 1
    have hfz8_2:=blk_frozen BK308.out 2
    go_wp2
    refine bodyPost_ret (results_ct rfl _ _ gb308 30 #[.int .i64 0,.slice none 0 0,.slice none 0 0] (0,0) _ rfl (by (with_reducible repeat (first|apply nB|apply dB|apply aB));refine blk_put (cs:=#[.int .i64 0,.slice none 0 0,.slice none 0 0]) ?_ 2 _ rfl;(with_reducible repeat (first|apply nB|apply dB|apply aB));refine blk_put (cs:=#[.int .i64 0,.slice none 0 0,.slice none 0 0]) ?_ 1 _ rfl;(with_reducible repeat (first|apply nB|apply dB|apply aB));refine blk_put (cs:=#[.int .i64 0,.slice none 0 0,.slice none 0 0]) ?_ 0 _ rfl;(with_reducible repeat (first|apply nB|apply dB|apply aB));exact BK308.out) Try.underlying30 rfl (by kernel_rfl)) rfl ?_
    exact⟨_,_,by first|rfl|(simp [errW_none,errW_some] <;> rfl)|(simp [*,errW_none,errW_some] <;> rfl),by first|exact Kd.R_nil _ _ _ _ _|exact Kd.N_nil _ _ _ _ _|exact Kd.V_nil _ _ _ _ _|exact Kd.Q_nil _ _ _ _ _|exact Kd.S_nil _ _ _ _ _,by first|exact Kd.S_nil _ _ _ _ _|exact Kd.N_nil _ _ _ _ _|exact Kd.V_nil _ _ _ _ _|exact Kd.Q_nil _ _ _ _ _|exact Kd.R_nil _ _ _ _ _,by repeat (first|(with_reducible first|exact HB.out|apply aZ|apply nZ|apply dZ|refine sZ ?_ GE308.out)|exact HB.out)⟩
   replace c7:=Bool.eq_false_iff.mpr c7
   subst c7
   have H1:(impl_WaveOf.l0 kj1 l0 0 (l0.length:Int) ([]:List Int) ([]:List (S64))) = some (r1,r2,r3,r4):=by rw [if_neg (show ¬ (false = true) by decide)] at H;exact H
   clear H
   have H:=H1
   clear H1
   have H':=mk0 H
   clear H
   go_wp2_with (first|((with_reducible refine gate_dst (N:=4) rfl ?_);refine box_event ?hg (N:=4) ?hd (cs:=#[.int .i64 0,.slice none 0 0,.slice none 0 0]) (t:=30) ?hr ?_;(case hd=>rfl);(case hg=>rfl);(case hr=>first|(go_simp;done)|(go_simp;rfl));intro gb310 hg w9 hbox hb;have n0_:=mk0 (Kd.V_below (Kd.V_elderB (by (with_reducible repeat (first|apply aV|apply nV|apply dV));exact HO_0.out) gb310 (Nat.le_of_eq hg.symm)) hb);have n1_:=mk0 (blk_below (g:=gb308) (o:=.cells #[.int .i64 0,.slice none 0 0,.slice none 0 0] 30 (0,0)) (by (with_reducible repeat (first|apply nB|apply dB|apply aB));exact BK308.out) hb);have n2_:=mk0 (below_step (by repeat (first|(with_reducible first|exact HB.out|apply aZ|apply nZ|apply dZ|refine sZ ?_ GE308.out)|exact HB.out)) hb);have n3_:=mk0 (hbox);have n4_:=mk0 ((by rw [hg];exact (below_size (by repeat (first|(with_reducible first|exact HB.out|apply aZ|apply nZ|apply dZ|refine sZ ?_ GE308.out)|exact HB.out))):w.heap.size ≤ gb310));have n5_:=mk0 ((by rw [hg];exact (below_size (by repeat (first|(with_reducible first|exact HB.out|apply aZ|apply nZ|apply dZ|refine sZ ?_ GE308.out)|exact HB.out))):w.heap.size ≤ gb310));have n6_:=mk0 ((by rw [hg];exact Nat.ne_of_lt (blk_lt (g:=gb308) (o:=.cells #[.int .i64 0,.slice none 0 0,.slice none 0 0] 30 (0,0)) (by (with_reducible repeat (first|apply nB|apply dB|apply aB));exact BK308.out)):gb308 ≠ gb310));have n7_:=mk0 ((by rw [hg];exact Nat.ne_of_gt (blk_lt (g:=gb308) (o:=.cells #[.int .i64 0,.slice none 0 0,.slice none 0 0] 30 (0,0)) (by (with_reducible repeat (first|apply nB|apply dB|apply aB));exact BK308.out)):gb310 ≠ gb308));clear HO_0 BK308 HB;have HO_0:=n0_;have BK308:=n1_;have HB:=n2_;have BK310:=n3_;have GW310:=n4_;have GE310:=n5_;have NB308_310:=n6_;have NB310_308:=n7_;clear n0_ n1_ n2_ n3_ n4_ n5_ n6_ n7_ hb hbox hg;have hnb10:=NB310_308.out;have hnc10:=NB308_310.out;have hcz11_0:w9.cell? ⟨gb310,0,none⟩ = some (.int .i64 0):=(blk_cell BK310.out 0).trans rfl;have hcz11_1:w9.cell? ⟨gb310,1,none⟩ = some (.slice none 0 0):=(blk_cell BK310.out 1).trans rfl;have hcz11_2:w9.cell? ⟨gb310,2,none⟩ = some (.slice none 0 0):=(blk_cell BK310.out 2).trans rfl;have hfz11_0:=blk_frozen BK310.out 0;have hfz11_1:=blk_frozen BK310.out 1;have hfz11_2:=blk_frozen BK310.out 2))
   go_loopg [0,24] kj1 (fun kq v0 v24 w'=>∃ (x0_2:List Int) (x24_2:Int) (x311001_2:List Int) (x311002_2:List (S64)) (u311001:Value) (u311002:Value),v24 = .int .i64 x24_2 ∧ Aside0 (impl_WaveOf.l0 kq x0_2 x24_2 (l0.length:Int) x311001_2 x311002_2 = some (r1,r2,r3,r4)) ∧ Aside0 (kq ≤ kj1) ∧ Aside0 (Kd.V (Kd.int .i64) 3 w' w.heap.size (fun k_=>(P0_ k_ ∨ w.heap.size ≤ k_) ∧ some k_ ≠ (u311001:Value).ownBlock ∧ some k_ ≠ (u311002:Value).ownBlock ∧ k_ ≠ gb308 ∧ k_ ≠ gb310) v0 x0_2) ∧ Aside0 (Kd.R (Kd.int .i64) 3 w' w.heap.size (fun k_=>(w.heap.size ≤ k_)) u311001 x311001_2) ∧ Aside0 (Kd.N k64 64 w' w.heap.size (fun k_=>(P0_ k_ ∨ w.heap.size ≤ k_) ∧ some k_ ≠ (u311001:Value).ownBlock ∧ k_ ≠ gb308 ∧ k_ ≠ gb310) u311002 x311002_2) ∧ Aside0 (w'.heap[gb308]? = some (.cells #[.int .i64 0,(.slice none 0 0),(.slice none 0 0)] 30 (0,0))) ∧ Aside0 (w'.heap[gb310]? = some (.cells #[.int .i64 (l0.length:Int),u311001,u311002] 30 (0,0))) ∧ Aside0 (Below w.heap.size w w'))
   case atStart=>exact⟨(l0),(0),(([]:List Int)),(([]:List (S64))),(.slice none 0 0),(.slice none 0 0),(by first|rfl|(simp;done)|(simp [*];done)),H',⟨Nat.le_refl _⟩,⟨by (with_reducible repeat (first|apply aV|apply nV|apply dV));exact Kd.V_mono (Kd.V_far (p:=⟨gb310,2,none⟩) (Kd.V_far (p:=⟨gb310,1,none⟩) (Kd.V_far (p:=⟨gb310,0,none⟩) (Kd.V_mono HO_0.out (fun k_ hk=>(⟨hk,hk.2⟩:_ ∧ k_ ≠ gb310))) (fun _ hk=>hk.2) (.int .i64 (l0.length:Int))) (fun _ hk=>hk.2) (.slice none 0 0)) (fun _ hk=>hk.2) (.slice none 0 0)) (fun _ hk=>⟨hk.1.1.1,⟨(by simp [Value.ownBlock]),⟨(by simp [Value.ownBlock]),⟨hk.1.1.2,hk.1.2⟩⟩⟩⟩)⟩,⟨by first|exact Kd.R_nil _ _ _ _ _|exact Kd.N_nil _ _ _ _ _|exact Kd.V_nil _ _ _ _ _|exact Kd.Q_nil _ _ _ _ _|exact Kd.S_nil _ _ _ _ _⟩,⟨by first|exact Kd.S_nil _ _ _ _ _|exact Kd.N_nil _ _ _ _ _|exact Kd.V_nil _ _ _ _ _|exact Kd.Q_nil _ _ _ _ _|exact Kd.R_nil _ _ _ _ _⟩,⟨by (with_reducible repeat (first|apply nB|apply dB|apply aB));refine blk_far ?_ NB308_310.out _;(with_reducible repeat (first|apply nB|apply dB|apply aB));refine blk_far ?_ NB308_310.out _;(with_reducible repeat (first|apply nB|apply dB|apply aB));refine blk_far ?_ NB308_310.out _;(with_reducible repeat (first|apply nB|apply dB|apply aB));exact BK308.out⟩,⟨by (with_reducible repeat (first|apply nB|apply dB|apply aB));refine blk_put (cs:=#[.int .i64 (l0.length:Int),.slice none 0 0,.slice none 0 0]) ?_ 2 _ rfl;(with_reducible repeat (first|apply nB|apply dB|apply aB));refine blk_put (cs:=#[.int .i64 (l0.length:Int),.slice none 0 0,.slice none 0 0]) ?_ 1 _ rfl;(with_reducible repeat (first|apply nB|apply dB|apply aB));refine blk_put (cs:=#[.int .i64 0,.slice none 0 0,.slice none 0 0]) ?_ 0 _ rfl;(with_reducible repeat (first|apply nB|apply dB|apply aB));exact BK310.out⟩,⟨by repeat (first|(with_reducible first|exact HB.out|apply aZ|apply nZ|apply dZ|refine sZ ?_ GE308.out|refine sZ ?_ GE310.out)|exact HB.out)⟩⟩
   case round =>
    clear H'
    try clear c1
    try clear p2
    try clear c4
    try clear c4b0
    try clear c4b1
    try clear c7
    try clear c10
    try clear hcz11_0
    try clear hcz11_1
    try clear hcz11_2
    try clear hcz8_0
    try clear hcz8_1
    try clear hcz8_2
    try clear hfz11_0
    try clear hfz11_1
    try clear hfz11_2
    try clear hfz8_0
    try clear hfz8_1
    try clear hfz8_2
    try clear p2
    obtain⟨x0_2,x24_2,x311001_2,x311002_2,u311001,u311002,rfl,HA,HK2,HO_0,HO_311001,HO_311002,BK308,BK310,HB⟩:=hrel
    cases gk with
    | zero=>exact absurd HA.out (by simp [impl_WaveOf.l0])
    | succ k2 =>
     have H:=HA.out
     clear HA
     simp only [impl_WaveOf.l0] at H
     by_cases c12:x24_2 < 9
     rotate_left
     ·rw [if_neg c12] at H
      have c12b0:decide (x24_2 < 9) = false:=decide_eq_false c12
      clear c12
      simp only [Option.some.injEq,Prod.mk.injEq] at H
      obtain⟨rfl,rfl,rfl,rfl⟩:=H
      have hnb52:=NB310_308.out
      have hnc52:=NB308_310.out
      have hcz53_0:wr.cell? ⟨gb310,0,none⟩ = some (.int .i64 (l0.length:Int)):=(blk_cell BK310.out 0).trans rfl
      have hcz53_1:wr.cell? ⟨gb310,1,none⟩ = some (u311001):=(blk_cell BK310.out 1).trans rfl
      have hcz53_2:wr.cell? ⟨gb310,2,none⟩ = some (u311002):=(blk_cell BK310.out 2).trans rfl
      have hfz53_0:=blk_frozen BK310.out 0
      have hfz53_1:=blk_frozen BK310.out 1
      have hfz53_2:=blk_frozen BK310.out 2
      have hcz54_0:wr.cell? ⟨gb308,0,none⟩ = some (.int .i64 0):=(blk_cell BK308.out 0).trans rfl
      have hcz54_1:wr.cell? ⟨gb308,1,none⟩ = some (.slice none 0 0):=(blk_cell BK308.out 1).trans rfl
      have hcz54_2:wr.cell? ⟨gb308,2,none⟩ = some (.slice none 0 0):=(blk_cell BK308.out 2).trans rfl
      have hfz54_0:=blk_frozen BK308.out 0
      have hfz54_1:=blk_frozen BK308.out 1
      have hfz54_2:=blk_frozen BK308.out 2
      obtain⟨Ao55,co55,eo55⟩:=Kd.R_slice HO_311001.out
      subst eo55
      obtain⟨Ao56,co56,eo56⟩:=Kd.N_slice HO_311002.out
      subst eo56
      go_wp2
      refine bodyPost_ret (results_ct rfl _ _ gb308 30 #[.int .i64 (l0.length:Int),.slice Ao55 x311001_2.length co55,.slice Ao56 x311002_2.length co56] (0,0) _ rfl (by (with_reducible repeat (first|apply nB|apply dB|apply aB));refine blk_put (cs:=#[.int .i64 (l0.length:Int),.slice Ao55 x311001_2.length co55,.slice none 0 0]) ?_ 2 _ rfl;(with_reducible repeat (first|apply nB|apply dB|apply aB));refine blk_put (cs:=#[.int .i64 (l0.length:Int),.slice none 0 0,.slice none 0 0]) ?_ 1 _ rfl;(with_reducible repeat (first|apply nB|apply dB|apply aB));refine blk_put (cs:=#[.int .i64 0,.slice none 0 0,.slice none 0 0]) ?_ 0 _ rfl;(with_reducible repeat (first|apply nB|apply dB|apply aB));exact BK308.out) Try.underlying30 rfl (by kernel_rfl)) rfl ?_
      exact⟨_,_,by first|rfl|(simp [errW_none,errW_some] <;> rfl)|(simp [*,errW_none,errW_some] <;> rfl),by (with_reducible repeat (first|apply aR|apply nR|apply dR));exact Kd.R_mono (Kd.R_far (p:=⟨gb308,2,none⟩) (Kd.R_far (p:=⟨gb308,1,none⟩) (Kd.R_far (p:=⟨gb308,0,none⟩) (Kd.R_types HO_311001.out BK308.out (by decide)) (fun _ hk=>hk.2) (.int .i64 (l0.length:Int))) (fun _ hk=>hk.2) (.slice Ao55 x311001_2.length co55)) (fun _ hk=>hk.2) (.slice Ao56 x311002_2.length co56)) (fun _ hk=>hk.1),by (with_reducible repeat (first|apply aN|apply nN|apply dN));exact Kd.N_mono (Kd.N_far (p:=⟨gb308,2,none⟩) (Kd.N_far (p:=⟨gb308,1,none⟩) (Kd.N_far (p:=⟨gb308,0,none⟩) (Kd.N_mono HO_311002.out (fun k_ hk=>(⟨hk,hk.2.2.1⟩:_ ∧ k_ ≠ gb308))) (fun _ hk=>hk.2) (.int .i64 (l0.length:Int))) (fun _ hk=>hk.2) (.slice Ao55 x311001_2.length co55)) (fun _ hk=>hk.2) (.slice Ao56 x311002_2.length co56)) (fun _ hk=>⟨hk.1.1,hk.1.2.1⟩),by repeat (first|(with_reducible first|exact HB.out|apply aZ|apply nZ|apply dZ|refine sZ ?_ GE308.out|refine sZ ?_ GE310.out)|exact HB.out)⟩

     rw [if_pos c12] at H
     have c12b0:decide (x24_2 < 9) = true:=decide_eq_true c12
     clear c12
     have H':=mk0 H
     clear H
     obtain⟨Ao13,co13,eo13⟩:=Kd.V_slice HO_0.out
     subst eo13
     go_wp2
     go_loopg [6,7,8,29] k2 (fun kq v6 v7 v8 v29 w'=>∃ (x6_3:List Int) (x7_3:List Int) (x8_3:List Int) (x29_3:Int),v29 = .int .i64 x29_3 ∧ Aside0 (impl_WaveOf.l1 kq x0_2 x24_2 x6_3 x7_3 x8_3 x24_2 (x0_2.length:Int) x29_3 (l0.length:Int) x311001_2 x311002_2 = some (r1,r2,r3,r4)) ∧ Aside0 (kq ≤ k2) ∧ Aside0 (Kd.V (Kd.int .i64) 3 w' w.heap.size (fun k_=>(P0_ k_ ∨ w.heap.size ≤ k_) ∧ some k_ ≠ (v6:Value).ownBlock ∧ some k_ ≠ (v7:Value).ownBlock ∧ some k_ ≠ (v8:Value).ownBlock ∧ some k_ ≠ (u311001:Value).ownBlock ∧ some k_ ≠ (u311002:Value).ownBlock ∧ k_ ≠ gb308 ∧ k_ ≠ gb310) (.slice Ao13 x0_2.length co13) x0_2) ∧ Aside0 (Kd.R (Kd.int .i64) 3 w' w.heap.size (fun k_=>(w.heap.size ≤ k_) ∧ some k_ ≠ (v7:Value).ownBlock ∧ some k_ ≠ (v8:Value).ownBlock ∧ some k_ ≠ (u311001:Value).ownBlock) v6 x6_3) ∧ Aside0 (Kd.R (Kd.int .i64) 3 w' w.heap.size (fun k_=>(w.heap.size ≤ k_) ∧ some k_ ≠ (v6:Value).ownBlock ∧ some k_ ≠ (v8:Value).ownBlock ∧ some k_ ≠ (u311001:Value).ownBlock) v7 x7_3) ∧ Aside0 (Kd.R (Kd.int .i64) 3 w' w.heap.size (fun k_=>(w.heap.size ≤ k_) ∧ some k_ ≠ (v6:Value).ownBlock ∧ some k_ ≠ (v7:Value).ownBlock ∧ some k_ ≠ (u311001:Value).ownBlock) v8 x8_3) ∧ Aside0 (Kd.R (Kd.int .i64) 3 w' w.heap.size (fun k_=>(w.heap.size ≤ k_) ∧ some k_ ≠ (v6:Value).ownBlock ∧ some k_ ≠ (v7:Value).ownBlock ∧ some k_ ≠ (v8:Value).ownBlock) u311001 x311001_2) ∧ Aside0 (Kd.N k64 64 w' w.heap.size (fun k_=>(P0_ k_ ∨ w.heap.size ≤ k_) ∧ some k_ ≠ (v6:Value).ownBlock ∧ some k_ ≠ (v7:Value).ownBlock ∧ some k_ ≠ (v8:Value).ownBlock ∧ some k_ ≠ (u311001:Value).ownBlock ∧ k_ ≠ gb308 ∧ k_ ≠ gb310) u311002 x311002_2) ∧ Aside0 (w'.heap[gb308]? = some (.cells #[.int .i64 0,(.slice none 0 0),(.slice none 0 0)] 30 (0,0))) ∧ Aside0 (w'.heap[gb310]? = some (.cells #[.int .i64 (l0.length:Int),u311001,u311002] 30 (0,0))) ∧ Aside0 (Below w.heap.size w w'))
     case atStart=>exact⟨(([]:List Int)),(([]:List Int)),(([]:List Int)),(0),(by first|rfl|(simp;done)|(simp [*];done)),H',⟨Nat.le_refl _⟩,⟨by (with_reducible repeat (first|apply aV|apply nV|apply dV));exact Kd.V_mono HO_0.out (fun _ hk=>⟨hk.1,⟨(by simp [Value.ownBlock]),⟨(by simp [Value.ownBlock]),⟨(by simp [Value.ownBlock]),⟨hk.2.1,⟨hk.2.2.1,⟨hk.2.2.2.1,hk.2.2.2.2⟩⟩⟩⟩⟩⟩⟩)⟩,⟨by first|exact Kd.R_nil _ _ _ _ _|exact Kd.N_nil _ _ _ _ _|exact Kd.V_nil _ _ _ _ _|exact Kd.Q_nil _ _ _ _ _|exact Kd.S_nil _ _ _ _ _⟩,⟨by first|exact Kd.R_nil _ _ _ _ _|exact Kd.N_nil _ _ _ _ _|exact Kd.V_nil _ _ _ _ _|exact Kd.Q_nil _ _ _ _ _|exact Kd.S_nil _ _ _ _ _⟩,⟨by first|exact Kd.R_nil _ _ _ _ _|exact Kd.N_nil _ _ _ _ _|exact Kd.V_nil _ _ _ _ _|exact Kd.Q_nil _ _ _ _ _|exact Kd.S_nil _ _ _ _ _⟩,⟨by (with_reducible repeat (first|apply aR|apply nR|apply dR));exact Kd.R_mono HO_311001.out (fun _ hk=>⟨hk,⟨(by simp [Value.ownBlock]),⟨(by simp [Value.ownBlock]),(by simp [Value.ownBlock])⟩⟩⟩)⟩,⟨by (with_reducible repeat (first|apply aN|apply nN|apply dN));exact Kd.N_mono HO_311002.out (fun _ hk=>⟨hk.1,⟨(by simp [Value.ownBlock]),⟨(by simp [Value.ownBlock]),⟨(by simp [Value.ownBlock]),⟨hk.2.1,⟨hk.2.2.1,hk.2.2.2⟩⟩⟩⟩⟩⟩)⟩,⟨by (with_reducible repeat (first|apply nB|apply dB|apply aB));exact BK308.out⟩,⟨by (with_reducible repeat (first|apply nB|apply dB|apply aB));exact BK310.out⟩,⟨by repeat (first|(with_reducible first|exact HB.out|apply aZ|apply nZ|apply dZ|refine sZ ?_ GE308.out|refine sZ ?_ GE310.out)|exact HB.out)⟩⟩
     case round =>
      clear H'
      try clear c1
      try clear p2
      try clear c4
      try clear c4b0
      try clear c4b1
      try clear c7
      try clear c10
      try clear c12
      try clear c12b0
      try clear hcz11_0
      try clear hcz11_1
      try clear hcz11_2
      try clear hcz8_0
      try clear hcz8_1
      try clear hcz8_2
      try clear hfz11_0
      try clear hfz11_1
      try clear hfz11_2
      try clear hfz8_0
      try clear hfz8_1
      try clear hfz8_2
      try clear p2
      obtain⟨x6_3,x7_3,x8_3,x29_3,rfl,HA,HK3,HO_0,HO_6,HO_7,HO_8,HO_311001,HO_311002,BK308,BK310,HB⟩:=hrel
      cases gk with
      | zero=>exact absurd HA.out (by simp [impl_WaveOf.l1])
      | succ k3 =>
       have H:=HA.out
       clear HA
       simp only [impl_WaveOf.l1] at H
       by_cases c14:x29_3 < (x0_2.length:Int)
       ·rw [if_pos c14] at H
        have c14b0:decide (x29_3 < (x0_2.length:Int)) = true:=decide_eq_true c14
        clear c14
        by_cases c15:0 ≤ x29_3
        rotate_left
        ·rw [if_neg c15] at H
         exact absurd H (by simp)
        rw [if_pos c15] at H
        have c15b0:decide (0 ≤ x29_3) = true:=decide_eq_true c15
        clear c15
        by_cases c16:x29_3 < (x0_2.length:Int)
        rotate_left
        ·rw [if_neg c16] at H
         exact absurd H (by simp)
        rw [if_pos c16] at H
        have c16b0:decide (x29_3 < (x0_2.length:Int)) = true:=decide_eq_true c16
        clear c16
        obtain⟨ji17,hji17⟩:∃ j_:Int,(wrap64 (8 - x24_2)) = j_:=⟨_,rfl⟩
        replace H:(if 0 ≤ (ji17) then (if x8_3.length < 17592186044416 then ((some (x8_3 ++ [Go.bits .and .i64 (shr .i64 (rd x0_2 x29_3) (ji17)) 1]:List Int)).bind fun y312=>(if (Go.bits .and .i64 (shr .i64 (rd x0_2 x29_3) (ji17)) 1) = 0 then (if x6_3.length < 17592186044416 then (impl_WaveOf.l1 k3 x0_2 x24_2 (x6_3 ++ [rd x0_2 x29_3]) x7_3 y312 x24_2 (x0_2.length:Int) (wrap64 (x29_3 + 1)) (l0.length:Int) x311001_2 x311002_2) else (none)) else (if x7_3.length < 17592186044416 then (impl_WaveOf.l1 k3 x0_2 x24_2 x6_3 (x7_3 ++ [rd x0_2 x29_3]) y312 x24_2 (x0_2.length:Int) (wrap64 (x29_3 + 1)) (l0.length:Int) x311001_2 x311002_2) else (none)))) else (none)) else (none)) = some (r1,r2,r3,r4):=by first|(rw [hji17] at H;exact H)|(simp only [hji17] at H ⊢;exact H)
        have hji17w:(IntKind.i64.wrap (8 - x24_2)) = ji17:=(i64_w _).trans hji17
        by_cases c18:0 ≤ (ji17)
        rotate_left
        ·rw [if_neg c18] at H
         exact absurd H (by simp)
        rw [if_pos c18] at H
        have c18b0:=eq_true c18
        have c18b1:decide (0 ≤ (ji17)) = true:=decide_eq_true c18
        clear c18
        obtain⟨ji19,hji19⟩:∃ j_:Int,(shr .i64 (rd x0_2 x29_3) (ji17)) = j_:=⟨_,rfl⟩
        replace H:(if x8_3.length < 17592186044416 then ((some (x8_3 ++ [Go.bits .and .i64 (ji19) 1]:List Int)).bind fun y312=>(if (Go.bits .and .i64 (ji19) 1) = 0 then (if x6_3.length < 17592186044416 then (impl_WaveOf.l1 k3 x0_2 x24_2 (x6_3 ++ [rd x0_2 x29_3]) x7_3 y312 x24_2 (x0_2.length:Int) (wrap64 (x29_3 + 1)) (l0.length:Int) x311001_2 x311002_2) else (none)) else (if x7_3.length < 17592186044416 then (impl_WaveOf.l1 k3 x0_2 x24_2 x6_3 (x7_3 ++ [rd x0_2 x29_3]) y312 x24_2 (x0_2.length:Int) (wrap64 (x29_3 + 1)) (l0.length:Int) x311001_2 x311002_2) else (none)))) else (none)) = some (r1,r2,r3,r4):=by first|(rw [hji19] at H;exact H)|(simp only [hji19] at H ⊢;exact H)
        have hji19_:((rd x0_2 x29_3) / 2 ^ min (ji17).toNat 64) = ji19:=hji19
        have hji19z:(ji17) ≤ 64 → ((rd x0_2 x29_3) / 2 ^ (ji17).toNat) = ji19:=shr_small hji19
        by_cases c20:x8_3.length < 17592186044416
        rotate_left
        ·rw [if_neg c20] at H
         exact absurd H (by simp)
        rw [if_pos c20] at H
        have LMc20:=mk0 c20
        clear c20
        obtain⟨y312,hy312⟩:∃ y_:List Int,y_ = (x8_3 ++ [Go.bits .and .i64 (ji19) 1]):=⟨_,rfl⟩
        replace H:(if (Go.bits .and .i64 (ji19) 1) = 0 then (if x6_3.length < 17592186044416 then (impl_WaveOf.l1 k3 x0_2 x24_2 (x6_3 ++ [rd x0_2 x29_3]) x7_3 y312 x24_2 (x0_2.length:Int) (wrap64 (x29_3 + 1)) (l0.length:Int) x311001_2 x311002_2) else (none)) else (if x7_3.length < 17592186044416 then (impl_WaveOf.l1 k3 x0_2 x24_2 x6_3 (x7_3 ++ [rd x0_2 x29_3]) y312 x24_2 (x0_2.length:Int) (wrap64 (x29_3 + 1)) (l0.length:Int) x311001_2 x311002_2) else (none))) = some (r1,r2,r3,r4):=by first|(rw [hy312];with_reducible exact H)|(have H2_:=(Option.bind_some _ _).symm.trans H;rw [hy312];with_reducible exact H2_)|(have H2_:=(Option.bind_some _ _).symm.trans H;with_reducible exact H2_)|with_reducible exact H|(rw [hy312];exact H)|exact H
        have Ny312:=mk0 hy312
        clear hy312
        by_cases c21:(Go.bits .and .i64 (ji19) 1) = 0
        rotate_left
        ·rw [if_neg c21] at H
         have c21b0:((Go.bits .and .i64 (ji19) 1) == 0) = false:=beq_eq_false_iff_ne.mpr c21
         have c21b1:((Go.bits .and .i64 (ji19) 1) != 0) = true:=bne_iff_ne.mpr c21
         by_cases c25:x7_3.length < 17592186044416
         rotate_left
         ·rw [if_neg c25] at H
          exact absurd H (by simp)
         rw [if_pos c25] at H
         have LMc25:=mk0 c25
         clear c25
         obtain⟨y318,hy318⟩:∃ y_:List Int,y_ = (x7_3 ++ [rd x0_2 x29_3]):=⟨_,rfl⟩
         replace H:(impl_WaveOf.l1 k3 x0_2 x24_2 x6_3 y318 y312 x24_2 (x0_2.length:Int) (wrap64 (x29_3 + 1)) (l0.length:Int) x311001_2 x311002_2) = some (r1,r2,r3,r4):=by first|(rw [hy318];with_reducible exact H)|(have H2_:=(Option.bind_some _ _).symm.trans H;rw [hy318];with_reducible exact H2_)|(have H2_:=(Option.bind_some _ _).symm.trans H;with_reducible exact H2_)|with_reducible exact H|(rw [hy318];exact H)|exact H
         have Ny318:=mk0 hy318
         clear hy318
         have H':=mk0 H
         clear H
         have p311:0 ≤ (x29_3:Int):=of_decide_eq_true (by first|(with_reducible assumption)|assumption)
         have q311:x29_3 < (x0_2.length:Int):=of_decide_eq_true (by first|(with_reducible assumption)|assumption)
         obtain⟨ad311,e311,hx311_0⟩:=Kd.at_int (Kd.V_reads' HO_0.out).2.2 x29_3 p311 q311
         cases e311
         replace p311:=eq_true p311
         replace q311:=eq_true q311
         go_wp2_with (first|((with_reducible refine gate_builtin (b:=.append) (xs:=#[.tmp 38,.tmp 40]) rfl ?_);at_builtin;refine Kd.R_append (Kd.int .i64) (w0:=w) w.heap.size rfl (.tmp 38) (.tmp 40) 22 3 (.int .i64 0) 8 rfl Try.underlying22 info3 rfl (by decide) (by omega) u8 x8_3 (Go.bits .and .i64 (ji19) 1) [.int .i64 (Go.bits .and .i64 (ji19) 1)] (fun k_=>(w.heap.size ≤ k_) ∧ some k_ ≠ (u6:Value).ownBlock ∧ some k_ ≠ (u7:Value).ownBlock ∧ some k_ ≠ (u311001:Value).ownBlock) (fun _=>False) rfl rfl ?aP (fun _ hk=>hk.elim) ?aF ?aO ?aB ?aS ?aL ?_;(case aP=>exact rfl);(case aB=>exact (by repeat (first|(with_reducible first|exact HB.out|apply aZ|apply nZ|apply dZ|refine sZ ?_ GE308.out|refine sZ ?_ GE310.out)|exact HB.out)));(case aF=>exact (fun k_ hk=>⟨(Nat.le_trans (below_size (by repeat (first|(with_reducible first|exact HB.out|apply aZ|apply nZ|apply dZ|refine sZ ?_ GE308.out|refine sZ ?_ GE310.out)|exact HB.out))) hk),Kd.fresh' (Kd.R_lt (by (with_reducible repeat (first|apply aR|apply nR|apply dR));exact HO_6.out)) k_ hk,Kd.fresh' (Kd.R_lt (by (with_reducible repeat (first|apply aR|apply nR|apply dR));exact HO_7.out)) k_ hk,Kd.fresh' (Kd.R_lt (by (with_reducible repeat (first|apply aR|apply nR|apply dR));exact HO_311001.out)) k_ hk⟩));(case aO=>exact (by (with_reducible repeat (first|apply aR|apply nR|apply dR));exact HO_8.out));(case aS=>exact (below_size (by repeat (first|(with_reducible first|exact HB.out|apply aZ|apply nZ|apply dZ|refine sZ ?_ GE308.out|refine sZ ?_ GE310.out)|exact HB.out))));(case aL=>have:=LMc20.out;omega);intro v313 w26 ho hb hg hat;rw [← Ny312.out] at ho;have n0_:=mk0 (Kd.V_afterv (ok:=(fun k_=>(P0_ k_ ∨ w.heap.size ≤ k_) ∧ some k_ ≠ (u6:Value).ownBlock ∧ some k_ ≠ (u7:Value).ownBlock ∧ some k_ ≠ (u311001:Value).ownBlock ∧ some k_ ≠ (u311002:Value).ownBlock ∧ k_ ≠ gb308 ∧ k_ ≠ gb310)) (by (with_reducible repeat (first|apply aV|apply nV|apply dV));exact Kd.V_mono HO_0.out (fun _ hk=>⟨⟨hk.1,⟨hk.2.1,⟨hk.2.2.1,⟨hk.2.2.2.2.1,⟨hk.2.2.2.2.2.1,⟨hk.2.2.2.2.2.2.1,hk.2.2.2.2.2.2.2⟩⟩⟩⟩⟩⟩,hk.2.2.2.1⟩)) hg hat);have n1_:=mk0 (Kd.R_after (ok:=(fun k_=>(w.heap.size ≤ k_) ∧ some k_ ≠ (u7:Value).ownBlock ∧ some k_ ≠ (u311001:Value).ownBlock)) (by (with_reducible repeat (first|apply aR|apply nR|apply dR));exact Kd.R_mono HO_6.out (fun _ hk=>⟨⟨hk.1,⟨hk.2.1,hk.2.2.2⟩⟩,hk.2.2.1⟩)) hg hat);have n2_:=mk0 (Kd.R_after (ok:=(fun k_=>(w.heap.size ≤ k_) ∧ some k_ ≠ (u6:Value).ownBlock ∧ some k_ ≠ (u311001:Value).ownBlock)) (by (with_reducible repeat (first|apply aR|apply nR|apply dR));exact Kd.R_mono HO_7.out (fun _ hk=>⟨⟨hk.1,⟨hk.2.1,hk.2.2.2⟩⟩,hk.2.2.1⟩)) hg hat);have n3_:=mk0 (Kd.R_after (ok:=(fun k_=>(w.heap.size ≤ k_) ∧ some k_ ≠ (u6:Value).ownBlock ∧ some k_ ≠ (u7:Value).ownBlock)) (by (with_reducible repeat (first|apply aR|apply nR|apply dR));exact Kd.R_mono HO_311001.out (fun _ hk=>⟨⟨hk.1,⟨hk.2.1,hk.2.2.1⟩⟩,hk.2.2.2⟩)) hg hat);have n4_:=mk0 (Kd.N_afterv (ok:=(fun k_=>(P0_ k_ ∨ w.heap.size ≤ k_) ∧ some k_ ≠ (u6:Value).ownBlock ∧ some k_ ≠ (u7:Value).ownBlock ∧ some k_ ≠ (u311001:Value).ownBlock ∧ k_ ≠ gb308 ∧ k_ ≠ gb310)) (by (with_reducible repeat (first|apply aN|apply nN|apply dN));exact Kd.N_mono HO_311002.out (fun _ hk=>⟨⟨hk.1,⟨hk.2.1,⟨hk.2.2.1,⟨hk.2.2.2.2.1,⟨hk.2.2.2.2.2.1,hk.2.2.2.2.2.2⟩⟩⟩⟩⟩,hk.2.2.2.1⟩)) hg hat);have n5_:=mk0 (blk_grown (g:=gb308) (o:=.cells #[.int .i64 0,.slice none 0 0,.slice none 0 0] 30 (0,0)) (by (with_reducible repeat (first|apply nB|apply dB|apply aB));exact BK308.out) hg (Kd.R_ne HO_8.out BK308.out (by decide)));have n6_:=mk0 (blk_grown (g:=gb310) (o:=.cells #[.int .i64 (l0.length:Int),u311001,u311002] 30 (0,0)) (by (with_reducible repeat (first|apply nB|apply dB|apply aB));exact BK310.out) hg (Kd.R_ne HO_8.out BK310.out (by decide)));have n7_:=mk0 (hb);have n8_:=mk0 (ho);clear HO_0 HO_6 HO_7 HO_311001 HO_311002 BK308 BK310 HB HO_8;have HO_0:=n0_;have HO_6:=n1_;have HO_7:=n2_;have HO_311001:=n3_;have HO_311002:=n4_;have BK308:=n5_;have BK310:=n6_;have HB:=n7_;have HO314:=n8_;clear n0_ n1_ n2_ n3_ n4_ n5_ n6_ n7_ n8_ ho hb hg hat)|((with_reducible refine gate_builtin (b:=.append) (xs:=#[.tmp 48,.tmp 50]) rfl ?_);at_builtin;refine Kd.R_append (Kd.int .i64) (w0:=w) w.heap.size rfl (.tmp 48) (.tmp 50) 22 3 (.int .i64 0) 8 rfl Try.underlying22 info3 rfl (by decide) (by omega) u7 x7_3 (rd x0_2 x29_3) [.int .i64 (rd x0_2 x29_3)] (fun k_=>(w.heap.size ≤ k_) ∧ some k_ ≠ (u6:Value).ownBlock ∧ some k_ ≠ (u311001:Value).ownBlock ∧ some k_ ≠ (v313:Value).ownBlock) (fun _=>False) rfl rfl ?aP (fun _ hk=>hk.elim) ?aF ?aO ?aB ?aS ?aL ?_;(case aP=>exact rfl);(case aB=>exact (by repeat (first|(with_reducible first|exact HB.out|apply aZ|apply nZ|apply dZ|refine sZ ?_ GE308.out|refine sZ ?_ GE310.out)|exact HB.out)));(case aF=>exact (fun k_ hk=>⟨(Nat.le_trans (below_size (by repeat (first|(with_reducible first|exact HB.out|apply aZ|apply nZ|apply dZ|refine sZ ?_ GE308.out|refine sZ ?_ GE310.out)|exact HB.out))) hk),Kd.fresh' (Kd.R_lt (by (with_reducible repeat (first|apply aR|apply nR|apply dR));exact HO_6.out)) k_ hk,Kd.fresh' (Kd.R_lt (by (with_reducible repeat (first|apply aR|apply nR|apply dR));exact HO_311001.out)) k_ hk,Kd.fresh' (Kd.R_lt (by (with_reducible repeat (first|apply aR|apply nR|apply dR));exact HO314.out)) k_ hk⟩));(case aO=>exact (by (with_reducible repeat (first|apply aR|apply nR|apply dR));exact Kd.R_mono HO_7.out (fun _ hk=>⟨hk.1.1,⟨hk.1.2.1,⟨hk.1.2.2,hk.2⟩⟩⟩)));(case aS=>exact (below_size (by repeat (first|(with_reducible first|exact HB.out|apply aZ|apply nZ|apply dZ|refine sZ ?_ GE308.out|refine sZ ?_ GE310.out)|exact HB.out))));(case aL=>have:=LMc25.out;omega);intro v319 w27 ho hb hg hat;rw [← Ny318.out] at ho;have n0_:=mk0 (Kd.V_afterv (ok:=(fun k_=>(P0_ k_ ∨ w.heap.size ≤ k_) ∧ some k_ ≠ (u6:Value).ownBlock ∧ some k_ ≠ (u311001:Value).ownBlock ∧ some k_ ≠ (u311002:Value).ownBlock ∧ some k_ ≠ (v313:Value).ownBlock ∧ k_ ≠ gb308 ∧ k_ ≠ gb310)) (by (with_reducible repeat (first|apply aV|apply nV|apply dV));exact Kd.V_mono HO_0.out (fun _ hk=>⟨⟨hk.1.1,⟨hk.1.2.1,⟨hk.1.2.2.2.1,⟨hk.1.2.2.2.2.1,⟨hk.2,⟨hk.1.2.2.2.2.2.1,hk.1.2.2.2.2.2.2⟩⟩⟩⟩⟩⟩,hk.1.2.2.1⟩)) hg hat);have n1_:=mk0 (Kd.R_after (ok:=(fun k_=>(w.heap.size ≤ k_) ∧ some k_ ≠ (u311001:Value).ownBlock ∧ some k_ ≠ (v313:Value).ownBlock)) (by (with_reducible repeat (first|apply aR|apply nR|apply dR));exact Kd.R_mono HO_6.out (fun _ hk=>⟨⟨hk.1.1,⟨hk.1.2.2,hk.2⟩⟩,hk.1.2.1⟩)) hg hat);have n2_:=mk0 (Kd.R_after (ok:=(fun k_=>(w.heap.size ≤ k_) ∧ some k_ ≠ (u6:Value).ownBlock ∧ some k_ ≠ (v313:Value).ownBlock)) (by (with_reducible repeat (first|apply aR|apply nR|apply dR));exact Kd.R_mono HO_311001.out (fun _ hk=>⟨⟨hk.1.1,⟨hk.1.2.1,hk.2⟩⟩,hk.1.2.2⟩)) hg hat);have n3_:=mk0 (Kd.N_afterv (ok:=(fun k_=>(P0_ k_ ∨ w.heap.size ≤ k_) ∧ some k_ ≠ (u6:Value).ownBlock ∧ some k_ ≠ (u311001:Value).ownBlock ∧ some k_ ≠ (v313:Value).ownBlock ∧ k_ ≠ gb308 ∧ k_ ≠ gb310)) (by (with_reducible repeat (first|apply aN|apply nN|apply dN));exact Kd.N_mono HO_311002.out (fun _ hk=>⟨⟨hk.1.1,⟨hk.1.2.1,⟨hk.1.2.2.2.1,⟨hk.2,⟨hk.1.2.2.2.2.1,hk.1.2.2.2.2.2⟩⟩⟩⟩⟩,hk.1.2.2.1⟩)) hg hat);have n4_:=mk0 (blk_grown (g:=gb308) (o:=.cells #[.int .i64 0,.slice none 0 0,.slice none 0 0] 30 (0,0)) (by (with_reducible repeat (first|apply nB|apply dB|apply aB));exact BK308.out) hg (Kd.R_ne HO_7.out BK308.out (by decide)));have n5_:=mk0 (blk_grown (g:=gb310) (o:=.cells #[.int .i64 (l0.length:Int),u311001,u311002] 30 (0,0)) (by (with_reducible repeat (first|apply nB|apply dB|apply aB));exact BK310.out) hg (Kd.R_ne HO_7.out BK310.out (by decide)));have n6_:=mk0 (Kd.R_after (ok:=(fun k_=>(w.heap.size ≤ k_) ∧ some k_ ≠ (u6:Value).ownBlock ∧ some k_ ≠ (u311001:Value).ownBlock)) (by (with_reducible repeat (first|apply aR|apply nR|apply dR));exact Kd.R_mono HO314.out (fun _ hk=>⟨⟨hk.1,⟨hk.2.1,hk.2.2.2⟩⟩,hk.2.2.1⟩)) hg hat);have n7_:=mk0 (hb);have n8_:=mk0 (ho);clear HO_0 HO_6 HO_311001 HO_311002 BK308 BK310 HO314 HB HO_7;have HO_0:=n0_;have HO_6:=n1_;have HO_311001:=n2_;have HO_311002:=n3_;have BK308:=n4_;have BK310:=n5_;have HO314:=n6_;have HB:=n7_;have HO320:=n8_;clear n0_ n1_ n2_ n3_ n4_ n5_ n6_ n7_ n8_ ho hb hg hat))
         go_roundg k3
         case measure=>have:=HJ1.out;have:=HK2.out;have:=HK3.out;omega
         case rel=>exact⟨(x6_3),(y318),(y312),(wrap64 (x29_3 + 1)),(by first|rfl|(simp;done)|(simp [*];done)),H',⟨by have:=HJ1.out;have:=HK2.out;have:=HK3.out;omega⟩,⟨by (with_reducible repeat (first|apply aV|apply nV|apply dV));exact Kd.V_mono HO_0.out (fun _ hk=>⟨hk.1.1,⟨hk.1.2.1,⟨hk.2,⟨hk.1.2.2.2.2.1,⟨hk.1.2.2.1,⟨hk.1.2.2.2.1,⟨hk.1.2.2.2.2.2.1,hk.1.2.2.2.2.2.2⟩⟩⟩⟩⟩⟩⟩)⟩,⟨by (with_reducible repeat (first|apply aR|apply nR|apply dR));exact Kd.R_mono HO_6.out (fun _ hk=>⟨hk.1.1,⟨hk.2,⟨hk.1.2.2,hk.1.2.1⟩⟩⟩)⟩,⟨by (with_reducible repeat (first|apply aR|apply nR|apply dR));exact Kd.R_mono HO320.out (fun _ hk=>⟨hk.1,⟨hk.2.1,⟨hk.2.2.2,hk.2.2.1⟩⟩⟩)⟩,⟨by (with_reducible repeat (first|apply aR|apply nR|apply dR));exact Kd.R_mono HO314.out (fun _ hk=>⟨hk.1.1,⟨hk.1.2.1,⟨hk.2,hk.1.2.2⟩⟩⟩)⟩,⟨by (with_reducible repeat (first|apply aR|apply nR|apply dR));exact Kd.R_mono HO_311001.out (fun _ hk=>⟨hk.1.1,⟨hk.1.2.1,⟨hk.2,hk.1.2.2⟩⟩⟩)⟩,⟨by (with_reducible repeat (first|apply aN|apply nN|apply dN));exact Kd.N_mono HO_311002.out (fun _ hk=>⟨hk.1.1,⟨hk.1.2.1,⟨hk.2,⟨hk.1.2.2.2.1,⟨hk.1.2.2.1,⟨hk.1.2.2.2.2.1,hk.1.2.2.2.2.2⟩⟩⟩⟩⟩⟩)⟩,⟨by (with_reducible repeat (first|apply nB|apply dB|apply aB));exact BK308.out⟩,⟨by (with_reducible repeat (first|apply nB|apply dB|apply aB));exact BK310.out⟩,⟨by repeat (first|(with_reducible first|exact HB.out|apply aZ|apply nZ|apply dZ|refine sZ ?_ GE308.out|refine sZ ?_ GE310.out)|exact HB.out)⟩⟩
        rw [if_pos c21] at H
        have c21b0:((Go.bits .and .i64 (ji19) 1) == 0) = true:=beq_iff_eq.mpr c21
        have c21b1:((Go.bits .and .i64 (ji19) 1) != 0) = false:=bne_eq_false_iff_eq.mpr c21
        clear c21
        by_cases c22:x6_3.length < 17592186044416
        rotate_left
        ·rw [if_neg c22] at H
         exact absurd H (by simp)
        rw [if_pos c22] at H
        have LMc22:=mk0 c22
        clear c22
        obtain⟨y315,hy315⟩:∃ y_:List Int,y_ = (x6_3 ++ [rd x0_2 x29_3]):=⟨_,rfl⟩
        replace H:(impl_WaveOf.l1 k3 x0_2 x24_2 y315 x7_3 y312 x24_2 (x0_2.length:Int) (wrap64 (x29_3 + 1)) (l0.length:Int) x311001_2 x311002_2) = some (r1,r2,r3,r4):=by first|(rw [hy315];with_reducible exact H)|(have H2_:=(Option.bind_some _ _).symm.trans H;rw [hy315];with_reducible exact H2_)|(have H2_:=(Option.bind_some _ _).symm.trans H;with_reducible exact H2_)|with_reducible exact H|(rw [hy315];exact H)|exact H
        have Ny315:=mk0 hy315
        clear hy315
        have H':=mk0 H
        clear H
        have p311:0 ≤ (x29_3:Int):=of_decide_eq_true (by first|(with_reducible assumption)|assumption)
        have q311:x29_3 < (x0_2.length:Int):=of_decide_eq_true (by first|(with_reducible assumption)|assumption)
        obtain⟨ad311,e311,hx311_0⟩:=Kd.at_int (Kd.V_reads' HO_0.out).2.2 x29_3 p311 q311
        cases e311
        replace p311:=eq_true p311
        replace q311:=eq_true q311
        go_wp2_with (first|((with_reducible refine gate_builtin (b:=.append) (xs:=#[.tmp 38,.tmp 40]) rfl ?_);at_builtin;refine Kd.R_append (Kd.int .i64) (w0:=w) w.heap.size rfl (.tmp 38) (.tmp 40) 22 3 (.int .i64 0) 8 rfl Try.underlying22 info3 rfl (by decide) (by omega) u8 x8_3 (Go.bits .and .i64 (ji19) 1) [.int .i64 (Go.bits .and .i64 (ji19) 1)] (fun k_=>(w.heap.size ≤ k_) ∧ some k_ ≠ (u6:Value).ownBlock ∧ some k_ ≠ (u7:Value).ownBlock ∧ some k_ ≠ (u311001:Value).ownBlock) (fun _=>False) rfl rfl ?aP (fun _ hk=>hk.elim) ?aF ?aO ?aB ?aS ?aL ?_;(case aP=>exact rfl);(case aB=>exact (by repeat (first|(with_reducible first|exact HB.out|apply aZ|apply nZ|apply dZ|refine sZ ?_ GE308.out|refine sZ ?_ GE310.out)|exact HB.out)));(case aF=>exact (fun k_ hk=>⟨(Nat.le_trans (below_size (by repeat (first|(with_reducible first|exact HB.out|apply aZ|apply nZ|apply dZ|refine sZ ?_ GE308.out|refine sZ ?_ GE310.out)|exact HB.out))) hk),Kd.fresh' (Kd.R_lt (by (with_reducible repeat (first|apply aR|apply nR|apply dR));exact HO_6.out)) k_ hk,Kd.fresh' (Kd.R_lt (by (with_reducible repeat (first|apply aR|apply nR|apply dR));exact HO_7.out)) k_ hk,Kd.fresh' (Kd.R_lt (by (with_reducible repeat (first|apply aR|apply nR|apply dR));exact HO_311001.out)) k_ hk⟩));(case aO=>exact (by (with_reducible repeat (first|apply aR|apply nR|apply dR));exact HO_8.out));(case aS=>exact (below_size (by repeat (first|(with_reducible first|exact HB.out|apply aZ|apply nZ|apply dZ|refine sZ ?_ GE308.out|refine sZ ?_ GE310.out)|exact HB.out))));(case aL=>have:=LMc20.out;omega);intro v313 w23 ho hb hg hat;rw [← Ny312.out] at ho;have n0_:=mk0 (Kd.V_afterv (ok:=(fun k_=>(P0_ k_ ∨ w.heap.size ≤ k_) ∧ some k_ ≠ (u6:Value).ownBlock ∧ some k_ ≠ (u7:Value).ownBlock ∧ some k_ ≠ (u311001:Value).ownBlock ∧ some k_ ≠ (u311002:Value).ownBlock ∧ k_ ≠ gb308 ∧ k_ ≠ gb310)) (by (with_reducible repeat (first|apply aV|apply nV|apply dV));exact Kd.V_mono HO_0.out (fun _ hk=>⟨⟨hk.1,⟨hk.2.1,⟨hk.2.2.1,⟨hk.2.2.2.2.1,⟨hk.2.2.2.2.2.1,⟨hk.2.2.2.2.2.2.1,hk.2.2.2.2.2.2.2⟩⟩⟩⟩⟩⟩,hk.2.2.2.1⟩)) hg hat);have n1_:=mk0 (Kd.R_after (ok:=(fun k_=>(w.heap.size ≤ k_) ∧ some k_ ≠ (u7:Value).ownBlock ∧ some k_ ≠ (u311001:Value).ownBlock)) (by (with_reducible repeat (first|apply aR|apply nR|apply dR));exact Kd.R_mono HO_6.out (fun _ hk=>⟨⟨hk.1,⟨hk.2.1,hk.2.2.2⟩⟩,hk.2.2.1⟩)) hg hat);have n2_:=mk0 (Kd.R_after (ok:=(fun k_=>(w.heap.size ≤ k_) ∧ some k_ ≠ (u6:Value).ownBlock ∧ some k_ ≠ (u311001:Value).ownBlock)) (by (with_reducible repeat (first|apply aR|apply nR|apply dR));exact Kd.R_mono HO_7.out (fun _ hk=>⟨⟨hk.1,⟨hk.2.1,hk.2.2.2⟩⟩,hk.2.2.1⟩)) hg hat);have n3_:=mk0 (Kd.R_after (ok:=(fun k_=>(w.heap.size ≤ k_) ∧ some k_ ≠ (u6:Value).ownBlock ∧ some k_ ≠ (u7:Value).ownBlock)) (by (with_reducible repeat (first|apply aR|apply nR|apply dR));exact Kd.R_mono HO_311001.out (fun _ hk=>⟨⟨hk.1,⟨hk.2.1,hk.2.2.1⟩⟩,hk.2.2.2⟩)) hg hat);have n4_:=mk0 (Kd.N_afterv (ok:=(fun k_=>(P0_ k_ ∨ w.heap.size ≤ k_) ∧ some k_ ≠ (u6:Value).ownBlock ∧ some k_ ≠ (u7:Value).ownBlock ∧ some k_ ≠ (u311001:Value).ownBlock ∧ k_ ≠ gb308 ∧ k_ ≠ gb310)) (by (with_reducible repeat (first|apply aN|apply nN|apply dN));exact Kd.N_mono HO_311002.out (fun _ hk=>⟨⟨hk.1,⟨hk.2.1,⟨hk.2.2.1,⟨hk.2.2.2.2.1,⟨hk.2.2.2.2.2.1,hk.2.2.2.2.2.2⟩⟩⟩⟩⟩,hk.2.2.2.1⟩)) hg hat);have n5_:=mk0 (blk_grown (g:=gb308) (o:=.cells #[.int .i64 0,.slice none 0 0,.slice none 0 0] 30 (0,0)) (by (with_reducible repeat (first|apply nB|apply dB|apply aB));exact BK308.out) hg (Kd.R_ne HO_8.out BK308.out (by decide)));have n6_:=mk0 (blk_grown (g:=gb310) (o:=.cells #[.int .i64 (l0.length:Int),u311001,u311002] 30 (0,0)) (by (with_reducible repeat (first|apply nB|apply dB|apply aB));exact BK310.out) hg (Kd.R_ne HO_8.out BK310.out (by decide)));have n7_:=mk0 (hb);have n8_:=mk0 (ho);clear HO_0 HO_6 HO_7 HO_311001 HO_311002 BK308 BK310 HB HO_8;have HO_0:=n0_;have HO_6:=n1_;have HO_7:=n2_;have HO_311001:=n3_;have HO_311002:=n4_;have BK308:=n5_;have BK310:=n6_;have HB:=n7_;have HO314:=n8_;clear n0_ n1_ n2_ n3_ n4_ n5_ n6_ n7_ n8_ ho hb hg hat)|((with_reducible refine gate_builtin (b:=.append) (xs:=#[.tmp 44,.tmp 46]) rfl ?_);at_builtin;refine Kd.R_append (Kd.int .i64) (w0:=w) w.heap.size rfl (.tmp 44) (.tmp 46) 22 3 (.int .i64 0) 8 rfl Try.underlying22 info3 rfl (by decide) (by omega) u6 x6_3 (rd x0_2 x29_3) [.int .i64 (rd x0_2 x29_3)] (fun k_=>(w.heap.size ≤ k_) ∧ some k_ ≠ (u7:Value).ownBlock ∧ some k_ ≠ (u311001:Value).ownBlock ∧ some k_ ≠ (v313:Value).ownBlock) (fun _=>False) rfl rfl ?aP (fun _ hk=>hk.elim) ?aF ?aO ?aB ?aS ?aL ?_;(case aP=>exact rfl);(case aB=>exact (by repeat (first|(with_reducible first|exact HB.out|apply aZ|apply nZ|apply dZ|refine sZ ?_ GE308.out|refine sZ ?_ GE310.out)|exact HB.out)));(case aF=>exact (fun k_ hk=>⟨(Nat.le_trans (below_size (by repeat (first|(with_reducible first|exact HB.out|apply aZ|apply nZ|apply dZ|refine sZ ?_ GE308.out|refine sZ ?_ GE310.out)|exact HB.out))) hk),Kd.fresh' (Kd.R_lt (by (with_reducible repeat (first|apply aR|apply nR|apply dR));exact HO_7.out)) k_ hk,Kd.fresh' (Kd.R_lt (by (with_reducible repeat (first|apply aR|apply nR|apply dR));exact HO_311001.out)) k_ hk,Kd.fresh' (Kd.R_lt (by (with_reducible repeat (first|apply aR|apply nR|apply dR));exact HO314.out)) k_ hk⟩));(case aO=>exact (by (with_reducible repeat (first|apply aR|apply nR|apply dR));exact Kd.R_mono HO_6.out (fun _ hk=>⟨hk.1.1,⟨hk.1.2.1,⟨hk.1.2.2,hk.2⟩⟩⟩)));(case aS=>exact (below_size (by repeat (first|(with_reducible first|exact HB.out|apply aZ|apply nZ|apply dZ|refine sZ ?_ GE308.out|refine sZ ?_ GE310.out)|exact HB.out))));(case aL=>have:=LMc22.out;omega);intro v316 w24 ho hb hg hat;rw [← Ny315.out] at ho;have n0_:=mk0 (Kd.V_afterv (ok:=(fun k_=>(P0_ k_ ∨ w.heap.size ≤ k_) ∧ some k_ ≠ (u7:Value).ownBlock ∧ some k_ ≠ (u311001:Value).ownBlock ∧ some k_ ≠ (u311002:Value).ownBlock ∧ some k_ ≠ (v313:Value).ownBlock ∧ k_ ≠ gb308 ∧ k_ ≠ gb310)) (by (with_reducible repeat (first|apply aV|apply nV|apply dV));exact Kd.V_mono HO_0.out (fun _ hk=>⟨⟨hk.1.1,⟨hk.1.2.2.1,⟨hk.1.2.2.2.1,⟨hk.1.2.2.2.2.1,⟨hk.2,⟨hk.1.2.2.2.2.2.1,hk.1.2.2.2.2.2.2⟩⟩⟩⟩⟩⟩,hk.1.2.1⟩)) hg hat);have n1_:=mk0 (Kd.R_after (ok:=(fun k_=>(w.heap.size ≤ k_) ∧ some k_ ≠ (u311001:Value).ownBlock ∧ some k_ ≠ (v313:Value).ownBlock)) (by (with_reducible repeat (first|apply aR|apply nR|apply dR));exact Kd.R_mono HO_7.out (fun _ hk=>⟨⟨hk.1.1,⟨hk.1.2.2,hk.2⟩⟩,hk.1.2.1⟩)) hg hat);have n2_:=mk0 (Kd.R_after (ok:=(fun k_=>(w.heap.size ≤ k_) ∧ some k_ ≠ (u7:Value).ownBlock ∧ some k_ ≠ (v313:Value).ownBlock)) (by (with_reducible repeat (first|apply aR|apply nR|apply dR));exact Kd.R_mono HO_311001.out (fun _ hk=>⟨⟨hk.1.1,⟨hk.1.2.2,hk.2⟩⟩,hk.1.2.1⟩)) hg hat);have n3_:=mk0 (Kd.N_afterv (ok:=(fun k_=>(P0_ k_ ∨ w.heap.size ≤ k_) ∧ some k_ ≠ (u7:Value).ownBlock ∧ some k_ ≠ (u311001:Value).ownBlock ∧ some k_ ≠ (v313:Value).ownBlock ∧ k_ ≠ gb308 ∧ k_ ≠ gb310)) (by (with_reducible repeat (first|apply aN|apply nN|apply dN));exact Kd.N_mono HO_311002.out (fun _ hk=>⟨⟨hk.1.1,⟨hk.1.2.2.1,⟨hk.1.2.2.2.1,⟨hk.2,⟨hk.1.2.2.2.2.1,hk.1.2.2.2.2.2⟩⟩⟩⟩⟩,hk.1.2.1⟩)) hg hat);have n4_:=mk0 (blk_grown (g:=gb308) (o:=.cells #[.int .i64 0,.slice none 0 0,.slice none 0 0] 30 (0,0)) (by (with_reducible repeat (first|apply nB|apply dB|apply aB));exact BK308.out) hg (Kd.R_ne HO_6.out BK308.out (by decide)));have n5_:=mk0 (blk_grown (g:=gb310) (o:=.cells #[.int .i64 (l0.length:Int),u311001,u311002] 30 (0,0)) (by (with_reducible repeat (first|apply nB|apply dB|apply aB));exact BK310.out) hg (Kd.R_ne HO_6.out BK310.out (by decide)));have n6_:=mk0 (Kd.R_after (ok:=(fun k_=>(w.heap.size ≤ k_) ∧ some k_ ≠ (u7:Value).ownBlock ∧ some k_ ≠ (u311001:Value).ownBlock)) (by (with_reducible repeat (first|apply aR|apply nR|apply dR));exact Kd.R_mono HO314.out (fun _ hk=>⟨⟨hk.1,⟨hk.2.2.1,hk.2.2.2⟩⟩,hk.2.1⟩)) hg hat);have n7_:=mk0 (hb);have n8_:=mk0 (ho);clear HO_0 HO_7 HO_311001 HO_311002 BK308 BK310 HO314 HB HO_6;have HO_0:=n0_;have HO_7:=n1_;have HO_311001:=n2_;have HO_311002:=n3_;have BK308:=n4_;have BK310:=n5_;have HO314:=n6_;have HB:=n7_;have HO317:=n8_;clear n0_ n1_ n2_ n3_ n4_ n5_ n6_ n7_ n8_ ho hb hg hat))
        go_roundg k3
        case measure=>have:=HJ1.out;have:=HK2.out;have:=HK3.out;omega
        case rel=>exact⟨(y315),(x7_3),(y312),(wrap64 (x29_3 + 1)),(by first|rfl|(simp;done)|(simp [*];done)),H',⟨by have:=HJ1.out;have:=HK2.out;have:=HK3.out;omega⟩,⟨by (with_reducible repeat (first|apply aV|apply nV|apply dV));exact Kd.V_mono HO_0.out (fun _ hk=>⟨hk.1.1,⟨hk.2,⟨hk.1.2.1,⟨hk.1.2.2.2.2.1,⟨hk.1.2.2.1,⟨hk.1.2.2.2.1,⟨hk.1.2.2.2.2.2.1,hk.1.2.2.2.2.2.2⟩⟩⟩⟩⟩⟩⟩)⟩,⟨by (with_reducible repeat (first|apply aR|apply nR|apply dR));exact Kd.R_mono HO317.out (fun _ hk=>⟨hk.1,⟨hk.2.1,⟨hk.2.2.2,hk.2.2.1⟩⟩⟩)⟩,⟨by (with_reducible repeat (first|apply aR|apply nR|apply dR));exact Kd.R_mono HO_7.out (fun _ hk=>⟨hk.1.1,⟨hk.2,⟨hk.1.2.2,hk.1.2.1⟩⟩⟩)⟩,⟨by (with_reducible repeat (first|apply aR|apply nR|apply dR));exact Kd.R_mono HO314.out (fun _ hk=>⟨hk.1.1,⟨hk.2,⟨hk.1.2.1,hk.1.2.2⟩⟩⟩)⟩,⟨by (with_reducible repeat (first|apply aR|apply nR|apply dR));exact Kd.R_mono HO_311001.out (fun _ hk=>⟨hk.1.1,⟨hk.2,⟨hk.1.2.1,hk.1.2.2⟩⟩⟩)⟩,⟨by (with_reducible repeat (first|apply aN|apply nN|apply dN));exact Kd.N_mono HO_311002.out (fun _ hk=>⟨hk.1.1,⟨hk.2,⟨hk.1.2.1,⟨hk.1.2.2.2.1,⟨hk.1.2.2.1,⟨hk.1.2.2.2.2.1,hk.1.2.2.2.2.2⟩⟩⟩⟩⟩⟩)⟩,⟨by (with_reducible repeat (first|apply nB|apply dB|apply aB));exact BK308.out⟩,⟨by (with_reducible repeat (first|apply nB|apply dB|apply aB));exact BK310.out⟩,⟨by repeat (first|(with_reducible first|exact HB.out|apply aZ|apply nZ|apply dZ|refine sZ ?_ GE308.out|refine sZ ?_ GE310.out)|exact HB.out)⟩⟩
       rw [if_neg c14] at H
       have c14b0:decide (x29_3 < (x0_2.length:Int)) = false:=decide_eq_false c14
       clear c14
       by_cases c28:x311001_2.length < 17592186044416
       rotate_left
       ·rw [if_neg c28] at H
        exact absurd H (by simp)
       rw [if_pos c28] at H
       have LMc28:=mk0 c28
       clear c28
       obtain⟨y321,hy321⟩:∃ y_:List Int,y_ = (x311001_2 ++ [(x6_3.length:Int)]):=⟨_,rfl⟩
       replace H:((impl_bitsOf.f k3 x8_3).bind fun bt324=>(if x311002_2.length < 4398046511104 then ((slices_Concat_int_int.f k3 (([x6_3,x7_3]:List (List Int)))).bind fun t334=>(impl_WaveOf.l0 k3 t334 (wrap64 (x24_2 + 1)) (l0.length:Int) y321 (x311002_2 ++ [(⟨bt324.1,bt324.2⟩:S64)]))) else (none))) = some (r1,r2,r3,r4):=by first|(rw [hy321];with_reducible exact H)|(have H2_:=(Option.bind_some _ _).symm.trans H;rw [hy321];with_reducible exact H2_)|(have H2_:=(Option.bind_some _ _).symm.trans H;with_reducible exact H2_)|with_reducible exact H|(rw [hy321];exact H)|exact H
       have Ny321:=mk0 hy321
       clear hy321
       replace H:=Option.bind_eq_some_iff.mp H
       obtain⟨⟨t324,t325⟩,A290,H⟩:=H
       replace H:(if x311002_2.length < 4398046511104 then ((slices_Concat_int_int.f k3 (([x6_3,x7_3]:List (List Int)))).bind fun t334=>(impl_WaveOf.l0 k3 t334 (wrap64 (x24_2 + 1)) (l0.length:Int) y321 (x311002_2 ++ [(⟨t324,t325⟩:S64)]))) else (none)) = some (r1,r2,r3,r4):=H
       have A29:=mk0 A290
       clear A290
       by_cases c30:x311002_2.length < 4398046511104
       rotate_left
       ·rw [if_neg c30] at H
        exact absurd H (by simp)
       rw [if_pos c30] at H
       have LMc30:=mk0 c30
       clear c30
       obtain⟨y328,hy328⟩:∃ y_:List (S64),y_ = (x311002_2 ++ [(⟨t324,t325⟩:S64)]):=⟨_,rfl⟩
       replace H:((slices_Concat_int_int.f k3 (([x6_3,x7_3]:List (List Int)))).bind fun t334=>(impl_WaveOf.l0 k3 t334 (wrap64 (x24_2 + 1)) (l0.length:Int) y321 y328)) = some (r1,r2,r3,r4):=by first|(rw [hy328];with_reducible exact H)|(have H2_:=(Option.bind_some _ _).symm.trans H;rw [hy328];with_reducible exact H2_)|(have H2_:=(Option.bind_some _ _).symm.trans H;with_reducible exact H2_)|with_reducible exact H|(rw [hy328];exact H)|exact H
       have Ny328:=mk0 hy328
       clear hy328
       obtain⟨y331,hy331⟩:∃ y_:List (List Int),y_ = (([x6_3,x7_3]:List (List Int))):=⟨_,rfl⟩
       replace H:((slices_Concat_int_int.f k3 y331).bind fun t334=>(impl_WaveOf.l0 k3 t334 (wrap64 (x24_2 + 1)) (l0.length:Int) y321 y328)) = some (r1,r2,r3,r4):=by first|(rw [hy331];with_reducible exact H)|(have H2_:=(Option.bind_some _ _).symm.trans H;rw [hy331];with_reducible exact H2_)|(have H2_:=(Option.bind_some _ _).symm.trans H;with_reducible exact H2_)|with_reducible exact H|(rw [hy331];exact H)|exact H
       have Ny331:=mk0 hy331
       clear hy331
       replace H:=Option.bind_eq_some_iff.mp H
       obtain⟨t334,A310,H⟩:=H
       replace H:(impl_WaveOf.l0 k3 t334 (wrap64 (x24_2 + 1)) (l0.length:Int) y321 y328) = some (r1,r2,r3,r4):=H
       have A31:=mk0 A310
       clear A310
       have H':=mk0 H
       clear H
       have hnb32:=NB310_308.out
       have hnc32:=NB308_310.out
       have hcz33_0:wr.cell? ⟨gb310,0,none⟩ = some (.int .i64 (l0.length:Int)):=(blk_cell BK310.out 0).trans rfl
       have hcz33_1:wr.cell? ⟨gb310,1,none⟩ = some (u311001):=(blk_cell BK310.out 1).trans rfl
       have hcz33_2:wr.cell? ⟨gb310,2,none⟩ = some (u311002):=(blk_cell BK310.out 2).trans rfl
       have hfz33_0:=blk_frozen BK310.out 0
       have hfz33_1:=blk_frozen BK310.out 1
       have hfz33_2:=blk_frozen BK310.out 2
       obtain⟨Ao34,co34,eo34⟩:=Kd.R_slice HO_6.out
       subst eo34
       try go_wp2_with (first|((with_reducible refine gate_builtin (b:=.append) (xs:=#[.tmp 54,.tmp 57]) rfl ?_);at_builtin;refine Kd.R_append (Kd.int .i64) (w0:=w) w.heap.size rfl (.tmp 54) (.tmp 57) 22 3 (.int .i64 0) 8 rfl Try.underlying22 info3 rfl (by decide) (by omega) u311001 x311001_2 (x6_3.length:Int) [.int .i64 (x6_3.length:Int)] (fun k_=>(w.heap.size ≤ k_) ∧ some k_ ≠ (.slice Ao34 x6_3.length co34:Value).ownBlock ∧ some k_ ≠ (u7:Value).ownBlock ∧ some k_ ≠ (u8:Value).ownBlock) (fun _=>False) rfl rfl ?aP (fun _ hk=>hk.elim) ?aF ?aO ?aB ?aS ?aL ?_;(case aP=>exact rfl);(case aB=>exact (by repeat (first|(with_reducible first|exact HB.out|apply aZ|apply nZ|apply dZ|refine sZ ?_ GE308.out|refine sZ ?_ GE310.out)|exact HB.out)));(case aF=>exact (fun k_ hk=>⟨(Nat.le_trans (below_size (by repeat (first|(with_reducible first|exact HB.out|apply aZ|apply nZ|apply dZ|refine sZ ?_ GE308.out|refine sZ ?_ GE310.out)|exact HB.out))) hk),Kd.fresh' (Kd.R_lt (by (with_reducible repeat (first|apply aR|apply nR|apply dR));exact HO_6.out)) k_ hk,Kd.fresh' (Kd.R_lt (by (with_reducible repeat (first|apply aR|apply nR|apply dR));exact HO_7.out)) k_ hk,Kd.fresh' (Kd.R_lt (by (with_reducible repeat (first|apply aR|apply nR|apply dR));exact HO_8.out)) k_ hk⟩));(case aO=>exact (by (with_reducible repeat (first|apply aR|apply nR|apply dR));exact HO_311001.out));(case aS=>exact (below_size (by repeat (first|(with_reducible first|exact HB.out|apply aZ|apply nZ|apply dZ|refine sZ ?_ GE308.out|refine sZ ?_ GE310.out)|exact HB.out))));(case aL=>have:=LMc28.out;omega);intro v322 w35 ho hb hg hat;rw [← Ny321.out] at ho;have n0_:=mk0 (Kd.V_afterv (ok:=(fun k_=>(P0_ k_ ∨ w.heap.size ≤ k_) ∧ some k_ ≠ (.slice Ao34 x6_3.length co34:Value).ownBlock ∧ some k_ ≠ (u7:Value).ownBlock ∧ some k_ ≠ (u8:Value).ownBlock ∧ some k_ ≠ (u311002:Value).ownBlock ∧ k_ ≠ gb308 ∧ k_ ≠ gb310)) (by (with_reducible repeat (first|apply aV|apply nV|apply dV));exact Kd.V_mono HO_0.out (fun _ hk=>⟨⟨hk.1,⟨hk.2.1,⟨hk.2.2.1,⟨hk.2.2.2.1,⟨hk.2.2.2.2.2.1,⟨hk.2.2.2.2.2.2.1,hk.2.2.2.2.2.2.2⟩⟩⟩⟩⟩⟩,hk.2.2.2.2.1⟩)) hg hat);have n1_:=mk0 (Kd.R_after (ok:=(fun k_=>(w.heap.size ≤ k_) ∧ some k_ ≠ (u7:Value).ownBlock ∧ some k_ ≠ (u8:Value).ownBlock)) (by (with_reducible repeat (first|apply aR|apply nR|apply dR));exact Kd.R_mono HO_6.out (fun _ hk=>⟨⟨hk.1,⟨hk.2.1,hk.2.2.1⟩⟩,hk.2.2.2⟩)) hg hat);have n2_:=mk0 (Kd.R_after (ok:=(fun k_=>(w.heap.size ≤ k_) ∧ some k_ ≠ (.slice Ao34 x6_3.length co34:Value).ownBlock ∧ some k_ ≠ (u8:Value).ownBlock)) (by (with_reducible repeat (first|apply aR|apply nR|apply dR));exact Kd.R_mono HO_7.out (fun _ hk=>⟨⟨hk.1,⟨hk.2.1,hk.2.2.1⟩⟩,hk.2.2.2⟩)) hg hat);have n3_:=mk0 (Kd.R_after (ok:=(fun k_=>(w.heap.size ≤ k_) ∧ some k_ ≠ (.slice Ao34 x6_3.length co34:Value).ownBlock ∧ some k_ ≠ (u7:Value).ownBlock)) (by (with_reducible repeat (first|apply aR|apply nR|apply dR));exact Kd.R_mono HO_8.out (fun _ hk=>⟨⟨hk.1,⟨hk.2.1,hk.2.2.1⟩⟩,hk.2.2.2⟩)) hg hat);have n4_:=mk0 (Kd.N_afterv (ok:=(fun k_=>(P0_ k_ ∨ w.heap.size ≤ k_) ∧ some k_ ≠ (.slice Ao34 x6_3.length co34:Value).ownBlock ∧ some k_ ≠ (u7:Value).ownBlock ∧ some k_ ≠ (u8:Value).ownBlock ∧ k_ ≠ gb308 ∧ k_ ≠ gb310)) (by (with_reducible repeat (first|apply aN|apply nN|apply dN));exact Kd.N_mono HO_311002.out (fun _ hk=>⟨⟨hk.1,⟨hk.2.1,⟨hk.2.2.1,⟨hk.2.2.2.1,⟨hk.2.2.2.2.2.1,hk.2.2.2.2.2.2⟩⟩⟩⟩⟩,hk.2.2.2.2.1⟩)) hg hat);have n5_:=mk0 (blk_grown (g:=gb308) (o:=.cells #[.int .i64 0,.slice none 0 0,.slice none 0 0] 30 (0,0)) (by (with_reducible repeat (first|apply nB|apply dB|apply aB));exact BK308.out) hg (Kd.R_ne HO_311001.out BK308.out (by decide)));have n6_:=mk0 (blk_grown (g:=gb310) (o:=.cells #[.int .i64 (l0.length:Int),u311001,u311002] 30 (0,0)) (by (with_reducible repeat (first|apply nB|apply dB|apply aB));exact BK310.out) hg (Kd.R_ne HO_311001.out BK310.out (by decide)));have n7_:=mk0 (hb);have n8_:=mk0 (ho);clear HO_0 HO_6 HO_7 HO_8 HO_311002 BK308 BK310 HB HO_311001;have HO_0:=n0_;have HO_6:=n1_;have HO_7:=n2_;have HO_8:=n3_;have HO_311002:=n4_;have BK308:=n5_;have BK310:=n6_;have HB:=n7_;have HO323:=n8_;clear n0_ n1_ n2_ n3_ n4_ n5_ n6_ n7_ n8_ ho hb hg hat;obtain⟨Ao36,co36,eo36⟩:=Kd.R_slice HO323.out;subst eo36;have hcz37_0:w35.cell? ⟨gb310,0,none⟩ = some (.int .i64 (l0.length:Int)):=(blk_cell BK310.out 0).trans rfl;have hcz37_1:w35.cell? ⟨gb310,1,none⟩ = some (u311001):=(blk_cell BK310.out 1).trans rfl;have hcz37_2:w35.cell? ⟨gb310,2,none⟩ = some (u311002):=(blk_cell BK310.out 2).trans rfl;have hfz37_0:=blk_frozen BK310.out 0;have hfz37_1:=blk_frozen BK310.out 1;have hfz37_2:=blk_frozen BK310.out 2)|((with_reducible refine gate_store (t:=22) (p:=59) rfl ?_);refine store_event (t:=22) (p:=59) (v:=?vo_w38) (w1:=(w35.setCell ⟨gb310,1,none⟩ (.slice Ao36 y321.length co36))) ?hg ?ho ?hn ?hr ?_;(case ho=>rfl);(case hg=>rfl);(case hn=>rfl);(case hr=>first|(go_simp;done)|(go_simp;rfl));intro w38 hw;have n0_:Aside0 (Kd.V (Kd.int .i64) 3 w38 w.heap.size (fun k_=>(P0_ k_ ∨ w.heap.size ≤ k_) ∧ some k_ ≠ (.slice Ao34 x6_3.length co34:Value).ownBlock ∧ some k_ ≠ (u7:Value).ownBlock ∧ some k_ ≠ (u8:Value).ownBlock ∧ some k_ ≠ (u311002:Value).ownBlock ∧ some k_ ≠ (.slice Ao36 y321.length co36:Value).ownBlock ∧ k_ ≠ gb308 ∧ k_ ≠ gb310) (.slice Ao13 x0_2.length co13) x0_2):=⟨(by rw [hw];exact (by (with_reducible repeat (first|apply aV|apply nV|apply dV));exact Kd.V_mono (Kd.V_far (p:=⟨gb310,1,none⟩) (Kd.V_mono HO_0.out (fun k_ hk=>(⟨hk,hk.1.2.2.2.2.2.2⟩:_ ∧ k_ ≠ gb310))) (fun _ hk=>hk.2) (.slice Ao36 y321.length co36)) (fun _ hk=>⟨hk.1.1.1,⟨hk.1.1.2.1,⟨hk.1.1.2.2.1,⟨hk.1.1.2.2.2.1,⟨hk.1.1.2.2.2.2.1,⟨hk.1.2,⟨hk.1.1.2.2.2.2.2.1,hk.1.1.2.2.2.2.2.2⟩⟩⟩⟩⟩⟩⟩)))⟩;have n1_:Aside0 (Kd.R (Kd.int .i64) 3 w38 w.heap.size (fun k_=>(w.heap.size ≤ k_) ∧ some k_ ≠ (u7:Value).ownBlock ∧ some k_ ≠ (u8:Value).ownBlock ∧ some k_ ≠ (.slice Ao36 y321.length co36:Value).ownBlock) (.slice Ao34 x6_3.length co34) x6_3):=⟨(by rw [hw];exact (by (with_reducible repeat (first|apply aR|apply nR|apply dR));exact Kd.R_mono (Kd.R_far (p:=⟨gb310,1,none⟩) (Kd.R_types HO_6.out BK310.out (by decide)) (fun _ hk=>hk.2) (.slice Ao36 y321.length co36)) (fun _ hk=>⟨hk.1.1.1,⟨hk.1.1.2.1,⟨hk.1.1.2.2,hk.1.2⟩⟩⟩)))⟩;have n2_:Aside0 (Kd.R (Kd.int .i64) 3 w38 w.heap.size (fun k_=>(w.heap.size ≤ k_) ∧ some k_ ≠ (.slice Ao34 x6_3.length co34:Value).ownBlock ∧ some k_ ≠ (u8:Value).ownBlock ∧ some k_ ≠ (.slice Ao36 y321.length co36:Value).ownBlock) u7 x7_3):=⟨(by rw [hw];exact (by (with_reducible repeat (first|apply aR|apply nR|apply dR));exact Kd.R_mono (Kd.R_far (p:=⟨gb310,1,none⟩) (Kd.R_types HO_7.out BK310.out (by decide)) (fun _ hk=>hk.2) (.slice Ao36 y321.length co36)) (fun _ hk=>⟨hk.1.1.1,⟨hk.1.1.2.1,⟨hk.1.1.2.2,hk.1.2⟩⟩⟩)))⟩;have n3_:Aside0 (Kd.R (Kd.int .i64) 3 w38 w.heap.size (fun k_=>(w.heap.size ≤ k_) ∧ some k_ ≠ (.slice Ao34 x6_3.length co34:Value).ownBlock ∧ some k_ ≠ (u7:Value).ownBlock ∧ some k_ ≠ (.slice Ao36 y321.length co36:Value).ownBlock) u8 x8_3):=⟨(by rw [hw];exact (by (with_reducible repeat (first|apply aR|apply nR|apply dR));exact Kd.R_mono (Kd.R_far (p:=⟨gb310,1,none⟩) (Kd.R_types HO_8.out BK310.out (by decide)) (fun _ hk=>hk.2) (.slice Ao36 y321.length co36)) (fun _ hk=>⟨hk.1.1.1,⟨hk.1.1.2.1,⟨hk.1.1.2.2,hk.1.2⟩⟩⟩)))⟩;have n4_:Aside0 (Kd.N k64 64 w38 w.heap.size (fun k_=>(P0_ k_ ∨ w.heap.size ≤ k_) ∧ some k_ ≠ (.slice Ao34 x6_3.length co34:Value).ownBlock ∧ some k_ ≠ (u7:Value).ownBlock ∧ some k_ ≠ (u8:Value).ownBlock ∧ some k_ ≠ (.slice Ao36 y321.length co36:Value).ownBlock ∧ k_ ≠ gb308 ∧ k_ ≠ gb310) u311002 x311002_2):=⟨(by rw [hw];exact (by (with_reducible repeat (first|apply aN|apply nN|apply dN));exact Kd.N_mono (Kd.N_far (p:=⟨gb310,1,none⟩) (Kd.N_mono HO_311002.out (fun k_ hk=>(⟨hk,hk.1.2.2.2.2.2⟩:_ ∧ k_ ≠ gb310))) (fun _ hk=>hk.2) (.slice Ao36 y321.length co36)) (fun _ hk=>⟨hk.1.1.1,⟨hk.1.1.2.1,⟨hk.1.1.2.2.1,⟨hk.1.1.2.2.2.1,⟨hk.1.2,⟨hk.1.1.2.2.2.2.1,hk.1.1.2.2.2.2.2⟩⟩⟩⟩⟩⟩)))⟩;have n5_:Aside0 (Kd.R (Kd.int .i64) 3 w38 w.heap.size (fun k_=>(w.heap.size ≤ k_) ∧ some k_ ≠ (.slice Ao34 x6_3.length co34:Value).ownBlock ∧ some k_ ≠ (u7:Value).ownBlock ∧ some k_ ≠ (u8:Value).ownBlock) (.slice Ao36 y321.length co36) y321):=⟨(by rw [hw];exact (by (with_reducible repeat (first|apply aR|apply nR|apply dR));exact Kd.R_mono (Kd.R_far (p:=⟨gb310,1,none⟩) (Kd.R_types HO323.out BK310.out (by decide)) (fun _ hk=>hk.2) (.slice Ao36 y321.length co36)) (fun _ hk=>⟨hk.1.1,⟨hk.1.2.1,⟨hk.1.2.2.1,hk.1.2.2.2⟩⟩⟩)))⟩;have n6_:Aside0 (w38.heap[gb308]? = some (.cells #[.int .i64 0,.slice none 0 0,.slice none 0 0] 30 (0,0))):=⟨(by rw [hw];exact (by (with_reducible repeat (first|apply nB|apply dB|apply aB));refine blk_far ?_ NB308_310.out _;(with_reducible repeat (first|apply nB|apply dB|apply aB));exact BK308.out))⟩;have n7_:Aside0 (w38.heap[gb310]? = some (.cells #[.int .i64 (l0.length:Int),.slice Ao36 y321.length co36,u311002] 30 (0,0))):=⟨(by rw [hw];exact (by (with_reducible repeat (first|apply nB|apply dB|apply aB));refine blk_put (cs:=#[.int .i64 (l0.length:Int),u311001,u311002]) ?_ 1 _ rfl;(with_reducible repeat (first|apply nB|apply dB|apply aB));exact BK310.out))⟩;have n8_:Aside0 (Below w.heap.size w w38):=⟨(by rw [hw];exact (by repeat (first|(with_reducible first|exact HB.out|apply aZ|apply nZ|apply dZ|refine sZ ?_ GE308.out|refine sZ ?_ GE310.out)|exact HB.out)))⟩;clear hw HO_0 HO_6 HO_7 HO_8 HO_311002 HO323 BK308 BK310 HB;have HO_0:=n0_;have HO_6:=n1_;have HO_7:=n2_;have HO_8:=n3_;have HO_311002:=n4_;have HO323:=n5_;have BK308:=n6_;have BK310:=n7_;have HB:=n8_;clear n0_ n1_ n2_ n3_ n4_ n5_ n6_ n7_ n8_))
       have n0_:=mk0 (dV HO_0.out)
       have n1_:=mk0 (dR HO_6.out)
       have n2_:=mk0 (dR HO_7.out)
       have n3_:=mk0 (dR HO_8.out)
       have n4_:=mk0 (dN HO_311002.out)
       have n5_:=mk0 (dR HO323.out)
       have n6_:=mk0 (dB BK308.out)
       have n7_:=mk0 (dB BK310.out)
       have n8_:=mk0 (dZ HB.out)
       clear HO_0
       clear HO_6
       clear HO_7
       clear HO_8
       clear HO_311002
       clear HO323
       clear BK308
       clear BK310
       clear HB
       have HO_0:=n0_
       have HO_6:=n1_
       have HO_7:=n2_
       have HO_8:=n3_
       have HO_311002:=n4_
       have HO323:=n5_
       have BK308:=n6_
       have BK310:=n7_
       have HB:=n8_
       clear n0_ n1_ n2_ n3_ n4_ n5_ n6_ n7_ n8_
       obtain⟨Ao40,co40,eo40⟩:=Kd.R_slice HO_8.out
       (first|subst eo40|(injection eo40 with f1_ f2_ f3_;have f4_:=f1_.symm;have f5_:=f3_.symm;clear f1_ f2_ f3_;subst f4_;subst f5_))
       refine start_ (n:=8) (S:=fun w'=>w'.cell? ⟨gb310,0,none⟩ = some (.int .i64 (l0.length:Int)) ∧ w'.cell? ⟨gb310,1,none⟩ = some (.slice Ao36 y321.length co36) ∧ w'.cell? ⟨gb310,2,none⟩ = some (u311002)) (ds:=[7]) impl_WaveOf.m0 (by kernel_rfl) rfl rfl ⟨(blk_cell BK310.out 0).trans rfl,(blk_cell BK310.out 1).trans rfl,(blk_cell BK310.out 2).trans rfl⟩ (fun hHeld=>?_);refine with_tabW impl_WaveOf.tab18 impl_WaveOf.bits18 (fun HT_ HW_=>?_)
       generalize w38.drew = w39 at HO_0 HO_6 HO_7 HO_8 HO_311002 HO323 BK308 BK310 HB hHeld ⊢
       refine pure_ (i:=0) (N:=some 60) (v:=?_) (a':=?_) impl_WaveOf.m1 rfl rfl (any_of HT_.out (by kernel_rfl)) (fun _ _ _ h=>h) (Or.inl ⟨by rfl,?_⟩) ?_ ?_
       rotate_left
       ·intro w'
        go_simp
        with_reducible rfl
       rotate_left
       ·simp only [Act.put,sA,sO,sS,i64_w,i32_w]
        rfl
       refine pure_ (i:=2) (N:=some 62) (v:=?_) (a':=?_) impl_WaveOf.m2 rfl rfl (any_of HT_.out (by kernel_rfl)) (fun _ _ _ h=>h) (Or.inl ⟨by rfl,?_⟩) ?_ ?_
       rotate_left
       ·intro w'
        go_simp
        with_reducible rfl
       rotate_left
       ·simp only [Act.put,sA,sO,sS,i64_w,i32_w]
        rfl
       refine take_ (i:=1) (N:=some 61) (v:=?_) (a':=?_) impl_WaveOf.m3 rfl rfl (take_ofW HT_.out HW_.out (by kernel_rfl)) (fun _ _ _ h=>h) (Or.inl ⟨by rfl,?_⟩) hHeld ?_ ?_
       rotate_left
       ·rintro w' ⟨s0,s1,s2⟩
        go_simp
        with_reducible rfl
       rotate_left
       ·simp only [Act.put,sA,sO,sS,i64_w,i32_w]
        rfl
       refine one_ (i:=3) (N:=some 63) impl_WaveOf.m4 rfl rfl (one_of HT_.out (by kernel_rfl)) (by decide) (fun K hK=>?_)
       refine goes_ Try.func52 (by kernel_rfl) rfl #[.slice Ao40 x8_3.length co40] (by rfl) rfl rfl (by (try simp only [mA,mC,mN]);first|done|rfl|(simp only [List.length_drop,List.length_take];rfl)) ?_
       with_reducible refine (impl_bitsOf.calls k3 _ _ x8_3 t324 t325 _ ?side1 ?side2 A29.out).mono ?_
       (case side1=>repeat (first|exact (Kd.R_reads' HO_8.out).2.2|(with_reducible first|apply aC|apply nC|apply dC)))
       (case side2=>exact (Kd.R_reads' HO_8.out).2.1)
       rintro e w41 ⟨v326,rfl,ho0,hb⟩
       refine⟨_,rfl,?_⟩
       have n0_:=mk0 (Kd.V_elder' (by (with_reducible repeat (first|apply aV|apply nV|apply dV));exact HO_0.out) (Kd.R_base ho0) hb)
       have n1_:=mk0 (Kd.R_below (by (with_reducible repeat (first|apply aR|apply nR|apply dR));exact HO_6.out) hb)
       have n2_:=mk0 (Kd.R_below (by (with_reducible repeat (first|apply aR|apply nR|apply dR));exact HO_7.out) hb)
       have n3_:=mk0 (Kd.R_below (by (with_reducible repeat (first|apply aR|apply nR|apply dR));exact HO_8.out) hb)
       have n4_:=mk0 (Kd.N_elder' (by (with_reducible repeat (first|apply aN|apply nN|apply dN));exact HO_311002.out) (Kd.R_base ho0) hb)
       have n5_:=mk0 (Kd.R_below (by (with_reducible repeat (first|apply aR|apply nR|apply dR));exact HO323.out) hb)
       have n6_:=mk0 (Kd.R_lower (Kd.R_newM (M:=fun k_=>(w.heap.size ≤ k_)) ho0 (below_size (by repeat (first|(with_reducible first|exact HB.out|apply aZ|apply nZ|apply dZ|refine sZ ?_ GE308.out|refine sZ ?_ GE310.out)|exact HB.out))) (fun k_ h_=>h_)) (below_size (by repeat (first|(with_reducible first|exact HB.out|apply aZ|apply nZ|apply dZ|refine sZ ?_ GE308.out|refine sZ ?_ GE310.out)|exact HB.out))))
       have n7_:=mk0 (blk_below (g:=gb308) (o:=.cells #[.int .i64 0,.slice none 0 0,.slice none 0 0] 30 (0,0)) (by (with_reducible repeat (first|apply nB|apply dB|apply aB));exact BK308.out) hb)
       have n8_:=mk0 (blk_below (g:=gb310) (o:=.cells #[.int .i64 (l0.length:Int),.slice Ao36 y321.length co36,u311002] 30 (0,0)) (by (with_reducible repeat (first|apply nB|apply dB|apply aB));exact BK310.out) hb)
       have n9_:=mk0 (below_step (by repeat (first|(with_reducible first|exact HB.out|apply aZ|apply nZ|apply dZ|refine sZ ?_ GE308.out|refine sZ ?_ GE310.out)|exact HB.out)) hb)
       clear HO_0
       clear HO_6
       clear HO_7
       clear HO_8
       clear HO_311002
       clear HO323
       clear BK308
       clear BK310
       clear HB
       have HO_0:=n0_
       have HO_6:=n1_
       have HO_7:=n2_
       have HO_8:=n3_
       have HO_311002:=n4_
       have HO323:=n5_
       have HO327:=n6_
       have BK308:=n7_
       have BK310:=n8_
       have HB:=n9_
       clear n0_ n1_ n2_ n3_ n4_ n5_ n6_ n7_ n8_ n9_
       (try clear hb)
       (try clear hb2)
       (try clear hk)
       (try clear hi)
       (try clear ho0)
       obtain⟨Ao43,co43,eo43⟩:=Kd.R_slice HO327.out
       (first|subst eo43|(injection eo43 with f1_ f2_ f3_;have f4_:=f1_.symm;have f5_:=f3_.symm;clear f1_ f2_ f3_;subst f4_;subst f5_))
       refine hK.out _ _ ⟨(blk_cell BK310.out 0).trans rfl,(blk_cell BK310.out 1).trans rfl,(blk_cell BK310.out 2).trans rfl⟩ (fun hHeld=>?_)
       clear hK K
       refine norm_ (a':=?_) ?_ ?_
       rotate_left
       ·show Act.put _ (some 63) _ = _
        simp only [Act.put,sA,sO,sS,i64_w,i32_w]
        rfl
       refine one_ (i:=4) (N:=some 64) impl_WaveOf.m5 rfl rfl (one_of HT_.out (by kernel_rfl)) (by decide) (fun K hK=>?_)
       refine value_ (w1:=?_) (v:=?_) (by rfl) rfl ?_ ?_
       rotate_left 2
       ·go_simp
        constructor
        ·rfl
        ·rfl
       refine hK.out _ _ ⟨(blk_cell (aB BK310.out _) 0).trans rfl,(blk_cell (aB BK310.out _) 1).trans rfl,(blk_cell (aB BK310.out _) 2).trans rfl⟩ (fun hHeld=>?_)
       clear hK K
       refine norm_ (a':=?_) ?_ ?_
       rotate_left
       ·show Act.put _ (some 64) _ = _
        simp only [Act.put,sA,sO,sS,i64_w,i32_w]
        rfl
       refine one_ (i:=5) (N:=some 65) #[true,true,true,true,true,true,false,false] rfl rfl (one_of HT_.out (by kernel_rfl)) (by decide) (fun K hK=>?_)
       refine Kd.N_append_step k64 (w0:=w) w.heap.size (by rfl) (.tmp 61) (.tmp 64) 28 64 (.agg #[(.int .i64 0),(.slice none 0 0)]) 32 rfl Try.underlying28 info64 rfl (by decide) (by omega) u311002 x311002_2 (⟨t324,t325⟩:S64) [.int .i64 t324,.slice Ao43 t325.length co43] (fun k_=>(P0_ k_ ∨ w.heap.size ≤ k_) ∧ some k_ ≠ (.slice Ao34 x6_3.length co34:Value).ownBlock ∧ some k_ ≠ (u7:Value).ownBlock ∧ some k_ ≠ (.slice Ao40 x8_3.length co40:Value).ownBlock ∧ some k_ ≠ (.slice Ao36 y321.length co36:Value).ownBlock ∧ k_ ≠ gb308 ∧ k_ ≠ gb310) (fun k_=>((fun k_=>(P0_ k_ ∨ w.heap.size ≤ k_) ∧ some k_ ≠ (.slice Ao34 x6_3.length co34:Value).ownBlock ∧ some k_ ≠ (u7:Value).ownBlock ∧ some k_ ≠ (.slice Ao40 x8_3.length co40:Value).ownBlock ∧ some k_ ≠ (.slice Ao36 y321.length co36:Value).ownBlock ∧ k_ ≠ gb308 ∧ k_ ≠ gb310)) k_ ∧ some k_ ≠ (u311002:Value).ownBlock) rfl rfl ?aP (fun _ hk=>hk) ?aF ?aO ?aB ?aS ?aL ?_
       (case aP=>exact (k64_mkF _ _ (⟨t324,t325⟩:S64) (Kd.R_reads' (Kd.R_mono (ok':=(fun k_=>((fun k_=>(P0_ k_ ∨ w.heap.size ≤ k_) ∧ some k_ ≠ (.slice Ao34 x6_3.length co34:Value).ownBlock ∧ some k_ ≠ (u7:Value).ownBlock ∧ some k_ ≠ (.slice Ao40 x8_3.length co40:Value).ownBlock ∧ some k_ ≠ (.slice Ao36 y321.length co36:Value).ownBlock ∧ k_ ≠ gb308 ∧ k_ ≠ gb310)) k_ ∧ some k_ ≠ (u311002:Value).ownBlock)) (Kd.R_types (Kd.R_types (Kd.R_apart' (Kd.R_apart' (Kd.R_apart' (Kd.R_apart' (Kd.R_apart' (HO327.out) (Kd.R_typed HO_6.out) (by decide)) (Kd.R_typed HO_7.out) (by decide)) (Kd.R_typed HO_8.out) (by decide)) (Kd.R_typed HO323.out) (by decide)) (Kd.N_typed HO_311002.out) (by decide)) BK308.out (by decide)) BK310.out (by decide)) (fun k_ hk=>⟨⟨(.inr (hk.1.1.1.1.1.1.1.1)),⟨hk.1.1.1.1.1.1.2,⟨hk.1.1.1.1.1.2,⟨hk.1.1.1.1.2,⟨hk.1.1.1.2,⟨hk.1.2,hk.2⟩⟩⟩⟩⟩⟩,hk.1.1.2⟩))).2.1 (Kd.R_F (Kd.R_mono (ok':=(fun k_=>((fun k_=>(P0_ k_ ∨ w.heap.size ≤ k_) ∧ some k_ ≠ (.slice Ao34 x6_3.length co34:Value).ownBlock ∧ some k_ ≠ (u7:Value).ownBlock ∧ some k_ ≠ (.slice Ao40 x8_3.length co40:Value).ownBlock ∧ some k_ ≠ (.slice Ao36 y321.length co36:Value).ownBlock ∧ k_ ≠ gb308 ∧ k_ ≠ gb310)) k_ ∧ some k_ ≠ (u311002:Value).ownBlock)) (Kd.R_types (Kd.R_types (Kd.R_apart' (Kd.R_apart' (Kd.R_apart' (Kd.R_apart' (Kd.R_apart' (HO327.out) (Kd.R_typed HO_6.out) (by decide)) (Kd.R_typed HO_7.out) (by decide)) (Kd.R_typed HO_8.out) (by decide)) (Kd.R_typed HO323.out) (by decide)) (Kd.N_typed HO_311002.out) (by decide)) BK308.out (by decide)) BK310.out (by decide)) (fun k_ hk=>⟨⟨(.inr (hk.1.1.1.1.1.1.1.1)),⟨hk.1.1.1.1.1.1.2,⟨hk.1.1.1.1.1.2,⟨hk.1.1.1.1.2,⟨hk.1.1.1.2,⟨hk.1.2,hk.2⟩⟩⟩⟩⟩⟩,hk.1.1.2⟩)))))
       (case aB=>exact (by repeat (first|(with_reducible first|exact HB.out|apply aZ|apply nZ|apply dZ|refine sZ ?_ GE308.out|refine sZ ?_ GE310.out)|exact HB.out)))
       (case aF=>exact (fun k_ hk=>⟨(.inr (Nat.le_trans (below_size (by repeat (first|(with_reducible first|exact HB.out|apply aZ|apply nZ|apply dZ|refine sZ ?_ GE308.out|refine sZ ?_ GE310.out)|exact HB.out))) hk)),Kd.fresh' (Kd.R_lt (by (with_reducible repeat (first|apply aR|apply nR|apply dR));exact HO_6.out)) k_ hk,Kd.fresh' (Kd.R_lt (by (with_reducible repeat (first|apply aR|apply nR|apply dR));exact HO_7.out)) k_ hk,Kd.fresh' (Kd.R_lt (by (with_reducible repeat (first|apply aR|apply nR|apply dR));exact HO_8.out)) k_ hk,Kd.fresh' (Kd.R_lt (by (with_reducible repeat (first|apply aR|apply nR|apply dR));exact HO323.out)) k_ hk,Kd.freshB (g:=gb308) (o:=.cells #[.int .i64 0,.slice none 0 0,.slice none 0 0] 30 (0,0)) (by (with_reducible repeat (first|apply nB|apply dB|apply aB));exact BK308.out) k_ hk,Kd.freshB (g:=gb310) (o:=.cells #[.int .i64 (l0.length:Int),.slice Ao36 y321.length co36,u311002] 30 (0,0)) (by (with_reducible repeat (first|apply nB|apply dB|apply aB));exact BK310.out) k_ hk⟩))
       (case aO=>exact (by (with_reducible repeat (first|apply aN|apply nN|apply dN));exact Kd.N_mono HO_311002.out (fun _ hk=>⟨hk.1.1,⟨hk.1.2.1,⟨hk.1.2.2.1,⟨hk.1.2.2.2.1,⟨hk.1.2.2.2.2.1,⟨hk.1.2.2.2.2.2.1,hk.1.2.2.2.2.2.2⟩⟩⟩⟩⟩⟩)))
       (case aS=>exact (below_size (by repeat (first|(with_reducible first|exact HB.out|apply aZ|apply nZ|apply dZ|refine sZ ?_ GE308.out|refine sZ ?_ GE310.out)|exact HB.out))))
       (case aL=>have:=LMc30.out;omega)
       intro v329 w42 ho hb hg hat
       rw [← Ny328.out] at ho
       have n0_:=mk0 (Kd.V_afterv (ok:=(fun k_=>(P0_ k_ ∨ w.heap.size ≤ k_) ∧ some k_ ≠ (.slice Ao34 x6_3.length co34:Value).ownBlock ∧ some k_ ≠ (u7:Value).ownBlock ∧ some k_ ≠ (.slice Ao40 x8_3.length co40:Value).ownBlock ∧ some k_ ≠ (.slice Ao36 y321.length co36:Value).ownBlock ∧ some k_ ≠ (.slice Ao43 t325.length co43:Value).ownBlock ∧ k_ ≠ gb308 ∧ k_ ≠ gb310)) (by (with_reducible repeat (first|apply aV|apply nV|apply dV));exact Kd.V_mono HO_0.out (fun _ hk=>⟨⟨hk.1.1,⟨hk.1.2.1,⟨hk.1.2.2.1,⟨hk.1.2.2.2.1,⟨hk.1.2.2.2.2.2.1,⟨hk.2,⟨hk.1.2.2.2.2.2.2.1,hk.1.2.2.2.2.2.2.2⟩⟩⟩⟩⟩⟩⟩,hk.1.2.2.2.2.1⟩)) hg hat)
       have n1_:=mk0 (Kd.R_over' (by (with_reducible repeat (first|apply aR|apply nR|apply dR));exact HO_6.out) (Kd.N_typed (by (with_reducible repeat (first|apply aN|apply nN|apply dN));exact HO_311002.out)) (by decide) hg)
       have n2_:=mk0 (Kd.R_over' (by (with_reducible repeat (first|apply aR|apply nR|apply dR));exact HO_7.out) (Kd.N_typed (by (with_reducible repeat (first|apply aN|apply nN|apply dN));exact HO_311002.out)) (by decide) hg)
       have n3_:=mk0 (Kd.R_over' (by (with_reducible repeat (first|apply aR|apply nR|apply dR));exact HO_8.out) (Kd.N_typed (by (with_reducible repeat (first|apply aN|apply nN|apply dN));exact HO_311002.out)) (by decide) hg)
       have n4_:=mk0 (blk_grown (g:=gb308) (o:=.cells #[.int .i64 0,.slice none 0 0,.slice none 0 0] 30 (0,0)) (by (with_reducible repeat (first|apply nB|apply dB|apply aB));exact BK308.out) hg (Kd.N_ne HO_311002.out BK308.out (by decide)))
       have n5_:=mk0 (blk_grown (g:=gb310) (o:=.cells #[.int .i64 (l0.length:Int),.slice Ao36 y321.length co36,u311002] 30 (0,0)) (by (with_reducible repeat (first|apply nB|apply dB|apply aB));exact BK310.out) hg (Kd.N_ne HO_311002.out BK310.out (by decide)))
       have n6_:=mk0 (Kd.R_over' (by (with_reducible repeat (first|apply aR|apply nR|apply dR));exact HO323.out) (Kd.N_typed (by (with_reducible repeat (first|apply aN|apply nN|apply dN));exact HO_311002.out)) (by decide) hg)
       have n7_:=mk0 (hb)
       have n8_:=mk0 (ho)
       clear HO_0
       clear HO_6
       clear HO_7
       clear HO_8
       clear BK308
       clear BK310
       clear HO323
       clear HB
       clear HO_311002
       clear HO327
       have HO_0:=n0_
       have HO_6:=n1_
       have HO_7:=n2_
       have HO_8:=n3_
       have BK308:=n4_
       have BK310:=n5_
       have HO323:=n6_
       have HB:=n7_
       have HO330:=n8_
       clear n0_ n1_ n2_ n3_ n4_ n5_ n6_ n7_ n8_
       clear ho hb hg hat
       obtain⟨Ao44,co44,eo44⟩:=Kd.N_slice HO330.out
       (first|subst eo44|(injection eo44 with f1_ f2_ f3_;have f4_:=f1_.symm;have f5_:=f3_.symm;clear f1_ f2_ f3_;subst f4_;subst f5_))
       refine hK.out _ _ ⟨(blk_cell BK310.out 0).trans rfl,(blk_cell BK310.out 1).trans rfl,(blk_cell BK310.out 2).trans rfl⟩ (fun hHeld=>?_)
       clear hK K
       refine norm_ (a':=?_) ?_ ?_
       rotate_left
       ·show Act.put _ (some 65) _ = _
        simp only [Act.put,sA,sO,sS,i64_w,i32_w]
        rfl
       refine pure_ (i:=6) (N:=some 66) (v:=?_) (a':=?_) #[true,true,true,true,true,true,true,false] rfl rfl (any_of HT_.out (by kernel_rfl)) (fun _ _ _ h=>h) (Or.inl ⟨by rfl,?_⟩) ?_ ?_
       rotate_left
       ·intro w'
        go_simp
        with_reducible rfl
       rotate_left
       ·simp only [Act.put,sA,sO,sS,i64_w,i32_w]
        rfl
       refine last_ (i:=7) (N:=none) #[true,true,true,true,true,true,true,true] rfl rfl (one_of HT_.out (by kernel_rfl)) (by decide) (fun K hK=>?_)
       have hs45:w42.cell? ⟨gb310,2,none⟩ = some (u311002):=(blk_cell BK310.out 2).trans rfl
       have hfs45:=blk_frozen BK310.out 2
       have hns45_0:=NB308_310.out
       have hms45_0:=NB310_308.out
       refine skip_ (w1:=?_) (by rfl) rfl ?_ ?_
       rotate_left
       ·go_simp
        rfl
       refine hK.out _ _ ?_
       clear hK K
       refine done_ (done_of HT_.out (by kernel_rfl)) ?_
       have n0_:Aside0 (Kd.V (Kd.int .i64) 3 (w42.setCell ⟨gb310,2,none⟩ (.slice Ao44 y328.length co44)) w.heap.size (fun k_=>(P0_ k_ ∨ w.heap.size ≤ k_) ∧ some k_ ≠ (.slice Ao34 x6_3.length co34:Value).ownBlock ∧ some k_ ≠ (u7:Value).ownBlock ∧ some k_ ≠ (.slice Ao40 x8_3.length co40:Value).ownBlock ∧ some k_ ≠ (.slice Ao36 y321.length co36:Value).ownBlock ∧ some k_ ≠ (.slice Ao44 y328.length co44:Value).ownBlock ∧ k_ ≠ gb308 ∧ k_ ≠ gb310) (.slice Ao13 x0_2.length co13) x0_2):=⟨by (with_reducible repeat (first|apply aV|apply nV|apply dV));exact Kd.V_mono (Kd.V_far (p:=⟨gb310,2,none⟩) (Kd.V_mono HO_0.out (fun k_ hk=>(⟨hk,hk.1.2.2.2.2.2.2.2⟩:_ ∧ k_ ≠ gb310))) (fun _ hk=>hk.2) (.slice Ao44 y328.length co44)) (fun _ hk=>⟨hk.1.1.1,⟨hk.1.1.2.1,⟨hk.1.1.2.2.1,⟨hk.1.1.2.2.2.1,⟨hk.1.1.2.2.2.2.1,⟨hk.1.2,⟨hk.1.1.2.2.2.2.2.2.1,hk.1.1.2.2.2.2.2.2.2⟩⟩⟩⟩⟩⟩⟩)⟩
       have n1_:Aside0 (Kd.R (Kd.int .i64) 3 (w42.setCell ⟨gb310,2,none⟩ (.slice Ao44 y328.length co44)) w.heap.size (fun k_=>(w.heap.size ≤ k_) ∧ some k_ ≠ (u7:Value).ownBlock ∧ some k_ ≠ (.slice Ao40 x8_3.length co40:Value).ownBlock ∧ some k_ ≠ (.slice Ao36 y321.length co36:Value).ownBlock) (.slice Ao34 x6_3.length co34) x6_3):=⟨by (with_reducible repeat (first|apply aR|apply nR|apply dR));exact Kd.R_mono (Kd.R_far (p:=⟨gb310,2,none⟩) (Kd.R_types HO_6.out BK310.out (by decide)) (fun _ hk=>hk.2) (.slice Ao44 y328.length co44)) (fun _ hk=>⟨hk.1.1,⟨hk.1.2.1,⟨hk.1.2.2.1,hk.1.2.2.2⟩⟩⟩)⟩
       have n2_:Aside0 (Kd.R (Kd.int .i64) 3 (w42.setCell ⟨gb310,2,none⟩ (.slice Ao44 y328.length co44)) w.heap.size (fun k_=>(w.heap.size ≤ k_) ∧ some k_ ≠ (.slice Ao34 x6_3.length co34:Value).ownBlock ∧ some k_ ≠ (.slice Ao40 x8_3.length co40:Value).ownBlock ∧ some k_ ≠ (.slice Ao36 y321.length co36:Value).ownBlock) u7 x7_3):=⟨by (with_reducible repeat (first|apply aR|apply nR|apply dR));exact Kd.R_mono (Kd.R_far (p:=⟨gb310,2,none⟩) (Kd.R_types HO_7.out BK310.out (by decide)) (fun _ hk=>hk.2) (.slice Ao44 y328.length co44)) (fun _ hk=>⟨hk.1.1,⟨hk.1.2.1,⟨hk.1.2.2.1,hk.1.2.2.2⟩⟩⟩)⟩
       have n3_:Aside0 (Kd.R (Kd.int .i64) 3 (w42.setCell ⟨gb310,2,none⟩ (.slice Ao44 y328.length co44)) w.heap.size (fun k_=>(w.heap.size ≤ k_) ∧ some k_ ≠ (.slice Ao34 x6_3.length co34:Value).ownBlock ∧ some k_ ≠ (u7:Value).ownBlock ∧ some k_ ≠ (.slice Ao36 y321.length co36:Value).ownBlock) (.slice Ao40 x8_3.length co40) x8_3):=⟨by (with_reducible repeat (first|apply aR|apply nR|apply dR));exact Kd.R_mono (Kd.R_far (p:=⟨gb310,2,none⟩) (Kd.R_types HO_8.out BK310.out (by decide)) (fun _ hk=>hk.2) (.slice Ao44 y328.length co44)) (fun _ hk=>⟨hk.1.1,⟨hk.1.2.1,⟨hk.1.2.2.1,hk.1.2.2.2⟩⟩⟩)⟩
       have n4_:Aside0 (Kd.R (Kd.int .i64) 3 (w42.setCell ⟨gb310,2,none⟩ (.slice Ao44 y328.length co44)) w.heap.size (fun k_=>(w.heap.size ≤ k_) ∧ some k_ ≠ (.slice Ao34 x6_3.length co34:Value).ownBlock ∧ some k_ ≠ (u7:Value).ownBlock ∧ some k_ ≠ (.slice Ao40 x8_3.length co40:Value).ownBlock) (.slice Ao36 y321.length co36) y321):=⟨by (with_reducible repeat (first|apply aR|apply nR|apply dR));exact Kd.R_mono (Kd.R_far (p:=⟨gb310,2,none⟩) (Kd.R_types HO323.out BK310.out (by decide)) (fun _ hk=>hk.2) (.slice Ao44 y328.length co44)) (fun _ hk=>⟨hk.1.1,⟨hk.1.2.1,⟨hk.1.2.2.1,hk.1.2.2.2⟩⟩⟩)⟩
       have n5_:Aside0 (Kd.N k64 64 (w42.setCell ⟨gb310,2,none⟩ (.slice Ao44 y328.length co44)) w.heap.size (fun k_=>(P0_ k_ ∨ w.heap.size ≤ k_) ∧ some k_ ≠ (.slice Ao34 x6_3.length co34:Value).ownBlock ∧ some k_ ≠ (u7:Value).ownBlock ∧ some k_ ≠ (.slice Ao40 x8_3.length co40:Value).ownBlock ∧ some k_ ≠ (.slice Ao36 y321.length co36:Value).ownBlock ∧ k_ ≠ gb308 ∧ k_ ≠ gb310) (.slice Ao44 y328.length co44) y328):=⟨by (with_reducible repeat (first|apply aN|apply nN|apply dN));exact Kd.N_mono (Kd.N_far (p:=⟨gb310,2,none⟩) (Kd.N_mono HO330.out (fun k_ hk=>(⟨hk,hk.2.2.2.2.2.2⟩:_ ∧ k_ ≠ gb310))) (fun _ hk=>hk.2) (.slice Ao44 y328.length co44)) (fun _ hk=>⟨hk.1.1,⟨hk.1.2.1,⟨hk.1.2.2.1,⟨hk.1.2.2.2.1,⟨hk.1.2.2.2.2.1,⟨hk.1.2.2.2.2.2.1,hk.1.2.2.2.2.2.2⟩⟩⟩⟩⟩⟩)⟩
       have n6_:Aside0 ((w42.setCell ⟨gb310,2,none⟩ (.slice Ao44 y328.length co44)).heap[gb308]? = some (.cells #[.int .i64 0,.slice none 0 0,.slice none 0 0] 30 (0,0))):=⟨by (with_reducible repeat (first|apply nB|apply dB|apply aB));refine blk_far ?_ NB308_310.out _;(with_reducible repeat (first|apply nB|apply dB|apply aB));exact BK308.out⟩
       have n7_:Aside0 ((w42.setCell ⟨gb310,2,none⟩ (.slice Ao44 y328.length co44)).heap[gb310]? = some (.cells #[.int .i64 (l0.length:Int),.slice Ao36 y321.length co36,.slice Ao44 y328.length co44] 30 (0,0))):=⟨by (with_reducible repeat (first|apply nB|apply dB|apply aB));refine blk_put (cs:=#[.int .i64 (l0.length:Int),.slice Ao36 y321.length co36,u311002]) ?_ 2 _ rfl;(with_reducible repeat (first|apply nB|apply dB|apply aB));exact BK310.out⟩
       have n8_:Aside0 (Below w.heap.size w (w42.setCell ⟨gb310,2,none⟩ (.slice Ao44 y328.length co44))):=⟨by repeat (first|(with_reducible first|exact HB.out|apply aZ|apply nZ|apply dZ|refine sZ ?_ GE308.out|refine sZ ?_ GE310.out)|exact HB.out)⟩
       (try clear HO_0)
       (try clear HO_6)
       (try clear HO_7)
       (try clear HO_8)
       (try clear HO323)
       (try clear HO330)
       (try clear BK308)
       (try clear BK310)
       (try clear HB)
       generalize (w42.setCell ⟨gb310,2,none⟩ (.slice Ao44 y328.length co44)) = w46 at n0_ n1_ n2_ n3_ n4_ n5_ n6_ n7_ n8_ ⊢
       have HO_0:=n0_
       have HO_6:=n1_
       have HO_7:=n2_
       have HO_8:=n3_
       have HO323:=n4_
       have HO330:=n5_
       have BK308:=n6_
       have BK310:=n7_
       have HB:=n8_
       clear n0_ n1_ n2_ n3_ n4_ n5_ n6_ n7_ n8_
       obtain⟨Ao47,co47,eo47⟩:=Kd.R_slice HO_7.out
       subst eo47
       try go_wp2_with (first|((with_reducible refine gate_dst (N:=69) rfl ?_);refine Kd.N_lit (Kd.slice 3 (Kd.int .i64)) _ 22 ?hg (N':=69) ?hd (xs:=([x6_3,x7_3]:List (List Int))) (inner:=[.slice Ao34 x6_3.length co34,.slice Ao47 x7_3.length co47]) (ok:=(fun k_=>(P0_ k_ ∨ w.heap.size ≤ k_) ∧ some k_ ≠ (.slice Ao40 x8_3.length co40:Value).ownBlock ∧ some k_ ≠ (.slice Ao36 y321.length co36:Value).ownBlock ∧ some k_ ≠ (.slice Ao44 y328.length co44:Value).ownBlock ∧ k_ ≠ gb308 ∧ k_ ≠ gb310)) (okp:=(fun k_=>(P0_ k_ ∨ w.heap.size ≤ k_) ∧ some k_ ≠ (.slice Ao40 x8_3.length co40:Value).ownBlock ∧ some k_ ≠ (.slice Ao36 y321.length co36:Value).ownBlock ∧ some k_ ≠ (.slice Ao44 y328.length co44:Value).ownBlock ∧ k_ ≠ gb308 ∧ k_ ≠ gb310)) ?hr ?hp (fun _ hk=>hk) ((show ∀ k_,w46.heap.size ≤ k_ → (fun k_=>(P0_ k_ ∨ w.heap.size ≤ k_) ∧ some k_ ≠ (.slice Ao40 x8_3.length co40:Value).ownBlock ∧ some k_ ≠ (.slice Ao36 y321.length co36:Value).ownBlock ∧ some k_ ≠ (.slice Ao44 y328.length co44:Value).ownBlock ∧ k_ ≠ gb308 ∧ k_ ≠ gb310) k_ from fun k_ hk=>⟨(.inr (Nat.le_trans (below_size (by repeat (first|(with_reducible first|exact HB.out|apply aZ|apply nZ|apply dZ|refine sZ ?_ GE308.out|refine sZ ?_ GE310.out)|exact HB.out))) hk)),Kd.fresh' (Kd.R_lt (by (with_reducible repeat (first|apply aR|apply nR|apply dR));exact HO_8.out)) k_ hk,Kd.fresh' (Kd.R_lt (by (with_reducible repeat (first|apply aR|apply nR|apply dR));exact HO323.out)) k_ hk,Kd.fresh' (Kd.N_lt (by (with_reducible repeat (first|apply aN|apply nN|apply dN));exact HO330.out)) k_ hk,Kd.freshB (g:=gb308) (o:=.cells #[.int .i64 0,.slice none 0 0,.slice none 0 0] 30 (0,0)) (by (with_reducible repeat (first|apply nB|apply dB|apply aB));exact BK308.out) k_ hk,Kd.freshB (g:=gb310) (o:=.cells #[.int .i64 (l0.length:Int),.slice Ao36 y321.length co36,.slice Ao44 y328.length co44] 30 (0,0)) (by (with_reducible repeat (first|apply nB|apply dB|apply aB));exact BK310.out) k_ hk⟩) _ (Nat.le_refl _)) (Below.refl _ _) (Nat.le_refl _) (by simp) ?_;(case hd=>rfl);(case hg=>rfl);(case hr=>first|(go_simp;done)|(go_simp;rfl));(case hp=>exact (Reps.one (show Kd.FK (Kd.slice 3 (Kd.int .i64)) _ _ x6_3 [.slice Ao34 x6_3.length co34] from (Kd.FK_slice_mk (Kd.R_reads' (Kd.R_mono (ok':=(fun k_=>(P0_ k_ ∨ w.heap.size ≤ k_) ∧ some k_ ≠ (.slice Ao40 x8_3.length co40:Value).ownBlock ∧ some k_ ≠ (.slice Ao36 y321.length co36:Value).ownBlock ∧ some k_ ≠ (.slice Ao44 y328.length co44:Value).ownBlock ∧ k_ ≠ gb308 ∧ k_ ≠ gb310)) (Kd.R_types (Kd.R_types (Kd.R_apart' (HO_6.out) (Kd.N_typed HO330.out) (by decide)) BK308.out (by decide)) BK310.out (by decide)) (fun k_ hk=>⟨(.inr (hk.1.1.1.1)),⟨hk.1.1.1.2.2.1,⟨hk.1.1.1.2.2.2,⟨hk.1.1.2,⟨hk.1.2,hk.2⟩⟩⟩⟩⟩))).2.1 (Kd.R_F (Kd.R_mono (ok':=(fun k_=>(P0_ k_ ∨ w.heap.size ≤ k_) ∧ some k_ ≠ (.slice Ao40 x8_3.length co40:Value).ownBlock ∧ some k_ ≠ (.slice Ao36 y321.length co36:Value).ownBlock ∧ some k_ ≠ (.slice Ao44 y328.length co44:Value).ownBlock ∧ k_ ≠ gb308 ∧ k_ ≠ gb310)) (Kd.R_types (Kd.R_types (Kd.R_apart' (HO_6.out) (Kd.N_typed HO330.out) (by decide)) BK308.out (by decide)) BK310.out (by decide)) (fun k_ hk=>⟨(.inr (hk.1.1.1.1)),⟨hk.1.1.1.2.2.1,⟨hk.1.1.1.2.2.2,⟨hk.1.1.2,⟨hk.1.2,hk.2⟩⟩⟩⟩⟩))))) (Reps.one (show Kd.FK (Kd.slice 3 (Kd.int .i64)) _ _ x7_3 [.slice Ao47 x7_3.length co47] from (Kd.FK_slice_mk (Kd.R_reads' (Kd.R_mono (ok':=(fun k_=>(P0_ k_ ∨ w.heap.size ≤ k_) ∧ some k_ ≠ (.slice Ao40 x8_3.length co40:Value).ownBlock ∧ some k_ ≠ (.slice Ao36 y321.length co36:Value).ownBlock ∧ some k_ ≠ (.slice Ao44 y328.length co44:Value).ownBlock ∧ k_ ≠ gb308 ∧ k_ ≠ gb310)) (Kd.R_types (Kd.R_types (Kd.R_apart' (HO_7.out) (Kd.N_typed HO330.out) (by decide)) BK308.out (by decide)) BK310.out (by decide)) (fun k_ hk=>⟨(.inr (hk.1.1.1.1)),⟨hk.1.1.1.2.2.1,⟨hk.1.1.1.2.2.2,⟨hk.1.1.2,⟨hk.1.2,hk.2⟩⟩⟩⟩⟩))).2.1 (Kd.R_F (Kd.R_mono (ok':=(fun k_=>(P0_ k_ ∨ w.heap.size ≤ k_) ∧ some k_ ≠ (.slice Ao40 x8_3.length co40:Value).ownBlock ∧ some k_ ≠ (.slice Ao36 y321.length co36:Value).ownBlock ∧ some k_ ≠ (.slice Ao44 y328.length co44:Value).ownBlock ∧ k_ ≠ gb308 ∧ k_ ≠ gb310)) (Kd.R_types (Kd.R_types (Kd.R_apart' (HO_7.out) (Kd.N_typed HO330.out) (by decide)) BK308.out (by decide)) BK310.out (by decide)) (fun k_ hk=>⟨(.inr (hk.1.1.1.1)),⟨hk.1.1.1.2.2.1,⟨hk.1.1.1.2.2.2,⟨hk.1.1.2,⟨hk.1.2,hk.2⟩⟩⟩⟩⟩))))) (Reps.none _ _))));intro v332 w48 ho49 hb hg_ hnew_;clear hg_ hnew_;(first|rw [← Ny331.out] at ho49|(simp only [Int.reduceToNat] at ho49;rw [← Ny331.out] at ho49));have n0_:=mk0 (Kd.V_elder' (by (with_reducible repeat (first|apply aV|apply nV|apply dV));exact HO_0.out) (Kd.N_base ho49) hb);have n1_:=mk0 (Kd.R_below (by (with_reducible repeat (first|apply aR|apply nR|apply dR));exact HO_8.out) hb);have n2_:=mk0 (Kd.R_below (by (with_reducible repeat (first|apply aR|apply nR|apply dR));exact HO323.out) hb);have n3_:=mk0 (Kd.N_elder' (by (with_reducible repeat (first|apply aN|apply nN|apply dN));exact HO330.out) (Kd.N_base ho49) hb);have n4_:=mk0 (Kd.N_lower ho49 (below_size (by repeat (first|(with_reducible first|exact HB.out|apply aZ|apply nZ|apply dZ|refine sZ ?_ GE308.out|refine sZ ?_ GE310.out)|exact HB.out))));have n5_:=mk0 (blk_below (g:=gb308) (o:=.cells #[.int .i64 0,.slice none 0 0,.slice none 0 0] 30 (0,0)) (by (with_reducible repeat (first|apply nB|apply dB|apply aB));exact BK308.out) hb);have n6_:=mk0 (blk_below (g:=gb310) (o:=.cells #[.int .i64 (l0.length:Int),.slice Ao36 y321.length co36,.slice Ao44 y328.length co44] 30 (0,0)) (by (with_reducible repeat (first|apply nB|apply dB|apply aB));exact BK310.out) hb);have n7_:=mk0 (below_step (by repeat (first|(with_reducible first|exact HB.out|apply aZ|apply nZ|apply dZ|refine sZ ?_ GE308.out|refine sZ ?_ GE310.out)|exact HB.out)) hb);clear HO_0 HO_8 HO323 HO330 BK308 BK310 HB HO_6 HO_7;have HO_0:=n0_;have HO_8:=n1_;have HO323:=n2_;have HO330:=n3_;have HO333:=n4_;have BK308:=n5_;have BK310:=n6_;have HB:=n7_;clear n0_ n1_ n2_ n3_ n4_ n5_ n6_ n7_ hb ho49;obtain⟨Ao50,co50,eo50⟩:=Kd.N_slice HO333.out;subst eo50)|((with_reducible refine gate_callee (f:=53) rfl ?_);refine goesL_ (some 70) rfl rfl Try.func53 (by kernel_rfl) rfl #[.slice Ao50 y331.length co50] rfl (by (try simp only [mA,mC,mN]);first|done|rfl|(simp only [List.length_drop,List.length_take];rfl)) ?_;(with_reducible refine (slices_Concat_int_int.calls k3 _ _ y331 t334 _ ?side1 ?side2 A31.out).mono ?_);(case side1=>repeat (first|exact (Kd.N_reads' HO333.out).2.2|(with_reducible first|apply aC|apply nC|apply dC)));(case side2=>exact (Kd.N_reads' HO333.out).2.1);rintro e w51 ⟨v335,rfl,ho0,hb⟩;refine⟨_,rfl,?_⟩;have n0_:=mk0 (Kd.V_elder' (by (with_reducible repeat (first|apply aV|apply nV|apply dV));exact HO_0.out) (Kd.R_base ho0) hb);have n1_:=mk0 (Kd.R_elder' (by (with_reducible repeat (first|apply aR|apply nR|apply dR));exact HO_8.out) (Kd.R_base ho0) hb);have n2_:=mk0 (Kd.R_elder' (by (with_reducible repeat (first|apply aR|apply nR|apply dR));exact HO323.out) (Kd.R_base ho0) hb);have n3_:=mk0 (Kd.N_elder' (by (with_reducible repeat (first|apply aN|apply nN|apply dN));exact HO330.out) (Kd.R_base ho0) hb);have n4_:=mk0 (Kd.N_elder' (by (with_reducible repeat (first|apply aN|apply nN|apply dN));exact HO333.out) (Kd.R_base ho0) hb);have n5_:=mk0 (Kd.R_lower (Kd.R_new' (Kd.R_new' (Kd.R_newM (M:=fun k_=>(w.heap.size ≤ k_)) ho0 (below_size (by repeat (first|(with_reducible first|exact HB.out|apply aZ|apply nZ|apply dZ|refine sZ ?_ GE308.out|refine sZ ?_ GE310.out)|exact HB.out))) (fun k_ h_=>h_)) (Kd.R_lt (by (with_reducible repeat (first|apply aR|apply nR|apply dR));exact HO_8.out))) (Kd.R_lt (by (with_reducible repeat (first|apply aR|apply nR|apply dR));exact HO323.out))) (below_size (by repeat (first|(with_reducible first|exact HB.out|apply aZ|apply nZ|apply dZ|refine sZ ?_ GE308.out|refine sZ ?_ GE310.out)|exact HB.out))));have n6_:=mk0 (blk_below (g:=gb308) (o:=.cells #[.int .i64 0,.slice none 0 0,.slice none 0 0] 30 (0,0)) (by (with_reducible repeat (first|apply nB|apply dB|apply aB));exact BK308.out) hb);have n7_:=mk0 (blk_below (g:=gb310) (o:=.cells #[.int .i64 (l0.length:Int),.slice Ao36 y321.length co36,.slice Ao44 y328.length co44] 30 (0,0)) (by (with_reducible repeat (first|apply nB|apply dB|apply aB));exact BK310.out) hb);have n8_:=mk0 (below_step (by repeat (first|(with_reducible first|exact HB.out|apply aZ|apply nZ|apply dZ|refine sZ ?_ GE308.out|refine sZ ?_ GE310.out)|exact HB.out)) hb);clear HO_0 HO_8 HO323 HO330 HO333 BK308 BK310 HB;have HO_0:=n0_;have HO_8:=n1_;have HO323:=n2_;have HO330:=n3_;have HO333:=n4_;have HO336:=n5_;have BK308:=n6_;have BK310:=n7_;have HB:=n8_;clear n0_ n1_ n2_ n3_ n4_ n5_ n6_ n7_ n8_;(try clear hb);(try clear hb2);(try clear hk);(try clear hi);(try clear ho0)))
       go_roundg k3
       case measure=>have:=HJ1.out;have:=HK2.out;have:=HK3.out;omega
       case rel=>exact⟨(t334),(wrap64 (x24_2 + 1)),(y321),(y328),(.slice Ao36 y321.length co36),(.slice Ao44 y328.length co44),(by first|rfl|(simp;done)|(simp [*];done)),H',⟨by have:=HJ1.out;have:=HK2.out;have:=HK3.out;omega⟩,⟨Kd.V_mono (Kd.R_V (by (with_reducible repeat (first|apply aR|apply nR|apply dR));exact (Kd.R_types (Kd.R_types (Kd.R_apart' HO336.out (Kd.N_typed HO330.out) (by decide)) BK308.out (by decide)) BK310.out (by decide)))) (fun k_ hk=>by first|exact⟨(.inr (hk.1.1.1.1.1.1)),⟨hk.1.1.1.2,⟨hk.1.1.2,⟨hk.1.2,hk.2⟩⟩⟩⟩|(first|exact⟨(.inr (hk.1)),hk.2⟩|exact (.inr (hk))))⟩,⟨by (with_reducible repeat (first|apply aR|apply nR|apply dR));exact Kd.R_mono HO323.out (fun _ hk=>hk.1.1)⟩,⟨by (with_reducible repeat (first|apply aN|apply nN|apply dN));exact Kd.N_mono HO330.out (fun _ hk=>⟨hk.1.1.1,⟨hk.1.1.2.2.2.2.1,⟨hk.1.1.2.2.2.2.2.1,hk.1.1.2.2.2.2.2.2⟩⟩⟩)⟩,⟨by (with_reducible repeat (first|apply nB|apply dB|apply aB));exact BK308.out⟩,⟨by (with_reducible repeat (first|apply nB|apply dB|apply aB));exact BK310.out⟩,⟨by repeat (first|(with_reducible first|exact HB.out|apply aZ|apply nZ|apply dZ|refine sZ ?_ GE308.out|refine sZ ?_ GE310.out)|exact HB.out)⟩⟩
end Go.Proofs.Ytamdhfjnalglfaa.QFnWave
