-- A walk, made by walk.py, a program of this session's.
import Derived.Test.YtpheodpcppclaaaQFnMinsx0
import Derived.Test.YtpheodpcppclaaaQFnMinsx1
import Derived.Test.YtpheodpcppclaaaQFnMinsx3
namespace Go.Proofs.Ytpheodpcppclaaa.QFnMins
open Go.RowKit Go.Proofs.YtpheodpcppclaaaW.PrintWords Go.Proofs.YtpheodpcppclaaaW.PrintLast Go.Proofs.YtpheodpcppclaaaW.PrintMore
attribute [local go_sem] max2_int min2_int max_two min_two max_three min_three max_four min_four   -- for this text's walks alone
set_option linter.unusedVariables false
set_option linter.unusedSimpArgs false

/-! ### impl_MinsNext: function 24 -/
mutual
def impl_MinsNext.j0 : Nat → Int → Int → List Int → Bool → Option (Int)
 | 0, _, _, _, _ => none
 | k + 1, x1, x2, x7, x22 => if x22 = true then (some (-1)) else (impl_MinsNext.l0 k x1 x2 x7)
def impl_MinsNext.l0 : Nat → Int → Int → List Int → Option (Int)
 | 0, _, _, _ => none
 | k + 1, x1, x2, x7 => if x1 < (x7.length : Int) then (if 0 ≤ x1 then (if (rd x7 x1) ≥ x2 then (impl_MinsNext.l0 k (wrap64 (x1 + 1)) x2 x7) else (some x1)) else (none)) else (some x1)
end
def impl_MinsNext.f (k : Nat) (a0_0 : Int) (l0_1 : List Int) (a1 : Int) (a2 : Int) : Option (Int) := (impl_Mins_read.f k a0_0 l0_1).bind fun bt162 => (if bt162.2 = true then ((impl_within.f a1 0 (bt162.1.length : Int)).bind fun t166 => (impl_MinsNext.j0 k a1 a2 bt162.1 (!t166))) else (impl_MinsNext.j0 k a1 a2 bt162.1 true))
theorem impl_MinsNext.mono_l : ∀ k, (∀ y0 y1 y2 y3, LeO (impl_MinsNext.j0 k y0 y1 y2 y3) (impl_MinsNext.j0 (k + 1) y0 y1 y2 y3)) ∧ (∀ y0 y1 y2, LeO (impl_MinsNext.l0 k y0 y1 y2) (impl_MinsNext.l0 (k + 1) y0 y1 y2))
 | 0 => ⟨fun _ _ _ _ r h => by simp [impl_MinsNext.j0] at h, fun _ _ _ r h => by simp [impl_MinsNext.l0] at h⟩
 | k + 1 => by
  obtain ⟨ih0, ih1⟩ := impl_MinsNext.mono_l k
  refine ⟨?_, ?_⟩
  ·intro y0 y1 y2 y3
   unfold impl_MinsNext.j0
   repeat' first|(with_reducible first|exact ih0 _ _ _ _|exact ih1 _ _ _|exact impl_Mins_read.mono _ _ _|exact LeO.refl _|exact LeO.none _|refine LeO.ite ?_ ?_|refine LeO.bind ?_ (fun _ => ?_))|exact LeO.none _|refine LeO.ite ?_ ?_|refine LeO.bind ?_ (fun _ => ?_)
  ·intro y0 y1 y2
   unfold impl_MinsNext.l0
   repeat' first|(with_reducible first|exact ih0 _ _ _ _|exact ih1 _ _ _|exact impl_Mins_read.mono _ _ _|exact LeO.refl _|exact LeO.none _|refine LeO.ite ?_ ?_|refine LeO.bind ?_ (fun _ => ?_))|exact LeO.none _|refine LeO.ite ?_ ?_|refine LeO.bind ?_ (fun _ => ?_)
theorem impl_MinsNext.mono : ∀ a0 a1 a2 a3 k, LeO (impl_MinsNext.f k a0 a1 a2 a3) (impl_MinsNext.f (k + 1) a0 a1 a2 a3) := by
 intro a0 a1 a2 a3 k
 obtain ⟨ih0, ih1⟩ := impl_MinsNext.mono_l k
 unfold impl_MinsNext.f
 repeat' first|(with_reducible first|exact ih0 _ _ _ _|exact ih1 _ _ _|exact impl_Mins_read.mono _ _ _|exact LeO.refl _|exact LeO.none _|refine LeO.ite ?_ ?_|refine LeO.bind ?_ (fun _ => ?_))|exact LeO.none _|refine LeO.ite ?_ ?_|refine LeO.bind ?_ (fun _ => ?_)
set_option maxHeartbeats 8000000 in
set_option maxRecDepth 100000 in
theorem impl_MinsNext.calls (k : Nat) (a0_0 : Int) (A0_1 : Option Addr) (c0_1 : Nat) (l0_1 : List Int) (a1 : Int) (a2 : Int) (r : Int) (w : World) (hr0_1 : Kd.C (Kd.int .i64) w A0_1 l0_1.length l0_1) (hc0_1 : l0_1.length ≤ c0_1) (h : impl_MinsNext.f k a0_0 l0_1 a1 a2 = some r) :
  Calls Try.prog 24 #[.agg #[.int .i64 a0_0, .slice A0_1 l0_1.length c0_1], .int .i64 a1, .int .i64 a2] w fun e w' => e = .returned (.int .i64 r) ∧ Below w.heap.size w w' := by
 have hu24:=Try.underlying24
 have HR0_1:=mk0 hr0_1
 have HC0_1:=mk0 hc0_1
 clear hr0_1 hc0_1
 have HB:=mk0 (Below.refl w.heap.size w)
 have H:((impl_Mins_read.f k a0_0 l0_1).bind fun bt162=>(if bt162.2 = true then ((impl_within.f a1 0 (bt162.1.length:Int)).bind fun t166=>(impl_MinsNext.j0 k a1 a2 bt162.1 (!t166))) else (impl_MinsNext.j0 k a1 a2 bt162.1 true))) = some r:=h
 clear h
 replace H:=Option.bind_eq_some_iff.mp H
 obtain⟨⟨t162,t165⟩,A40,H⟩:=H
 replace H:(if t165 = true then ((impl_within.f a1 0 (t162.length:Int)).bind fun t166=>(impl_MinsNext.j0 k a1 a2 t162 (!t166))) else (impl_MinsNext.j0 k a1 a2 t162 true)) = some r:=H
 have A4:=mk0 A40
 clear A40
 have HC5:=mk0 H
 clear H
 go_enter Try.func24,Try.ntmps24
 go_upto_region 2 with (first|((with_reducible refine gate_dst (N:=3) rfl ?_);(try (refine gate_guard (by rfl) ?_;dsimp only));refine box_event ?hg (N:=3) ?hd (cs:=#[.int .i64 a0_0,.slice A0_1 l0_1.length c0_1]) (t:=24) ?hr ?_;(case hd=>rfl);(case hg=>rfl);(case hr=>first|(go_simp;done)|(go_simp;rfl));intro gb161 hg w6 hbox hb;have n0_:=mk0 (below_step (by repeat (first|(with_reducible first|exact HB.out|apply aZ|apply nZ|apply dZ)|exact HB.out)) hb);have n1_:=mk0 (hbox);have n2_:=mk0 ((by rw [hg];exact (below_size (by repeat (first|(with_reducible first|exact HB.out|apply aZ|apply nZ|apply dZ)|exact HB.out))):w.heap.size ≤ gb161));have n3_:=mk0 ((by rw [hg];exact (below_size (by repeat (first|(with_reducible first|exact HB.out|apply aZ|apply nZ|apply dZ)|exact HB.out))):w.heap.size ≤ gb161));clear HB;have HB:=n0_;have BK161:=n1_;have GW161:=n2_;have GE161:=n3_;clear n0_ n1_ n2_ n3_ hb hbox hg;have hcz7_0:w6.cell? ⟨gb161,0,none⟩ = some (.int .i64 a0_0):=(blk_cell BK161.out 0).trans rfl;have hcz7_1:w6.cell? ⟨gb161,1,none⟩ = some (.slice A0_1 l0_1.length c0_1):=(blk_cell BK161.out 1).trans rfl;have hfz7_0:=blk_frozen BK161.out 0;have hfz7_1:=blk_frozen BK161.out 1)|((with_reducible refine gate_callee (f:=43) rfl ?_);refine goesL_ (some 11) rfl rfl Try.func43 (by kernel_rfl) rfl #[.agg #[.int .i64 a0_0,.slice A0_1 l0_1.length c0_1]] rfl (by (try simp only [mA,mC,mN]);first|done|rfl|(simp only [List.length_drop,List.length_take];rfl)) ?_;(with_reducible refine (impl_Mins_read.calls k a0_0 (fun k_=>k_ < w.heap.size) _ _ l0_1 t162 t165 _ ?side1 A4.out).mono ?_);(case side1=>exact Kd.V_mk HC0_1.out (Kd.F_below (Kd.C_F (Kd.heap_int .i64) HR0_1.out) (by repeat (first|(with_reducible first|exact HB.out|apply aZ|apply nZ|apply dZ|refine sZ ?_ GE161.out)|exact HB.out))));rintro e w8 ⟨v163,rfl,ho0,hb⟩;refine⟨_,rfl,?_⟩;have n0_:=mk0 (Kd.V_lower (Kd.V_mono (ok':=fun k_=>k_ ≠ gb161) ho0 (fun k_ hk_=>Or.elim hk_ (fun hs_=>fun e_=>Nat.not_le.2 hs_ (by rw [e_];exact GW161.out)) (fun hn_=>(Kd.freshB (g:=gb161) (o:=.cells #[.int .i64 a0_0,.slice A0_1 l0_1.length c0_1] 24 (0,0)) (by (with_reducible repeat (first|apply nB|apply dB|apply aB));exact BK161.out) k_ hn_)))) (below_size (by repeat (first|(with_reducible first|exact HB.out|apply aZ|apply nZ|apply dZ|refine sZ ?_ GE161.out)|exact HB.out))));have n1_:=mk0 (blk_below (g:=gb161) (o:=.cells #[.int .i64 a0_0,.slice A0_1 l0_1.length c0_1] 24 (0,0)) (by (with_reducible repeat (first|apply nB|apply dB|apply aB));exact BK161.out) hb);have n2_:=mk0 (below_step (by repeat (first|(with_reducible first|exact HB.out|apply aZ|apply nZ|apply dZ|refine sZ ?_ GE161.out)|exact HB.out)) hb);clear BK161 HB;have HO164:=n0_;have BK161:=n1_;have HB:=n2_;clear n0_ n1_ n2_;(try clear hb);(try clear hb2);(try clear hk);(try clear hi);(try clear ho0)))
 (try simp only [Act.put,sA,sO,sS])
 go_cut [22] (fun v22 wc=>∃ (kq:Nat) (x22_4:Bool),v22 = .bool x22_4 ∧ Aside0 (impl_MinsNext.j0 kq a1 a2 t162 x22_4 = some r) ∧ Aside0 (kq ≤ k) ∧ Aside0 (Kd.V (Kd.int .i64) 3 wc w.heap.size (fun k_=>k_ ≠ gb161) v163 t162) ∧ Aside0 (wc.heap[gb161]? = some (.cells #[.int .i64 a0_0,(.slice A0_1 l0_1.length c0_1)] 24 (0,0))) ∧ Aside0 (Below w.heap.size w wc))
 case first =>
  have H:=HC5.out
  clear HC5
  by_cases c9:t165 = true
  ·subst c9
   have H1:((impl_within.f a1 0 (t162.length:Int)).bind fun t166=>(impl_MinsNext.j0 k a1 a2 t162 (!t166))) = some r:=by rw [if_pos rfl] at H;exact H
   clear H
   have H:=H1
   clear H1
   replace H:=Option.bind_eq_some_iff.mp H
   obtain⟨t166,A100,H⟩:=H
   replace H:(impl_MinsNext.j0 k a1 a2 t162 (!t166)) = some r:=H
   have A10:=mk0 A100
   clear A100
   have H':=mk0 H
   clear H
   obtain⟨Ao11,co11,eo11⟩:=Kd.V_slice HO164.out
   subst eo11
   go_wp2_with (first|(go_at_call 44;(with_reducible refine (impl_within.calls a1 0 (t162.length:Int) t166 _ A10.out).mono ?_);rintro e w' ⟨rfl,⟨nd,rfl⟩⟩))
   go_meet
   case rel=>exact⟨_,(!t166),(by first|rfl|(simp;done)|(simp [*];done)),H',⟨by first|omega|exact Nat.le_refl _⟩,⟨by (with_reducible repeat (first|apply aV|apply nV|apply dV));exact HO164.out⟩,⟨by (with_reducible repeat (first|apply nB|apply dB|apply aB));exact BK161.out⟩,⟨by repeat (first|(with_reducible first|exact HB.out|apply aZ|apply nZ|apply dZ|refine sZ ?_ GE161.out)|exact HB.out)⟩⟩
  ·replace c9:=Bool.eq_false_iff.mpr c9
   subst c9
   have H1:(impl_MinsNext.j0 k a1 a2 t162 true) = some r:=by rw [if_neg (show ¬ (false = true) by decide)] at H;exact H
   clear H
   have H:=H1
   clear H1
   have H':=mk0 H
   clear H
   go_wp2
   go_meet
   case rel=>exact⟨_,(true),(by first|rfl|(simp;done)|(simp [*];done)),H',⟨by first|omega|exact Nat.le_refl _⟩,⟨by (with_reducible repeat (first|apply aV|apply nV|apply dV));exact HO164.out⟩,⟨by (with_reducible repeat (first|apply nB|apply dB|apply aB));exact BK161.out⟩,⟨by repeat (first|(with_reducible first|exact HB.out|apply aZ|apply nZ|apply dZ|refine sZ ?_ GE161.out)|exact HB.out)⟩⟩
 case rest =>
  clear HC5
  try clear c2
  try clear p2
  try clear c4
  try clear c9
  try clear hcz7_0
  try clear hcz7_1
  try clear hfz7_0
  try clear hfz7_1
  obtain⟨kq,x22_4,rfl,HA,HJ4,HO_7,BK161,HB⟩:=hcut
  cases kq with
  | zero=>exact absurd HA.out (by simp [impl_MinsNext.j0])
  | succ kj4 =>
   have H:=HA.out
   clear HA
   simp only [impl_MinsNext.j0] at H
   by_cases c12:x22_4 = true
   ·subst c12
    have H1:(some (-1)) = some r:=by rw [if_pos rfl] at H;exact H
    clear H
    have H:=H1
    clear H1
    obtain rfl:=Option.some.inj H
    go_wp2
    go_ret
    exact⟨by first|rfl|(simp [errW_none,errW_some] <;> rfl)|(simp [*,errW_none,errW_some] <;> rfl),by repeat (first|(with_reducible first|exact HB.out|apply aZ|apply nZ|apply dZ|refine sZ ?_ GE161.out)|exact HB.out)⟩
   ·replace c12:=Bool.eq_false_iff.mpr c12
    subst c12
    have H1:(impl_MinsNext.l0 kj4 a1 a2 t162) = some r:=by rw [if_neg (show ¬ (false = true) by decide)] at H;exact H
    clear H
    have H:=H1
    clear H1
    have H':=mk0 H
    clear H
    go_wp2
    go_loopg [1] kj4 (fun kq v1 w'=>∃ (x1_2:Int),v1 = .int .i64 x1_2 ∧ Aside0 (impl_MinsNext.l0 kq x1_2 a2 t162 = some r) ∧ Aside0 (kq ≤ kj4) ∧ Aside0 (Kd.V (Kd.int .i64) 3 w' w.heap.size (fun k_=>k_ ≠ gb161) v163 t162) ∧ Aside0 (w'.heap[gb161]? = some (.cells #[.int .i64 a0_0,(.slice A0_1 l0_1.length c0_1)] 24 (0,0))) ∧ Aside0 (Below w.heap.size w w'))
    case atStart=>exact⟨(a1),(by first|rfl|(simp;done)|(simp [*];done)),H',⟨Nat.le_refl _⟩,⟨by (with_reducible repeat (first|apply aV|apply nV|apply dV));exact HO_7.out⟩,⟨by (with_reducible repeat (first|apply nB|apply dB|apply aB));exact BK161.out⟩,⟨by repeat (first|(with_reducible first|exact HB.out|apply aZ|apply nZ|apply dZ|refine sZ ?_ GE161.out)|exact HB.out)⟩⟩
    case round =>
     clear H'
     try clear c1
     try clear c2
     try clear p2
     try clear c4
     try clear c9
     try clear c12
     try clear hcz7_0
     try clear hcz7_1
     try clear hfz7_0
     try clear hfz7_1
     try clear p2
     obtain⟨x1_2,rfl,HA,HK2,HO_7,BK161,HB⟩:=hrel
     cases gk with
     | zero=>exact absurd HA.out (by simp [impl_MinsNext.l0])
     | succ k2 =>
      have H:=HA.out
      clear HA
      simp only [impl_MinsNext.l0] at H
      by_cases c13:x1_2 < (t162.length:Int)
      ·rw [if_pos c13] at H
       have c13b0:decide (x1_2 < (t162.length:Int)) = true:=decide_eq_true c13
       clear c13
       by_cases c14:0 ≤ x1_2
       ·rw [if_pos c14] at H
        have c14b0:decide (0 ≤ x1_2) = true:=decide_eq_true c14
        clear c14
        by_cases c15:(rd t162 x1_2) ≥ a2
        ·rw [if_pos c15] at H
         have c15b0:decide (a2 ≤ (rd t162 x1_2)) = true:=decide_eq_true c15
         clear c15
         have H':=mk0 H
         clear H
         obtain⟨Ao16,co16,eo16⟩:=Kd.V_slice HO_7.out
         subst eo16
         have p167:0 ≤ (x1_2:Int):=of_decide_eq_true (by first|(with_reducible assumption)|assumption)
         have q167:x1_2 < (t162.length:Int):=of_decide_eq_true (by first|(with_reducible assumption)|assumption)
         obtain⟨ad167,e167,hx167_0⟩:=Kd.at_int (Kd.V_reads' HO_7.out).2.2 x1_2 p167 q167
         cases e167
         replace p167:=eq_true p167
         replace q167:=eq_true q167
         go_wp2
         go_roundg k2
         case measure=>have:=HJ4.out;have:=HK2.out;omega
         case rel=>exact⟨(wrap64 (x1_2 + 1)),(by first|rfl|(simp;done)|(simp [*];done)),H',⟨by have:=HJ4.out;have:=HK2.out;omega⟩,⟨by (with_reducible repeat (first|apply aV|apply nV|apply dV));exact HO_7.out⟩,⟨by (with_reducible repeat (first|apply nB|apply dB|apply aB));exact BK161.out⟩,⟨by repeat (first|(with_reducible first|exact HB.out|apply aZ|apply nZ|apply dZ|refine sZ ?_ GE161.out)|exact HB.out)⟩⟩
        ·rw [if_neg c15] at H
         have c15b0:decide (a2 ≤ (rd t162 x1_2)) = false:=decide_eq_false c15
         clear c15
         obtain rfl:=Option.some.inj H
         obtain⟨Ao17,co17,eo17⟩:=Kd.V_slice HO_7.out
         subst eo17
         have p167:0 ≤ (x1_2:Int):=of_decide_eq_true (by first|(with_reducible assumption)|assumption)
         have q167:x1_2 < (t162.length:Int):=of_decide_eq_true (by first|(with_reducible assumption)|assumption)
         obtain⟨ad167,e167,hx167_0⟩:=Kd.at_int (Kd.V_reads' HO_7.out).2.2 x1_2 p167 q167
         cases e167
         replace p167:=eq_true p167
         replace q167:=eq_true q167
         go_wp2
         go_ret
         exact⟨by first|rfl|(simp [errW_none,errW_some] <;> rfl)|(simp [*,errW_none,errW_some] <;> rfl),by repeat (first|(with_reducible first|exact HB.out|apply aZ|apply nZ|apply dZ|refine sZ ?_ GE161.out)|exact HB.out)⟩
       ·rw [if_neg c14] at H
        exact absurd H (by simp)
      ·rw [if_neg c13] at H
       have c13b0:decide (x1_2 < (t162.length:Int)) = false:=decide_eq_false c13
       clear c13
       obtain rfl:=Option.some.inj H
       obtain⟨Ao18,co18,eo18⟩:=Kd.V_slice HO_7.out
       subst eo18
       go_wp2
       go_ret
       exact⟨by first|rfl|(simp [errW_none,errW_some] <;> rfl)|(simp [*,errW_none,errW_some] <;> rfl),by repeat (first|(with_reducible first|exact HB.out|apply aZ|apply nZ|apply dZ|refine sZ ?_ GE161.out)|exact HB.out)⟩

end Go.Proofs.Ytpheodpcppclaaa.QFnMins
