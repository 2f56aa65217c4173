-- A walk, made by walk.py, a program of this session's.
import Derived.Test.YtoinagnieobbpaaQFnExactStretchAllx0
import Derived.Test.YtoinagnieobbpaaQFnExactStretchAllx3
import Derived.Test.YtoinagnieobbpaaQFnExactStretchAllx4
namespace Go.Proofs.Ytoinagnieobbpaa.QFnExactStretchAll
open Go.RowKit Go.Proofs.YtoinagnieobbpaaW.PrintWords Go.Proofs.YtoinagnieobbpaaW.PrintLast Go.Proofs.YtoinagnieobbpaaW.PrintMore
attribute [local go_sem] max2_int min2_int max_two min_two max_three min_three max_four min_four   -- for this text's walks alone
set_option linter.unusedVariables false
set_option linter.unusedSimpArgs false

/-! ### impl_stretches: function 53 -/
mutual
def impl_stretches.l0 : Nat → List (S27) → Int → List Int → Option ((List (S27)))
 | 0, _, _, _ => none
 | k + 1, x4, x5, x8 => if x5 < (x8.length : Int) then (if 0 ≤ x5 then (impl_stretches.l1 k x4 x5 x8 (wrap64 (x5 - 1)) (wrap64 (x5 + 1)) (rd x8 x5)) else (none)) else ((slices_SortFunc_72.f x4).bind fun t242 => ((impl_Stretch_73.f t242).bind fun t243 => (some t243)))
def impl_stretches.j2 : Nat → List Int → List (S27) → Int → Int → Int → Int → Option ((List (S27)))
 | 0, _, _, _, _, _, _ => none
 | k + 1, x3, x4, x5, x234000, x234001, x234002 => impl_stretches.l2 k x3 x4 x5 x234000 x234001 x234002
def impl_stretches.l2 : Nat → List Int → List (S27) → Int → Int → Int → Int → Option ((List (S27)))
 | 0, _, _, _, _, _, _ => none
 | k + 1, x3, x4, x5, x234000, x234001, x234002 => if x234001 < (x3.length : Int) then (if 0 ≤ x234001 then (if (rd x3 x234001) ≥ x234002 then (impl_stretches.l2 k x3 x4 x5 x234000 (wrap64 (x234001 + 1)) x234002) else (if x4.length < 5864062014805 then (impl_stretches.l0 k (x4 ++ [(⟨x234000, x234001, x234002⟩ : S27)]) (wrap64 (x5 + 1)) x3) else (none))) else (none)) else (if x4.length < 5864062014805 then (impl_stretches.l0 k (x4 ++ [(⟨x234000, x234001, x234002⟩ : S27)]) (wrap64 (x5 + 1)) x3) else (none))
def impl_stretches.l1 : Nat → List (S27) → Int → List Int → Int → Int → Int → Option ((List (S27)))
 | 0, _, _, _, _, _, _ => none
 | k + 1, x4, x5, x8, x234000, x234001, x234002 => if x234000 > 0 then (if 0 ≤ x234000 then (if x234000 < (x8.length : Int) then (if (rd x8 x234000) ≥ x234002 then (impl_stretches.l1 k x4 x5 x8 (wrap64 (x234000 - 1)) x234001 x234002) else (impl_stretches.j2 k x8 x4 x5 x234000 x234001 x234002)) else (none)) else (none)) else (impl_stretches.j2 k x8 x4 x5 x234000 x234001 x234002)
end
def impl_stretches.f (k : Nat) (l0 : List Int) : Option ((List (S27))) := (impl_lcpRows.f k l0).bind fun t229 => (impl_stretches.l0 k ([] : List (S27)) 1 t229)
theorem impl_stretches.mono_l : ∀ k, (∀ y0 y1 y2, LeO (impl_stretches.l0 k y0 y1 y2) (impl_stretches.l0 (k + 1) y0 y1 y2)) ∧ (∀ y0 y1 y2 y3 y4 y5, LeO (impl_stretches.j2 k y0 y1 y2 y3 y4 y5) (impl_stretches.j2 (k + 1) y0 y1 y2 y3 y4 y5)) ∧ (∀ y0 y1 y2 y3 y4 y5, LeO (impl_stretches.l2 k y0 y1 y2 y3 y4 y5) (impl_stretches.l2 (k + 1) y0 y1 y2 y3 y4 y5)) ∧ (∀ y0 y1 y2 y3 y4 y5, LeO (impl_stretches.l1 k y0 y1 y2 y3 y4 y5) (impl_stretches.l1 (k + 1) y0 y1 y2 y3 y4 y5))
 | 0 => ⟨fun _ _ _ r h => by simp [impl_stretches.l0] at h, fun _ _ _ _ _ _ r h => by simp [impl_stretches.j2] at h, fun _ _ _ _ _ _ r h => by simp [impl_stretches.l2] at h, fun _ _ _ _ _ _ r h => by simp [impl_stretches.l1] at h⟩
 | k + 1 => by
  obtain ⟨ih0, ih1, ih2, ih3⟩ := impl_stretches.mono_l k
  refine ⟨?_, ?_, ?_, ?_⟩
  ·intro y0 y1 y2
   unfold impl_stretches.l0
   repeat' first|(with_reducible first|exact ih0 _ _ _|exact ih1 _ _ _ _ _ _|exact ih2 _ _ _ _ _ _|exact ih3 _ _ _ _ _ _|exact impl_lcpRows.mono _ _|exact LeO.refl _|exact LeO.none _|refine LeO.ite ?_ ?_|refine LeO.bind ?_ (fun _ => ?_))|exact LeO.none _|refine LeO.ite ?_ ?_|refine LeO.bind ?_ (fun _ => ?_)
  ·intro y0 y1 y2 y3 y4 y5
   unfold impl_stretches.j2
   repeat' first|(with_reducible first|exact ih0 _ _ _|exact ih1 _ _ _ _ _ _|exact ih2 _ _ _ _ _ _|exact ih3 _ _ _ _ _ _|exact impl_lcpRows.mono _ _|exact LeO.refl _|exact LeO.none _|refine LeO.ite ?_ ?_|refine LeO.bind ?_ (fun _ => ?_))|exact LeO.none _|refine LeO.ite ?_ ?_|refine LeO.bind ?_ (fun _ => ?_)
  ·intro y0 y1 y2 y3 y4 y5
   unfold impl_stretches.l2
   repeat' first|(with_reducible first|exact ih0 _ _ _|exact ih1 _ _ _ _ _ _|exact ih2 _ _ _ _ _ _|exact ih3 _ _ _ _ _ _|exact impl_lcpRows.mono _ _|exact LeO.refl _|exact LeO.none _|refine LeO.ite ?_ ?_|refine LeO.bind ?_ (fun _ => ?_))|exact LeO.none _|refine LeO.ite ?_ ?_|refine LeO.bind ?_ (fun _ => ?_)
  ·intro y0 y1 y2 y3 y4 y5
   unfold impl_stretches.l1
   repeat' first|(with_reducible first|exact ih0 _ _ _|exact ih1 _ _ _ _ _ _|exact ih2 _ _ _ _ _ _|exact ih3 _ _ _ _ _ _|exact impl_lcpRows.mono _ _|exact LeO.refl _|exact LeO.none _|refine LeO.ite ?_ ?_|refine LeO.bind ?_ (fun _ => ?_))|exact LeO.none _|refine LeO.ite ?_ ?_|refine LeO.bind ?_ (fun _ => ?_)
theorem impl_stretches.mono : ∀ a0 k, LeO (impl_stretches.f k a0) (impl_stretches.f (k + 1) a0) := by
 intro a0 k
 obtain ⟨ih0, ih1, ih2, ih3⟩ := impl_stretches.mono_l k
 unfold impl_stretches.f
 repeat' first|(with_reducible first|exact ih0 _ _ _|exact ih1 _ _ _ _ _ _|exact ih2 _ _ _ _ _ _|exact ih3 _ _ _ _ _ _|exact impl_lcpRows.mono _ _|exact LeO.refl _|exact LeO.none _|refine LeO.ite ?_ ?_|refine LeO.bind ?_ (fun _ => ?_))|exact LeO.none _|refine LeO.ite ?_ ?_|refine LeO.bind ?_ (fun _ => ?_)
set_option maxHeartbeats 8000000 in
set_option maxRecDepth 100000 in
theorem impl_stretches.calls (k : Nat) (A0 : Option Addr) (c0 : Nat) (l0 : List Int) (r : List (S27)) (w : World) (hr0 : Kd.C (Kd.int .u8) w A0 l0.length l0) (hc0 : l0.length ≤ c0) (h : impl_stretches.f k l0 = some r) :
  Calls Try.prog 53 #[.slice A0 l0.length c0] w fun e w' => ∃ v0_ : Value, e = .returned (v0_) ∧ Kd.R k27 27 w' w.heap.size (fun _ => True) v0_ r ∧ Below w.heap.size w w' := by
 have hu27:=Try.underlying27
 have HR0:=mk0 hr0
 have HC0:=mk0 hc0
 clear hr0 hc0
 have HB:=mk0 (Below.refl w.heap.size w)
 have H:((impl_lcpRows.f k l0).bind fun t229=>(impl_stretches.l0 k ([]:List (S27)) 1 t229)) = some r:=h
 clear h
 replace H:=Option.bind_eq_some_iff.mp H
 obtain⟨t229,A20,H⟩:=H
 replace H:(impl_stretches.l0 k ([]:List (S27)) 1 t229) = some r:=H
 have A2:=mk0 A20
 clear A20
 have H':=mk0 H
 clear H
 go_enter Try.func53,Try.ntmps53
 go_wp2_with (first|(go_at_call 41;(with_reducible refine (impl_lcpRows.calls k _ _ l0 t229 _ ?side1 ?side2 A2.out).mono ?_);(case side1=>repeat (first|exact HR0.out|(with_reducible first|apply aC|apply nC|apply dC)));(case side2=>exact HC0.out);rintro e w3 ⟨v230,rfl,ho0,hb⟩;have HO231:=mk0 (Kd.R_lower ho0 (kZ HB.out));replace HB:=mk0 (kS HB.out hb);(try clear hb);(try clear ho0)))
 repeat (go_quiet (first|(go_at_call 41;(with_reducible refine (impl_lcpRows.calls k _ _ l0 t229 _ ?side1 ?side2 A2.out).mono ?_);(case side1=>repeat (first|exact HR0.out|(with_reducible first|apply aC|apply nC|apply dC)));(case side2=>exact HC0.out);rintro e w3 ⟨v230,rfl,ho0,hb⟩;have HO231:=mk0 (Kd.R_lower ho0 (kZ HB.out));replace HB:=mk0 (kS HB.out hb);(try clear hb);(try clear ho0)));try go_wp2_with (first|(go_at_call 41;(with_reducible refine (impl_lcpRows.calls k _ _ l0 t229 _ ?side1 ?side2 A2.out).mono ?_);(case side1=>repeat (first|exact HR0.out|(with_reducible first|apply aC|apply nC|apply dC)));(case side2=>exact HC0.out);rintro e w3 ⟨v230,rfl,ho0,hb⟩;have HO231:=mk0 (Kd.R_lower ho0 (kZ HB.out));replace HB:=mk0 (kS HB.out hb);(try clear hb);(try clear ho0))))
 go_loopg [4,5] k (fun kq v4 v5 w'=>∃ (x4_1:List (S27)) (x5_1:Int),v5 = .int .i64 x5_1 ∧ Aside0 (impl_stretches.l0 kq x4_1 x5_1 t229 = some r) ∧ Aside0 (kq ≤ k) ∧ Aside0 (Kd.R k27 27 w' w.heap.size (fun _=>True) v4 x4_1) ∧ Aside0 (Kd.R (Kd.int .i64) 3 w' w.heap.size (fun _=>True) v230 t229) ∧ Aside0 (Below w.heap.size w w'))
 case atStart=>exact⟨(([]:List (S27))),(1),(by first|rfl|(simp;done)|(simp [*];done)),H',⟨Nat.le_refl _⟩,⟨by first|exact Kd.R_nil _ _ _ _ _|exact Kd.N_nil _ _ _ _ _|exact Kd.V_nil _ _ _ _ _|exact Kd.Q_nil _ _ _ _ _|exact Kd.S_nil _ _ _ _ _⟩,⟨rR HO231.out⟩,⟨kB HB.out⟩⟩
 case round =>
  clear H'
  try clear p2
  obtain⟨x4_1,x5_1,rfl,HA,HK1,HO_4,HO_8,HB⟩:=hrel
  cases gk with
  | zero=>exact absurd HA.out (by simp [impl_stretches.l0])
  | succ k1 =>
   have H:=HA.out
   clear HA
   simp only [impl_stretches.l0] at H
   by_cases c4:x5_1 < (t229.length:Int)
   rotate_left
   ·rw [if_neg c4] at H
    have c4b0:decide (x5_1 < (t229.length:Int)) = false:=decide_eq_false c4
    clear c4
    replace H:=Option.bind_eq_some_iff.mp H
    obtain⟨t242,A270,H⟩:=H
    replace H:((impl_Stretch_73.f t242).bind fun t243=>(some t243)) = some r:=H
    have A27:=mk0 A270
    clear A270
    replace H:=Option.bind_eq_some_iff.mp H
    obtain⟨t243,A280,H⟩:=H
    replace H:(some t243) = some r:=H
    have A28:=mk0 A280
    clear A280
    obtain rfl:=Option.some.inj H
    obtain⟨Ao29,co29,eo29⟩:=Kd.R_slice HO_8.out
    subst eo29
    obtain⟨Ao30,co30,eo30⟩:=Kd.R_slice HO_4.out
    subst eo30
    go_wp2_with (first|(go_at_call 71;(with_reducible refine (slices_SortFunc_72.calls (fun k_=>some k_ = (.slice Ao30 x4_1.length co30:Value).ownBlock) (.slice Ao30 x4_1.length co30) x4_1 t242 w _ ?side1 ?side2 A27.out).mono ?_);(case side1=>repeat (first|(with_reducible first|exact HB.out|apply aZ|apply nZ|apply dZ)|exact HB.out));(case side2=>exact Kd.R_tight rfl HO_4.out);rintro e w31 ⟨rfl,hy0,hb,hkp⟩;replace HO_8:=mk0 (Kd.R_mono (ok':=fun k_=>True) (Kd.R_keptB ((Kd.R_apart' HO_8.out (Kd.R_typed HO_4.out) (by decide))) hkp (fun k_ hk_ hs_=>(hk_.2) hs_)) (fun k_ hk_=>trivial));replace HO_4:=mk0 (Kd.R_reok rfl hy0 (fun k_ e_=>HO_4.out.1 k_ e_));replace HB:=mk0 (hb);(try clear hb);(try clear hkp);(try clear hy0))|(go_at_call 73;(with_reducible refine (impl_Stretch_73.calls (fun k_=>some k_ = (.slice Ao30 x4_1.length co30:Value).ownBlock) (.slice Ao30 x4_1.length co30) t242 t243 w _ ?side1 ?side2 A28.out).mono ?_);(case side1=>repeat (first|(with_reducible first|exact HB.out|apply aZ|apply nZ|apply dZ)|exact HB.out));(case side2=>exact Kd.R_tight rfl HO_4.out);rintro e w32 ⟨v244,rfl,ho0,hb,hkp⟩;replace HO_8:=mk0 (Kd.R_mono (ok':=fun k_=>True) (Kd.R_keptB ((Kd.R_apart' HO_8.out (Kd.R_typed HO_4.out) (by decide))) hkp (fun k_ hk_ hs_=>(hk_.2) hs_)) (fun k_ hk_=>trivial));have HO245:=mk0 (Kd.R_mono (ok':=fun k_=>True) ho0 (fun k_ hk_=>trivial));replace HB:=mk0 (hb);clear HO_4;(try clear hb);(try clear hkp);(try clear ho0)))
    repeat (go_quiet (first|(go_at_call 71;(with_reducible refine (slices_SortFunc_72.calls (fun k_=>some k_ = (.slice Ao30 x4_1.length co30:Value).ownBlock) (.slice Ao30 x4_1.length co30) x4_1 t242 w _ ?side1 ?side2 A27.out).mono ?_);(case side1=>repeat (first|(with_reducible first|exact HB.out|apply aZ|apply nZ|apply dZ)|exact HB.out));(case side2=>exact Kd.R_tight rfl HO_4.out);rintro e w31 ⟨rfl,hy0,hb,hkp⟩;replace HO_8:=mk0 (Kd.R_mono (ok':=fun k_=>True) (Kd.R_keptB ((Kd.R_apart' HO_8.out (Kd.R_typed HO_4.out) (by decide))) hkp (fun k_ hk_ hs_=>(hk_.2) hs_)) (fun k_ hk_=>trivial));replace HO_4:=mk0 (Kd.R_reok rfl hy0 (fun k_ e_=>HO_4.out.1 k_ e_));replace HB:=mk0 (hb);(try clear hb);(try clear hkp);(try clear hy0))|(go_at_call 73;(with_reducible refine (impl_Stretch_73.calls (fun k_=>some k_ = (.slice Ao30 x4_1.length co30:Value).ownBlock) (.slice Ao30 x4_1.length co30) t242 t243 w _ ?side1 ?side2 A28.out).mono ?_);(case side1=>repeat (first|(with_reducible first|exact HB.out|apply aZ|apply nZ|apply dZ)|exact HB.out));(case side2=>exact Kd.R_tight rfl HO_4.out);rintro e w32 ⟨v244,rfl,ho0,hb,hkp⟩;replace HO_8:=mk0 (Kd.R_mono (ok':=fun k_=>True) (Kd.R_keptB ((Kd.R_apart' HO_8.out (Kd.R_typed HO_4.out) (by decide))) hkp (fun k_ hk_ hs_=>(hk_.2) hs_)) (fun k_ hk_=>trivial));have HO245:=mk0 (Kd.R_mono (ok':=fun k_=>True) ho0 (fun k_ hk_=>trivial));replace HB:=mk0 (hb);clear HO_4;(try clear hb);(try clear hkp);(try clear ho0)));try go_wp2_with (first|(go_at_call 71;(with_reducible refine (slices_SortFunc_72.calls (fun k_=>some k_ = (.slice Ao30 x4_1.length co30:Value).ownBlock) (.slice Ao30 x4_1.length co30) x4_1 t242 w _ ?side1 ?side2 A27.out).mono ?_);(case side1=>repeat (first|(with_reducible first|exact HB.out|apply aZ|apply nZ|apply dZ)|exact HB.out));(case side2=>exact Kd.R_tight rfl HO_4.out);rintro e w31 ⟨rfl,hy0,hb,hkp⟩;replace HO_8:=mk0 (Kd.R_mono (ok':=fun k_=>True) (Kd.R_keptB ((Kd.R_apart' HO_8.out (Kd.R_typed HO_4.out) (by decide))) hkp (fun k_ hk_ hs_=>(hk_.2) hs_)) (fun k_ hk_=>trivial));replace HO_4:=mk0 (Kd.R_reok rfl hy0 (fun k_ e_=>HO_4.out.1 k_ e_));replace HB:=mk0 (hb);(try clear hb);(try clear hkp);(try clear hy0))|(go_at_call 73;(with_reducible refine (impl_Stretch_73.calls (fun k_=>some k_ = (.slice Ao30 x4_1.length co30:Value).ownBlock) (.slice Ao30 x4_1.length co30) t242 t243 w _ ?side1 ?side2 A28.out).mono ?_);(case side1=>repeat (first|(with_reducible first|exact HB.out|apply aZ|apply nZ|apply dZ)|exact HB.out));(case side2=>exact Kd.R_tight rfl HO_4.out);rintro e w32 ⟨v244,rfl,ho0,hb,hkp⟩;replace HO_8:=mk0 (Kd.R_mono (ok':=fun k_=>True) (Kd.R_keptB ((Kd.R_apart' HO_8.out (Kd.R_typed HO_4.out) (by decide))) hkp (fun k_ hk_ hs_=>(hk_.2) hs_)) (fun k_ hk_=>trivial));have HO245:=mk0 (Kd.R_mono (ok':=fun k_=>True) ho0 (fun k_ hk_=>trivial));replace HB:=mk0 (hb);clear HO_4;(try clear hb);(try clear hkp);(try clear ho0))))
    go_ret
    exact⟨_,by first|rfl|(simp [errW_none,errW_some] <;> rfl)|(simp [*,errW_none,errW_some] <;> rfl),rR HO245.out,kB HB.out⟩

   rw [if_pos c4] at H
   have c4b0:decide (x5_1 < (t229.length:Int)) = true:=decide_eq_true c4
   clear c4
   by_cases c5:0 ≤ x5_1
   rotate_left
   ·rw [if_neg c5] at H
    exact absurd H (by simp)
   rw [if_pos c5] at H
   have c5b0:decide (0 ≤ x5_1) = true:=decide_eq_true c5
   clear c5
   have HC6:=mk0 H
   clear H
   obtain⟨Ao7,co7,eo7⟩:=Kd.R_slice HO_8.out
   subst eo7
   have p232:0 ≤ (x5_1:Int):=of_decide_eq_true (by first|(with_reducible assumption)|assumption)
   have q232:x5_1 < (t229.length:Int):=of_decide_eq_true (by first|(with_reducible assumption)|assumption)
   obtain⟨ad232,e232,hx232_0⟩:=Kd.at_int (Kd.R_reads' HO_8.out).2.2 x5_1 p232 q232
   cases e232
   replace p232:=eq_true p232
   replace q232:=eq_true q232
   go_upto_block 2 with (first|((with_reducible refine gate_dst (N:=6) rfl ?_);refine box_event ?hg (N:=6) ?hd (cs:=#[.int .i64 0,.int .i64 0,.int .i64 0]) (t:=27) ?hr ?_;(case hd=>rfl);(case hg=>rfl);(case hr=>first|(go_simp;done)|(go_simp;rfl));intro gb233 hg w8 hbox hb;replace HO_4:=mk0 (Kd.R_below (Kd.R_elderB (rR HO_4.out) gb233 (Nat.le_of_eq hg.symm)) hb);replace HO_8:=mk0 (bR HO_8.out hb);have BK233:=mk0 (hbox);have GW233:=mk0 ((by rw [hg];exact (kZ HB.out):w.heap.size ≤ gb233));have GE233:=mk0 ((by rw [hg];exact (kZ HB.out):w.heap.size ≤ gb233));replace HB:=mk0 (kS HB.out hb);clear hb hbox hg;obtain⟨hcz9_0,hcz9_1,hcz9_2,hfz9_0,hfz9_1,hfz9_2⟩:=cz3 BK233.out))
   repeat (go_quiet (first|((with_reducible refine gate_dst (N:=6) rfl ?_);refine box_event ?hg (N:=6) ?hd (cs:=#[.int .i64 0,.int .i64 0,.int .i64 0]) (t:=27) ?hr ?_;(case hd=>rfl);(case hg=>rfl);(case hr=>first|(go_simp;done)|(go_simp;rfl));intro gb233 hg w8 hbox hb;replace HO_4:=mk0 (Kd.R_below (Kd.R_elderB (rR HO_4.out) gb233 (Nat.le_of_eq hg.symm)) hb);replace HO_8:=mk0 (bR HO_8.out hb);have BK233:=mk0 (hbox);have GW233:=mk0 ((by rw [hg];exact (kZ HB.out):w.heap.size ≤ gb233));have GE233:=mk0 ((by rw [hg];exact (kZ HB.out):w.heap.size ≤ gb233));replace HB:=mk0 (kS HB.out hb);clear hb hbox hg;obtain⟨hcz9_0,hcz9_1,hcz9_2,hfz9_0,hfz9_1,hfz9_2⟩:=cz3 BK233.out));go_upto_block 2 with (first|((with_reducible refine gate_dst (N:=6) rfl ?_);refine box_event ?hg (N:=6) ?hd (cs:=#[.int .i64 0,.int .i64 0,.int .i64 0]) (t:=27) ?hr ?_;(case hd=>rfl);(case hg=>rfl);(case hr=>first|(go_simp;done)|(go_simp;rfl));intro gb233 hg w8 hbox hb;replace HO_4:=mk0 (Kd.R_below (Kd.R_elderB (rR HO_4.out) gb233 (Nat.le_of_eq hg.symm)) hb);replace HO_8:=mk0 (bR HO_8.out hb);have BK233:=mk0 (hbox);have GW233:=mk0 ((by rw [hg];exact (kZ HB.out):w.heap.size ≤ gb233));have GE233:=mk0 ((by rw [hg];exact (kZ HB.out):w.heap.size ≤ gb233));replace HB:=mk0 (kS HB.out hb);clear hb hbox hg;obtain⟨hcz9_0,hcz9_1,hcz9_2,hfz9_0,hfz9_1,hfz9_2⟩:=cz3 BK233.out)))
   (try simp only [Act.put,sA,sO,sS])
   go_cut [] (fun wc=>∃ (kq:Nat) (x234000_5:Int),Aside0 (impl_stretches.j2 kq t229 x4_1 x5_1 x234000_5 (wrap64 (x5_1 + 1)) (rd t229 x5_1) = some r) ∧ Aside0 (kq ≤ k1) ∧ Aside0 (Kd.R (Kd.int .i64) 3 wc w.heap.size (fun _=>True) (.slice (some ad232) t229.length co7) t229) ∧ Aside0 (Kd.R k27 27 wc w.heap.size (fun k_=>k_ ≠ gb233) u4 x4_1) ∧ Aside0 (wc.heap[gb233]? = some (.cells #[.int .i64 x234000_5,.int .i64 (wrap64 (x5_1 + 1)),.int .i64 (rd t229 x5_1)] 27 (0,0))) ∧ Aside0 (Below w.heap.size w wc))
   case first =>
    have H:=HC6.out
    clear HC6
    have H':=mk0 H
    clear H
    go_wp2
    repeat (go_quiet (fail);try go_wp2)
    go_loopg [] k1 (fun kq w'=>∃ (x234000_2:Int),Aside0 (impl_stretches.l1 kq x4_1 x5_1 t229 x234000_2 (wrap64 (x5_1 + 1)) (rd t229 x5_1) = some r) ∧ Aside0 (kq ≤ k1) ∧ Aside0 (Kd.R k27 27 w' w.heap.size (fun k_=>k_ ≠ gb233) u4 x4_1) ∧ Aside0 (Kd.R (Kd.int .i64) 3 w' w.heap.size (fun _=>True) (.slice (some ad232) t229.length co7) t229) ∧ Aside0 (w'.heap[gb233]? = some (.cells #[.int .i64 x234000_2,.int .i64 (wrap64 (x5_1 + 1)),.int .i64 (rd t229 x5_1)] 27 (0,0))) ∧ Aside0 (Below w.heap.size w w'))
    case atStart=>exact⟨(wrap64 (x5_1 - 1)),H',⟨Nat.le_refl _⟩,⟨by (with_reducible repeat (first|apply aR|apply nR|apply dR));exact Kd.R_mono (Kd.R_far (p:=⟨gb233,2,none⟩) (Kd.R_far (p:=⟨gb233,1,none⟩) (Kd.R_far (p:=⟨gb233,0,none⟩) (Kd.R_mono HO_4.out (fun k_ hk=>(⟨hk,hk.2⟩:_ ∧ k_ ≠ gb233))) (fun _ hk=>hk.2) (.int .i64 (wrap64 (x5_1 - 1)))) (fun _ hk=>hk.2) (.int .i64 (wrap64 (x5_1 + 1)))) (fun _ hk=>hk.2) (.int .i64 (rd t229 x5_1))) (fun _ hk=>hk.1.2)⟩,⟨by (with_reducible repeat (first|apply aR|apply nR|apply dR));exact Kd.R_mono (Kd.R_far (p:=⟨gb233,2,none⟩) (Kd.R_far (p:=⟨gb233,1,none⟩) (Kd.R_far (p:=⟨gb233,0,none⟩) (Kd.R_types HO_8.out BK233.out (by decide)) (fun _ hk=>hk.2) (.int .i64 (wrap64 (x5_1 - 1)))) (fun _ hk=>hk.2) (.int .i64 (wrap64 (x5_1 + 1)))) (fun _ hk=>hk.2) (.int .i64 (rd t229 x5_1))) (fun _ hk=>trivial)⟩,⟨by (with_reducible repeat (first|apply nB|apply dB|apply aB));refine blk_put (cs:=#[.int .i64 (wrap64 (x5_1 - 1)),.int .i64 (wrap64 (x5_1 + 1)),.int .i64 0]) ?_ 2 _ rfl;(with_reducible repeat (first|apply nB|apply dB|apply aB));refine blk_put (cs:=#[.int .i64 (wrap64 (x5_1 - 1)),.int .i64 0,.int .i64 0]) ?_ 1 _ rfl;(with_reducible repeat (first|apply nB|apply dB|apply aB));refine blk_put (cs:=#[.int .i64 0,.int .i64 0,.int .i64 0]) ?_ 0 _ rfl;(with_reducible repeat (first|apply nB|apply dB|apply aB));exact BK233.out⟩,⟨kB HB.out⟩⟩
    case round =>
     clear H'
     try clear p2
     try clear q2
     try clear hx2
     try clear c4
     try clear c4b0
     try clear c5
     try clear c5b0
     try clear p6
     try clear hcz9_0
     try clear hcz9_1
     try clear hcz9_2
     try clear hfz9_0
     try clear hfz9_1
     try clear hfz9_2
     try clear hx232_0
     try clear p2
     try clear p232
     try clear q232
     obtain⟨x234000_2,HA,HK2,HO_4,HO_8,BK233,HB⟩:=hrel
     cases gk with
     | zero=>exact absurd HA.out (by simp [impl_stretches.l1])
     | succ k2 =>
      have H:=HA.out
      clear HA
      simp only [impl_stretches.l1] at H
      by_cases c10:x234000_2 > 0
      rotate_left
      ·rw [if_neg c10] at H
       have c10b0:decide (0 < x234000_2) = false:=decide_eq_false c10
       clear c10
       (first|rw [c10b0]|(simp only [i64_w,i32_w];rw [c10b0])|skip)
       have H':=mk0 H
       clear H
       obtain⟨hcz16_0,hcz16_1,hcz16_2,hfz16_0,hfz16_1,hfz16_2⟩:=cz3 BK233.out
       go_wp2
       repeat (go_quiet (fail);try go_wp2)
       go_meet
       case rel=>exact⟨_,(x234000_2),H',⟨by have:=HK1.out;have:=HK2.out;first|omega|exact Nat.le_refl _⟩,⟨rR HO_8.out⟩,⟨rR HO_4.out⟩,⟨kN BK233.out⟩,⟨kB HB.out⟩⟩
      rw [if_pos c10] at H
      have c10b0:decide (0 < x234000_2) = true:=decide_eq_true c10
      clear c10
      (first|rw [c10b0]|(simp only [i64_w,i32_w];rw [c10b0])|skip)
      by_cases c11:0 ≤ x234000_2
      rotate_left
      ·rw [if_neg c11] at H
       exact absurd H (by simp)
      rw [if_pos c11] at H
      have c11b0:decide (0 ≤ x234000_2) = true:=decide_eq_true c11
      clear c11
      by_cases c12:x234000_2 < (t229.length:Int)
      rotate_left
      ·rw [if_neg c12] at H
       exact absurd H (by simp)
      rw [if_pos c12] at H
      have c12b0:decide (x234000_2 < (t229.length:Int)) = true:=decide_eq_true c12
      clear c12
      by_cases c13:(rd t229 x234000_2) ≥ (rd t229 x5_1)
      rotate_left
      ·rw [if_neg c13] at H
       have c13b0:decide ((rd t229 x5_1) ≤ (rd t229 x234000_2)) = false:=decide_eq_false c13
       clear c13
       have H':=mk0 H
       clear H
       obtain⟨hcz15_0,hcz15_1,hcz15_2,hfz15_0,hfz15_1,hfz15_2⟩:=cz3 BK233.out
       have p234:0 ≤ (x234000_2:Int):=of_decide_eq_true (by first|(with_reducible assumption)|assumption)
       have q234:x234000_2 < (t229.length:Int):=of_decide_eq_true (by first|(with_reducible assumption)|assumption)
       obtain⟨ad234,e234,hx234_0⟩:=Kd.at_int (Kd.R_reads' HO_8.out).2.2 x234000_2 p234 q234
       obtain rfl:ad232 = ad234:=(by injection e234)
       replace p234:=eq_true p234
       replace q234:=eq_true q234
       go_wp2
       repeat (go_quiet (fail);try go_wp2)
       go_meet
       case rel=>exact⟨_,(x234000_2),H',⟨by have:=HK1.out;have:=HK2.out;first|omega|exact Nat.le_refl _⟩,⟨rR HO_8.out⟩,⟨rR HO_4.out⟩,⟨kN BK233.out⟩,⟨kB HB.out⟩⟩
      rw [if_pos c13] at H
      have c13b0:decide ((rd t229 x5_1) ≤ (rd t229 x234000_2)) = true:=decide_eq_true c13
      clear c13
      have H':=mk0 H
      clear H
      obtain⟨hcz14_0,hcz14_1,hcz14_2,hfz14_0,hfz14_1,hfz14_2⟩:=cz3 BK233.out
      have p234:0 ≤ (x234000_2:Int):=of_decide_eq_true (by first|(with_reducible assumption)|assumption)
      have q234:x234000_2 < (t229.length:Int):=of_decide_eq_true (by first|(with_reducible assumption)|assumption)
      obtain⟨ad234,e234,hx234_0⟩:=Kd.at_int (Kd.R_reads' HO_8.out).2.2 x234000_2 p234 q234
      obtain rfl:ad232 = ad234:=(by injection e234)
      replace p234:=eq_true p234
      replace q234:=eq_true q234
      go_wp2
      repeat (go_quiet (fail);try go_wp2)
      go_roundg k2
      case measure=>have:=HK1.out;have:=HK2.out;omega
      case rel=>exact⟨(wrap64 (x234000_2 - 1)),H',⟨by have:=HK1.out;have:=HK2.out;omega⟩,⟨by (with_reducible repeat (first|apply aR|apply nR|apply dR));exact Kd.R_mono (Kd.R_far (p:=⟨gb233,0,none⟩) (Kd.R_mono HO_4.out (fun k_ hk=>(⟨hk,hk⟩:_ ∧ k_ ≠ gb233))) (fun _ hk=>hk.2) (.int .i64 (wrap64 (x234000_2 - 1)))) (fun _ hk=>hk.1)⟩,⟨by (with_reducible repeat (first|apply aR|apply nR|apply dR));exact Kd.R_mono (Kd.R_far (p:=⟨gb233,0,none⟩) (Kd.R_types HO_8.out BK233.out (by decide)) (fun _ hk=>hk.2) (.int .i64 (wrap64 (x234000_2 - 1)))) (fun _ hk=>trivial)⟩,⟨by (with_reducible repeat (first|apply nB|apply dB|apply aB));refine blk_put (cs:=#[.int .i64 x234000_2,.int .i64 (wrap64 (x5_1 + 1)),.int .i64 (rd t229 x5_1)]) ?_ 0 _ rfl;(with_reducible repeat (first|apply nB|apply dB|apply aB));exact BK233.out⟩,⟨kB HB.out⟩⟩
   case rest =>
    clear HC6
    try clear c1
    try clear p2
    try clear q2
    try clear hx2
    try clear c4
    try clear c4b0
    try clear c5
    try clear c5b0
    try clear p6
    try clear c10
    try clear c10b0
    try clear c11
    try clear c11b0
    try clear c12
    try clear c12b0
    try clear c13
    try clear c13b0
    try clear hcz14_0
    try clear hcz14_1
    try clear hcz14_2
    try clear hcz15_0
    try clear hcz15_1
    try clear hcz15_2
    try clear hcz16_0
    try clear hcz16_1
    try clear hcz16_2
    try clear hcz9_0
    try clear hcz9_1
    try clear hcz9_2
    try clear hfz14_0
    try clear hfz14_1
    try clear hfz14_2
    try clear hfz15_0
    try clear hfz15_1
    try clear hfz15_2
    try clear hfz16_0
    try clear hfz16_1
    try clear hfz16_2
    try clear hfz9_0
    try clear hfz9_1
    try clear hfz9_2
    try clear hx232_0
    try clear hx234_0
    try clear p2
    try clear p232
    try clear p234
    try clear p6
    try clear q2
    try clear q232
    try clear q234
    obtain⟨kq,x234000_5,HA,HJ5,HO_3,HO_4,BK233,HB⟩:=hcut
    cases kq with
    | zero=>exact absurd HA.out (by simp [impl_stretches.j2])
    | succ kj5 =>
     have H:=HA.out
     clear HA
     simp only [impl_stretches.j2] at H
     have H':=mk0 H
     clear H
     go_wp2
     repeat (go_quiet (fail);try go_wp2)
     go_loopg [] kj5 (fun kq w'=>∃ (x234001_3:Int),Aside0 (impl_stretches.l2 kq t229 x4_1 x5_1 x234000_5 x234001_3 (rd t229 x5_1) = some r) ∧ Aside0 (kq ≤ kj5) ∧ Aside0 (Kd.R (Kd.int .i64) 3 w' w.heap.size (fun _=>True) (.slice (some ad232) t229.length co7) t229) ∧ Aside0 (Kd.R k27 27 w' w.heap.size (fun k_=>k_ ≠ gb233) u4 x4_1) ∧ Aside0 (w'.heap[gb233]? = some (.cells #[.int .i64 x234000_5,.int .i64 x234001_3,.int .i64 (rd t229 x5_1)] 27 (0,0))) ∧ Aside0 (Below w.heap.size w w'))
     case atStart=>exact⟨((wrap64 (x5_1 + 1))),H',⟨Nat.le_refl _⟩,⟨rR HO_3.out⟩,⟨rR HO_4.out⟩,⟨kN BK233.out⟩,⟨kB HB.out⟩⟩
     case round =>
      clear H'
      try clear c1
      try clear p2
      try clear q2
      try clear hx2
      try clear c4
      try clear c4b0
      try clear c5
      try clear c5b0
      try clear p6
      try clear c10
      try clear c10b0
      try clear c11
      try clear c11b0
      try clear c12
      try clear c12b0
      try clear c13
      try clear c13b0
      try clear hcz14_0
      try clear hcz14_1
      try clear hcz14_2
      try clear hcz15_0
      try clear hcz15_1
      try clear hcz15_2
      try clear hcz16_0
      try clear hcz16_1
      try clear hcz16_2
      try clear hcz9_0
      try clear hcz9_1
      try clear hcz9_2
      try clear hfz14_0
      try clear hfz14_1
      try clear hfz14_2
      try clear hfz15_0
      try clear hfz15_1
      try clear hfz15_2
      try clear hfz16_0
      try clear hfz16_1
      try clear hfz16_2
      try clear hfz9_0
      try clear hfz9_1
      try clear hfz9_2
      try clear hx232_0
      try clear hx234_0
      try clear p2
      try clear p232
      try clear p234
      try clear p6
      try clear q2
      try clear q232
      try clear q234
      obtain⟨x234001_3,HA,HK3,HO_3,HO_4,BK233,HB⟩:=hrel
      cases gk with
      | zero=>exact absurd HA.out (by simp [impl_stretches.l2])
      | succ k3 =>
       have H:=HA.out
       clear HA
       simp only [impl_stretches.l2] at H
       by_cases c17:x234001_3 < (t229.length:Int)
       rotate_left
       ·rw [if_neg c17] at H
        have c17b0:decide (x234001_3 < (t229.length:Int)) = false:=decide_eq_false c17
        clear c17
        by_cases c24:x4_1.length < 5864062014805
        rotate_left
        ·rw [if_neg c24] at H
         exact absurd H (by simp)
        rw [if_pos c24] at H
        have LMc24:=mk0 c24
        clear c24
        obtain⟨y239,hy239⟩:∃ y_:List (S27),y_ = (x4_1 ++ [(⟨x234000_5,x234001_3,(rd t229 x5_1)⟩:S27)]):=⟨_,rfl⟩
        replace H:(impl_stretches.l0 k3 y239 (wrap64 (x5_1 + 1)) t229) = some r:=by first|(rw [hy239];with_reducible exact H)|(have H2_:=(Option.bind_some _ _).symm.trans H;rw [hy239];with_reducible exact H2_)|(have H2_:=(Option.bind_some _ _).symm.trans H;with_reducible exact H2_)|with_reducible exact H|(rw [hy239];exact H)|exact H
        have Ny239:=mk0 hy239
        clear hy239
        have H':=mk0 H
        clear H
        obtain⟨hcz25_0,hcz25_1,hcz25_2,hfz25_0,hfz25_1,hfz25_2⟩:=cz3 BK233.out
        go_wp2_with (first|((with_reducible refine gate_builtin (b:=.append) (xs:=#[.tmp 60,.tmp 62]) rfl ?_);at_builtin;refine Kd.R_append k27 (w0:=w) w.heap.size rfl (.tmp 60) (.tmp 62) 39 27 (.agg #[(.int .i64 0),(.int .i64 0),(.int .i64 0)]) 24 rfl Try.underlying39 info27 rfl (by decide) (by omega) u4 x4_1 (⟨x234000_5,x234001_3,(rd t229 x5_1)⟩:S27) [.int .i64 x234000_5,.int .i64 x234001_3,.int .i64 (rd t229 x5_1)] (fun k_=>k_ ≠ gb233) (fun _=>False) rfl rfl ?aP (fun _ hk=>hk.elim) ?aF ?aO ?aB ?aS ?aL ?_;(case aP=>exact k27_mkM _ _ _ (⟨x234000_5,x234001_3,(rd t229 x5_1)⟩:S27));(case aB=>exact (kB HB.out));(case aF=>exact (fun k_ hk=>Kd.freshB (g:=gb233) (kN BK233.out) k_ hk));(case aO=>exact (rR HO_4.out));(case aS=>exact (kZ HB.out));(case aL=>have:=LMc24.out;omega);intro v240 w26 ho hb hg hat;rw [← Ny239.out] at ho;replace HO_3:=mk0 (Kd.R_over' (rR HO_3.out) (Kd.R_typed (rR HO_4.out)) (by decide) hg);replace BK233:=mk0 (blk_grown (kN BK233.out) hg (Kd.R_away HO_4.out (fun _ hk=>hk)));replace HB:=mk0 (hb);have HO241:=mk0 (ho);clear HO_4 ho hb hg hat))
        repeat (go_quiet (first|((with_reducible refine gate_builtin (b:=.append) (xs:=#[.tmp 60,.tmp 62]) rfl ?_);at_builtin;refine Kd.R_append k27 (w0:=w) w.heap.size rfl (.tmp 60) (.tmp 62) 39 27 (.agg #[(.int .i64 0),(.int .i64 0),(.int .i64 0)]) 24 rfl Try.underlying39 info27 rfl (by decide) (by omega) u4 x4_1 (⟨x234000_5,x234001_3,(rd t229 x5_1)⟩:S27) [.int .i64 x234000_5,.int .i64 x234001_3,.int .i64 (rd t229 x5_1)] (fun k_=>k_ ≠ gb233) (fun _=>False) rfl rfl ?aP (fun _ hk=>hk.elim) ?aF ?aO ?aB ?aS ?aL ?_;(case aP=>exact k27_mkM _ _ _ (⟨x234000_5,x234001_3,(rd t229 x5_1)⟩:S27));(case aB=>exact (kB HB.out));(case aF=>exact (fun k_ hk=>Kd.freshB (g:=gb233) (kN BK233.out) k_ hk));(case aO=>exact (rR HO_4.out));(case aS=>exact (kZ HB.out));(case aL=>have:=LMc24.out;omega);intro v240 w26 ho hb hg hat;rw [← Ny239.out] at ho;replace HO_3:=mk0 (Kd.R_over' (rR HO_3.out) (Kd.R_typed (rR HO_4.out)) (by decide) hg);replace BK233:=mk0 (blk_grown (kN BK233.out) hg (Kd.R_away HO_4.out (fun _ hk=>hk)));replace HB:=mk0 (hb);have HO241:=mk0 (ho);clear HO_4 ho hb hg hat));try go_wp2_with (first|((with_reducible refine gate_builtin (b:=.append) (xs:=#[.tmp 60,.tmp 62]) rfl ?_);at_builtin;refine Kd.R_append k27 (w0:=w) w.heap.size rfl (.tmp 60) (.tmp 62) 39 27 (.agg #[(.int .i64 0),(.int .i64 0),(.int .i64 0)]) 24 rfl Try.underlying39 info27 rfl (by decide) (by omega) u4 x4_1 (⟨x234000_5,x234001_3,(rd t229 x5_1)⟩:S27) [.int .i64 x234000_5,.int .i64 x234001_3,.int .i64 (rd t229 x5_1)] (fun k_=>k_ ≠ gb233) (fun _=>False) rfl rfl ?aP (fun _ hk=>hk.elim) ?aF ?aO ?aB ?aS ?aL ?_;(case aP=>exact k27_mkM _ _ _ (⟨x234000_5,x234001_3,(rd t229 x5_1)⟩:S27));(case aB=>exact (kB HB.out));(case aF=>exact (fun k_ hk=>Kd.freshB (g:=gb233) (kN BK233.out) k_ hk));(case aO=>exact (rR HO_4.out));(case aS=>exact (kZ HB.out));(case aL=>have:=LMc24.out;omega);intro v240 w26 ho hb hg hat;rw [← Ny239.out] at ho;replace HO_3:=mk0 (Kd.R_over' (rR HO_3.out) (Kd.R_typed (rR HO_4.out)) (by decide) hg);replace BK233:=mk0 (blk_grown (kN BK233.out) hg (Kd.R_away HO_4.out (fun _ hk=>hk)));replace HB:=mk0 (hb);have HO241:=mk0 (ho);clear HO_4 ho hb hg hat)))
        go_roundg k3
        case measure=>have:=HK1.out;have:=HJ5.out;have:=HK3.out;omega
        case rel=>exact⟨(y239),(wrap64 (x5_1 + 1)),(by first|rfl|(simp;done)|(simp [*];done)),H',⟨by have:=HK1.out;have:=HJ5.out;have:=HK3.out;omega⟩,⟨rR (Kd.R_mono HO241.out (fun _ hk=>trivial))⟩,⟨rR HO_3.out⟩,⟨kB HB.out⟩⟩
       rw [if_pos c17] at H
       have c17b0:decide (x234001_3 < (t229.length:Int)) = true:=decide_eq_true c17
       clear c17
       by_cases c18:0 ≤ x234001_3
       rotate_left
       ·rw [if_neg c18] at H
        exact absurd H (by simp)
       rw [if_pos c18] at H
       have c18b0:decide (0 ≤ x234001_3) = true:=decide_eq_true c18
       clear c18
       by_cases c19:(rd t229 x234001_3) ≥ (rd t229 x5_1)
       ·rw [if_pos c19] at H
        have c19b0:decide ((rd t229 x5_1) ≤ (rd t229 x234001_3)) = true:=decide_eq_true c19
        clear c19
        have H':=mk0 H
        clear H
        obtain⟨hcz20_0,hcz20_1,hcz20_2,hfz20_0,hfz20_1,hfz20_2⟩:=cz3 BK233.out
        have p235:0 ≤ (x234001_3:Int):=of_decide_eq_true (by first|(with_reducible assumption)|assumption)
        have q235:x234001_3 < (t229.length:Int):=of_decide_eq_true (by first|(with_reducible assumption)|assumption)
        obtain⟨ad235,e235,hx235_0⟩:=Kd.at_int (Kd.R_reads' HO_3.out).2.2 x234001_3 p235 q235
        obtain rfl:ad232 = ad235:=(by injection e235)
        replace p235:=eq_true p235
        replace q235:=eq_true q235
        go_wp2
        repeat (go_quiet (fail);try go_wp2)
        go_roundg k3
        case measure=>have:=HK1.out;have:=HJ5.out;have:=HK3.out;omega
        case rel=>exact⟨(wrap64 (x234001_3 + 1)),H',⟨by have:=HK1.out;have:=HJ5.out;have:=HK3.out;omega⟩,⟨by (with_reducible repeat (first|apply aR|apply nR|apply dR));exact Kd.R_mono (Kd.R_far (p:=⟨gb233,1,none⟩) (Kd.R_types HO_3.out BK233.out (by decide)) (fun _ hk=>hk.2) (.int .i64 (wrap64 (x234001_3 + 1)))) (fun _ hk=>trivial)⟩,⟨by (with_reducible repeat (first|apply aR|apply nR|apply dR));exact Kd.R_mono (Kd.R_far (p:=⟨gb233,1,none⟩) (Kd.R_mono HO_4.out (fun k_ hk=>(⟨hk,hk⟩:_ ∧ k_ ≠ gb233))) (fun _ hk=>hk.2) (.int .i64 (wrap64 (x234001_3 + 1)))) (fun _ hk=>hk.1)⟩,⟨by (with_reducible repeat (first|apply nB|apply dB|apply aB));refine blk_put (cs:=#[.int .i64 x234000_5,.int .i64 x234001_3,.int .i64 (rd t229 x5_1)]) ?_ 1 _ rfl;(with_reducible repeat (first|apply nB|apply dB|apply aB));exact BK233.out⟩,⟨kB HB.out⟩⟩
       rw [if_neg c19] at H
       have c19b0:decide ((rd t229 x5_1) ≤ (rd t229 x234001_3)) = false:=decide_eq_false c19
       clear c19
       by_cases c21:x4_1.length < 5864062014805
       rotate_left
       ·rw [if_neg c21] at H
        exact absurd H (by simp)
       rw [if_pos c21] at H
       have LMc21:=mk0 c21
       clear c21
       obtain⟨y236,hy236⟩:∃ y_:List (S27),y_ = (x4_1 ++ [(⟨x234000_5,x234001_3,(rd t229 x5_1)⟩:S27)]):=⟨_,rfl⟩
       replace H:(impl_stretches.l0 k3 y236 (wrap64 (x5_1 + 1)) t229) = some r:=by first|(rw [hy236];with_reducible exact H)|(have H2_:=(Option.bind_some _ _).symm.trans H;rw [hy236];with_reducible exact H2_)|(have H2_:=(Option.bind_some _ _).symm.trans H;with_reducible exact H2_)|with_reducible exact H|(rw [hy236];exact H)|exact H
       have Ny236:=mk0 hy236
       clear hy236
       have H':=mk0 H
       clear H
       obtain⟨hcz22_0,hcz22_1,hcz22_2,hfz22_0,hfz22_1,hfz22_2⟩:=cz3 BK233.out
       have p235:0 ≤ (x234001_3:Int):=of_decide_eq_true (by first|(with_reducible assumption)|assumption)
       have q235:x234001_3 < (t229.length:Int):=of_decide_eq_true (by first|(with_reducible assumption)|assumption)
       obtain⟨ad235,e235,hx235_0⟩:=Kd.at_int (Kd.R_reads' HO_3.out).2.2 x234001_3 p235 q235
       obtain rfl:ad232 = ad235:=(by injection e235)
       replace p235:=eq_true p235
       replace q235:=eq_true q235
       go_wp2_with (first|((with_reducible refine gate_builtin (b:=.append) (xs:=#[.tmp 60,.tmp 62]) rfl ?_);at_builtin;refine Kd.R_append k27 (w0:=w) w.heap.size rfl (.tmp 60) (.tmp 62) 39 27 (.agg #[(.int .i64 0),(.int .i64 0),(.int .i64 0)]) 24 rfl Try.underlying39 info27 rfl (by decide) (by omega) u4 x4_1 (⟨x234000_5,x234001_3,(rd t229 x5_1)⟩:S27) [.int .i64 x234000_5,.int .i64 x234001_3,.int .i64 (rd t229 x5_1)] (fun k_=>k_ ≠ gb233) (fun _=>False) rfl rfl ?aP (fun _ hk=>hk.elim) ?aF ?aO ?aB ?aS ?aL ?_;(case aP=>exact k27_mkM _ _ _ (⟨x234000_5,x234001_3,(rd t229 x5_1)⟩:S27));(case aB=>exact (kB HB.out));(case aF=>exact (fun k_ hk=>Kd.freshB (g:=gb233) (kN BK233.out) k_ hk));(case aO=>exact (rR HO_4.out));(case aS=>exact (kZ HB.out));(case aL=>have:=LMc21.out;omega);intro v237 w23 ho hb hg hat;rw [← Ny236.out] at ho;replace HO_3:=mk0 (Kd.R_over' (rR HO_3.out) (Kd.R_typed (rR HO_4.out)) (by decide) hg);replace BK233:=mk0 (blk_grown (kN BK233.out) hg (Kd.R_away HO_4.out (fun _ hk=>hk)));replace HB:=mk0 (hb);have HO238:=mk0 (ho);clear HO_4 ho hb hg hat))
       repeat (go_quiet (first|((with_reducible refine gate_builtin (b:=.append) (xs:=#[.tmp 60,.tmp 62]) rfl ?_);at_builtin;refine Kd.R_append k27 (w0:=w) w.heap.size rfl (.tmp 60) (.tmp 62) 39 27 (.agg #[(.int .i64 0),(.int .i64 0),(.int .i64 0)]) 24 rfl Try.underlying39 info27 rfl (by decide) (by omega) u4 x4_1 (⟨x234000_5,x234001_3,(rd t229 x5_1)⟩:S27) [.int .i64 x234000_5,.int .i64 x234001_3,.int .i64 (rd t229 x5_1)] (fun k_=>k_ ≠ gb233) (fun _=>False) rfl rfl ?aP (fun _ hk=>hk.elim) ?aF ?aO ?aB ?aS ?aL ?_;(case aP=>exact k27_mkM _ _ _ (⟨x234000_5,x234001_3,(rd t229 x5_1)⟩:S27));(case aB=>exact (kB HB.out));(case aF=>exact (fun k_ hk=>Kd.freshB (g:=gb233) (kN BK233.out) k_ hk));(case aO=>exact (rR HO_4.out));(case aS=>exact (kZ HB.out));(case aL=>have:=LMc21.out;omega);intro v237 w23 ho hb hg hat;rw [← Ny236.out] at ho;replace HO_3:=mk0 (Kd.R_over' (rR HO_3.out) (Kd.R_typed (rR HO_4.out)) (by decide) hg);replace BK233:=mk0 (blk_grown (kN BK233.out) hg (Kd.R_away HO_4.out (fun _ hk=>hk)));replace HB:=mk0 (hb);have HO238:=mk0 (ho);clear HO_4 ho hb hg hat));try go_wp2_with (first|((with_reducible refine gate_builtin (b:=.append) (xs:=#[.tmp 60,.tmp 62]) rfl ?_);at_builtin;refine Kd.R_append k27 (w0:=w) w.heap.size rfl (.tmp 60) (.tmp 62) 39 27 (.agg #[(.int .i64 0),(.int .i64 0),(.int .i64 0)]) 24 rfl Try.underlying39 info27 rfl (by decide) (by omega) u4 x4_1 (⟨x234000_5,x234001_3,(rd t229 x5_1)⟩:S27) [.int .i64 x234000_5,.int .i64 x234001_3,.int .i64 (rd t229 x5_1)] (fun k_=>k_ ≠ gb233) (fun _=>False) rfl rfl ?aP (fun _ hk=>hk.elim) ?aF ?aO ?aB ?aS ?aL ?_;(case aP=>exact k27_mkM _ _ _ (⟨x234000_5,x234001_3,(rd t229 x5_1)⟩:S27));(case aB=>exact (kB HB.out));(case aF=>exact (fun k_ hk=>Kd.freshB (g:=gb233) (kN BK233.out) k_ hk));(case aO=>exact (rR HO_4.out));(case aS=>exact (kZ HB.out));(case aL=>have:=LMc21.out;omega);intro v237 w23 ho hb hg hat;rw [← Ny236.out] at ho;replace HO_3:=mk0 (Kd.R_over' (rR HO_3.out) (Kd.R_typed (rR HO_4.out)) (by decide) hg);replace BK233:=mk0 (blk_grown (kN BK233.out) hg (Kd.R_away HO_4.out (fun _ hk=>hk)));replace HB:=mk0 (hb);have HO238:=mk0 (ho);clear HO_4 ho hb hg hat)))
       go_roundg k3
       case measure=>have:=HK1.out;have:=HJ5.out;have:=HK3.out;omega
       case rel=>exact⟨(y236),(wrap64 (x5_1 + 1)),(by first|rfl|(simp;done)|(simp [*];done)),H',⟨by have:=HK1.out;have:=HJ5.out;have:=HK3.out;omega⟩,⟨rR (Kd.R_mono HO238.out (fun _ hk=>trivial))⟩,⟨rR HO_3.out⟩,⟨kB HB.out⟩⟩
/-! ### impl_StretchAll: function 26 -/
def impl_StretchAll.f (k : Nat) (l0 : List Int) : Option ((List (S27))) := (impl_TextOk.f l0).bind fun t246 => (if t246 = true then ((impl_stretches.f k l0).bind fun t247 => (some t247)) else (some ([] : List (S27))))
theorem impl_StretchAll.mono : ∀ a0 k, LeO (impl_StretchAll.f k a0) (impl_StretchAll.f (k + 1) a0) := by
 intro a0 k
 unfold impl_StretchAll.f
 repeat' first|(with_reducible first|exact impl_stretches.mono _ _|exact LeO.refl _|exact LeO.none _|refine LeO.ite ?_ ?_|refine LeO.bind ?_ (fun _ => ?_))|exact LeO.none _|refine LeO.ite ?_ ?_|refine LeO.bind ?_ (fun _ => ?_)
set_option maxHeartbeats 8000000 in
set_option maxRecDepth 100000 in
theorem impl_StretchAll.calls (k : Nat) (A0 : Option Addr) (c0 : Nat) (l0 : List Int) (r : List (S27)) (w : World) (hr0 : Kd.C (Kd.int .u8) w A0 l0.length l0) (hc0 : l0.length ≤ c0) (h : impl_StretchAll.f k l0 = some r) :
  Calls Try.prog 26 #[.slice A0 l0.length c0] w fun e w' => ∃ v0_ : Value, e = .returned (v0_) ∧ Kd.R k27 27 w' w.heap.size (fun _ => True) v0_ r ∧ Below w.heap.size w w' := by
 have HR0:=mk0 hr0
 have HC0:=mk0 hc0
 clear hr0 hc0
 have HB:=mk0 (Below.refl w.heap.size w)
 have H:((impl_TextOk.f l0).bind fun t246=>(if t246 = true then ((impl_stretches.f k l0).bind fun t247=>(some t247)) else (some ([]:List (S27))))) = some r:=h
 clear h
 replace H:=Option.bind_eq_some_iff.mp H
 obtain⟨t246,A20,H⟩:=H
 replace H:(if t246 = true then ((impl_stretches.f k l0).bind fun t247=>(some t247)) else (some ([]:List (S27)))) = some r:=H
 have A2:=mk0 A20
 clear A20
 by_cases c3:t246 = true
 ·subst c3
  have H1:((impl_stretches.f k l0).bind fun t247=>(some t247)) = some r:=by rw [if_pos rfl] at H;exact H
  clear H
  have H:=H1
  clear H1
  replace H:=Option.bind_eq_some_iff.mp H
  obtain⟨t247,A40,H⟩:=H
  replace H:(some t247) = some r:=H
  have A4:=mk0 A40
  clear A40
  obtain rfl:=Option.some.inj H
  go_enter Try.func26,Try.ntmps26
  go_wp2_with (first|((with_reducible refine gate_callee (f:=39) rfl ?_);refine goesL_ (some 4) rfl rfl Try.func39 (by kernel_rfl) rfl #[.slice A0 l0.length c0] rfl (by (try simp only [mA,mC,mN]);first|done|rfl|(simp only [List.length_drop,List.length_take];done)|(simp only [List.length_drop,List.length_take];rfl)) ?_;(with_reducible refine (impl_TextOk.calls _ _ l0 true _ ?side1 ?side2 A2.out).mono ?_);(case side1=>repeat (first|exact HR0.out|(with_reducible first|apply aC|apply nC|apply dC)));(case side2=>exact HC0.out);rintro e w' ⟨rfl,⟨nd,rfl⟩⟩;refine⟨_,rfl,?_⟩)|((with_reducible refine gate_callee (f:=53) rfl ?_);refine goesL_ (some 7) rfl rfl Try.func53 (by kernel_rfl) rfl #[.slice A0 l0.length c0] rfl (by (try simp only [mA,mC,mN]);first|done|rfl|(simp only [List.length_drop,List.length_take];done)|(simp only [List.length_drop,List.length_take];rfl)) ?_;(with_reducible refine (impl_stretches.calls k _ _ l0 t247 _ ?side1 ?side2 A4.out).mono ?_);(case side1=>repeat (first|exact HR0.out|(with_reducible first|apply aC|apply nC|apply dC)));(case side2=>exact HC0.out);rintro e w5 ⟨v248,rfl,ho0,hb⟩;refine⟨_,rfl,?_⟩;have HO249:=mk0 (Kd.R_lower ho0 (kZ HB.out));replace HB:=mk0 (kS HB.out hb);(try clear hb);(try clear ho0)))
  go_ret
  exact⟨_,by first|rfl|(simp [errW_none,errW_some] <;> rfl)|(simp [*,errW_none,errW_some] <;> rfl),rR HO249.out,kB HB.out⟩
 ·replace c3:=Bool.eq_false_iff.mpr c3
  subst c3
  have H1:(some ([]:List (S27))) = some r:=by rw [if_neg (show ¬ (false = true) by decide)] at H;exact H
  clear H
  have H:=H1
  clear H1
  obtain rfl:=Option.some.inj H
  go_enter Try.func26,Try.ntmps26
  go_wp2_with (first|((with_reducible refine gate_callee (f:=39) rfl ?_);refine goesL_ (some 4) rfl rfl Try.func39 (by kernel_rfl) rfl #[.slice A0 l0.length c0] rfl (by (try simp only [mA,mC,mN]);first|done|rfl|(simp only [List.length_drop,List.length_take];done)|(simp only [List.length_drop,List.length_take];rfl)) ?_;(with_reducible refine (impl_TextOk.calls _ _ l0 false _ ?side1 ?side2 A2.out).mono ?_);(case side1=>repeat (first|exact HR0.out|(with_reducible first|apply aC|apply nC|apply dC)));(case side2=>exact HC0.out);rintro e w' ⟨rfl,⟨nd,rfl⟩⟩;refine⟨_,rfl,?_⟩))
  go_ret
  exact⟨_,by first|rfl|(simp [errW_none,errW_some] <;> rfl)|(simp [*,errW_none,errW_some] <;> rfl),by first|exact Kd.R_nil _ _ _ _ _|exact Kd.N_nil _ _ _ _ _|exact Kd.V_nil _ _ _ _ _|exact Kd.Q_nil _ _ _ _ _|exact Kd.S_nil _ _ _ _ _,kB HB.out⟩

/-! ### laws_eqStretch: function 22 -/
def laws_eqStretch.f (a0_0 : Int) (a0_1 : Int) (a0_2 : Int) (a1_0 : Int) (a1_1 : Int) (a1_2 : Int) : Option (Bool) := if a0_0 = a1_0 then (if a0_1 = a1_1 then (if a0_2 = a1_2 then (some true) else (some false)) else (some false)) else (some false)
set_option maxHeartbeats 8000000 in
set_option maxRecDepth 100000 in
theorem laws_eqStretch.calls (a0_0 : Int) (a0_1 : Int) (a0_2 : Int) (a1_0 : Int) (a1_1 : Int) (a1_2 : Int) (r : Bool) (w : World) (h : laws_eqStretch.f a0_0 a0_1 a0_2 a1_0 a1_1 a1_2 = some r) :
  Calls Try.prog 22 #[.agg #[.int .i64 a0_0, .int .i64 a0_1, .int .i64 a0_2], .agg #[.int .i64 a1_0, .int .i64 a1_1, .int .i64 a1_2]] w fun e w' => e = .returned (.bool r) ∧ Below w.heap.size w w' := by
 have hu27:=Try.underlying27
 have HB:=mk0 (Below.refl w.heap.size w)
 have H:(if a0_0 = a1_0 then (if a0_1 = a1_1 then (if a0_2 = a1_2 then (some true) else (some false)) else (some false)) else (some false)) = some r:=h
 clear h
 by_cases c3:a0_0 = a1_0
 ·rw [if_pos c3] at H
  have c3b0:(a0_0 == a1_0) = true:=beq_iff_eq.mpr c3
  have c3b1:(a0_0 != a1_0) = false:=bne_eq_false_iff_eq.mpr c3
  clear c3
  by_cases c4:a0_1 = a1_1
  ·rw [if_pos c4] at H
   have c4b0:(a0_1 == a1_1) = true:=beq_iff_eq.mpr c4
   have c4b1:(a0_1 != a1_1) = false:=bne_eq_false_iff_eq.mpr c4
   clear c4
   by_cases c5:a0_2 = a1_2
   ·rw [if_pos c5] at H
    have c5b0:(a0_2 == a1_2) = true:=beq_iff_eq.mpr c5
    have c5b1:(a0_2 != a1_2) = false:=bne_eq_false_iff_eq.mpr c5
    clear c5
    obtain rfl:=Option.some.inj H
    go_enter Try.func22,Try.ntmps22
    go_wp2_with (first|((with_reducible refine gate_dst (N:=2) rfl ?_);refine box_event ?hg (N:=2) ?hd (cs:=#[.int .i64 a0_0,.int .i64 a0_1,.int .i64 a0_2]) (t:=27) ?hr ?_;(case hd=>rfl);(case hg=>rfl);(case hr=>first|(go_simp;done)|(go_simp;rfl));intro gb250 hg w6 hbox hb;have BK250:=mk0 (hbox);have GW250:=mk0 ((by rw [hg];exact (kZ HB.out):w.heap.size ≤ gb250));have GE250:=mk0 ((by rw [hg];exact (kZ HB.out):w.heap.size ≤ gb250));replace HB:=mk0 (kS HB.out hb);clear hb hbox hg)|((with_reducible refine gate_dst (N:=3) rfl ?_);refine box_event ?hg (N:=3) ?hd (cs:=#[.int .i64 a1_0,.int .i64 a1_1,.int .i64 a1_2]) (t:=27) ?hr ?_;(case hd=>rfl);(case hg=>rfl);(case hr=>first|(go_simp;done)|(go_simp;rfl));intro gb251 hg w7 hbox hb;have BK251:=mk0 (hbox);have GW251:=mk0 ((by rw [hg];exact (kZ HB.out):w.heap.size ≤ gb251));have GE251:=mk0 ((by rw [hg];exact (kZ HB.out):w.heap.size ≤ gb251));replace HB:=mk0 (kS HB.out hb);have NB250_251:=mk0 ((by rw [hg];exact Nat.ne_of_lt (kL BK250.out):gb250 ≠ gb251));have NB251_250:=mk0 ((by rw [hg];exact Nat.ne_of_gt (kL BK250.out):gb251 ≠ gb250));replace BK250:=mk0 (kK BK250.out hb);clear hb hbox hg;have hnb8:=NB250_251.out;have hnc8:=NB251_250.out;obtain⟨hcz9_0,hcz9_1,hcz9_2,hfz9_0,hfz9_1,hfz9_2⟩:=cz3 BK250.out;obtain⟨hcz10_0,hcz10_1,hcz10_2,hfz10_0,hfz10_1,hfz10_2⟩:=cz3 BK251.out))
    go_ret
    exact⟨by first|rfl|(simp [errW_none,errW_some] <;> rfl)|(simp [*,errW_none,errW_some] <;> rfl),kB HB.out⟩
   ·rw [if_neg c5] at H
    have c5b0:(a0_2 == a1_2) = false:=beq_eq_false_iff_ne.mpr c5
    have c5b1:(a0_2 != a1_2) = true:=bne_iff_ne.mpr c5
    obtain rfl:=Option.some.inj H
    go_enter Try.func22,Try.ntmps22
    go_wp2_with (first|((with_reducible refine gate_dst (N:=2) rfl ?_);refine box_event ?hg (N:=2) ?hd (cs:=#[.int .i64 a0_0,.int .i64 a0_1,.int .i64 a0_2]) (t:=27) ?hr ?_;(case hd=>rfl);(case hg=>rfl);(case hr=>first|(go_simp;done)|(go_simp;rfl));intro gb250 hg w11 hbox hb;have BK250:=mk0 (hbox);have GW250:=mk0 ((by rw [hg];exact (kZ HB.out):w.heap.size ≤ gb250));have GE250:=mk0 ((by rw [hg];exact (kZ HB.out):w.heap.size ≤ gb250));replace HB:=mk0 (kS HB.out hb);clear hb hbox hg)|((with_reducible refine gate_dst (N:=3) rfl ?_);refine box_event ?hg (N:=3) ?hd (cs:=#[.int .i64 a1_0,.int .i64 a1_1,.int .i64 a1_2]) (t:=27) ?hr ?_;(case hd=>rfl);(case hg=>rfl);(case hr=>first|(go_simp;done)|(go_simp;rfl));intro gb251 hg w12 hbox hb;have BK251:=mk0 (hbox);have GW251:=mk0 ((by rw [hg];exact (kZ HB.out):w.heap.size ≤ gb251));have GE251:=mk0 ((by rw [hg];exact (kZ HB.out):w.heap.size ≤ gb251));replace HB:=mk0 (kS HB.out hb);have NB250_251:=mk0 ((by rw [hg];exact Nat.ne_of_lt (kL BK250.out):gb250 ≠ gb251));have NB251_250:=mk0 ((by rw [hg];exact Nat.ne_of_gt (kL BK250.out):gb251 ≠ gb250));replace BK250:=mk0 (kK BK250.out hb);clear hb hbox hg;have hnb13:=NB250_251.out;have hnc13:=NB251_250.out;obtain⟨hcz14_0,hcz14_1,hcz14_2,hfz14_0,hfz14_1,hfz14_2⟩:=cz3 BK250.out;obtain⟨hcz15_0,hcz15_1,hcz15_2,hfz15_0,hfz15_1,hfz15_2⟩:=cz3 BK251.out))
    go_ret
    exact⟨by first|rfl|(simp [errW_none,errW_some] <;> rfl)|(simp [*,errW_none,errW_some] <;> rfl),kB HB.out⟩
  ·rw [if_neg c4] at H
   have c4b0:(a0_1 == a1_1) = false:=beq_eq_false_iff_ne.mpr c4
   have c4b1:(a0_1 != a1_1) = true:=bne_iff_ne.mpr c4
   obtain rfl:=Option.some.inj H
   go_enter Try.func22,Try.ntmps22
   go_wp2_with (first|((with_reducible refine gate_dst (N:=2) rfl ?_);refine box_event ?hg (N:=2) ?hd (cs:=#[.int .i64 a0_0,.int .i64 a0_1,.int .i64 a0_2]) (t:=27) ?hr ?_;(case hd=>rfl);(case hg=>rfl);(case hr=>first|(go_simp;done)|(go_simp;rfl));intro gb250 hg w16 hbox hb;have BK250:=mk0 (hbox);have GW250:=mk0 ((by rw [hg];exact (kZ HB.out):w.heap.size ≤ gb250));have GE250:=mk0 ((by rw [hg];exact (kZ HB.out):w.heap.size ≤ gb250));replace HB:=mk0 (kS HB.out hb);clear hb hbox hg)|((with_reducible refine gate_dst (N:=3) rfl ?_);refine box_event ?hg (N:=3) ?hd (cs:=#[.int .i64 a1_0,.int .i64 a1_1,.int .i64 a1_2]) (t:=27) ?hr ?_;(case hd=>rfl);(case hg=>rfl);(case hr=>first|(go_simp;done)|(go_simp;rfl));intro gb251 hg w17 hbox hb;have BK251:=mk0 (hbox);have GW251:=mk0 ((by rw [hg];exact (kZ HB.out):w.heap.size ≤ gb251));have GE251:=mk0 ((by rw [hg];exact (kZ HB.out):w.heap.size ≤ gb251));replace HB:=mk0 (kS HB.out hb);have NB250_251:=mk0 ((by rw [hg];exact Nat.ne_of_lt (kL BK250.out):gb250 ≠ gb251));have NB251_250:=mk0 ((by rw [hg];exact Nat.ne_of_gt (kL BK250.out):gb251 ≠ gb250));replace BK250:=mk0 (kK BK250.out hb);clear hb hbox hg;have hnb18:=NB250_251.out;have hnc18:=NB251_250.out;obtain⟨hcz19_0,hcz19_1,hcz19_2,hfz19_0,hfz19_1,hfz19_2⟩:=cz3 BK250.out;obtain⟨hcz20_0,hcz20_1,hcz20_2,hfz20_0,hfz20_1,hfz20_2⟩:=cz3 BK251.out))
   go_ret
   exact⟨by first|rfl|(simp [errW_none,errW_some] <;> rfl)|(simp [*,errW_none,errW_some] <;> rfl),kB HB.out⟩
 ·rw [if_neg c3] at H
  have c3b0:(a0_0 == a1_0) = false:=beq_eq_false_iff_ne.mpr c3
  have c3b1:(a0_0 != a1_0) = true:=bne_iff_ne.mpr c3
  obtain rfl:=Option.some.inj H
  go_enter Try.func22,Try.ntmps22
  go_wp2_with (first|((with_reducible refine gate_dst (N:=2) rfl ?_);refine box_event ?hg (N:=2) ?hd (cs:=#[.int .i64 a0_0,.int .i64 a0_1,.int .i64 a0_2]) (t:=27) ?hr ?_;(case hd=>rfl);(case hg=>rfl);(case hr=>first|(go_simp;done)|(go_simp;rfl));intro gb250 hg w21 hbox hb;have BK250:=mk0 (hbox);have GW250:=mk0 ((by rw [hg];exact (kZ HB.out):w.heap.size ≤ gb250));have GE250:=mk0 ((by rw [hg];exact (kZ HB.out):w.heap.size ≤ gb250));replace HB:=mk0 (kS HB.out hb);clear hb hbox hg)|((with_reducible refine gate_dst (N:=3) rfl ?_);refine box_event ?hg (N:=3) ?hd (cs:=#[.int .i64 a1_0,.int .i64 a1_1,.int .i64 a1_2]) (t:=27) ?hr ?_;(case hd=>rfl);(case hg=>rfl);(case hr=>first|(go_simp;done)|(go_simp;rfl));intro gb251 hg w22 hbox hb;have BK251:=mk0 (hbox);have GW251:=mk0 ((by rw [hg];exact (kZ HB.out):w.heap.size ≤ gb251));have GE251:=mk0 ((by rw [hg];exact (kZ HB.out):w.heap.size ≤ gb251));replace HB:=mk0 (kS HB.out hb);have NB250_251:=mk0 ((by rw [hg];exact Nat.ne_of_lt (kL BK250.out):gb250 ≠ gb251));have NB251_250:=mk0 ((by rw [hg];exact Nat.ne_of_gt (kL BK250.out):gb251 ≠ gb250));replace BK250:=mk0 (kK BK250.out hb);clear hb hbox hg;have hnb23:=NB250_251.out;have hnc23:=NB251_250.out;obtain⟨hcz24_0,hcz24_1,hcz24_2,hfz24_0,hfz24_1,hfz24_2⟩:=cz3 BK250.out;obtain⟨hcz25_0,hcz25_1,hcz25_2,hfz25_0,hfz25_1,hfz25_2⟩:=cz3 BK251.out))
  go_ret
  exact⟨by first|rfl|(simp [errW_none,errW_some] <;> rfl)|(simp [*,errW_none,errW_some] <;> rfl),kB HB.out⟩

/-! ### laws_eqStretchS: function 27 -/
def laws_eqStretchS.l0 : Nat → List (S27) → List (S27) → Int → Option (Bool)
 | 0, _, _, _ => none
 | k + 1, x0, x1, x5 => if x5 < (x0.length : Int) then (if 0 ≤ x5 then (if x5 < (x1.length : Int) then ((laws_eqStretch.f ((rd_T27 x0 x5).f0) ((rd_T27 x0 x5).f1) ((rd_T27 x0 x5).f2) ((rd_T27 x1 x5).f0) ((rd_T27 x1 x5).f1) ((rd_T27 x1 x5).f2)).bind fun t254 => (if t254 = true then (laws_eqStretchS.l0 k x0 x1 (wrap64 (x5 + 1))) else (some false))) else (none)) else (none)) else (some true)
def laws_eqStretchS.f (k : Nat) (l0 : List (S27)) (l1 : List (S27)) : Option (Bool) := if (l0.length : Int) = (l1.length : Int) then (laws_eqStretchS.l0 k l0 l1 0) else (some false)
theorem laws_eqStretchS.mono_l : ∀ k, (∀ y0 y1 y2, LeO (laws_eqStretchS.l0 k y0 y1 y2) (laws_eqStretchS.l0 (k + 1) y0 y1 y2))
 | 0 => fun _ _ _ r h => by simp [laws_eqStretchS.l0] at h
 | k + 1 => by
  have ih0 := laws_eqStretchS.mono_l k
  ·intro y0 y1 y2
   unfold laws_eqStretchS.l0
   repeat' first|(with_reducible first|exact ih0 _ _ _|exact LeO.refl _|exact LeO.none _|refine LeO.ite ?_ ?_|refine LeO.bind ?_ (fun _ => ?_))|exact LeO.none _|refine LeO.ite ?_ ?_|refine LeO.bind ?_ (fun _ => ?_)
theorem laws_eqStretchS.mono : ∀ a0 a1 k, LeO (laws_eqStretchS.f k a0 a1) (laws_eqStretchS.f (k + 1) a0 a1) := by
 intro a0 a1 k
 have ih0 := laws_eqStretchS.mono_l k
 unfold laws_eqStretchS.f
 repeat' first|(with_reducible first|exact ih0 _ _ _|exact LeO.refl _|exact LeO.none _|refine LeO.ite ?_ ?_|refine LeO.bind ?_ (fun _ => ?_))|exact LeO.none _|refine LeO.ite ?_ ?_|refine LeO.bind ?_ (fun _ => ?_)
def laws_eqStretchS.T6 : Bool × List (List Nat × List Nat) := (true, [([], []), ([], []), ([0, 1], [0, 1]), ([2], [2]), ([], []), ([], []), ([4, 5], [4, 5]), ([6], [6]), ([3, 7], [3, 7]), ([8], [8])])
def laws_eqStretchS.B6 : List Nat := [0, 0, 3, 7, 0, 0, 48, 112, 255, 511]
theorem laws_eqStretchS.tab6 : rtab .any (opsOf Try.f27 6) = laws_eqStretchS.T6 := by kernel_rfl
theorem laws_eqStretchS.bits6 : waitsOk laws_eqStretchS.T6.2 laws_eqStretchS.B6 = true := by kernel_rfl
abbrev laws_eqStretchS.m0 : Array Bool := #[F,F,F,F,F,F,F,F,F,F]
abbrev laws_eqStretchS.m1 : Array Bool := #[T,F,F,F,F,F,F,F,F,F]
abbrev laws_eqStretchS.m2 : Array Bool := #[T,T,F,F,F,F,F,F,F,F]
abbrev laws_eqStretchS.m3 : Array Bool := #[T,T,T,F,F,F,F,F,F,F]
abbrev laws_eqStretchS.m4 : Array Bool := #[T,T,T,F,T,F,F,F,F,F]
abbrev laws_eqStretchS.m5 : Array Bool := #[T,T,T,F,T,T,F,F,F,F]
abbrev laws_eqStretchS.m6 : Array Bool := #[T,T,T,F,T,T,T,F,F,F]
abbrev laws_eqStretchS.m7 : Array Bool := #[T,T,T,T,T,T,T,F,F,F]
abbrev laws_eqStretchS.m8 : Array Bool := #[T,T,T,T,T,T,T,T,F,F]
abbrev laws_eqStretchS.m9 : Array Bool := #[T,T,T,T,T,T,T,T,T,F]
abbrev laws_eqStretchS.m10 : Array Bool := #[T,T,T,T,T,T,T,T,T,T]
set_option maxHeartbeats 8000000 in
set_option maxRecDepth 100000 in
theorem laws_eqStretchS.calls (k : Nat) (A0 : Option Addr) (c0 : Nat) (l0 : List (S27)) (A1 : Option Addr) (c1 : Nat) (l1 : List (S27)) (r : Bool) (w : World) (hr0 : Kd.C k27 w A0 l0.length l0) (hc0 : l0.length ≤ c0) (hr1 : Kd.C k27 w A1 l1.length l1) (hc1 : l1.length ≤ c1) (h : laws_eqStretchS.f k l0 l1 = some r) :
  Calls Try.prog 27 #[.slice A0 l0.length c0, .slice A1 l1.length c1] w fun e w' => e = .returned (.bool r) ∧ Below w.heap.size w w' := by
 have hu27:=Try.underlying27
 have HR0:=mk0 hr0
 have HC0:=mk0 hc0
 clear hr0 hc0
 have HR1:=mk0 hr1
 have HC1:=mk0 hc1
 clear hr1 hc1
 have HB:=mk0 (Below.refl w.heap.size w)
 have H:(if (l0.length:Int) = (l1.length:Int) then (laws_eqStretchS.l0 k l0 l1 0) else (some false)) = some r:=h
 clear h
 by_cases c3:(l0.length:Int) = (l1.length:Int)
 rotate_left
 ·rw [if_neg c3] at H
  have c3b0:((l0.length:Int) == (l1.length:Int)) = false:=beq_eq_false_iff_ne.mpr c3
  have c3b1:((l0.length:Int) != (l1.length:Int)) = true:=bne_iff_ne.mpr c3
  have c3b2:(l0.length == l1.length) = false:=by first|simpa using c3|(simp at c3 ⊢;omega)
  obtain rfl:=Option.some.inj H
  go_enter Try.func27,Try.ntmps27
  go_wp2
  go_ret
  exact⟨by first|rfl|(simp [errW_none,errW_some] <;> rfl)|(simp [*,errW_none,errW_some] <;> rfl),kB HB.out⟩

 rw [if_pos c3] at H
 have c3b0:((l0.length:Int) == (l1.length:Int)) = true:=beq_iff_eq.mpr c3
 have c3b1:((l0.length:Int) != (l1.length:Int)) = false:=bne_eq_false_iff_eq.mpr c3
 have c3b2:(l0.length == l1.length) = true:=by first|simpa using c3|(simp at c3 ⊢;omega)
 clear c3
 have H':=mk0 H
 clear H
 go_enter Try.func27,Try.ntmps27
 go_wp2
 go_loopg [5] k (fun kq v5 w'=>∃ (x5_1:Int),v5 = .int .i64 x5_1 ∧ Aside0 (laws_eqStretchS.l0 kq l0 l1 x5_1 = some r) ∧ Aside0 (kq ≤ k) ∧ Aside0 (Below w.heap.size w w'))
 case atStart=>exact⟨(0),(by first|rfl|(simp;done)|(simp [*];done)),H',⟨Nat.le_refl _⟩,⟨kB HB.out⟩⟩
 case round =>
  clear H'
  try clear c1
  try clear c2
  try clear p2
  try clear c3
  try clear c3b0
  try clear c3b1
  try clear c3b2
  obtain⟨x5_1,rfl,HA,HK1,HB⟩:=hrel
  cases gk with
  | zero=>exact absurd HA.out (by simp [laws_eqStretchS.l0])
  | succ k1 =>
   have H:=HA.out
   clear HA
   simp only [laws_eqStretchS.l0] at H
   by_cases c4:x5_1 < (l0.length:Int)
   rotate_left
   ·rw [if_neg c4] at H
    have c4b0:decide (x5_1 < (l0.length:Int)) = false:=decide_eq_false c4
    clear c4
    obtain rfl:=Option.some.inj H
    go_wp2
    go_ret
    exact⟨by first|rfl|(simp [errW_none,errW_some] <;> rfl)|(simp [*,errW_none,errW_some] <;> rfl),kB HB.out⟩
   rw [if_pos c4] at H
   have c4b0:decide (x5_1 < (l0.length:Int)) = true:=decide_eq_true c4
   clear c4
   by_cases c5:0 ≤ x5_1
   rotate_left
   ·rw [if_neg c5] at H
    exact absurd H (by simp)
   rw [if_pos c5] at H
   have c5b0:decide (0 ≤ x5_1) = true:=decide_eq_true c5
   clear c5
   by_cases c6:x5_1 < (l1.length:Int)
   rotate_left
   ·rw [if_neg c6] at H
    exact absurd H (by simp)
   rw [if_pos c6] at H
   have c6b0:decide (x5_1 < (l1.length:Int)) = true:=decide_eq_true c6
   clear c6
   replace H:=Option.bind_eq_some_iff.mp H
   obtain⟨t254,A70,H⟩:=H
   replace H:(if t254 = true then (laws_eqStretchS.l0 k1 l0 l1 (wrap64 (x5_1 + 1))) else (some false)) = some r:=H
   have A7:=mk0 A70
   clear A70
   by_cases c8:t254 = true
   rotate_left
   ·replace c8:=Bool.eq_false_iff.mpr c8
    subst c8
    have H1:(some false) = some r:=by rw [if_neg (show ¬ (false = true) by decide)] at H;exact H
    clear H
    have H:=H1
    clear H1
    obtain rfl:=Option.some.inj H
    try go_wp2
    replace HB:=mk0 (dZ HB.out)
    have p252:0 ≤ (x5_1:Int):=of_decide_eq_true (by first|(with_reducible assumption)|assumption)
    have q252:x5_1 < (l0.length:Int):=of_decide_eq_true (by first|(with_reducible assumption)|assumption)
    obtain⟨ad252,e252,hx252_0,hx252_1,hx252_2⟩:=at_T27 HR0.out x5_1 p252 q252
    have hw252_2:=hx252_2
    have hw252_1:=hx252_1
    have hw252_0:=hx252_0
    cases e252
    replace hx252_0:=(HB.out.cell (World.block_lt_of_cell? w _ hx252_0)).trans hx252_0
    replace hx252_1:=(HB.out.cell (World.block_lt_of_cell? w _ hx252_1)).trans hx252_1
    replace hx252_2:=(HB.out.cell (World.block_lt_of_cell? w _ hx252_2)).trans hx252_2
    replace p252:=eq_true p252
    replace q252:=eq_true q252
    have p253:0 ≤ (x5_1:Int):=of_decide_eq_true (by first|(with_reducible assumption)|assumption)
    have q253:x5_1 < (l1.length:Int):=of_decide_eq_true (by first|(with_reducible assumption)|assumption)
    obtain⟨ad253,e253,hx253_0,hx253_1,hx253_2⟩:=at_T27 HR1.out x5_1 p253 q253
    have hw253_2:=hx253_2
    have hw253_1:=hx253_1
    have hw253_0:=hx253_0
    cases e253
    replace hx253_0:=(HB.out.cell (World.block_lt_of_cell? w _ hx253_0)).trans hx253_0
    replace hx253_1:=(HB.out.cell (World.block_lt_of_cell? w _ hx253_1)).trans hx253_1
    replace hx253_2:=(HB.out.cell (World.block_lt_of_cell? w _ hx253_2)).trans hx253_2
    replace p253:=eq_true p253
    replace q253:=eq_true q253
    refine start_ (n:=10) (S:=fun w'=>w'.cell? (ad252.add ((x5_1).toNat * 3)) = some (.int .i64 ((rd_T27 l0 x5_1).f0)) ∧ w'.cell? ⟨(ad252.add ((x5_1).toNat * 3)).block,(ad252.add ((x5_1).toNat * 3)).off + 1,none⟩ = some (.int .i64 ((rd_T27 l0 x5_1).f1)) ∧ w'.cell? ⟨(ad252.add ((x5_1).toNat * 3)).block,(ad252.add ((x5_1).toNat * 3)).off + 2,none⟩ = some (.int .i64 ((rd_T27 l0 x5_1).f2)) ∧ w'.cell? (ad253.add ((x5_1).toNat * 3)) = some (.int .i64 ((rd_T27 l1 x5_1).f0)) ∧ w'.cell? ⟨(ad253.add ((x5_1).toNat * 3)).block,(ad253.add ((x5_1).toNat * 3)).off + 1,none⟩ = some (.int .i64 ((rd_T27 l1 x5_1).f1)) ∧ w'.cell? ⟨(ad253.add ((x5_1).toNat * 3)).block,(ad253.add ((x5_1).toNat * 3)).off + 2,none⟩ = some (.int .i64 ((rd_T27 l1 x5_1).f2))) (ds:=[]) laws_eqStretchS.m0 (by kernel_rfl) rfl rfl ⟨((HB.out.cell (World.block_lt_of_cell? w _ hw252_0)).trans hw252_0),((HB.out.cell (World.block_lt_of_cell? w _ hw252_1)).trans hw252_1),((HB.out.cell (World.block_lt_of_cell? w _ hw252_2)).trans hw252_2),((HB.out.cell (World.block_lt_of_cell? w _ hw253_0)).trans hw253_0),((HB.out.cell (World.block_lt_of_cell? w _ hw253_1)).trans hw253_1),((HB.out.cell (World.block_lt_of_cell? w _ hw253_2)).trans hw253_2)⟩ (fun hHeld=>?_);refine with_tabW laws_eqStretchS.tab6 laws_eqStretchS.bits6 (fun HT_ HW_=>?_)
    generalize wr.drew = w11 at HB hx252_0 hx252_1 hx252_2 hx253_0 hx253_1 hx253_2 hHeld ⊢
    refine pure_ (i:=0) (N:=some 17) (v:=?_) (a':=?_) laws_eqStretchS.m1 rfl rfl (any_of HT_.out (by kernel_rfl)) (fun _ _ _ h=>h) (Or.inl ⟨by rfl,?_⟩) ?_ ?_
    rotate_left
    ·intro w'
     go_simp
     with_reducible rfl
    rotate_left
    ·simp only [Act.put,sA,sO,sS,i64_w,i32_w]
     rfl
    refine pure_ (i:=1) (N:=some 18) (v:=?_) (a':=?_) laws_eqStretchS.m2 rfl rfl (any_of HT_.out (by kernel_rfl)) (fun _ _ _ h=>h) (Or.inl ⟨by rfl,?_⟩) ?_ ?_
    rotate_left
    ·intro w'
     go_simp
     with_reducible rfl
    rotate_left
    ·simp only [Act.put,sA,sO,sS,i64_w,i32_w]
     rfl
    refine pure_ (i:=2) (N:=some 19) (v:=?_) (a':=?_) laws_eqStretchS.m3 rfl rfl (any_of HT_.out (by kernel_rfl)) (fun _ _ _ h=>h) (Or.inl ⟨by rfl,?_⟩) ?_ ?_
    rotate_left
    ·intro w'
     go_simp
     with_reducible rfl
    rotate_left
    ·simp only [Act.put,sA,sO,sS,i64_w,i32_w]
     rfl
    refine pure_ (i:=4) (N:=some 21) (v:=?_) (a':=?_) laws_eqStretchS.m4 rfl rfl (any_of HT_.out (by kernel_rfl)) (fun _ _ _ h=>h) (Or.inl ⟨by rfl,?_⟩) ?_ ?_
    rotate_left
    ·intro w'
     go_simp
     with_reducible rfl
    rotate_left
    ·simp only [Act.put,sA,sO,sS,i64_w,i32_w]
     rfl
    refine pure_ (i:=5) (N:=some 22) (v:=?_) (a':=?_) laws_eqStretchS.m5 rfl rfl (any_of HT_.out (by kernel_rfl)) (fun _ _ _ h=>h) (Or.inl ⟨by rfl,?_⟩) ?_ ?_
    rotate_left
    ·intro w'
     go_simp
     with_reducible rfl
    rotate_left
    ·simp only [Act.put,sA,sO,sS,i64_w,i32_w]
     rfl
    refine pure_ (i:=6) (N:=some 23) (v:=?_) (a':=?_) laws_eqStretchS.m6 rfl rfl (any_of HT_.out (by kernel_rfl)) (fun _ _ _ h=>h) (Or.inl ⟨by rfl,?_⟩) ?_ ?_
    rotate_left
    ·intro w'
     go_simp
     with_reducible rfl
    rotate_left
    ·simp only [Act.put,sA,sO,sS,i64_w,i32_w]
     rfl
    refine take_ (i:=3) (N:=some 20) (v:=?_) (a':=?_) laws_eqStretchS.m7 rfl rfl (take_ofW HT_.out HW_.out (by kernel_rfl)) (fun _ _ _ h=>h) (Or.inl ⟨by rfl,?_⟩) hHeld ?_ ?_
    rotate_left
    ·rintro w' ⟨s0,s1,s2,s3,s4,s5⟩
     go_simp
     with_reducible rfl
    rotate_left
    ·simp only [Act.put,sA,sO,sS,i64_w,i32_w]
     rfl
    refine take_ (i:=7) (N:=some 24) (v:=?_) (a':=?_) laws_eqStretchS.m8 rfl rfl (take_ofW HT_.out HW_.out (by kernel_rfl)) (fun _ _ _ h=>h) (Or.inl ⟨by rfl,?_⟩) hHeld ?_ ?_
    rotate_left
    ·rintro w' ⟨s0,s1,s2,s3,s4,s5⟩
     go_simp
     with_reducible rfl
    rotate_left
    ·simp only [Act.put,sA,sO,sS,i64_w,i32_w]
     rfl
    refine one_ (i:=8) (N:=some 25) laws_eqStretchS.m9 rfl rfl (one_of HT_.out (by kernel_rfl)) (by decide) (fun K hK=>?_)
    refine goes_ Try.func22 (by kernel_rfl) rfl #[.agg #[.int .i64 ((rd_T27 l0 x5_1).f0),.int .i64 ((rd_T27 l0 x5_1).f1),.int .i64 ((rd_T27 l0 x5_1).f2)],.agg #[.int .i64 ((rd_T27 l1 x5_1).f0),.int .i64 ((rd_T27 l1 x5_1).f1),.int .i64 ((rd_T27 l1 x5_1).f2)]] (by rfl) rfl rfl (by (try simp only [mA,mC,mN]);first|done|rfl|(simp only [List.length_drop,List.length_take];done)|(simp only [List.length_drop,List.length_take];rfl)) ?_
    with_reducible refine (laws_eqStretch.calls ((rd_T27 l0 x5_1).f0) ((rd_T27 l0 x5_1).f1) ((rd_T27 l0 x5_1).f2) ((rd_T27 l1 x5_1).f0) ((rd_T27 l1 x5_1).f1) ((rd_T27 l1 x5_1).f2) false _ A7.out).mono ?_
    rintro e w12 ⟨rfl,hb⟩
    refine⟨_,rfl,?_⟩
    replace HB:=mk0 (kS HB.out hb)
    (try clear hb)
    refine hK.out _ _ ⟨((HB.out.cell (World.block_lt_of_cell? w _ hw252_0)).trans hw252_0),((HB.out.cell (World.block_lt_of_cell? w _ hw252_1)).trans hw252_1),((HB.out.cell (World.block_lt_of_cell? w _ hw252_2)).trans hw252_2),((HB.out.cell (World.block_lt_of_cell? w _ hw253_0)).trans hw253_0),((HB.out.cell (World.block_lt_of_cell? w _ hw253_1)).trans hw253_1),((HB.out.cell (World.block_lt_of_cell? w _ hw253_2)).trans hw253_2)⟩ (fun hHeld=>?_)
    clear hK K
    refine norm_ (a':=?_) ?_ ?_
    rotate_left
    ·show Act.put _ (some 25) _ = _
     simp only [Act.put,sA,sO,sS,i64_w,i32_w]
     rfl
    refine pure_ (i:=9) (N:=some 26) (v:=?_) (a':=?_) laws_eqStretchS.m10 rfl rfl (any_of HT_.out (by kernel_rfl)) (fun _ _ _ h=>h) (Or.inl ⟨by rfl,?_⟩) ?_ ?_
    rotate_left
    ·intro w'
     go_simp
     with_reducible rfl
    rotate_left
    ·simp only [Act.put,sA,sO,sS,i64_w,i32_w]
     rfl
    refine done_ (done_of HT_.out (by kernel_rfl)) ?_
    try go_wp2
    go_ret
    exact⟨by first|rfl|(simp [errW_none,errW_some] <;> rfl)|(simp [*,errW_none,errW_some] <;> rfl),kB HB.out⟩
   subst c8
   have H1:(laws_eqStretchS.l0 k1 l0 l1 (wrap64 (x5_1 + 1))) = some r:=by rw [if_pos rfl] at H;exact H
   clear H
   have H:=H1
   clear H1
   have H':=mk0 H
   clear H
   try go_wp2
   replace HB:=mk0 (dZ HB.out)
   have p252:0 ≤ (x5_1:Int):=of_decide_eq_true (by first|(with_reducible assumption)|assumption)
   have q252:x5_1 < (l0.length:Int):=of_decide_eq_true (by first|(with_reducible assumption)|assumption)
   obtain⟨ad252,e252,hx252_0,hx252_1,hx252_2⟩:=at_T27 HR0.out x5_1 p252 q252
   have hw252_2:=hx252_2
   have hw252_1:=hx252_1
   have hw252_0:=hx252_0
   cases e252
   replace hx252_0:=(HB.out.cell (World.block_lt_of_cell? w _ hx252_0)).trans hx252_0
   replace hx252_1:=(HB.out.cell (World.block_lt_of_cell? w _ hx252_1)).trans hx252_1
   replace hx252_2:=(HB.out.cell (World.block_lt_of_cell? w _ hx252_2)).trans hx252_2
   replace p252:=eq_true p252
   replace q252:=eq_true q252
   have p253:0 ≤ (x5_1:Int):=of_decide_eq_true (by first|(with_reducible assumption)|assumption)
   have q253:x5_1 < (l1.length:Int):=of_decide_eq_true (by first|(with_reducible assumption)|assumption)
   obtain⟨ad253,e253,hx253_0,hx253_1,hx253_2⟩:=at_T27 HR1.out x5_1 p253 q253
   have hw253_2:=hx253_2
   have hw253_1:=hx253_1
   have hw253_0:=hx253_0
   cases e253
   replace hx253_0:=(HB.out.cell (World.block_lt_of_cell? w _ hx253_0)).trans hx253_0
   replace hx253_1:=(HB.out.cell (World.block_lt_of_cell? w _ hx253_1)).trans hx253_1
   replace hx253_2:=(HB.out.cell (World.block_lt_of_cell? w _ hx253_2)).trans hx253_2
   replace p253:=eq_true p253
   replace q253:=eq_true q253
   refine start_ (n:=10) (S:=fun w'=>w'.cell? (ad252.add ((x5_1).toNat * 3)) = some (.int .i64 ((rd_T27 l0 x5_1).f0)) ∧ w'.cell? ⟨(ad252.add ((x5_1).toNat * 3)).block,(ad252.add ((x5_1).toNat * 3)).off + 1,none⟩ = some (.int .i64 ((rd_T27 l0 x5_1).f1)) ∧ w'.cell? ⟨(ad252.add ((x5_1).toNat * 3)).block,(ad252.add ((x5_1).toNat * 3)).off + 2,none⟩ = some (.int .i64 ((rd_T27 l0 x5_1).f2)) ∧ w'.cell? (ad253.add ((x5_1).toNat * 3)) = some (.int .i64 ((rd_T27 l1 x5_1).f0)) ∧ w'.cell? ⟨(ad253.add ((x5_1).toNat * 3)).block,(ad253.add ((x5_1).toNat * 3)).off + 1,none⟩ = some (.int .i64 ((rd_T27 l1 x5_1).f1)) ∧ w'.cell? ⟨(ad253.add ((x5_1).toNat * 3)).block,(ad253.add ((x5_1).toNat * 3)).off + 2,none⟩ = some (.int .i64 ((rd_T27 l1 x5_1).f2))) (ds:=[]) laws_eqStretchS.m0 (by kernel_rfl) rfl rfl ⟨((HB.out.cell (World.block_lt_of_cell? w _ hw252_0)).trans hw252_0),((HB.out.cell (World.block_lt_of_cell? w _ hw252_1)).trans hw252_1),((HB.out.cell (World.block_lt_of_cell? w _ hw252_2)).trans hw252_2),((HB.out.cell (World.block_lt_of_cell? w _ hw253_0)).trans hw253_0),((HB.out.cell (World.block_lt_of_cell? w _ hw253_1)).trans hw253_1),((HB.out.cell (World.block_lt_of_cell? w _ hw253_2)).trans hw253_2)⟩ (fun hHeld=>?_);refine with_tabW laws_eqStretchS.tab6 laws_eqStretchS.bits6 (fun HT_ HW_=>?_)
   generalize wr.drew = w9 at HB hx252_0 hx252_1 hx252_2 hx253_0 hx253_1 hx253_2 hHeld ⊢
   refine pure_ (i:=0) (N:=some 17) (v:=?_) (a':=?_) laws_eqStretchS.m1 rfl rfl (any_of HT_.out (by kernel_rfl)) (fun _ _ _ h=>h) (Or.inl ⟨by rfl,?_⟩) ?_ ?_
   rotate_left
   ·intro w'
    go_simp
    with_reducible rfl
   rotate_left
   ·simp only [Act.put,sA,sO,sS,i64_w,i32_w]
    rfl
   refine pure_ (i:=1) (N:=some 18) (v:=?_) (a':=?_) laws_eqStretchS.m2 rfl rfl (any_of HT_.out (by kernel_rfl)) (fun _ _ _ h=>h) (Or.inl ⟨by rfl,?_⟩) ?_ ?_
   rotate_left
   ·intro w'
    go_simp
    with_reducible rfl
   rotate_left
   ·simp only [Act.put,sA,sO,sS,i64_w,i32_w]
    rfl
   refine pure_ (i:=2) (N:=some 19) (v:=?_) (a':=?_) laws_eqStretchS.m3 rfl rfl (any_of HT_.out (by kernel_rfl)) (fun _ _ _ h=>h) (Or.inl ⟨by rfl,?_⟩) ?_ ?_
   rotate_left
   ·intro w'
    go_simp
    with_reducible rfl
   rotate_left
   ·simp only [Act.put,sA,sO,sS,i64_w,i32_w]
    rfl
   refine pure_ (i:=4) (N:=some 21) (v:=?_) (a':=?_) laws_eqStretchS.m4 rfl rfl (any_of HT_.out (by kernel_rfl)) (fun _ _ _ h=>h) (Or.inl ⟨by rfl,?_⟩) ?_ ?_
   rotate_left
   ·intro w'
    go_simp
    with_reducible rfl
   rotate_left
   ·simp only [Act.put,sA,sO,sS,i64_w,i32_w]
    rfl
   refine pure_ (i:=5) (N:=some 22) (v:=?_) (a':=?_) laws_eqStretchS.m5 rfl rfl (any_of HT_.out (by kernel_rfl)) (fun _ _ _ h=>h) (Or.inl ⟨by rfl,?_⟩) ?_ ?_
   rotate_left
   ·intro w'
    go_simp
    with_reducible rfl
   rotate_left
   ·simp only [Act.put,sA,sO,sS,i64_w,i32_w]
    rfl
   refine pure_ (i:=6) (N:=some 23) (v:=?_) (a':=?_) laws_eqStretchS.m6 rfl rfl (any_of HT_.out (by kernel_rfl)) (fun _ _ _ h=>h) (Or.inl ⟨by rfl,?_⟩) ?_ ?_
   rotate_left
   ·intro w'
    go_simp
    with_reducible rfl
   rotate_left
   ·simp only [Act.put,sA,sO,sS,i64_w,i32_w]
    rfl
   refine take_ (i:=3) (N:=some 20) (v:=?_) (a':=?_) laws_eqStretchS.m7 rfl rfl (take_ofW HT_.out HW_.out (by kernel_rfl)) (fun _ _ _ h=>h) (Or.inl ⟨by rfl,?_⟩) hHeld ?_ ?_
   rotate_left
   ·rintro w' ⟨s0,s1,s2,s3,s4,s5⟩
    go_simp
    with_reducible rfl
   rotate_left
   ·simp only [Act.put,sA,sO,sS,i64_w,i32_w]
    rfl
   refine take_ (i:=7) (N:=some 24) (v:=?_) (a':=?_) laws_eqStretchS.m8 rfl rfl (take_ofW HT_.out HW_.out (by kernel_rfl)) (fun _ _ _ h=>h) (Or.inl ⟨by rfl,?_⟩) hHeld ?_ ?_
   rotate_left
   ·rintro w' ⟨s0,s1,s2,s3,s4,s5⟩
    go_simp
    with_reducible rfl
   rotate_left
   ·simp only [Act.put,sA,sO,sS,i64_w,i32_w]
    rfl
   refine one_ (i:=8) (N:=some 25) laws_eqStretchS.m9 rfl rfl (one_of HT_.out (by kernel_rfl)) (by decide) (fun K hK=>?_)
   refine goes_ Try.func22 (by kernel_rfl) rfl #[.agg #[.int .i64 ((rd_T27 l0 x5_1).f0),.int .i64 ((rd_T27 l0 x5_1).f1),.int .i64 ((rd_T27 l0 x5_1).f2)],.agg #[.int .i64 ((rd_T27 l1 x5_1).f0),.int .i64 ((rd_T27 l1 x5_1).f1),.int .i64 ((rd_T27 l1 x5_1).f2)]] (by rfl) rfl rfl (by (try simp only [mA,mC,mN]);first|done|rfl|(simp only [List.length_drop,List.length_take];done)|(simp only [List.length_drop,List.length_take];rfl)) ?_
   with_reducible refine (laws_eqStretch.calls ((rd_T27 l0 x5_1).f0) ((rd_T27 l0 x5_1).f1) ((rd_T27 l0 x5_1).f2) ((rd_T27 l1 x5_1).f0) ((rd_T27 l1 x5_1).f1) ((rd_T27 l1 x5_1).f2) true _ A7.out).mono ?_
   rintro e w10 ⟨rfl,hb⟩
   refine⟨_,rfl,?_⟩
   replace HB:=mk0 (kS HB.out hb)
   (try clear hb)
   refine hK.out _ _ ⟨((HB.out.cell (World.block_lt_of_cell? w _ hw252_0)).trans hw252_0),((HB.out.cell (World.block_lt_of_cell? w _ hw252_1)).trans hw252_1),((HB.out.cell (World.block_lt_of_cell? w _ hw252_2)).trans hw252_2),((HB.out.cell (World.block_lt_of_cell? w _ hw253_0)).trans hw253_0),((HB.out.cell (World.block_lt_of_cell? w _ hw253_1)).trans hw253_1),((HB.out.cell (World.block_lt_of_cell? w _ hw253_2)).trans hw253_2)⟩ (fun hHeld=>?_)
   clear hK K
   refine norm_ (a':=?_) ?_ ?_
   rotate_left
   ·show Act.put _ (some 25) _ = _
    simp only [Act.put,sA,sO,sS,i64_w,i32_w]
    rfl
   refine pure_ (i:=9) (N:=some 26) (v:=?_) (a':=?_) laws_eqStretchS.m10 rfl rfl (any_of HT_.out (by kernel_rfl)) (fun _ _ _ h=>h) (Or.inl ⟨by rfl,?_⟩) ?_ ?_
   rotate_left
   ·intro w'
    go_simp
    with_reducible rfl
   rotate_left
   ·simp only [Act.put,sA,sO,sS,i64_w,i32_w]
    rfl
   refine done_ (done_of HT_.out (by kernel_rfl)) ?_
   try go_wp2
   go_roundg k1
   case measure=>have:=HK1.out;omega
   case rel=>exact⟨(wrap64 (x5_1 + 1)),(by first|rfl|(simp;done)|(simp [*];done)),H',⟨by have:=HK1.out;omega⟩,⟨kB HB.out⟩⟩
end Go.Proofs.Ytoinagnieobbpaa.QFnExactStretchAll
