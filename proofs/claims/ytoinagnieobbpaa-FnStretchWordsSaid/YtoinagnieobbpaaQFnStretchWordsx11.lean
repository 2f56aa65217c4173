-- A walk, made by walk.py, a program of this session's.
import Derived.Test.YtoinagnieobbpaaQFnStretchWordsx0
import Derived.Test.YtoinagnieobbpaaQFnStretchWordsx1
import Derived.Test.YtoinagnieobbpaaQFnStretchWordsx7
import Derived.Test.YtoinagnieobbpaaQFnStretchWordsx10
namespace Go.Proofs.Ytoinagnieobbpaa.QFnStretchWords
open Go.RowKit Go.Proofs.YtoinagnieobbpaaW.PrintWords Go.Proofs.YtoinagnieobbpaaW.PrintLast Go.Proofs.YtoinagnieobbpaaW.PrintMore
attribute [local go_sem] max2_int min2_int max_two min_two max_three min_three max_four min_four   -- for this text's walks alone
set_option linter.unusedVariables false
set_option linter.unusedSimpArgs false

attribute [local go_sem high] eqA27
/-! ### impl_stretches: function 53 -/
mutual
def impl_stretches.l0 : Nat → List (S27) → Int → List Int → Option ((List (S27)))
 | 0, _, _, _ => none
 | k + 1, x4, x5, x8 => if x5 < (x8.length : Int) then (if 0 ≤ x5 then (impl_stretches.l1 k x4 x5 x8 (wrap64 (x5 - 1)) (wrap64 (x5 + 1)) (rd x8 x5)) else (none)) else ((slices_SortFunc_72.f x4).bind fun t305 => ((impl_Stretch_73.f t305).bind fun t306 => (some t306)))
def impl_stretches.j2 : Nat → List Int → List (S27) → Int → Int → Int → Int → Option ((List (S27)))
 | 0, _, _, _, _, _, _ => none
 | k + 1, x3, x4, x5, x297000, x297001, x297002 => impl_stretches.l2 k x3 x4 x5 x297000 x297001 x297002
def impl_stretches.l2 : Nat → List Int → List (S27) → Int → Int → Int → Int → Option ((List (S27)))
 | 0, _, _, _, _, _, _ => none
 | k + 1, x3, x4, x5, x297000, x297001, x297002 => if x297001 < (x3.length : Int) then (if 0 ≤ x297001 then (if (rd x3 x297001) ≥ x297002 then (impl_stretches.l2 k x3 x4 x5 x297000 (wrap64 (x297001 + 1)) x297002) else (if x4.length < 5864062014805 then (impl_stretches.l0 k (x4 ++ [(⟨x297000, x297001, x297002⟩ : S27)]) (wrap64 (x5 + 1)) x3) else (none))) else (none)) else (if x4.length < 5864062014805 then (impl_stretches.l0 k (x4 ++ [(⟨x297000, x297001, x297002⟩ : S27)]) (wrap64 (x5 + 1)) x3) else (none))
def impl_stretches.l1 : Nat → List (S27) → Int → List Int → Int → Int → Int → Option ((List (S27)))
 | 0, _, _, _, _, _, _ => none
 | k + 1, x4, x5, x8, x297000, x297001, x297002 => if x297000 > 0 then (if 0 ≤ x297000 then (if x297000 < (x8.length : Int) then (if (rd x8 x297000) ≥ x297002 then (impl_stretches.l1 k x4 x5 x8 (wrap64 (x297000 - 1)) x297001 x297002) else (impl_stretches.j2 k x8 x4 x5 x297000 x297001 x297002)) else (none)) else (none)) else (impl_stretches.j2 k x8 x4 x5 x297000 x297001 x297002)
end
def impl_stretches.f (k : Nat) (l0 : List Int) : Option ((List (S27))) := (impl_lcpRows.f k l0).bind fun t292 => (impl_stretches.l0 k ([] : List (S27)) 1 t292)
theorem impl_stretches.mono_l : ∀ k, (∀ y0 y1 y2, LeO (impl_stretches.l0 k y0 y1 y2) (impl_stretches.l0 (k + 1) y0 y1 y2)) ∧ (∀ y0 y1 y2 y3 y4 y5, LeO (impl_stretches.j2 k y0 y1 y2 y3 y4 y5) (impl_stretches.j2 (k + 1) y0 y1 y2 y3 y4 y5)) ∧ (∀ y0 y1 y2 y3 y4 y5, LeO (impl_stretches.l2 k y0 y1 y2 y3 y4 y5) (impl_stretches.l2 (k + 1) y0 y1 y2 y3 y4 y5)) ∧ (∀ y0 y1 y2 y3 y4 y5, LeO (impl_stretches.l1 k y0 y1 y2 y3 y4 y5) (impl_stretches.l1 (k + 1) y0 y1 y2 y3 y4 y5))
 | 0 => ⟨fun _ _ _ r h => by simp [impl_stretches.l0] at h, fun _ _ _ _ _ _ r h => by simp [impl_stretches.j2] at h, fun _ _ _ _ _ _ r h => by simp [impl_stretches.l2] at h, fun _ _ _ _ _ _ r h => by simp [impl_stretches.l1] at h⟩
 | k + 1 => by
  obtain ⟨ih0, ih1, ih2, ih3⟩ := impl_stretches.mono_l k
  refine ⟨?_, ?_, ?_, ?_⟩
  ·intro y0 y1 y2
   unfold impl_stretches.l0
   repeat' first|(with_reducible first|exact ih0 _ _ _|exact ih1 _ _ _ _ _ _|exact ih2 _ _ _ _ _ _|exact ih3 _ _ _ _ _ _|exact impl_lcpRows.mono _ _|exact LeO.refl _|exact LeO.none _|refine LeO.ite ?_ ?_|refine LeO.bind ?_ (fun _ => ?_))|exact LeO.none _|refine LeO.ite ?_ ?_|refine LeO.bind ?_ (fun _ => ?_)
  ·intro y0 y1 y2 y3 y4 y5
   unfold impl_stretches.j2
   repeat' first|(with_reducible first|exact ih0 _ _ _|exact ih1 _ _ _ _ _ _|exact ih2 _ _ _ _ _ _|exact ih3 _ _ _ _ _ _|exact impl_lcpRows.mono _ _|exact LeO.refl _|exact LeO.none _|refine LeO.ite ?_ ?_|refine LeO.bind ?_ (fun _ => ?_))|exact LeO.none _|refine LeO.ite ?_ ?_|refine LeO.bind ?_ (fun _ => ?_)
  ·intro y0 y1 y2 y3 y4 y5
   unfold impl_stretches.l2
   repeat' first|(with_reducible first|exact ih0 _ _ _|exact ih1 _ _ _ _ _ _|exact ih2 _ _ _ _ _ _|exact ih3 _ _ _ _ _ _|exact impl_lcpRows.mono _ _|exact LeO.refl _|exact LeO.none _|refine LeO.ite ?_ ?_|refine LeO.bind ?_ (fun _ => ?_))|exact LeO.none _|refine LeO.ite ?_ ?_|refine LeO.bind ?_ (fun _ => ?_)
  ·intro y0 y1 y2 y3 y4 y5
   unfold impl_stretches.l1
   repeat' first|(with_reducible first|exact ih0 _ _ _|exact ih1 _ _ _ _ _ _|exact ih2 _ _ _ _ _ _|exact ih3 _ _ _ _ _ _|exact impl_lcpRows.mono _ _|exact LeO.refl _|exact LeO.none _|refine LeO.ite ?_ ?_|refine LeO.bind ?_ (fun _ => ?_))|exact LeO.none _|refine LeO.ite ?_ ?_|refine LeO.bind ?_ (fun _ => ?_)
theorem impl_stretches.mono : ∀ a0 k, LeO (impl_stretches.f k a0) (impl_stretches.f (k + 1) a0) := by
 intro a0 k
 obtain ⟨ih0, ih1, ih2, ih3⟩ := impl_stretches.mono_l k
 unfold impl_stretches.f
 repeat' first|(with_reducible first|exact ih0 _ _ _|exact ih1 _ _ _ _ _ _|exact ih2 _ _ _ _ _ _|exact ih3 _ _ _ _ _ _|exact impl_lcpRows.mono _ _|exact LeO.refl _|exact LeO.none _|refine LeO.ite ?_ ?_|refine LeO.bind ?_ (fun _ => ?_))|exact LeO.none _|refine LeO.ite ?_ ?_|refine LeO.bind ?_ (fun _ => ?_)
set_option maxHeartbeats 8000000 in
set_option maxRecDepth 100000 in
theorem impl_stretches.calls (k : Nat) (A0 : Option Addr) (c0 : Nat) (l0 : List Int) (r : List (S27)) (w : World) (hr0 : Kd.C (Kd.int .u8) w A0 l0.length l0) (hc0 : l0.length ≤ c0) (h : impl_stretches.f k l0 = some r) :
  Calls Try.prog 53 #[.slice A0 l0.length c0] w fun e w' => ∃ v0_ : Value, e = .returned (v0_) ∧ Kd.R k27 27 w' w.heap.size (fun _ => True) v0_ r ∧ Below w.heap.size w w' := by
 have hu27:=Try.underlying27
 have HR0:=mk0 hr0
 have HC0:=mk0 hc0
 clear hr0 hc0
 have HB:=mk0 (Below.refl w.heap.size w)
 have H:((impl_lcpRows.f k l0).bind fun t292=>(impl_stretches.l0 k ([]:List (S27)) 1 t292)) = some r:=h
 clear h
 replace H:=Option.bind_eq_some_iff.mp H
 obtain⟨t292,A20,H⟩:=H
 replace H:(impl_stretches.l0 k ([]:List (S27)) 1 t292) = some r:=H
 have A2:=mk0 A20
 clear A20
 have H':=mk0 H
 clear H
 go_enter Try.func53,Try.ntmps53
 go_wp2_with (first|(go_at_call 41;(with_reducible refine (impl_lcpRows.calls k _ _ l0 t292 _ ?side1 ?side2 A2.out).mono ?_);(case side1=>repeat (first|exact HR0.out|(with_reducible first|apply aC|apply nC|apply dC)));(case side2=>exact HC0.out);rintro e w3 ⟨v293,rfl,ho0,hb⟩;have HO294:=mk0 (Kd.R_lower ho0 (kZ HB.out));replace HB:=mk0 (kS HB.out hb);(try clear hb);(try clear ho0)))
 repeat (go_quiet (first|(go_at_call 41;(with_reducible refine (impl_lcpRows.calls k _ _ l0 t292 _ ?side1 ?side2 A2.out).mono ?_);(case side1=>repeat (first|exact HR0.out|(with_reducible first|apply aC|apply nC|apply dC)));(case side2=>exact HC0.out);rintro e w3 ⟨v293,rfl,ho0,hb⟩;have HO294:=mk0 (Kd.R_lower ho0 (kZ HB.out));replace HB:=mk0 (kS HB.out hb);(try clear hb);(try clear ho0)));try go_wp2_with (first|(go_at_call 41;(with_reducible refine (impl_lcpRows.calls k _ _ l0 t292 _ ?side1 ?side2 A2.out).mono ?_);(case side1=>repeat (first|exact HR0.out|(with_reducible first|apply aC|apply nC|apply dC)));(case side2=>exact HC0.out);rintro e w3 ⟨v293,rfl,ho0,hb⟩;have HO294:=mk0 (Kd.R_lower ho0 (kZ HB.out));replace HB:=mk0 (kS HB.out hb);(try clear hb);(try clear ho0))))
 go_loopg [4,5] k (fun kq v4 v5 w'=>∃ (x4_1:List (S27)) (x5_1:Int),v5 = .int .i64 x5_1 ∧ Aside0 (impl_stretches.l0 kq x4_1 x5_1 t292 = some r) ∧ Aside0 (kq ≤ k) ∧ Aside0 (Kd.R k27 27 w' w.heap.size (fun _=>True) v4 x4_1) ∧ Aside0 (Kd.R (Kd.int .i64) 3 w' w.heap.size (fun _=>True) v293 t292) ∧ Aside0 (Below w.heap.size w w'))
 case atStart=>exact⟨(([]:List (S27))),(1),(by first|rfl|(simp;done)|(simp [*];done)),H',⟨Nat.le_refl _⟩,⟨by first|exact Kd.R_nil _ _ _ _ _|exact Kd.N_nil _ _ _ _ _|exact Kd.V_nil _ _ _ _ _|exact Kd.Q_nil _ _ _ _ _|exact Kd.S_nil _ _ _ _ _⟩,⟨rR HO294.out⟩,⟨kB HB.out⟩⟩
 case round =>
  clear H'
  try clear p2
  obtain⟨x4_1,x5_1,rfl,HA,HK1,HO_4,HO_8,HB⟩:=hrel
  cases gk with
  | zero=>exact absurd HA.out (by simp [impl_stretches.l0])
  | succ k1 =>
   have H:=HA.out
   clear HA
   simp only [impl_stretches.l0] at H
   by_cases c4:x5_1 < (t292.length:Int)
   rotate_left
   ·rw [if_neg c4] at H
    have c4b0:decide (x5_1 < (t292.length:Int)) = false:=decide_eq_false c4
    clear c4
    replace H:=Option.bind_eq_some_iff.mp H
    obtain⟨t305,A270,H⟩:=H
    replace H:((impl_Stretch_73.f t305).bind fun t306=>(some t306)) = some r:=H
    have A27:=mk0 A270
    clear A270
    replace H:=Option.bind_eq_some_iff.mp H
    obtain⟨t306,A280,H⟩:=H
    replace H:(some t306) = some r:=H
    have A28:=mk0 A280
    clear A280
    obtain rfl:=Option.some.inj H
    obtain⟨Ao29,co29,eo29⟩:=Kd.R_slice HO_8.out
    subst eo29
    obtain⟨Ao30,co30,eo30⟩:=Kd.R_slice HO_4.out
    subst eo30
    go_wp2_with (first|(go_at_call 71;(with_reducible refine (slices_SortFunc_72.calls (fun k_=>some k_ = (.slice Ao30 x4_1.length co30:Value).ownBlock) (.slice Ao30 x4_1.length co30) x4_1 t305 w _ ?side1 ?side2 A27.out).mono ?_);(case side1=>repeat (first|(with_reducible first|exact HB.out|apply aZ|apply nZ|apply dZ)|exact HB.out));(case side2=>exact Kd.R_tight rfl HO_4.out);rintro e w31 ⟨rfl,hy0,hb,hkp⟩;replace HO_8:=mk0 (Kd.R_mono (ok':=fun k_=>True) (Kd.R_keptB ((Kd.R_apart' HO_8.out (Kd.R_typed HO_4.out) (by decide))) hkp (fun k_ hk_ hs_=>(hk_.2) hs_)) (fun k_ hk_=>trivial));replace HO_4:=mk0 (Kd.R_reok rfl hy0 (fun k_ e_=>HO_4.out.1 k_ e_));replace HB:=mk0 (hb);(try clear hb);(try clear hkp);(try clear hy0))|(go_at_call 73;(with_reducible refine (impl_Stretch_73.calls (fun k_=>some k_ = (.slice Ao30 x4_1.length co30:Value).ownBlock) (.slice Ao30 x4_1.length co30) t305 t306 w _ ?side1 ?side2 A28.out).mono ?_);(case side1=>repeat (first|(with_reducible first|exact HB.out|apply aZ|apply nZ|apply dZ)|exact HB.out));(case side2=>exact Kd.R_tight rfl HO_4.out);rintro e w32 ⟨v307,rfl,ho0,hb,hkp⟩;replace HO_8:=mk0 (Kd.R_mono (ok':=fun k_=>True) (Kd.R_keptB ((Kd.R_apart' HO_8.out (Kd.R_typed HO_4.out) (by decide))) hkp (fun k_ hk_ hs_=>(hk_.2) hs_)) (fun k_ hk_=>trivial));have HO308:=mk0 (Kd.R_mono (ok':=fun k_=>True) ho0 (fun k_ hk_=>trivial));replace HB:=mk0 (hb);clear HO_4;(try clear hb);(try clear hkp);(try clear ho0)))
    repeat (go_quiet (first|(go_at_call 71;(with_reducible refine (slices_SortFunc_72.calls (fun k_=>some k_ = (.slice Ao30 x4_1.length co30:Value).ownBlock) (.slice Ao30 x4_1.length co30) x4_1 t305 w _ ?side1 ?side2 A27.out).mono ?_);(case side1=>repeat (first|(with_reducible first|exact HB.out|apply aZ|apply nZ|apply dZ)|exact HB.out));(case side2=>exact Kd.R_tight rfl HO_4.out);rintro e w31 ⟨rfl,hy0,hb,hkp⟩;replace HO_8:=mk0 (Kd.R_mono (ok':=fun k_=>True) (Kd.R_keptB ((Kd.R_apart' HO_8.out (Kd.R_typed HO_4.out) (by decide))) hkp (fun k_ hk_ hs_=>(hk_.2) hs_)) (fun k_ hk_=>trivial));replace HO_4:=mk0 (Kd.R_reok rfl hy0 (fun k_ e_=>HO_4.out.1 k_ e_));replace HB:=mk0 (hb);(try clear hb);(try clear hkp);(try clear hy0))|(go_at_call 73;(with_reducible refine (impl_Stretch_73.calls (fun k_=>some k_ = (.slice Ao30 x4_1.length co30:Value).ownBlock) (.slice Ao30 x4_1.length co30) t305 t306 w _ ?side1 ?side2 A28.out).mono ?_);(case side1=>repeat (first|(with_reducible first|exact HB.out|apply aZ|apply nZ|apply dZ)|exact HB.out));(case side2=>exact Kd.R_tight rfl HO_4.out);rintro e w32 ⟨v307,rfl,ho0,hb,hkp⟩;replace HO_8:=mk0 (Kd.R_mono (ok':=fun k_=>True) (Kd.R_keptB ((Kd.R_apart' HO_8.out (Kd.R_typed HO_4.out) (by decide))) hkp (fun k_ hk_ hs_=>(hk_.2) hs_)) (fun k_ hk_=>trivial));have HO308:=mk0 (Kd.R_mono (ok':=fun k_=>True) ho0 (fun k_ hk_=>trivial));replace HB:=mk0 (hb);clear HO_4;(try clear hb);(try clear hkp);(try clear ho0)));try go_wp2_with (first|(go_at_call 71;(with_reducible refine (slices_SortFunc_72.calls (fun k_=>some k_ = (.slice Ao30 x4_1.length co30:Value).ownBlock) (.slice Ao30 x4_1.length co30) x4_1 t305 w _ ?side1 ?side2 A27.out).mono ?_);(case side1=>repeat (first|(with_reducible first|exact HB.out|apply aZ|apply nZ|apply dZ)|exact HB.out));(case side2=>exact Kd.R_tight rfl HO_4.out);rintro e w31 ⟨rfl,hy0,hb,hkp⟩;replace HO_8:=mk0 (Kd.R_mono (ok':=fun k_=>True) (Kd.R_keptB ((Kd.R_apart' HO_8.out (Kd.R_typed HO_4.out) (by decide))) hkp (fun k_ hk_ hs_=>(hk_.2) hs_)) (fun k_ hk_=>trivial));replace HO_4:=mk0 (Kd.R_reok rfl hy0 (fun k_ e_=>HO_4.out.1 k_ e_));replace HB:=mk0 (hb);(try clear hb);(try clear hkp);(try clear hy0))|(go_at_call 73;(with_reducible refine (impl_Stretch_73.calls (fun k_=>some k_ = (.slice Ao30 x4_1.length co30:Value).ownBlock) (.slice Ao30 x4_1.length co30) t305 t306 w _ ?side1 ?side2 A28.out).mono ?_);(case side1=>repeat (first|(with_reducible first|exact HB.out|apply aZ|apply nZ|apply dZ)|exact HB.out));(case side2=>exact Kd.R_tight rfl HO_4.out);rintro e w32 ⟨v307,rfl,ho0,hb,hkp⟩;replace HO_8:=mk0 (Kd.R_mono (ok':=fun k_=>True) (Kd.R_keptB ((Kd.R_apart' HO_8.out (Kd.R_typed HO_4.out) (by decide))) hkp (fun k_ hk_ hs_=>(hk_.2) hs_)) (fun k_ hk_=>trivial));have HO308:=mk0 (Kd.R_mono (ok':=fun k_=>True) ho0 (fun k_ hk_=>trivial));replace HB:=mk0 (hb);clear HO_4;(try clear hb);(try clear hkp);(try clear ho0))))
    go_ret
    exact⟨_,by first|rfl|(simp [errW_none,errW_some] <;> rfl)|(simp [*,errW_none,errW_some] <;> rfl),rR HO308.out,kB HB.out⟩

   rw [if_pos c4] at H
   have c4b0:decide (x5_1 < (t292.length:Int)) = true:=decide_eq_true c4
   clear c4
   by_cases c5:0 ≤ x5_1
   rotate_left
   ·rw [if_neg c5] at H
    exact absurd H (by simp)
   rw [if_pos c5] at H
   have c5b0:decide (0 ≤ x5_1) = true:=decide_eq_true c5
   clear c5
   have HC6:=mk0 H
   clear H
   obtain⟨Ao7,co7,eo7⟩:=Kd.R_slice HO_8.out
   subst eo7
   have p295:0 ≤ (x5_1:Int):=of_decide_eq_true (by first|(with_reducible assumption)|assumption)
   have q295:x5_1 < (t292.length:Int):=of_decide_eq_true (by first|(with_reducible assumption)|assumption)
   obtain⟨ad295,e295,hx295_0⟩:=Kd.at_int (Kd.R_reads' HO_8.out).2.2 x5_1 p295 q295
   cases e295
   replace p295:=eq_true p295
   replace q295:=eq_true q295
   go_upto_block 2 with (first|((with_reducible refine gate_dst (N:=6) rfl ?_);refine box_event ?hg (N:=6) ?hd (cs:=#[.int .i64 0,.int .i64 0,.int .i64 0]) (t:=27) ?hr ?_;(case hd=>rfl);(case hg=>rfl);(case hr=>first|(go_simp;done)|(go_simp;rfl));intro gb296 hg w8 hbox hb;replace HO_4:=mk0 (Kd.R_below (Kd.R_elderB (rR HO_4.out) gb296 (Nat.le_of_eq hg.symm)) hb);replace HO_8:=mk0 (bR HO_8.out hb);have BK296:=mk0 (hbox);have GW296:=mk0 ((by rw [hg];exact (kZ HB.out):w.heap.size ≤ gb296));have GE296:=mk0 ((by rw [hg];exact (kZ HB.out):w.heap.size ≤ gb296));replace HB:=mk0 (kS HB.out hb);clear hb hbox hg;obtain⟨hcz9_0,hcz9_1,hcz9_2,hfz9_0,hfz9_1,hfz9_2⟩:=cz3 BK296.out))
   repeat (go_quiet (first|((with_reducible refine gate_dst (N:=6) rfl ?_);refine box_event ?hg (N:=6) ?hd (cs:=#[.int .i64 0,.int .i64 0,.int .i64 0]) (t:=27) ?hr ?_;(case hd=>rfl);(case hg=>rfl);(case hr=>first|(go_simp;done)|(go_simp;rfl));intro gb296 hg w8 hbox hb;replace HO_4:=mk0 (Kd.R_below (Kd.R_elderB (rR HO_4.out) gb296 (Nat.le_of_eq hg.symm)) hb);replace HO_8:=mk0 (bR HO_8.out hb);have BK296:=mk0 (hbox);have GW296:=mk0 ((by rw [hg];exact (kZ HB.out):w.heap.size ≤ gb296));have GE296:=mk0 ((by rw [hg];exact (kZ HB.out):w.heap.size ≤ gb296));replace HB:=mk0 (kS HB.out hb);clear hb hbox hg;obtain⟨hcz9_0,hcz9_1,hcz9_2,hfz9_0,hfz9_1,hfz9_2⟩:=cz3 BK296.out));go_upto_block 2 with (first|((with_reducible refine gate_dst (N:=6) rfl ?_);refine box_event ?hg (N:=6) ?hd (cs:=#[.int .i64 0,.int .i64 0,.int .i64 0]) (t:=27) ?hr ?_;(case hd=>rfl);(case hg=>rfl);(case hr=>first|(go_simp;done)|(go_simp;rfl));intro gb296 hg w8 hbox hb;replace HO_4:=mk0 (Kd.R_below (Kd.R_elderB (rR HO_4.out) gb296 (Nat.le_of_eq hg.symm)) hb);replace HO_8:=mk0 (bR HO_8.out hb);have BK296:=mk0 (hbox);have GW296:=mk0 ((by rw [hg];exact (kZ HB.out):w.heap.size ≤ gb296));have GE296:=mk0 ((by rw [hg];exact (kZ HB.out):w.heap.size ≤ gb296));replace HB:=mk0 (kS HB.out hb);clear hb hbox hg;obtain⟨hcz9_0,hcz9_1,hcz9_2,hfz9_0,hfz9_1,hfz9_2⟩:=cz3 BK296.out)))
   (try simp only [Act.put,sA,sO,sS])
   go_cut [] (fun wc=>∃ (kq:Nat) (x297000_5:Int),Aside0 (impl_stretches.j2 kq t292 x4_1 x5_1 x297000_5 (wrap64 (x5_1 + 1)) (rd t292 x5_1) = some r) ∧ Aside0 (kq ≤ k1) ∧ Aside0 (Kd.R (Kd.int .i64) 3 wc w.heap.size (fun _=>True) (.slice (some ad295) t292.length co7) t292) ∧ Aside0 (Kd.R k27 27 wc w.heap.size (fun k_=>k_ ≠ gb296) u4 x4_1) ∧ Aside0 (wc.heap[gb296]? = some (.cells #[.int .i64 x297000_5,.int .i64 (wrap64 (x5_1 + 1)),.int .i64 (rd t292 x5_1)] 27 (0,0))) ∧ Aside0 (Below w.heap.size w wc))
   case first =>
    have H:=HC6.out
    clear HC6
    have H':=mk0 H
    clear H
    go_wp2
    repeat (go_quiet (fail);try go_wp2)
    go_loopg [] k1 (fun kq w'=>∃ (x297000_2:Int),Aside0 (impl_stretches.l1 kq x4_1 x5_1 t292 x297000_2 (wrap64 (x5_1 + 1)) (rd t292 x5_1) = some r) ∧ Aside0 (kq ≤ k1) ∧ Aside0 (Kd.R k27 27 w' w.heap.size (fun k_=>k_ ≠ gb296) u4 x4_1) ∧ Aside0 (Kd.R (Kd.int .i64) 3 w' w.heap.size (fun _=>True) (.slice (some ad295) t292.length co7) t292) ∧ Aside0 (w'.heap[gb296]? = some (.cells #[.int .i64 x297000_2,.int .i64 (wrap64 (x5_1 + 1)),.int .i64 (rd t292 x5_1)] 27 (0,0))) ∧ Aside0 (Below w.heap.size w w'))
    case atStart=>exact⟨(wrap64 (x5_1 - 1)),H',⟨Nat.le_refl _⟩,⟨by (with_reducible repeat (first|apply aR|apply nR|apply dR));exact Kd.R_mono (Kd.R_far (p:=⟨gb296,2,none⟩) (Kd.R_far (p:=⟨gb296,1,none⟩) (Kd.R_far (p:=⟨gb296,0,none⟩) (Kd.R_mono HO_4.out (fun k_ hk=>(⟨hk,hk.2⟩:_ ∧ k_ ≠ gb296))) (fun _ hk=>hk.2) (.int .i64 (wrap64 (x5_1 - 1)))) (fun _ hk=>hk.2) (.int .i64 (wrap64 (x5_1 + 1)))) (fun _ hk=>hk.2) (.int .i64 (rd t292 x5_1))) (fun _ hk=>hk.1.2)⟩,⟨by (with_reducible repeat (first|apply aR|apply nR|apply dR));exact Kd.R_mono (Kd.R_far (p:=⟨gb296,2,none⟩) (Kd.R_far (p:=⟨gb296,1,none⟩) (Kd.R_far (p:=⟨gb296,0,none⟩) (Kd.R_types HO_8.out BK296.out (by decide)) (fun _ hk=>hk.2) (.int .i64 (wrap64 (x5_1 - 1)))) (fun _ hk=>hk.2) (.int .i64 (wrap64 (x5_1 + 1)))) (fun _ hk=>hk.2) (.int .i64 (rd t292 x5_1))) (fun _ hk=>trivial)⟩,⟨by (with_reducible repeat (first|apply nB|apply dB|apply aB));refine blk_put (cs:=#[.int .i64 (wrap64 (x5_1 - 1)),.int .i64 (wrap64 (x5_1 + 1)),.int .i64 0]) ?_ 2 _ rfl;(with_reducible repeat (first|apply nB|apply dB|apply aB));refine blk_put (cs:=#[.int .i64 (wrap64 (x5_1 - 1)),.int .i64 0,.int .i64 0]) ?_ 1 _ rfl;(with_reducible repeat (first|apply nB|apply dB|apply aB));refine blk_put (cs:=#[.int .i64 0,.int .i64 0,.int .i64 0]) ?_ 0 _ rfl;(with_reducible repeat (first|apply nB|apply dB|apply aB));exact BK296.out⟩,⟨kB HB.out⟩⟩
    case round =>
     clear H'
     try clear p2
     try clear q2
     try clear hx2
     try clear c4
     try clear c4b0
     try clear c5
     try clear c5b0
     try clear p6
     try clear hcz9_0
     try clear hcz9_1
     try clear hcz9_2
     try clear hfz9_0
     try clear hfz9_1
     try clear hfz9_2
     try clear hx295_0
     try clear p2
     try clear p295
     try clear q295
     obtain⟨x297000_2,HA,HK2,HO_4,HO_8,BK296,HB⟩:=hrel
     cases gk with
     | zero=>exact absurd HA.out (by simp [impl_stretches.l1])
     | succ k2 =>
      have H:=HA.out
      clear HA
      simp only [impl_stretches.l1] at H
      by_cases c10:x297000_2 > 0
      rotate_left
      ·rw [if_neg c10] at H
       have c10b0:decide (0 < x297000_2) = false:=decide_eq_false c10
       clear c10
       (first|rw [c10b0]|(simp only [i64_w,i32_w];rw [c10b0])|skip)
       have H':=mk0 H
       clear H
       obtain⟨hcz16_0,hcz16_1,hcz16_2,hfz16_0,hfz16_1,hfz16_2⟩:=cz3 BK296.out
       go_wp2
       repeat (go_quiet (fail);try go_wp2)
       go_meet
       case rel=>exact⟨_,(x297000_2),H',⟨by have:=HK1.out;have:=HK2.out;first|omega|exact Nat.le_refl _⟩,⟨rR HO_8.out⟩,⟨rR HO_4.out⟩,⟨kN BK296.out⟩,⟨kB HB.out⟩⟩
      rw [if_pos c10] at H
      have c10b0:decide (0 < x297000_2) = true:=decide_eq_true c10
      clear c10
      (first|rw [c10b0]|(simp only [i64_w,i32_w];rw [c10b0])|skip)
      by_cases c11:0 ≤ x297000_2
      rotate_left
      ·rw [if_neg c11] at H
       exact absurd H (by simp)
      rw [if_pos c11] at H
      have c11b0:decide (0 ≤ x297000_2) = true:=decide_eq_true c11
      clear c11
      by_cases c12:x297000_2 < (t292.length:Int)
      rotate_left
      ·rw [if_neg c12] at H
       exact absurd H (by simp)
      rw [if_pos c12] at H
      have c12b0:decide (x297000_2 < (t292.length:Int)) = true:=decide_eq_true c12
      clear c12
      by_cases c13:(rd t292 x297000_2) ≥ (rd t292 x5_1)
      rotate_left
      ·rw [if_neg c13] at H
       have c13b0:decide ((rd t292 x5_1) ≤ (rd t292 x297000_2)) = false:=decide_eq_false c13
       clear c13
       have H':=mk0 H
       clear H
       obtain⟨hcz15_0,hcz15_1,hcz15_2,hfz15_0,hfz15_1,hfz15_2⟩:=cz3 BK296.out
       have p297:0 ≤ (x297000_2:Int):=of_decide_eq_true (by first|(with_reducible assumption)|assumption)
       have q297:x297000_2 < (t292.length:Int):=of_decide_eq_true (by first|(with_reducible assumption)|assumption)
       obtain⟨ad297,e297,hx297_0⟩:=Kd.at_int (Kd.R_reads' HO_8.out).2.2 x297000_2 p297 q297
       obtain rfl:ad295 = ad297:=(by injection e297)
       replace p297:=eq_true p297
       replace q297:=eq_true q297
       go_wp2
       repeat (go_quiet (fail);try go_wp2)
       go_meet
       case rel=>exact⟨_,(x297000_2),H',⟨by have:=HK1.out;have:=HK2.out;first|omega|exact Nat.le_refl _⟩,⟨rR HO_8.out⟩,⟨rR HO_4.out⟩,⟨kN BK296.out⟩,⟨kB HB.out⟩⟩
      rw [if_pos c13] at H
      have c13b0:decide ((rd t292 x5_1) ≤ (rd t292 x297000_2)) = true:=decide_eq_true c13
      clear c13
      have H':=mk0 H
      clear H
      obtain⟨hcz14_0,hcz14_1,hcz14_2,hfz14_0,hfz14_1,hfz14_2⟩:=cz3 BK296.out
      have p297:0 ≤ (x297000_2:Int):=of_decide_eq_true (by first|(with_reducible assumption)|assumption)
      have q297:x297000_2 < (t292.length:Int):=of_decide_eq_true (by first|(with_reducible assumption)|assumption)
      obtain⟨ad297,e297,hx297_0⟩:=Kd.at_int (Kd.R_reads' HO_8.out).2.2 x297000_2 p297 q297
      obtain rfl:ad295 = ad297:=(by injection e297)
      replace p297:=eq_true p297
      replace q297:=eq_true q297
      go_wp2
      repeat (go_quiet (fail);try go_wp2)
      go_roundg k2
      case measure=>have:=HK1.out;have:=HK2.out;omega
      case rel=>exact⟨(wrap64 (x297000_2 - 1)),H',⟨by have:=HK1.out;have:=HK2.out;omega⟩,⟨by (with_reducible repeat (first|apply aR|apply nR|apply dR));exact Kd.R_mono (Kd.R_far (p:=⟨gb296,0,none⟩) (Kd.R_mono HO_4.out (fun k_ hk=>(⟨hk,hk⟩:_ ∧ k_ ≠ gb296))) (fun _ hk=>hk.2) (.int .i64 (wrap64 (x297000_2 - 1)))) (fun _ hk=>hk.1)⟩,⟨by (with_reducible repeat (first|apply aR|apply nR|apply dR));exact Kd.R_mono (Kd.R_far (p:=⟨gb296,0,none⟩) (Kd.R_types HO_8.out BK296.out (by decide)) (fun _ hk=>hk.2) (.int .i64 (wrap64 (x297000_2 - 1)))) (fun _ hk=>trivial)⟩,⟨by (with_reducible repeat (first|apply nB|apply dB|apply aB));refine blk_put (cs:=#[.int .i64 x297000_2,.int .i64 (wrap64 (x5_1 + 1)),.int .i64 (rd t292 x5_1)]) ?_ 0 _ rfl;(with_reducible repeat (first|apply nB|apply dB|apply aB));exact BK296.out⟩,⟨kB HB.out⟩⟩
   case rest =>
    clear HC6
    try clear c1
    try clear p2
    try clear q2
    try clear hx2
    try clear c4
    try clear c4b0
    try clear c5
    try clear c5b0
    try clear p6
    try clear c10
    try clear c10b0
    try clear c11
    try clear c11b0
    try clear c12
    try clear c12b0
    try clear c13
    try clear c13b0
    try clear hcz14_0
    try clear hcz14_1
    try clear hcz14_2
    try clear hcz15_0
    try clear hcz15_1
    try clear hcz15_2
    try clear hcz16_0
    try clear hcz16_1
    try clear hcz16_2
    try clear hcz9_0
    try clear hcz9_1
    try clear hcz9_2
    try clear hfz14_0
    try clear hfz14_1
    try clear hfz14_2
    try clear hfz15_0
    try clear hfz15_1
    try clear hfz15_2
    try clear hfz16_0
    try clear hfz16_1
    try clear hfz16_2
    try clear hfz9_0
    try clear hfz9_1
    try clear hfz9_2
    try clear hx295_0
    try clear hx297_0
    try clear p2
    try clear p295
    try clear p297
    try clear p6
    try clear q2
    try clear q295
    try clear q297
    obtain⟨kq,x297000_5,HA,HJ5,HO_3,HO_4,BK296,HB⟩:=hcut
    cases kq with
    | zero=>exact absurd HA.out (by simp [impl_stretches.j2])
    | succ kj5 =>
     have H:=HA.out
     clear HA
     simp only [impl_stretches.j2] at H
     have H':=mk0 H
     clear H
     go_wp2
     repeat (go_quiet (fail);try go_wp2)
     go_loopg [] kj5 (fun kq w'=>∃ (x297001_3:Int),Aside0 (impl_stretches.l2 kq t292 x4_1 x5_1 x297000_5 x297001_3 (rd t292 x5_1) = some r) ∧ Aside0 (kq ≤ kj5) ∧ Aside0 (Kd.R (Kd.int .i64) 3 w' w.heap.size (fun _=>True) (.slice (some ad295) t292.length co7) t292) ∧ Aside0 (Kd.R k27 27 w' w.heap.size (fun k_=>k_ ≠ gb296) u4 x4_1) ∧ Aside0 (w'.heap[gb296]? = some (.cells #[.int .i64 x297000_5,.int .i64 x297001_3,.int .i64 (rd t292 x5_1)] 27 (0,0))) ∧ Aside0 (Below w.heap.size w w'))
     case atStart=>exact⟨((wrap64 (x5_1 + 1))),H',⟨Nat.le_refl _⟩,⟨rR HO_3.out⟩,⟨rR HO_4.out⟩,⟨kN BK296.out⟩,⟨kB HB.out⟩⟩
     case round =>
      clear H'
      try clear c1
      try clear p2
      try clear q2
      try clear hx2
      try clear c4
      try clear c4b0
      try clear c5
      try clear c5b0
      try clear p6
      try clear c10
      try clear c10b0
      try clear c11
      try clear c11b0
      try clear c12
      try clear c12b0
      try clear c13
      try clear c13b0
      try clear hcz14_0
      try clear hcz14_1
      try clear hcz14_2
      try clear hcz15_0
      try clear hcz15_1
      try clear hcz15_2
      try clear hcz16_0
      try clear hcz16_1
      try clear hcz16_2
      try clear hcz9_0
      try clear hcz9_1
      try clear hcz9_2
      try clear hfz14_0
      try clear hfz14_1
      try clear hfz14_2
      try clear hfz15_0
      try clear hfz15_1
      try clear hfz15_2
      try clear hfz16_0
      try clear hfz16_1
      try clear hfz16_2
      try clear hfz9_0
      try clear hfz9_1
      try clear hfz9_2
      try clear hx295_0
      try clear hx297_0
      try clear p2
      try clear p295
      try clear p297
      try clear p6
      try clear q2
      try clear q295
      try clear q297
      obtain⟨x297001_3,HA,HK3,HO_3,HO_4,BK296,HB⟩:=hrel
      cases gk with
      | zero=>exact absurd HA.out (by simp [impl_stretches.l2])
      | succ k3 =>
       have H:=HA.out
       clear HA
       simp only [impl_stretches.l2] at H
       by_cases c17:x297001_3 < (t292.length:Int)
       rotate_left
       ·rw [if_neg c17] at H
        have c17b0:decide (x297001_3 < (t292.length:Int)) = false:=decide_eq_false c17
        clear c17
        by_cases c24:x4_1.length < 5864062014805
        rotate_left
        ·rw [if_neg c24] at H
         exact absurd H (by simp)
        rw [if_pos c24] at H
        have LMc24:=mk0 c24
        clear c24
        obtain⟨y302,hy302⟩:∃ y_:List (S27),y_ = (x4_1 ++ [(⟨x297000_5,x297001_3,(rd t292 x5_1)⟩:S27)]):=⟨_,rfl⟩
        replace H:(impl_stretches.l0 k3 y302 (wrap64 (x5_1 + 1)) t292) = some r:=by first|(rw [hy302];with_reducible exact H)|(have H2_:=(Option.bind_some _ _).symm.trans H;rw [hy302];with_reducible exact H2_)|(have H2_:=(Option.bind_some _ _).symm.trans H;with_reducible exact H2_)|with_reducible exact H|(rw [hy302];exact H)|exact H
        have Ny302:=mk0 hy302
        clear hy302
        have H':=mk0 H
        clear H
        obtain⟨hcz25_0,hcz25_1,hcz25_2,hfz25_0,hfz25_1,hfz25_2⟩:=cz3 BK296.out
        go_wp2_with (first|((with_reducible refine gate_builtin (b:=.append) (xs:=#[.tmp 60,.tmp 62]) rfl ?_);at_builtin;refine Kd.R_append k27 (w0:=w) w.heap.size rfl (.tmp 60) (.tmp 62) 39 27 (.agg #[(.int .i64 0),(.int .i64 0),(.int .i64 0)]) 24 rfl Try.underlying39 info27 rfl (by decide) (by omega) u4 x4_1 (⟨x297000_5,x297001_3,(rd t292 x5_1)⟩:S27) [.int .i64 x297000_5,.int .i64 x297001_3,.int .i64 (rd t292 x5_1)] (fun k_=>k_ ≠ gb296) (fun _=>False) rfl rfl ?aP (fun _ hk=>hk.elim) ?aF ?aO ?aB ?aS ?aL ?_;(case aP=>exact k27_mkM _ _ _ (⟨x297000_5,x297001_3,(rd t292 x5_1)⟩:S27));(case aB=>exact (kB HB.out));(case aF=>exact (fun k_ hk=>Kd.freshB (g:=gb296) (kN BK296.out) k_ hk));(case aO=>exact (rR HO_4.out));(case aS=>exact (kZ HB.out));(case aL=>have:=LMc24.out;omega);intro v303 w26 ho hb hg hat;rw [← Ny302.out] at ho;replace HO_3:=mk0 (Kd.R_over' (rR HO_3.out) (Kd.R_typed (rR HO_4.out)) (by decide) hg);replace BK296:=mk0 (blk_grown (kN BK296.out) hg (Kd.R_away HO_4.out (fun _ hk=>hk)));replace HB:=mk0 (hb);have HO304:=mk0 (ho);clear HO_4 ho hb hg hat))
        repeat (go_quiet (first|((with_reducible refine gate_builtin (b:=.append) (xs:=#[.tmp 60,.tmp 62]) rfl ?_);at_builtin;refine Kd.R_append k27 (w0:=w) w.heap.size rfl (.tmp 60) (.tmp 62) 39 27 (.agg #[(.int .i64 0),(.int .i64 0),(.int .i64 0)]) 24 rfl Try.underlying39 info27 rfl (by decide) (by omega) u4 x4_1 (⟨x297000_5,x297001_3,(rd t292 x5_1)⟩:S27) [.int .i64 x297000_5,.int .i64 x297001_3,.int .i64 (rd t292 x5_1)] (fun k_=>k_ ≠ gb296) (fun _=>False) rfl rfl ?aP (fun _ hk=>hk.elim) ?aF ?aO ?aB ?aS ?aL ?_;(case aP=>exact k27_mkM _ _ _ (⟨x297000_5,x297001_3,(rd t292 x5_1)⟩:S27));(case aB=>exact (kB HB.out));(case aF=>exact (fun k_ hk=>Kd.freshB (g:=gb296) (kN BK296.out) k_ hk));(case aO=>exact (rR HO_4.out));(case aS=>exact (kZ HB.out));(case aL=>have:=LMc24.out;omega);intro v303 w26 ho hb hg hat;rw [← Ny302.out] at ho;replace HO_3:=mk0 (Kd.R_over' (rR HO_3.out) (Kd.R_typed (rR HO_4.out)) (by decide) hg);replace BK296:=mk0 (blk_grown (kN BK296.out) hg (Kd.R_away HO_4.out (fun _ hk=>hk)));replace HB:=mk0 (hb);have HO304:=mk0 (ho);clear HO_4 ho hb hg hat));try go_wp2_with (first|((with_reducible refine gate_builtin (b:=.append) (xs:=#[.tmp 60,.tmp 62]) rfl ?_);at_builtin;refine Kd.R_append k27 (w0:=w) w.heap.size rfl (.tmp 60) (.tmp 62) 39 27 (.agg #[(.int .i64 0),(.int .i64 0),(.int .i64 0)]) 24 rfl Try.underlying39 info27 rfl (by decide) (by omega) u4 x4_1 (⟨x297000_5,x297001_3,(rd t292 x5_1)⟩:S27) [.int .i64 x297000_5,.int .i64 x297001_3,.int .i64 (rd t292 x5_1)] (fun k_=>k_ ≠ gb296) (fun _=>False) rfl rfl ?aP (fun _ hk=>hk.elim) ?aF ?aO ?aB ?aS ?aL ?_;(case aP=>exact k27_mkM _ _ _ (⟨x297000_5,x297001_3,(rd t292 x5_1)⟩:S27));(case aB=>exact (kB HB.out));(case aF=>exact (fun k_ hk=>Kd.freshB (g:=gb296) (kN BK296.out) k_ hk));(case aO=>exact (rR HO_4.out));(case aS=>exact (kZ HB.out));(case aL=>have:=LMc24.out;omega);intro v303 w26 ho hb hg hat;rw [← Ny302.out] at ho;replace HO_3:=mk0 (Kd.R_over' (rR HO_3.out) (Kd.R_typed (rR HO_4.out)) (by decide) hg);replace BK296:=mk0 (blk_grown (kN BK296.out) hg (Kd.R_away HO_4.out (fun _ hk=>hk)));replace HB:=mk0 (hb);have HO304:=mk0 (ho);clear HO_4 ho hb hg hat)))
        go_roundg k3
        case measure=>have:=HK1.out;have:=HJ5.out;have:=HK3.out;omega
        case rel=>exact⟨(y302),(wrap64 (x5_1 + 1)),(by first|rfl|(simp;done)|(simp [*];done)),H',⟨by have:=HK1.out;have:=HJ5.out;have:=HK3.out;omega⟩,⟨rR (Kd.R_mono HO304.out (fun _ hk=>trivial))⟩,⟨rR HO_3.out⟩,⟨kB HB.out⟩⟩
       rw [if_pos c17] at H
       have c17b0:decide (x297001_3 < (t292.length:Int)) = true:=decide_eq_true c17
       clear c17
       by_cases c18:0 ≤ x297001_3
       rotate_left
       ·rw [if_neg c18] at H
        exact absurd H (by simp)
       rw [if_pos c18] at H
       have c18b0:decide (0 ≤ x297001_3) = true:=decide_eq_true c18
       clear c18
       by_cases c19:(rd t292 x297001_3) ≥ (rd t292 x5_1)
       ·rw [if_pos c19] at H
        have c19b0:decide ((rd t292 x5_1) ≤ (rd t292 x297001_3)) = true:=decide_eq_true c19
        clear c19
        have H':=mk0 H
        clear H
        obtain⟨hcz20_0,hcz20_1,hcz20_2,hfz20_0,hfz20_1,hfz20_2⟩:=cz3 BK296.out
        have p298:0 ≤ (x297001_3:Int):=of_decide_eq_true (by first|(with_reducible assumption)|assumption)
        have q298:x297001_3 < (t292.length:Int):=of_decide_eq_true (by first|(with_reducible assumption)|assumption)
        obtain⟨ad298,e298,hx298_0⟩:=Kd.at_int (Kd.R_reads' HO_3.out).2.2 x297001_3 p298 q298
        obtain rfl:ad295 = ad298:=(by injection e298)
        replace p298:=eq_true p298
        replace q298:=eq_true q298
        go_wp2
        repeat (go_quiet (fail);try go_wp2)
        go_roundg k3
        case measure=>have:=HK1.out;have:=HJ5.out;have:=HK3.out;omega
        case rel=>exact⟨(wrap64 (x297001_3 + 1)),H',⟨by have:=HK1.out;have:=HJ5.out;have:=HK3.out;omega⟩,⟨by (with_reducible repeat (first|apply aR|apply nR|apply dR));exact Kd.R_mono (Kd.R_far (p:=⟨gb296,1,none⟩) (Kd.R_types HO_3.out BK296.out (by decide)) (fun _ hk=>hk.2) (.int .i64 (wrap64 (x297001_3 + 1)))) (fun _ hk=>trivial)⟩,⟨by (with_reducible repeat (first|apply aR|apply nR|apply dR));exact Kd.R_mono (Kd.R_far (p:=⟨gb296,1,none⟩) (Kd.R_mono HO_4.out (fun k_ hk=>(⟨hk,hk⟩:_ ∧ k_ ≠ gb296))) (fun _ hk=>hk.2) (.int .i64 (wrap64 (x297001_3 + 1)))) (fun _ hk=>hk.1)⟩,⟨by (with_reducible repeat (first|apply nB|apply dB|apply aB));refine blk_put (cs:=#[.int .i64 x297000_5,.int .i64 x297001_3,.int .i64 (rd t292 x5_1)]) ?_ 1 _ rfl;(with_reducible repeat (first|apply nB|apply dB|apply aB));exact BK296.out⟩,⟨kB HB.out⟩⟩
       rw [if_neg c19] at H
       have c19b0:decide ((rd t292 x5_1) ≤ (rd t292 x297001_3)) = false:=decide_eq_false c19
       clear c19
       by_cases c21:x4_1.length < 5864062014805
       rotate_left
       ·rw [if_neg c21] at H
        exact absurd H (by simp)
       rw [if_pos c21] at H
       have LMc21:=mk0 c21
       clear c21
       obtain⟨y299,hy299⟩:∃ y_:List (S27),y_ = (x4_1 ++ [(⟨x297000_5,x297001_3,(rd t292 x5_1)⟩:S27)]):=⟨_,rfl⟩
       replace H:(impl_stretches.l0 k3 y299 (wrap64 (x5_1 + 1)) t292) = some r:=by first|(rw [hy299];with_reducible exact H)|(have H2_:=(Option.bind_some _ _).symm.trans H;rw [hy299];with_reducible exact H2_)|(have H2_:=(Option.bind_some _ _).symm.trans H;with_reducible exact H2_)|with_reducible exact H|(rw [hy299];exact H)|exact H
       have Ny299:=mk0 hy299
       clear hy299
       have H':=mk0 H
       clear H
       obtain⟨hcz22_0,hcz22_1,hcz22_2,hfz22_0,hfz22_1,hfz22_2⟩:=cz3 BK296.out
       have p298:0 ≤ (x297001_3:Int):=of_decide_eq_true (by first|(with_reducible assumption)|assumption)
       have q298:x297001_3 < (t292.length:Int):=of_decide_eq_true (by first|(with_reducible assumption)|assumption)
       obtain⟨ad298,e298,hx298_0⟩:=Kd.at_int (Kd.R_reads' HO_3.out).2.2 x297001_3 p298 q298
       obtain rfl:ad295 = ad298:=(by injection e298)
       replace p298:=eq_true p298
       replace q298:=eq_true q298
       go_wp2_with (first|((with_reducible refine gate_builtin (b:=.append) (xs:=#[.tmp 60,.tmp 62]) rfl ?_);at_builtin;refine Kd.R_append k27 (w0:=w) w.heap.size rfl (.tmp 60) (.tmp 62) 39 27 (.agg #[(.int .i64 0),(.int .i64 0),(.int .i64 0)]) 24 rfl Try.underlying39 info27 rfl (by decide) (by omega) u4 x4_1 (⟨x297000_5,x297001_3,(rd t292 x5_1)⟩:S27) [.int .i64 x297000_5,.int .i64 x297001_3,.int .i64 (rd t292 x5_1)] (fun k_=>k_ ≠ gb296) (fun _=>False) rfl rfl ?aP (fun _ hk=>hk.elim) ?aF ?aO ?aB ?aS ?aL ?_;(case aP=>exact k27_mkM _ _ _ (⟨x297000_5,x297001_3,(rd t292 x5_1)⟩:S27));(case aB=>exact (kB HB.out));(case aF=>exact (fun k_ hk=>Kd.freshB (g:=gb296) (kN BK296.out) k_ hk));(case aO=>exact (rR HO_4.out));(case aS=>exact (kZ HB.out));(case aL=>have:=LMc21.out;omega);intro v300 w23 ho hb hg hat;rw [← Ny299.out] at ho;replace HO_3:=mk0 (Kd.R_over' (rR HO_3.out) (Kd.R_typed (rR HO_4.out)) (by decide) hg);replace BK296:=mk0 (blk_grown (kN BK296.out) hg (Kd.R_away HO_4.out (fun _ hk=>hk)));replace HB:=mk0 (hb);have HO301:=mk0 (ho);clear HO_4 ho hb hg hat))
       repeat (go_quiet (first|((with_reducible refine gate_builtin (b:=.append) (xs:=#[.tmp 60,.tmp 62]) rfl ?_);at_builtin;refine Kd.R_append k27 (w0:=w) w.heap.size rfl (.tmp 60) (.tmp 62) 39 27 (.agg #[(.int .i64 0),(.int .i64 0),(.int .i64 0)]) 24 rfl Try.underlying39 info27 rfl (by decide) (by omega) u4 x4_1 (⟨x297000_5,x297001_3,(rd t292 x5_1)⟩:S27) [.int .i64 x297000_5,.int .i64 x297001_3,.int .i64 (rd t292 x5_1)] (fun k_=>k_ ≠ gb296) (fun _=>False) rfl rfl ?aP (fun _ hk=>hk.elim) ?aF ?aO ?aB ?aS ?aL ?_;(case aP=>exact k27_mkM _ _ _ (⟨x297000_5,x297001_3,(rd t292 x5_1)⟩:S27));(case aB=>exact (kB HB.out));(case aF=>exact (fun k_ hk=>Kd.freshB (g:=gb296) (kN BK296.out) k_ hk));(case aO=>exact (rR HO_4.out));(case aS=>exact (kZ HB.out));(case aL=>have:=LMc21.out;omega);intro v300 w23 ho hb hg hat;rw [← Ny299.out] at ho;replace HO_3:=mk0 (Kd.R_over' (rR HO_3.out) (Kd.R_typed (rR HO_4.out)) (by decide) hg);replace BK296:=mk0 (blk_grown (kN BK296.out) hg (Kd.R_away HO_4.out (fun _ hk=>hk)));replace HB:=mk0 (hb);have HO301:=mk0 (ho);clear HO_4 ho hb hg hat));try go_wp2_with (first|((with_reducible refine gate_builtin (b:=.append) (xs:=#[.tmp 60,.tmp 62]) rfl ?_);at_builtin;refine Kd.R_append k27 (w0:=w) w.heap.size rfl (.tmp 60) (.tmp 62) 39 27 (.agg #[(.int .i64 0),(.int .i64 0),(.int .i64 0)]) 24 rfl Try.underlying39 info27 rfl (by decide) (by omega) u4 x4_1 (⟨x297000_5,x297001_3,(rd t292 x5_1)⟩:S27) [.int .i64 x297000_5,.int .i64 x297001_3,.int .i64 (rd t292 x5_1)] (fun k_=>k_ ≠ gb296) (fun _=>False) rfl rfl ?aP (fun _ hk=>hk.elim) ?aF ?aO ?aB ?aS ?aL ?_;(case aP=>exact k27_mkM _ _ _ (⟨x297000_5,x297001_3,(rd t292 x5_1)⟩:S27));(case aB=>exact (kB HB.out));(case aF=>exact (fun k_ hk=>Kd.freshB (g:=gb296) (kN BK296.out) k_ hk));(case aO=>exact (rR HO_4.out));(case aS=>exact (kZ HB.out));(case aL=>have:=LMc21.out;omega);intro v300 w23 ho hb hg hat;rw [← Ny299.out] at ho;replace HO_3:=mk0 (Kd.R_over' (rR HO_3.out) (Kd.R_typed (rR HO_4.out)) (by decide) hg);replace BK296:=mk0 (blk_grown (kN BK296.out) hg (Kd.R_away HO_4.out (fun _ hk=>hk)));replace HB:=mk0 (hb);have HO301:=mk0 (ho);clear HO_4 ho hb hg hat)))
       go_roundg k3
       case measure=>have:=HK1.out;have:=HJ5.out;have:=HK3.out;omega
       case rel=>exact⟨(y299),(wrap64 (x5_1 + 1)),(by first|rfl|(simp;done)|(simp [*];done)),H',⟨by have:=HK1.out;have:=HJ5.out;have:=HK3.out;omega⟩,⟨rR (Kd.R_mono HO301.out (fun _ hk=>trivial))⟩,⟨rR HO_3.out⟩,⟨kB HB.out⟩⟩
/-! ### impl_up: function 55 -/
mutual
def impl_up.l0 : Nat → Bool → List (S27) → Int → Int → Int → Int → Int → Int → Int → Int → Option (Int × Int × Int × Bool)
 | 0, _, _, _, _, _, _, _, _, _, _ => none
 | k + 1, x7, x10, x11, x12, x310000, x310001, x310002, x312000, x312001, x312002 => if x12 < x11 then (if 0 ≤ x12 then (if x12 < (x10.length : Int) then (if (!(((rd_T27 x10 x12).f0) == x310000) || (!(((rd_T27 x10 x12).f1) == x310001) || (!(((rd_T27 x10 x12).f2) == x310002)))) = true then (if ((rd_T27 x10 x12).f0) ≤ x310000 then (if x310001 ≤ ((rd_T27 x10 x12).f1) then (if x7 = true then (impl_up.j1 k x7 x10 x11 x12 (decide ((wrap64 (((rd_T27 x10 x12).f1) - ((rd_T27 x10 x12).f0))) < (wrap64 (x312001 - x312000)))) x310000 x310001 x310002 x312000 x312001 x312002 ((rd_T27 x10 x12).f0) ((rd_T27 x10 x12).f1) ((rd_T27 x10 x12).f2)) else (impl_up.j1 k x7 x10 x11 x12 true x310000 x310001 x310002 x312000 x312001 x312002 ((rd_T27 x10 x12).f0) ((rd_T27 x10 x12).f1) ((rd_T27 x10 x12).f2))) else (impl_up.j1 k x7 x10 x11 x12 false x310000 x310001 x310002 x312000 x312001 x312002 ((rd_T27 x10 x12).f0) ((rd_T27 x10 x12).f1) ((rd_T27 x10 x12).f2))) else (impl_up.j1 k x7 x10 x11 x12 false x310000 x310001 x310002 x312000 x312001 x312002 ((rd_T27 x10 x12).f0) ((rd_T27 x10 x12).f1) ((rd_T27 x10 x12).f2))) else (impl_up.j1 k x7 x10 x11 x12 false x310000 x310001 x310002 x312000 x312001 x312002 ((rd_T27 x10 x12).f0) ((rd_T27 x10 x12).f1) ((rd_T27 x10 x12).f2))) else (none)) else (none)) else (some (x312000, x312001, x312002, x7))
def impl_up.j1 : Nat → Bool → List (S27) → Int → Int → Bool → Int → Int → Int → Int → Int → Int → Int → Int → Int → Option (Int × Int × Int × Bool)
 | 0, _, _, _, _, _, _, _, _, _, _, _, _, _, _ => none
 | k + 1, x7, x10, x11, x12, x49, x310000, x310001, x310002, x312000, x312001, x312002, x314000, x314001, x314002 => if x49 = true then (impl_up.l0 k true x10 x11 (wrap64 (x12 + 1)) x310000 x310001 x310002 x314000 x314001 x314002) else (impl_up.l0 k x7 x10 x11 (wrap64 (x12 + 1)) x310000 x310001 x310002 x312000 x312001 x312002)
end
def impl_up.f (k : Nat) (l0 : List (S27)) (a1_0 : Int) (a1_1 : Int) (a1_2 : Int) : Option (Int × Int × Int × Bool) := impl_up.l0 k false l0 (l0.length : Int) 0 a1_0 a1_1 a1_2 0 0 0
theorem impl_up.mono_l : ∀ k, (∀ y0 y1 y2 y3 y4 y5 y6 y7 y8 y9, LeO (impl_up.l0 k y0 y1 y2 y3 y4 y5 y6 y7 y8 y9) (impl_up.l0 (k + 1) y0 y1 y2 y3 y4 y5 y6 y7 y8 y9)) ∧ (∀ y0 y1 y2 y3 y4 y5 y6 y7 y8 y9 y10 y11 y12 y13, LeO (impl_up.j1 k y0 y1 y2 y3 y4 y5 y6 y7 y8 y9 y10 y11 y12 y13) (impl_up.j1 (k + 1) y0 y1 y2 y3 y4 y5 y6 y7 y8 y9 y10 y11 y12 y13))
 | 0 => ⟨fun _ _ _ _ _ _ _ _ _ _ r h => by simp [impl_up.l0] at h, fun _ _ _ _ _ _ _ _ _ _ _ _ _ _ r h => by simp [impl_up.j1] at h⟩
 | k + 1 => by
  obtain ⟨ih0, ih1⟩ := impl_up.mono_l k
  refine ⟨?_, ?_⟩
  ·intro y0 y1 y2 y3 y4 y5 y6 y7 y8 y9
   unfold impl_up.l0
   repeat' first|(with_reducible first|exact ih0 _ _ _ _ _ _ _ _ _ _|exact ih1 _ _ _ _ _ _ _ _ _ _ _ _ _ _|exact LeO.refl _|exact LeO.none _|refine LeO.ite ?_ ?_|refine LeO.bind ?_ (fun _ => ?_))|exact LeO.none _|refine LeO.ite ?_ ?_|refine LeO.bind ?_ (fun _ => ?_)
  ·intro y0 y1 y2 y3 y4 y5 y6 y7 y8 y9 y10 y11 y12 y13
   unfold impl_up.j1
   repeat' first|(with_reducible first|exact ih0 _ _ _ _ _ _ _ _ _ _|exact ih1 _ _ _ _ _ _ _ _ _ _ _ _ _ _|exact LeO.refl _|exact LeO.none _|refine LeO.ite ?_ ?_|refine LeO.bind ?_ (fun _ => ?_))|exact LeO.none _|refine LeO.ite ?_ ?_|refine LeO.bind ?_ (fun _ => ?_)
theorem impl_up.mono : ∀ a0 a1 a2 a3 k, LeO (impl_up.f k a0 a1 a2 a3) (impl_up.f (k + 1) a0 a1 a2 a3) := by
 intro a0 a1 a2 a3 k
 obtain ⟨ih0, ih1⟩ := impl_up.mono_l k
 unfold impl_up.f
 repeat' first|(with_reducible first|exact ih0 _ _ _ _ _ _ _ _ _ _|exact ih1 _ _ _ _ _ _ _ _ _ _ _ _ _ _|exact LeO.refl _|exact LeO.none _|refine LeO.ite ?_ ?_|refine LeO.bind ?_ (fun _ => ?_))|exact LeO.none _|refine LeO.ite ?_ ?_|refine LeO.bind ?_ (fun _ => ?_)
set_option maxHeartbeats 8000000 in
set_option maxRecDepth 100000 in
theorem impl_up.calls (k : Nat) (A0 : Option Addr) (c0 : Nat) (l0 : List (S27)) (a1_0 : Int) (a1_1 : Int) (a1_2 : Int) (r1 : Int) (r2 : Int) (r3 : Int) (r4 : Bool) (w : World) (hr0 : Kd.C k27 w A0 l0.length l0) (hc0 : l0.length ≤ c0) (h : impl_up.f k l0 a1_0 a1_1 a1_2 = some (r1, r2, r3, r4)) :
  Calls Try.prog 55 #[.slice A0 l0.length c0, .agg #[.int .i64 a1_0, .int .i64 a1_1, .int .i64 a1_2]] w fun e w' => e = .returned (.tuple #[.agg #[.int .i64 r1, .int .i64 r2, .int .i64 r3], .bool r4]) ∧ Below w.heap.size w w' := by
 have hu27:=Try.underlying27
 have HR0:=mk0 hr0
 have HC0:=mk0 hc0
 clear hr0 hc0
 have HB:=mk0 (Below.refl w.heap.size w)
 have H:(impl_up.l0 k false l0 (l0.length:Int) 0 a1_0 a1_1 a1_2 0 0 0) = some (r1,r2,r3,r4):=h
 clear h
 have H':=mk0 H
 clear H
 go_enter Try.func55,Try.ntmps55
 go_wp2_with (first|((with_reducible refine gate_dst (N:=3) rfl ?_);refine box_event ?hg (N:=3) ?hd (cs:=#[.int .i64 a1_0,.int .i64 a1_1,.int .i64 a1_2]) (t:=27) ?hr ?_;(case hd=>rfl);(case hg=>rfl);(case hr=>first|(go_simp;done)|(go_simp;rfl));intro gb309 hg w3 hbox hb;have BK309:=mk0 (hbox);have GW309:=mk0 ((by rw [hg];exact (kZ HB.out):w.heap.size ≤ gb309));have GE309:=mk0 ((by rw [hg];exact (kZ HB.out):w.heap.size ≤ gb309));replace HB:=mk0 (kS HB.out hb);clear hb hbox hg)|((with_reducible refine gate_dst (N:=4) rfl ?_);refine box_event ?hg (N:=4) ?hd (cs:=#[.int .i64 0,.int .i64 0,.int .i64 0]) (t:=27) ?hr ?_;(case hd=>rfl);(case hg=>rfl);(case hr=>first|(go_simp;done)|(go_simp;rfl));intro gb310 hg w4 hbox hb;have BK310:=mk0 (hbox);have GW310:=mk0 ((by rw [hg];exact (kZ HB.out):w.heap.size ≤ gb310));have GE310:=mk0 ((by rw [hg];exact (kZ HB.out):w.heap.size ≤ gb310));replace HB:=mk0 (kS HB.out hb);have NB309_310:=mk0 ((by rw [hg];exact Nat.ne_of_lt (kL BK309.out):gb309 ≠ gb310));have NB310_309:=mk0 ((by rw [hg];exact Nat.ne_of_gt (kL BK309.out):gb310 ≠ gb309));replace BK309:=mk0 (kK BK309.out hb);clear hb hbox hg)|((with_reducible refine gate_dst (N:=6) rfl ?_);refine box_event ?hg (N:=6) ?hd (cs:=#[.int .i64 0,.int .i64 0,.int .i64 0]) (t:=27) ?hr ?_;(case hd=>rfl);(case hg=>rfl);(case hr=>first|(go_simp;done)|(go_simp;rfl));intro gb311 hg w5 hbox hb;have BK311:=mk0 (hbox);have GW311:=mk0 ((by rw [hg];exact (kZ HB.out):w.heap.size ≤ gb311));have GE311:=mk0 ((by rw [hg];exact (kZ HB.out):w.heap.size ≤ gb311));replace HB:=mk0 (kS HB.out hb);have NB309_311:=mk0 ((by rw [hg];exact Nat.ne_of_lt (kL BK309.out):gb309 ≠ gb311));have NB311_309:=mk0 ((by rw [hg];exact Nat.ne_of_gt (kL BK309.out):gb311 ≠ gb309));replace BK309:=mk0 (kK BK309.out hb);have NB310_311:=mk0 ((by rw [hg];exact Nat.ne_of_lt (kL BK310.out):gb310 ≠ gb311));have NB311_310:=mk0 ((by rw [hg];exact Nat.ne_of_gt (kL BK310.out):gb311 ≠ gb310));replace BK310:=mk0 (kK BK310.out hb);clear hb hbox hg))
 go_loopg [7,12] k (fun kq v7 v12 w'=>∃ (x7_1:Bool) (x12_1:Int) (x312000_1:Int) (x312001_1:Int) (x312002_1:Int),v7 = .bool x7_1 ∧ v12 = .int .i64 x12_1 ∧ Aside0 (impl_up.l0 kq x7_1 l0 (l0.length:Int) x12_1 a1_0 a1_1 a1_2 x312000_1 x312001_1 x312002_1 = some (r1,r2,r3,r4)) ∧ Aside0 (kq ≤ k) ∧ Aside0 (w'.heap[gb309]? = some (.cells #[.int .i64 a1_0,.int .i64 a1_1,.int .i64 a1_2] 27 (0,0))) ∧ Aside0 (w'.heap[gb310]? = some (.cells #[.int .i64 0,.int .i64 0,.int .i64 0] 27 (0,0))) ∧ Aside0 (w'.heap[gb311]? = some (.cells #[.int .i64 x312000_1,.int .i64 x312001_1,.int .i64 x312002_1] 27 (0,0))) ∧ Aside0 (Below w.heap.size w w'))
 case atStart=>exact⟨(false),(0),(0),(0),(0),(by first|rfl|(simp;done)|(simp [*];done)),(by first|rfl|(simp;done)|(simp [*];done)),H',⟨Nat.le_refl _⟩,⟨kN BK309.out⟩,⟨kN BK310.out⟩,⟨kN BK311.out⟩,⟨kB HB.out⟩⟩
 case round =>
  clear H'
  try clear p2
  try clear c5
  obtain⟨x7_1,x12_1,x312000_1,x312001_1,x312002_1,rfl,rfl,HA,HK1,BK309,BK310,BK311,HB⟩:=hrel
  cases gk with
  | zero=>exact absurd HA.out (by simp [impl_up.l0])
  | succ k1 =>
   have H:=HA.out
   clear HA
   simp only [impl_up.l0] at H
   by_cases c6:x12_1 < (l0.length:Int)
   rotate_left
   ·rw [if_neg c6] at H
    have c6b0:decide (x12_1 < (l0.length:Int)) = false:=decide_eq_false c6
    clear c6
    simp only [Option.some.injEq,Prod.mk.injEq] at H
    obtain⟨rfl,rfl,rfl,rfl⟩:=H
    have hnb64:=NB311_309.out
    have hnc64:=NB309_311.out
    have hnb65:=NB311_310.out
    have hnc65:=NB310_311.out
    obtain⟨hcz66_0,hcz66_1,hcz66_2,hfz66_0,hfz66_1,hfz66_2⟩:=cz3 BK311.out
    have hnb67:=NB310_309.out
    have hnc67:=NB309_310.out
    obtain⟨hcz68_0,hcz68_1,hcz68_2,hfz68_0,hfz68_1,hfz68_2⟩:=cz3 BK310.out
    go_wp2
    refine bodyPost_ret (results_ct rfl _ _ gb310 27 #[.int .i64 x312000_1,.int .i64 x312001_1,.int .i64 x312002_1] (0,0) _ rfl (by (with_reducible repeat (first|apply nB|apply dB|apply aB));refine blk_put (cs:=#[.int .i64 x312000_1,.int .i64 x312001_1,.int .i64 0]) ?_ 2 _ rfl;(with_reducible repeat (first|apply nB|apply dB|apply aB));refine blk_put (cs:=#[.int .i64 x312000_1,.int .i64 0,.int .i64 0]) ?_ 1 _ rfl;(with_reducible repeat (first|apply nB|apply dB|apply aB));refine blk_put (cs:=#[.int .i64 0,.int .i64 0,.int .i64 0]) ?_ 0 _ rfl;(with_reducible repeat (first|apply nB|apply dB|apply aB));exact BK310.out) Try.underlying27 rfl (by kernel_rfl)) rfl ?_
    exact⟨by first|rfl|(simp [errW_none,errW_some] <;> rfl)|(simp [*,errW_none,errW_some] <;> rfl),kB HB.out⟩

   rw [if_pos c6] at H
   have c6b0:decide (x12_1 < (l0.length:Int)) = true:=decide_eq_true c6
   clear c6
   by_cases c7:0 ≤ x12_1
   rotate_left
   ·rw [if_neg c7] at H
    exact absurd H (by simp)
   rw [if_pos c7] at H
   have c7b0:decide (0 ≤ x12_1) = true:=decide_eq_true c7
   clear c7
   by_cases c8:x12_1 < (l0.length:Int)
   rotate_left
   ·rw [if_neg c8] at H
    exact absurd H (by simp)
   rw [if_pos c8] at H
   have c8b0:decide (x12_1 < (l0.length:Int)) = true:=decide_eq_true c8
   clear c8
   have HC9:=mk0 H
   clear H
   have p312:0 ≤ (x12_1:Int):=of_decide_eq_true (by first|(with_reducible assumption)|assumption)
   have q312:x12_1 < (l0.length:Int):=of_decide_eq_true (by first|(with_reducible assumption)|assumption)
   obtain⟨ad312,e312,hx312_0,hx312_1,hx312_2⟩:=at_T27 HR0.out x12_1 p312 q312
   cases e312
   replace hx312_0:=(HB.out.cell (World.block_lt_of_cell? w _ hx312_0)).trans hx312_0
   replace hx312_1:=(HB.out.cell (World.block_lt_of_cell? w _ hx312_1)).trans hx312_1
   replace hx312_2:=(HB.out.cell (World.block_lt_of_cell? w _ hx312_2)).trans hx312_2
   replace p312:=eq_true p312
   replace q312:=eq_true q312
   go_upto_region 6 with (first|((with_reducible refine gate_dst (N:=9) rfl ?_);refine box_event ?hg (N:=9) ?hd (cs:=#[.int .i64 0,.int .i64 0,.int .i64 0]) (t:=27) ?hr ?_;(case hd=>rfl);(case hg=>rfl);(case hr=>first|(go_simp;done)|(go_simp;rfl));intro gb313 hg w10 hbox hb;have BK313:=mk0 (hbox);have GW313:=mk0 ((by rw [hg];exact (kZ HB.out):w.heap.size ≤ gb313));have GE313:=mk0 ((by rw [hg];exact (kZ HB.out):w.heap.size ≤ gb313));replace HB:=mk0 (kS HB.out hb);have NB309_313:=mk0 ((by rw [hg];exact Nat.ne_of_lt (kL BK309.out):gb309 ≠ gb313));have NB313_309:=mk0 ((by rw [hg];exact Nat.ne_of_gt (kL BK309.out):gb313 ≠ gb309));replace BK309:=mk0 (kK BK309.out hb);have NB310_313:=mk0 ((by rw [hg];exact Nat.ne_of_lt (kL BK310.out):gb310 ≠ gb313));have NB313_310:=mk0 ((by rw [hg];exact Nat.ne_of_gt (kL BK310.out):gb313 ≠ gb310));replace BK310:=mk0 (kK BK310.out hb);have NB311_313:=mk0 ((by rw [hg];exact Nat.ne_of_lt (kL BK311.out):gb311 ≠ gb313));have NB313_311:=mk0 ((by rw [hg];exact Nat.ne_of_gt (kL BK311.out):gb313 ≠ gb311));replace BK311:=mk0 (kK BK311.out hb);clear hb hbox hg;have hnb11:=NB313_309.out;have hnc11:=NB309_313.out;have hnb12:=NB313_310.out;have hnc12:=NB310_313.out;have hnb13:=NB313_311.out;have hnc13:=NB311_313.out;obtain⟨hcz14_0,hcz14_1,hcz14_2,hfz14_0,hfz14_1,hfz14_2⟩:=cz3 BK313.out))
   (try simp only [Act.put,sA,sO,sS])
   go_cut [49] (fun v49 wc=>∃ (kq:Nat) (x49_8:Bool),v49 = .bool x49_8 ∧ Aside0 (impl_up.j1 kq x7_1 l0 (l0.length:Int) x12_1 x49_8 a1_0 a1_1 a1_2 x312000_1 x312001_1 x312002_1 ((rd_T27 l0 x12_1).f0) ((rd_T27 l0 x12_1).f1) ((rd_T27 l0 x12_1).f2) = some (r1,r2,r3,r4)) ∧ Aside0 (kq ≤ k1) ∧ Aside0 (wc.heap[gb309]? = some (.cells #[.int .i64 a1_0,.int .i64 a1_1,.int .i64 a1_2] 27 (0,0))) ∧ Aside0 (wc.heap[gb310]? = some (.cells #[.int .i64 0,.int .i64 0,.int .i64 0] 27 (0,0))) ∧ Aside0 (wc.heap[gb311]? = some (.cells #[.int .i64 x312000_1,.int .i64 x312001_1,.int .i64 x312002_1] 27 (0,0))) ∧ Aside0 (wc.heap[gb313]? = some (.cells #[.int .i64 ((rd_T27 l0 x12_1).f0),.int .i64 ((rd_T27 l0 x12_1).f1),.int .i64 ((rd_T27 l0 x12_1).f2)] 27 (0,0))) ∧ Aside0 (Below w.heap.size w wc))
   case first =>
    have H:=HC9.out
    clear HC9
    by_cases c15:(!(((rd_T27 l0 x12_1).f0) == a1_0) || (!(((rd_T27 l0 x12_1).f1) == a1_1) || (!(((rd_T27 l0 x12_1).f2) == a1_2)))) = true
    rotate_left
    ·rw [if_neg c15] at H
     have c15b0:(!(((rd_T27 l0 x12_1).f0) == a1_0) || (!(((rd_T27 l0 x12_1).f1) == a1_1) || (!(((rd_T27 l0 x12_1).f2) == a1_2)))) = false:=by simpa using c15
     clear c15
     (first|rw [c15b0]|(simp only [i64_w,i32_w];rw [c15b0])|skip)
     have H':=mk0 H
     clear H
     have hnb49:=NB313_309.out
     have hnc49:=NB309_313.out
     have hnb50:=NB313_310.out
     have hnc50:=NB310_313.out
     have hnb51:=NB313_311.out
     have hnc51:=NB311_313.out
     obtain⟨hcz52_0,hcz52_1,hcz52_2,hfz52_0,hfz52_1,hfz52_2⟩:=cz3 BK313.out
     have hnb53:=NB309_310.out
     have hnc53:=NB310_309.out
     have hnb54:=NB309_311.out
     have hnc54:=NB311_309.out
     obtain⟨hcz55_0,hcz55_1,hcz55_2,hfz55_0,hfz55_1,hfz55_2⟩:=cz3 BK309.out
     go_wp2
     go_meet
     case rel=>exact⟨_,(false),(by first|rfl|(simp;done)|(simp [*];done)),H',⟨by have:=HK1.out;first|omega|exact Nat.le_refl _⟩,⟨by (with_reducible repeat (first|apply nB|apply dB|apply aB));refine blk_far ?_ NB309_313.out _;(with_reducible repeat (first|apply nB|apply dB|apply aB));refine blk_far ?_ NB309_313.out _;(with_reducible repeat (first|apply nB|apply dB|apply aB));refine blk_far ?_ NB309_313.out _;(with_reducible repeat (first|apply nB|apply dB|apply aB));exact BK309.out⟩,⟨by (with_reducible repeat (first|apply nB|apply dB|apply aB));refine blk_far ?_ NB310_313.out _;(with_reducible repeat (first|apply nB|apply dB|apply aB));refine blk_far ?_ NB310_313.out _;(with_reducible repeat (first|apply nB|apply dB|apply aB));refine blk_far ?_ NB310_313.out _;(with_reducible repeat (first|apply nB|apply dB|apply aB));exact BK310.out⟩,⟨by (with_reducible repeat (first|apply nB|apply dB|apply aB));refine blk_far ?_ NB311_313.out _;(with_reducible repeat (first|apply nB|apply dB|apply aB));refine blk_far ?_ NB311_313.out _;(with_reducible repeat (first|apply nB|apply dB|apply aB));refine blk_far ?_ NB311_313.out _;(with_reducible repeat (first|apply nB|apply dB|apply aB));exact BK311.out⟩,⟨by (with_reducible repeat (first|apply nB|apply dB|apply aB));refine blk_put (cs:=#[.int .i64 ((rd_T27 l0 x12_1).f0),.int .i64 ((rd_T27 l0 x12_1).f1),.int .i64 0]) ?_ 2 _ rfl;(with_reducible repeat (first|apply nB|apply dB|apply aB));refine blk_put (cs:=#[.int .i64 ((rd_T27 l0 x12_1).f0),.int .i64 0,.int .i64 0]) ?_ 1 _ rfl;(with_reducible repeat (first|apply nB|apply dB|apply aB));refine blk_put (cs:=#[.int .i64 0,.int .i64 0,.int .i64 0]) ?_ 0 _ rfl;(with_reducible repeat (first|apply nB|apply dB|apply aB));exact BK313.out⟩,⟨kB HB.out⟩⟩
    rw [if_pos c15] at H
    have c15b0:(!(((rd_T27 l0 x12_1).f0) == a1_0) || (!(((rd_T27 l0 x12_1).f1) == a1_1) || (!(((rd_T27 l0 x12_1).f2) == a1_2)))) = true:=c15
    clear c15
    (first|rw [c15b0]|(simp only [i64_w,i32_w];rw [c15b0])|skip)
    by_cases c16:((rd_T27 l0 x12_1).f0) ≤ a1_0
    rotate_left
    ·rw [if_neg c16] at H
     have c16b0:decide (((rd_T27 l0 x12_1).f0) ≤ a1_0) = false:=decide_eq_false c16
     clear c16
     have H':=mk0 H
     clear H
     have hnb42:=NB313_309.out
     have hnc42:=NB309_313.out
     have hnb43:=NB313_310.out
     have hnc43:=NB310_313.out
     have hnb44:=NB313_311.out
     have hnc44:=NB311_313.out
     obtain⟨hcz45_0,hcz45_1,hcz45_2,hfz45_0,hfz45_1,hfz45_2⟩:=cz3 BK313.out
     have hnb46:=NB309_310.out
     have hnc46:=NB310_309.out
     have hnb47:=NB309_311.out
     have hnc47:=NB311_309.out
     obtain⟨hcz48_0,hcz48_1,hcz48_2,hfz48_0,hfz48_1,hfz48_2⟩:=cz3 BK309.out
     go_wp2
     go_meet
     case rel=>exact⟨_,(false),(by first|rfl|(simp;done)|(simp [*];done)),H',⟨by have:=HK1.out;first|omega|exact Nat.le_refl _⟩,⟨by (with_reducible repeat (first|apply nB|apply dB|apply aB));refine blk_far ?_ NB309_313.out _;(with_reducible repeat (first|apply nB|apply dB|apply aB));refine blk_far ?_ NB309_313.out _;(with_reducible repeat (first|apply nB|apply dB|apply aB));refine blk_far ?_ NB309_313.out _;(with_reducible repeat (first|apply nB|apply dB|apply aB));exact BK309.out⟩,⟨by (with_reducible repeat (first|apply nB|apply dB|apply aB));refine blk_far ?_ NB310_313.out _;(with_reducible repeat (first|apply nB|apply dB|apply aB));refine blk_far ?_ NB310_313.out _;(with_reducible repeat (first|apply nB|apply dB|apply aB));refine blk_far ?_ NB310_313.out _;(with_reducible repeat (first|apply nB|apply dB|apply aB));exact BK310.out⟩,⟨by (with_reducible repeat (first|apply nB|apply dB|apply aB));refine blk_far ?_ NB311_313.out _;(with_reducible repeat (first|apply nB|apply dB|apply aB));refine blk_far ?_ NB311_313.out _;(with_reducible repeat (first|apply nB|apply dB|apply aB));refine blk_far ?_ NB311_313.out _;(with_reducible repeat (first|apply nB|apply dB|apply aB));exact BK311.out⟩,⟨by (with_reducible repeat (first|apply nB|apply dB|apply aB));refine blk_put (cs:=#[.int .i64 ((rd_T27 l0 x12_1).f0),.int .i64 ((rd_T27 l0 x12_1).f1),.int .i64 0]) ?_ 2 _ rfl;(with_reducible repeat (first|apply nB|apply dB|apply aB));refine blk_put (cs:=#[.int .i64 ((rd_T27 l0 x12_1).f0),.int .i64 0,.int .i64 0]) ?_ 1 _ rfl;(with_reducible repeat (first|apply nB|apply dB|apply aB));refine blk_put (cs:=#[.int .i64 0,.int .i64 0,.int .i64 0]) ?_ 0 _ rfl;(with_reducible repeat (first|apply nB|apply dB|apply aB));exact BK313.out⟩,⟨kB HB.out⟩⟩
    rw [if_pos c16] at H
    have c16b0:decide (((rd_T27 l0 x12_1).f0) ≤ a1_0) = true:=decide_eq_true c16
    clear c16
    by_cases c17:a1_1 ≤ ((rd_T27 l0 x12_1).f1)
    rotate_left
    ·rw [if_neg c17] at H
     have c17b0:decide (a1_1 ≤ ((rd_T27 l0 x12_1).f1)) = false:=decide_eq_false c17
     clear c17
     have H':=mk0 H
     clear H
     have hnb35:=NB313_309.out
     have hnc35:=NB309_313.out
     have hnb36:=NB313_310.out
     have hnc36:=NB310_313.out
     have hnb37:=NB313_311.out
     have hnc37:=NB311_313.out
     obtain⟨hcz38_0,hcz38_1,hcz38_2,hfz38_0,hfz38_1,hfz38_2⟩:=cz3 BK313.out
     have hnb39:=NB309_310.out
     have hnc39:=NB310_309.out
     have hnb40:=NB309_311.out
     have hnc40:=NB311_309.out
     obtain⟨hcz41_0,hcz41_1,hcz41_2,hfz41_0,hfz41_1,hfz41_2⟩:=cz3 BK309.out
     go_wp2
     go_meet
     case rel=>exact⟨_,(false),(by first|rfl|(simp;done)|(simp [*];done)),H',⟨by have:=HK1.out;first|omega|exact Nat.le_refl _⟩,⟨by (with_reducible repeat (first|apply nB|apply dB|apply aB));refine blk_far ?_ NB309_313.out _;(with_reducible repeat (first|apply nB|apply dB|apply aB));refine blk_far ?_ NB309_313.out _;(with_reducible repeat (first|apply nB|apply dB|apply aB));refine blk_far ?_ NB309_313.out _;(with_reducible repeat (first|apply nB|apply dB|apply aB));exact BK309.out⟩,⟨by (with_reducible repeat (first|apply nB|apply dB|apply aB));refine blk_far ?_ NB310_313.out _;(with_reducible repeat (first|apply nB|apply dB|apply aB));refine blk_far ?_ NB310_313.out _;(with_reducible repeat (first|apply nB|apply dB|apply aB));refine blk_far ?_ NB310_313.out _;(with_reducible repeat (first|apply nB|apply dB|apply aB));exact BK310.out⟩,⟨by (with_reducible repeat (first|apply nB|apply dB|apply aB));refine blk_far ?_ NB311_313.out _;(with_reducible repeat (first|apply nB|apply dB|apply aB));refine blk_far ?_ NB311_313.out _;(with_reducible repeat (first|apply nB|apply dB|apply aB));refine blk_far ?_ NB311_313.out _;(with_reducible repeat (first|apply nB|apply dB|apply aB));exact BK311.out⟩,⟨by (with_reducible repeat (first|apply nB|apply dB|apply aB));refine blk_put (cs:=#[.int .i64 ((rd_T27 l0 x12_1).f0),.int .i64 ((rd_T27 l0 x12_1).f1),.int .i64 0]) ?_ 2 _ rfl;(with_reducible repeat (first|apply nB|apply dB|apply aB));refine blk_put (cs:=#[.int .i64 ((rd_T27 l0 x12_1).f0),.int .i64 0,.int .i64 0]) ?_ 1 _ rfl;(with_reducible repeat (first|apply nB|apply dB|apply aB));refine blk_put (cs:=#[.int .i64 0,.int .i64 0,.int .i64 0]) ?_ 0 _ rfl;(with_reducible repeat (first|apply nB|apply dB|apply aB));exact BK313.out⟩,⟨kB HB.out⟩⟩
    rw [if_pos c17] at H
    have c17b0:decide (a1_1 ≤ ((rd_T27 l0 x12_1).f1)) = true:=decide_eq_true c17
    clear c17
    by_cases c18:x7_1 = true
    rotate_left
    ·replace c18:=Bool.eq_false_iff.mpr c18
     subst c18
     have H1:(impl_up.j1 k1 false l0 (l0.length:Int) x12_1 true a1_0 a1_1 a1_2 x312000_1 x312001_1 x312002_1 ((rd_T27 l0 x12_1).f0) ((rd_T27 l0 x12_1).f1) ((rd_T27 l0 x12_1).f2)) = some (r1,r2,r3,r4):=by rw [if_neg (show ¬ (false = true) by decide)] at H;exact H
     clear H
     have H:=H1
     clear H1
     have H':=mk0 H
     clear H
     have hnb28:=NB313_309.out
     have hnc28:=NB309_313.out
     have hnb29:=NB313_310.out
     have hnc29:=NB310_313.out
     have hnb30:=NB313_311.out
     have hnc30:=NB311_313.out
     obtain⟨hcz31_0,hcz31_1,hcz31_2,hfz31_0,hfz31_1,hfz31_2⟩:=cz3 BK313.out
     have hnb32:=NB309_310.out
     have hnc32:=NB310_309.out
     have hnb33:=NB309_311.out
     have hnc33:=NB311_309.out
     obtain⟨hcz34_0,hcz34_1,hcz34_2,hfz34_0,hfz34_1,hfz34_2⟩:=cz3 BK309.out
     go_wp2
     go_meet
     case rel=>exact⟨_,(true),(by first|rfl|(simp;done)|(simp [*];done)),H',⟨by have:=HK1.out;first|omega|exact Nat.le_refl _⟩,⟨by (with_reducible repeat (first|apply nB|apply dB|apply aB));refine blk_far ?_ NB309_313.out _;(with_reducible repeat (first|apply nB|apply dB|apply aB));refine blk_far ?_ NB309_313.out _;(with_reducible repeat (first|apply nB|apply dB|apply aB));refine blk_far ?_ NB309_313.out _;(with_reducible repeat (first|apply nB|apply dB|apply aB));exact BK309.out⟩,⟨by (with_reducible repeat (first|apply nB|apply dB|apply aB));refine blk_far ?_ NB310_313.out _;(with_reducible repeat (first|apply nB|apply dB|apply aB));refine blk_far ?_ NB310_313.out _;(with_reducible repeat (first|apply nB|apply dB|apply aB));refine blk_far ?_ NB310_313.out _;(with_reducible repeat (first|apply nB|apply dB|apply aB));exact BK310.out⟩,⟨by (with_reducible repeat (first|apply nB|apply dB|apply aB));refine blk_far ?_ NB311_313.out _;(with_reducible repeat (first|apply nB|apply dB|apply aB));refine blk_far ?_ NB311_313.out _;(with_reducible repeat (first|apply nB|apply dB|apply aB));refine blk_far ?_ NB311_313.out _;(with_reducible repeat (first|apply nB|apply dB|apply aB));exact BK311.out⟩,⟨by (with_reducible repeat (first|apply nB|apply dB|apply aB));refine blk_put (cs:=#[.int .i64 ((rd_T27 l0 x12_1).f0),.int .i64 ((rd_T27 l0 x12_1).f1),.int .i64 0]) ?_ 2 _ rfl;(with_reducible repeat (first|apply nB|apply dB|apply aB));refine blk_put (cs:=#[.int .i64 ((rd_T27 l0 x12_1).f0),.int .i64 0,.int .i64 0]) ?_ 1 _ rfl;(with_reducible repeat (first|apply nB|apply dB|apply aB));refine blk_put (cs:=#[.int .i64 0,.int .i64 0,.int .i64 0]) ?_ 0 _ rfl;(with_reducible repeat (first|apply nB|apply dB|apply aB));exact BK313.out⟩,⟨kB HB.out⟩⟩
    subst c18
    have H1:(impl_up.j1 k1 true l0 (l0.length:Int) x12_1 (decide ((wrap64 (((rd_T27 l0 x12_1).f1) - ((rd_T27 l0 x12_1).f0))) < (wrap64 (x312001_1 - x312000_1)))) a1_0 a1_1 a1_2 x312000_1 x312001_1 x312002_1 ((rd_T27 l0 x12_1).f0) ((rd_T27 l0 x12_1).f1) ((rd_T27 l0 x12_1).f2)) = some (r1,r2,r3,r4):=by rw [if_pos rfl] at H;exact H
    clear H
    have H:=H1
    clear H1
    have H':=mk0 H
    clear H
    have hnb19:=NB313_309.out
    have hnc19:=NB309_313.out
    have hnb20:=NB313_310.out
    have hnc20:=NB310_313.out
    have hnb21:=NB313_311.out
    have hnc21:=NB311_313.out
    obtain⟨hcz22_0,hcz22_1,hcz22_2,hfz22_0,hfz22_1,hfz22_2⟩:=cz3 BK313.out
    have hnb23:=NB309_310.out
    have hnc23:=NB310_309.out
    have hnb24:=NB309_311.out
    have hnc24:=NB311_309.out
    obtain⟨hcz25_0,hcz25_1,hcz25_2,hfz25_0,hfz25_1,hfz25_2⟩:=cz3 BK309.out
    have hnb26:=NB311_310.out
    have hnc26:=NB310_311.out
    obtain⟨hcz27_0,hcz27_1,hcz27_2,hfz27_0,hfz27_1,hfz27_2⟩:=cz3 BK311.out
    go_wp2
    go_meet
    case rel=>exact⟨_,(decide ((wrap64 (((rd_T27 l0 x12_1).f1) - ((rd_T27 l0 x12_1).f0))) < (wrap64 (x312001_1 - x312000_1)))),(by first|rfl|(simp;done)|(simp [*];done)),H',⟨by have:=HK1.out;first|omega|exact Nat.le_refl _⟩,⟨by (with_reducible repeat (first|apply nB|apply dB|apply aB));refine blk_far ?_ NB309_313.out _;(with_reducible repeat (first|apply nB|apply dB|apply aB));refine blk_far ?_ NB309_313.out _;(with_reducible repeat (first|apply nB|apply dB|apply aB));refine blk_far ?_ NB309_313.out _;(with_reducible repeat (first|apply nB|apply dB|apply aB));exact BK309.out⟩,⟨by (with_reducible repeat (first|apply nB|apply dB|apply aB));refine blk_far ?_ NB310_313.out _;(with_reducible repeat (first|apply nB|apply dB|apply aB));refine blk_far ?_ NB310_313.out _;(with_reducible repeat (first|apply nB|apply dB|apply aB));refine blk_far ?_ NB310_313.out _;(with_reducible repeat (first|apply nB|apply dB|apply aB));exact BK310.out⟩,⟨by (with_reducible repeat (first|apply nB|apply dB|apply aB));refine blk_far ?_ NB311_313.out _;(with_reducible repeat (first|apply nB|apply dB|apply aB));refine blk_far ?_ NB311_313.out _;(with_reducible repeat (first|apply nB|apply dB|apply aB));refine blk_far ?_ NB311_313.out _;(with_reducible repeat (first|apply nB|apply dB|apply aB));exact BK311.out⟩,⟨by (with_reducible repeat (first|apply nB|apply dB|apply aB));refine blk_put (cs:=#[.int .i64 ((rd_T27 l0 x12_1).f0),.int .i64 ((rd_T27 l0 x12_1).f1),.int .i64 0]) ?_ 2 _ rfl;(with_reducible repeat (first|apply nB|apply dB|apply aB));refine blk_put (cs:=#[.int .i64 ((rd_T27 l0 x12_1).f0),.int .i64 0,.int .i64 0]) ?_ 1 _ rfl;(with_reducible repeat (first|apply nB|apply dB|apply aB));refine blk_put (cs:=#[.int .i64 0,.int .i64 0,.int .i64 0]) ?_ 0 _ rfl;(with_reducible repeat (first|apply nB|apply dB|apply aB));exact BK313.out⟩,⟨kB HB.out⟩⟩
   case rest =>
    clear HC9
    try clear c1
    try clear c2
    try clear p2
    try clear c3
    try clear p3
    try clear q3
    try clear hx3
    try clear c4
    try clear c5
    try clear c6
    try clear c6b0
    try clear p6
    try clear c7
    try clear c7b0
    try clear c8
    try clear c8b0
    try clear c11
    try clear c12
    try clear c13
    try clear c15
    try clear c15b0
    try clear c16
    try clear c16b0
    try clear c17
    try clear c17b0
    try clear c18
    try clear c19
    try clear c20
    try clear c21
    try clear c23
    try clear c24
    try clear c26
    try clear c28
    try clear c29
    try clear c30
    try clear p31
    try clear q31
    try clear hx31
    try clear c32
    try clear c33
    try clear c35
    try clear c36
    try clear c37
    try clear c39
    try clear c40
    try clear c42
    try clear c43
    try clear c44
    try clear c46
    try clear c47
    try clear c49
    try clear c50
    try clear c51
    try clear c53
    try clear c54
    try clear c55
    try clear hcz14_0
    try clear hcz14_1
    try clear hcz14_2
    try clear hcz22_0
    try clear hcz22_1
    try clear hcz22_2
    try clear hcz25_0
    try clear hcz25_1
    try clear hcz25_2
    try clear hcz27_0
    try clear hcz27_1
    try clear hcz27_2
    try clear hcz31_0
    try clear hcz31_1
    try clear hcz31_2
    try clear hcz34_0
    try clear hcz34_1
    try clear hcz34_2
    try clear hcz38_0
    try clear hcz38_1
    try clear hcz38_2
    try clear hcz41_0
    try clear hcz41_1
    try clear hcz41_2
    try clear hcz45_0
    try clear hcz45_1
    try clear hcz45_2
    try clear hcz48_0
    try clear hcz48_1
    try clear hcz48_2
    try clear hcz52_0
    try clear hcz52_1
    try clear hcz52_2
    try clear hcz55_0
    try clear hcz55_1
    try clear hcz55_2
    try clear hfz14_0
    try clear hfz14_1
    try clear hfz14_2
    try clear hfz22_0
    try clear hfz22_1
    try clear hfz22_2
    try clear hfz25_0
    try clear hfz25_1
    try clear hfz25_2
    try clear hfz27_0
    try clear hfz27_1
    try clear hfz27_2
    try clear hfz31_0
    try clear hfz31_1
    try clear hfz31_2
    try clear hfz34_0
    try clear hfz34_1
    try clear hfz34_2
    try clear hfz38_0
    try clear hfz38_1
    try clear hfz38_2
    try clear hfz41_0
    try clear hfz41_1
    try clear hfz41_2
    try clear hfz45_0
    try clear hfz45_1
    try clear hfz45_2
    try clear hfz48_0
    try clear hfz48_1
    try clear hfz48_2
    try clear hfz52_0
    try clear hfz52_1
    try clear hfz52_2
    try clear hfz55_0
    try clear hfz55_1
    try clear hfz55_2
    try clear hx312_0
    try clear hx312_1
    try clear hx312_2
    try clear p2
    try clear p312
    try clear q312
    obtain⟨kq,x49_8,rfl,HA,HJ8,BK309,BK310,BK311,BK313,HB⟩:=hcut
    cases kq with
    | zero=>exact absurd HA.out (by simp [impl_up.j1])
    | succ kj8 =>
     have H:=HA.out
     clear HA
     simp only [impl_up.j1] at H
     by_cases c56:x49_8 = true
     rotate_left
     ·replace c56:=Bool.eq_false_iff.mpr c56
      subst c56
      have H1:(impl_up.l0 kj8 x7_1 l0 (l0.length:Int) (wrap64 (x12_1 + 1)) a1_0 a1_1 a1_2 x312000_1 x312001_1 x312002_1) = some (r1,r2,r3,r4):=by rw [if_neg (show ¬ (false = true) by decide)] at H;exact H
      clear H
      have H:=H1
      clear H1
      have H':=mk0 H
      clear H
      go_wp2
      go_roundg kj8
      case measure=>have:=HK1.out;have:=HJ8.out;omega
      case rel=>exact⟨(x7_1),(wrap64 (x12_1 + 1)),(x312000_1),(x312001_1),(x312002_1),(by first|rfl|(simp;done)|(simp [*];done)),(by first|rfl|(simp;done)|(simp [*];done)),H',⟨by have:=HK1.out;have:=HJ8.out;omega⟩,⟨kN BK309.out⟩,⟨kN BK310.out⟩,⟨kN BK311.out⟩,⟨kB HB.out⟩⟩
     subst c56
     have H1:(impl_up.l0 kj8 true l0 (l0.length:Int) (wrap64 (x12_1 + 1)) a1_0 a1_1 a1_2 ((rd_T27 l0 x12_1).f0) ((rd_T27 l0 x12_1).f1) ((rd_T27 l0 x12_1).f2)) = some (r1,r2,r3,r4):=by rw [if_pos rfl] at H;exact H
     clear H
     have H:=H1
     clear H1
     have H':=mk0 H
     clear H
     have hnb57:=NB313_309.out
     have hnc57:=NB309_313.out
     have hnb58:=NB313_310.out
     have hnc58:=NB310_313.out
     have hnb59:=NB313_311.out
     have hnc59:=NB311_313.out
     obtain⟨hcz60_0,hcz60_1,hcz60_2,hfz60_0,hfz60_1,hfz60_2⟩:=cz3 BK313.out
     have hnb61:=NB311_309.out
     have hnc61:=NB309_311.out
     have hnb62:=NB311_310.out
     have hnc62:=NB310_311.out
     obtain⟨hcz63_0,hcz63_1,hcz63_2,hfz63_0,hfz63_1,hfz63_2⟩:=cz3 BK311.out
     go_wp2
     go_roundg kj8
     case measure=>have:=HK1.out;have:=HJ8.out;omega
     case rel=>exact⟨(true),(wrap64 (x12_1 + 1)),(((rd_T27 l0 x12_1).f0)),(((rd_T27 l0 x12_1).f1)),(((rd_T27 l0 x12_1).f2)),(by first|rfl|(simp;done)|(simp [*];done)),(by first|rfl|(simp;done)|(simp [*];done)),H',⟨by have:=HK1.out;have:=HJ8.out;omega⟩,⟨by (with_reducible repeat (first|apply nB|apply dB|apply aB));refine blk_far ?_ NB309_311.out _;(with_reducible repeat (first|apply nB|apply dB|apply aB));refine blk_far ?_ NB309_311.out _;(with_reducible repeat (first|apply nB|apply dB|apply aB));refine blk_far ?_ NB309_311.out _;(with_reducible repeat (first|apply nB|apply dB|apply aB));exact BK309.out⟩,⟨by (with_reducible repeat (first|apply nB|apply dB|apply aB));refine blk_far ?_ NB310_311.out _;(with_reducible repeat (first|apply nB|apply dB|apply aB));refine blk_far ?_ NB310_311.out _;(with_reducible repeat (first|apply nB|apply dB|apply aB));refine blk_far ?_ NB310_311.out _;(with_reducible repeat (first|apply nB|apply dB|apply aB));exact BK310.out⟩,⟨by (with_reducible repeat (first|apply nB|apply dB|apply aB));refine blk_put (cs:=#[.int .i64 ((rd_T27 l0 x12_1).f0),.int .i64 ((rd_T27 l0 x12_1).f1),.int .i64 x312002_1]) ?_ 2 _ rfl;(with_reducible repeat (first|apply nB|apply dB|apply aB));refine blk_put (cs:=#[.int .i64 ((rd_T27 l0 x12_1).f0),.int .i64 x312001_1,.int .i64 x312002_1]) ?_ 1 _ rfl;(with_reducible repeat (first|apply nB|apply dB|apply aB));refine blk_put (cs:=#[.int .i64 x312000_1,.int .i64 x312001_1,.int .i64 x312002_1]) ?_ 0 _ rfl;(with_reducible repeat (first|apply nB|apply dB|apply aB));exact BK311.out⟩,⟨kB HB.out⟩⟩
-- NOT PRINTED: function 74 (impl_Stretch_74)

-- NOT PRINTED: function 56 (impl_Stretch_56)


/-! ### impl_Stretch_57: function 57 (by hand) -/
def impl_Stretch_57.f (l0 : List S27) : Option (List S27) := if l0.length < 5864062014805 then some l0 else none
theorem impl_Stretch_57.info : (Try.prog.info? 27).map (fun i => (i.zero, i.size, i.bytes)) = some (some (.agg #[(.int .i64 0), (.int .i64 0), (.int .i64 0)]), 3, 24) := by kernel_rfl
set_option maxHeartbeats 8000000 in
set_option maxRecDepth 100000 in
theorem impl_Stretch_57.calls (A0 : Option Addr) (c0 : Nat) (l0 : List S27) (r : List S27) (w : World) (hr0 : Kd.C k27 w A0 l0.length l0) (hc0 : l0.length ≤ c0) (h : impl_Stretch_57.f l0 = some r) :
    Calls Try.prog 57 #[.slice A0 l0.length c0] w fun e w' => ∃ v0_ : Value, e = .returned (v0_) ∧ Kd.R k27 27 w' w.heap.size (fun _ => True) v0_ r ∧ Below w.heap.size w w' := by
  unfold impl_Stretch_57.f at h
  by_cases hm : l0.length < 5864062014805
  · rw [if_pos hm] at h
    obtain rfl := Option.some.inj h
    clear h
    have HB := Aside0.mk (Below.refl w.heap.size w)
    cases A0 with
    | none =>
      have hl : l0 = [] := by
        rcases Nat.eq_zero_or_pos l0.length with h0 | h0
        · exact List.length_eq_zero_iff.1 h0
        · obtain ⟨ad, e, _⟩ := hr0.2.2 h0
          cases e
      subst hl
      clear hr0 hc0 hm
      have he_ : ∀ w_ : World, (binOp .eql 39 (.slice none 0 c0) (.slice none 0 0)).run Try.prog w_ = .ok (.bool true) w_ := fun w_ => _root_.Go.Lib.run_eql_slice_nil w_ 39 27 none 0 c0 0 0 Try.underlying39
      go_enter Try.func57, Try.ntmps57
      go_wp2
      go_ret
      exact ⟨_, by first | rfl | (simp; done), Kd.R_nil _ _ _ _ _, HB.out⟩
    | some ad =>
      have HR0 := Aside0.mk hr0
      have HC0 := Aside0.mk hc0
      have LM := Aside0.mk hm
      clear hr0 hc0 hm
      have he_ : ∀ w_ : World, (binOp .eql 39 (.slice (some ad) l0.length c0) (.slice none 0 0)).run Try.prog w_ = .ok (.bool false) w_ := fun w_ => _root_.Go.Lib.run_eql_slice_nil w_ 39 27 (some ad) l0.length c0 0 0 Try.underlying39
      go_enter Try.func57, Try.ntmps57
      go_wp2_with (first | ((with_reducible refine gate_dst (N := 5) rfl ?_); refine Kd.R_lit k27 _ 27 ?hg (N := 5) ?hd (xs := ([] : List S27)) (inner := []) (ok := fun _ => True) (okp := fun _ => True) ?hr ?hp (fun _ hk => hk) trivial (Below.refl _ _) (Nat.le_refl _) (by simp) ?_; (case hd => rfl); (case hg => rfl); (case hr => first | (go_simp; done) | (go_simp; rfl)); (case hp => exact (Reps.none _ _)); intro v138 w18 ho19 hb hg_ hnew_; clear hg_ hnew_; have n0_ := Aside0.mk (Kd.R_lower ho19 (below_size (by repeat (first | (with_reducible first | exact HB.out | apply below_alloc | apply pw_below_drewN | apply below_drew1) | exact HB.out)))); have n2_ := Aside0.mk (below_step (by repeat (first | (with_reducible first | exact HB.out | apply below_alloc | apply pw_below_drewN | apply below_drew1) | exact HB.out)) hb); clear HB; have HO139 := n0_; have HB := n2_; clear n0_ n2_; clear hb ho19) | ((with_reducible refine gate_builtin (b := .append) (xs := #[.tmp 5, .tmp 6]) rfl ?_); at_builtin; refine Kd.R_append_rows k27 (w0 := w) w.heap.size rfl (.tmp 5) (.tmp 6) 39 27 (.agg #[(.int .i64 0), (.int .i64 0), (.int .i64 0)]) 24 rfl Try.underlying39 impl_Stretch_57.info rfl (by decide) (by omega) v138 ([] : List S27) l0 _ _ _ (fun _ => True) (fun _ => False) rfl rfl ?aO ?aR (fun _ _ h => h) (fun _ h => h.elim) ?aF ?aB ?aS ?aL ?_; (case aR => repeat (first | exact (Kd.C_below HR0.out HB.out) | (with_reducible refine Kd.C_alloc ?_ _) | (with_reducible refine Kd.C_drewN ?_ _) | (with_reducible refine Kd.C_drew ?_))); (case aB => exact (by repeat (first | (with_reducible first | exact HB.out | apply below_alloc | apply pw_below_drewN | apply below_drew1) | exact HB.out))); (case aF => exact (fun _ _ => trivial)); (case aO => exact (by (with_reducible repeat (first | apply Kd.R_alloc | apply Kd.R_drewN | apply Kd.R_drew)); exact HO139.out)); (case aS => exact (below_size (by repeat (first | (with_reducible first | exact HB.out | apply below_alloc | apply pw_below_drewN | apply below_drew1) | exact HB.out)))); (case aL => have := LM.out; simp only [List.length_nil, Nat.zero_add]; omega); intro v142 w22 ho hb hg hat; rw [List.nil_append] at ho; have n1_ := Aside0.mk (hb); have n2_ := Aside0.mk (ho); clear HB; clear HO139; have HB := n1_; have HO143 := n2_; clear n1_ n2_; clear ho hb hg hat))
      go_ret
      exact ⟨_, by first | rfl | (simp; done), by (with_reducible repeat (first | apply Kd.R_alloc | apply Kd.R_drewN | apply Kd.R_drew)); exact HO143.out, by repeat (first | (with_reducible first | exact HB.out | apply below_alloc | apply pw_below_drewN | apply below_drew1) | exact HB.out)⟩
  · rw [if_neg hm] at h
    exact absurd h (by simp)

end Go.Proofs.Ytoinagnieobbpaa.QFnStretchWords
