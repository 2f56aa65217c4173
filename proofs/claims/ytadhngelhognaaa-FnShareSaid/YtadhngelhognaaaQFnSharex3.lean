-- A walk, made by walk.py, a program of this session's.
import Derived.Test.YtadhngelhognaaaQFnSharex0
import Derived.Test.YtadhngelhognaaaQFnSharex1
import Derived.Test.YtadhngelhognaaaQFnSharex2
namespace Go.Proofs.Ytadhngelhognaaa.QFnShare
open Go.RowKit Go.Proofs.YtadhngelhognaaaW.PrintWords Go.Proofs.YtadhngelhognaaaW.PrintLast Go.Proofs.YtadhngelhognaaaW.PrintMore
attribute [local go_sem] max2_int min2_int max_two min_two max_three min_three max_four min_four   -- for this text's walks alone
set_option linter.unusedVariables false
set_option linter.unusedSimpArgs false
/-! ### spec_Parts: function 27 -/
mutual
def spec_Parts.l0 : Nat → List (List Int) → Int → List (List Int) → List (List Int) → List (List Int) → Option ((List (S48)))
 | 0, _, _, _, _, _ => none
 | k + 1, x10, x11, x25, x28, x33 => if x11 < (x33.length : Int) then (spec_Parts.l1 k x10 x11 0 false x25 x28 x33) else (spec_Parts.l2 k x10 (([] : List (S48))) 0 x25 x28)
def spec_Parts.j2 : Nat → List (List Int) → List (List Int) → List (List Int) → List (List Int) → Int → Int → Bool → Option ((List (S48)))
 | 0, _, _, _, _, _, _, _ => none
 | k + 1, x7, x8, x9, x10, x11, x12, x13 => if x13 = true then (spec_Parts.l0 k x10 (wrap64 (x11 + 1)) x7 x8 x9) else (if 0 ≤ x11 then (if x11 < (x9.length : Int) then ((some (([rd_L2 x9 x11] : List (List Int)) : List (List Int))).bind fun y184 => (if 0 ≤ x12 then (if x12 ≤ (x10.length : Int) then ((some (x10.drop (x12 : Int).toNat : List (List Int))).bind fun y187 => (if y184.length + y187.length < 5864062014805 then ((some (y184 ++ y187 : List (List Int))).bind fun y192 => ((some (([] : List (List Int)) : List (List Int))).bind fun y195 => ((some (x10.take (x12 : Int).toNat : List (List Int))).bind fun y198 => (if y195.length + y198.length < 5864062014805 then ((some (y195 ++ y198 : List (List Int))).bind fun y203 => (if y203.length + y192.length < 5864062014805 then (spec_Parts.l0 k (y203 ++ y192) (wrap64 (x11 + 1)) x7 x8 x9) else (none))) else (none))))) else (none))) else (none)) else (none))) else (none)) else (none))
def spec_Parts.l1 : Nat → List (List Int) → Int → Int → Bool → List (List Int) → List (List Int) → List (List Int) → Option ((List (S48)))
 | 0, _, _, _, _, _, _, _ => none
 | k + 1, x10, x11, x12, x13, x25, x28, x33 => if x12 < (x10.length : Int) then (if 0 ≤ x12 then (if 0 ≤ x11 then (if x11 < (x33.length : Int) then ((spec_l05Cmp.f k (rd_L2 x10 x12) (rd_L2 x33 x11)).bind fun t179 => (if t179 ≤ 0 then (if x13 = true then (spec_Parts.l1 k x10 x11 (wrap64 (x12 + 1)) true x25 x28 x33) else ((spec_l05Cmp.f k (rd_L2 x10 x12) (rd_L2 x33 x11)).bind fun t182 => (spec_Parts.l1 k x10 x11 (wrap64 (x12 + 1)) (t182 == 0) x25 x28 x33))) else (spec_Parts.j2 k x25 x28 x33 x10 x11 x12 x13))) else (none)) else (none)) else (none)) else (spec_Parts.j2 k x25 x28 x33 x10 x11 x12 x13)
def spec_Parts.l2 : Nat → List (List Int) → List (S48) → Int → List (List Int) → List (List Int) → Option ((List (S48)))
 | 0, _, _, _, _, _ => none
 | k + 1, x10, x15, x16, x25, x28 => if x16 < (x10.length : Int) then ((some (([] : List Int) : List Int)).bind fun y212 => (if 0 ≤ x16 then (if y212.length + (rd_L2 x10 x16).length < 140737488355328 then ((spec_l13Span.f k x25 (rd_L2 x10 x16)).bind fun bt221 => ((spec_l13Span.f k x28 (rd_L2 x10 x16)).bind fun bt224 => (if x15.length < 2513169434916 then (spec_Parts.l2 k x10 (x15 ++ [(⟨(y212 ++ (rd_L2 x10 x16)), bt221.1, bt221.2, bt224.1, bt224.2⟩ : S48)]) (wrap64 (x16 + 1)) x25 x28) else (none)))) else (none)) else (none))) else (some x15)
end
def spec_Parts.f (k : Nat) (l0 : List Int) (l1 : List Int) (a2 : Int) : Option ((List (S48))) := (spec_l13Fit.f l0 l1 a2).bind fun t158 => (if t158 = true then ((spec_l13Heads.f k l0 a2).bind fun t159 => ((spec_l13Heads.f k l1 a2).bind fun t162 => ((some (([] : List (List Int)) : List (List Int))).bind fun y165 => (if y165.length + t159.length < 5864062014805 then ((some (y165 ++ t159 : List (List Int))).bind fun y168 => (if y168.length + t162.length < 5864062014805 then (spec_Parts.l0 k (([] : List (List Int))) 0 t159 t162 (y168 ++ t162)) else (none))) else (none))))) else (some ([] : List (S48))))
def spec_Parts.T12 : Bool × List (List Nat × List Nat) := (true, [([], []), ([], []), ([1], [1]), ([0, 2], [0, 2]), ([3], [3]), ([4], [4]), ([4], [4]), ([5, 6, 4], [4, 5, 6]), ([7, 4], [4, 7]), ([4], [4]), ([4], [4]), ([9, 10, 4], [4, 9, 10]), ([11, 4], [4, 11]), ([8, 12, 4, 4], [4, 8, 12]), ([13, 4], [4, 13]), ([4, 14], [4, 14])])
def spec_Parts.B12 : List Nat := [0, 0, 2, 7, 15, 31, 31, 127, 255, 31, 31, 1567, 3615, 8191, 16383, 32767]
theorem spec_Parts.tab12 : rtab .any (opsOf Try.f27 12) = spec_Parts.T12 := by kernel_rfl
theorem spec_Parts.bits12 : waitsOk spec_Parts.T12.2 spec_Parts.B12 = true := by kernel_rfl
def spec_Parts.T13 : Bool × List (List Nat × List Nat) := (true, [([], []), ([0], [0]), ([1], [1]), ([1], [1]), ([2, 3, 1], [1, 2, 3]), ([4, 1], [1, 4]), ([1], [1]), ([1], [1]), ([6, 7, 1], [1, 6, 7]), ([8, 1], [1, 8]), ([5, 9, 1, 1], [1, 5, 9]), ([10, 1], [1, 10]), ([1, 11], [1, 11]), ([12, 10, 0, 1, 2, 3, 4, 5, 6, 7, 8, 9, 10, 11, 12], [0, 12])])
def spec_Parts.B13 : List Nat := [0, 1, 3, 3, 15, 31, 3, 3, 195, 451, 1023, 2047, 4095, 8191]
theorem spec_Parts.tab13 : rtab .any (opsOf Try.f27 13) = spec_Parts.T13 := by kernel_rfl
theorem spec_Parts.bits13 : waitsOk spec_Parts.T13.2 spec_Parts.B13 = true := by kernel_rfl
def spec_Parts.T16 : Bool × List (List Nat × List Nat) := (true, [([], []), ([], []), ([0, 1], [0, 1]), ([2], [2]), ([3], [3]), ([], []), ([], []), ([5, 6], [5, 6]), ([4, 7], [4, 7]), ([8, 8, 0, 1, 2, 3, 4, 5, 6, 7, 8], [8])])
def spec_Parts.B16 : List Nat := [0, 0, 3, 7, 15, 0, 0, 96, 255, 511]
theorem spec_Parts.tab16 : rtab .any (opsOf Try.f27 16) = spec_Parts.T16 := by kernel_rfl
theorem spec_Parts.bits16 : waitsOk spec_Parts.T16.2 spec_Parts.B16 = true := by kernel_rfl
set_option maxHeartbeats 8000000 in
set_option maxRecDepth 100000 in
theorem spec_Parts.calls (k : Nat) (P0_ : Nat → Prop) (A0 : Option Addr) (c0 : Nat) (l0 : List Int) (P1_ : Nat → Prop) (A1 : Option Addr) (c1 : Nat) (l1 : List Int) (a2 : Int) (r : List (S48)) (w : World) (hs0 : Kd.V (Kd.int .u8) 5 w w.heap.size (fun k_ => P0_ k_) (.slice A0 l0.length c0) l0) (hs1 : Kd.V (Kd.int .u8) 5 w w.heap.size (fun k_ => P1_ k_) (.slice A1 l1.length c1) l1) (h : spec_Parts.f k l0 l1 a2 = some r) :
  Calls Try.prog 27 #[.slice A0 l0.length c0, .slice A1 l1.length c1, .int .i64 a2] w fun e w' => ∃ v0_ : Value, e = .returned (v0_) ∧ Kd.N k48 48 w' w.heap.size (fun k_ => ((P0_ k_ ∨ P1_ k_) ∨ w.heap.size ≤ k_)) v0_ r ∧ Below w.heap.size w w' := by
 have hu48:=Try.underlying48
 have HO0:=mk0 (show Kd.V (Kd.int .u8) 5 w w.heap.size (fun k_=>((P0_ k_ ∨ P1_ k_) ∨ w.heap.size ≤ k_)) (.slice A0 l0.length c0) l0 from Kd.V_mono hs0 (fun k_ hk=>.inl (.inl hk)))
 have HO1:=mk0 (show Kd.V (Kd.int .u8) 5 w w.heap.size (fun k_=>((P0_ k_ ∨ P1_ k_) ∨ w.heap.size ≤ k_)) (.slice A1 l1.length c1) l1 from Kd.V_mono hs1 (fun k_ hk=>.inl (.inr hk)))
 have HB:=mk0 (Below.refl w.heap.size w)
 have H:((spec_l13Fit.f l0 l1 a2).bind fun t158=>(if t158 = true then ((spec_l13Heads.f k l0 a2).bind fun t159=>((spec_l13Heads.f k l1 a2).bind fun t162=>((some (([]:List (List Int)):List (List Int))).bind fun y165=>(if y165.length + t159.length < 5864062014805 then ((some (y165 ++ t159:List (List Int))).bind fun y168=>(if y168.length + t162.length < 5864062014805 then (spec_Parts.l0 k (([]:List (List Int))) 0 t159 t162 (y168 ++ t162)) else (none))) else (none))))) else (some ([]:List (S48))))) = some r:=h
 clear h
 replace H:=bE H
 obtain⟨t158,A4,H⟩:=H
 by_cases c5:t158 = true
 rotate_left
 ·replace c5:=Bool.eq_false_iff.mpr c5
  subst c5
  replace H:=iF H
  obtain rfl:=Option.some.inj H
  go_enter Try.func27,Try.ntmps27
  go_wp2_with (first|((with_reducible refine gate_callee (f:=35) rfl ?_);refine gL (some 21) Try.func35 #[.slice A0 l0.length c0,.slice A1 l1.length c1,.int .i64 a2] ?_;(with_reducible refine (spec_l13Fit.calls _ _ l0 _ _ l1 a2 false _ ?side1 ?side2 ?side3 ?side4 A4.out).mono ?_);(case side1=>exact kC (Kd.V_reads' HO0.out).2.2);(case side2=>exact (Kd.V_reads' HO0.out).2.1);(case side3=>exact kC (Kd.V_reads' HO1.out).2.2);(case side4=>exact (Kd.V_reads' HO1.out).2.1);rintro e w' ⟨rfl,⟨nd,rfl⟩⟩;refine⟨_,rfl,?_⟩))
  go_ret
  exact⟨_,eR,by first|exact Kd.S_nil _ _ _ _ _|exact Kd.N_nil _ _ _ _ _|exact Kd.V_nil _ _ _ _ _|exact Kd.Q_nil _ _ _ _ _|exact Kd.R_nil _ _ _ _ _,kB HB.out⟩
 subst c5
 replace H:=iT H
 replace H:=bE H
 obtain⟨t159,A6,H⟩:=H
 replace H:=bE H
 obtain⟨t162,A7,H⟩:=H
 obtain⟨y165,hy165⟩:∃ y_:List (List Int),y_ = (([]:List (List Int))):=⟨_,rfl⟩
 first|(with_reducible replace H:=yB hy165 H)|rw [← hy165] at H|skip
 have Ny165:=mk0 hy165
 clear hy165
 by_cases c8:y165.length + t159.length < 5864062014805
 rotate_left
 ·rw [if_neg c8] at H
  exact nn H
 rw [if_pos c8] at H
 have LMc8:=mk0 c8
 clear c8
 obtain⟨y168,hy168⟩:∃ y_:List (List Int),y_ = (y165 ++ t159):=⟨_,rfl⟩
 first|(with_reducible replace H:=yB hy168 H)|rw [← hy168] at H|skip
 have Ny168:=mk0 hy168
 clear hy168
 by_cases c9:y168.length + t162.length < 5864062014805
 rotate_left
 ·rw [if_neg c9] at H
  exact nn H
 rw [if_pos c9] at H
 have LMc9:=mk0 c9
 clear c9
 obtain⟨y171,hy171⟩:∃ y_:List (List Int),y_ = (y168 ++ t162):=⟨_,rfl⟩
 first|(with_reducible replace H:=yB hy171 H)|rw [← hy171] at H|skip
 have Ny171:=mk0 hy171
 clear hy171
 obtain⟨y174,hy174⟩:∃ y_:List (List Int),y_ = (([]:List (List Int))):=⟨_,rfl⟩
 first|(with_reducible replace H:=yB hy174 H)|rw [← hy174] at H|skip
 have Ny174:=mk0 hy174
 clear hy174
 have H':=mk0 H
 clear H
 go_enter Try.func27,Try.ntmps27
 go_wp2_with (first|((with_reducible refine gate_callee (f:=35) rfl ?_);refine gL (some 21) Try.func35 #[.slice A0 l0.length c0,.slice A1 l1.length c1,.int .i64 a2] ?_;(with_reducible refine (spec_l13Fit.calls _ _ l0 _ _ l1 a2 true _ ?side1 ?side2 ?side3 ?side4 A4.out).mono ?_);(case side1=>exact kC (Kd.V_reads' HO0.out).2.2);(case side2=>exact (Kd.V_reads' HO0.out).2.1);(case side3=>exact kC (Kd.V_reads' HO1.out).2.2);(case side4=>exact (Kd.V_reads' HO1.out).2.1);rintro e w' ⟨rfl,⟨nd,rfl⟩⟩;refine⟨_,rfl,?_⟩)|((with_reducible refine gate_callee (f:=52) rfl ?_);refine gL (some 25) Try.func52 #[.slice A0 l0.length c0,.int .i64 a2] ?_;(with_reducible refine (spec_l13Heads.calls k (fun k_=>((P0_ k_ ∨ P1_ k_) ∨ w.heap.size ≤ k_)) _ _ l0 a2 t159 _ ?side1 A6.out).mono ?_);(case side1=>exact HO0.out);rintro e w10 ⟨v160,rfl,ho0,hb⟩;refine⟨_,rfl,?_⟩;replace HO0:=mk0 (Kd.V_elder' (rV HO0.out) (Kd.N_base ho0) hb);replace HO1:=mk0 (Kd.V_elder' (rV HO1.out) (Kd.N_base ho0) hb);have HO161:=mk0 (Kd.N_lower (Kd.N_mono (ok':=fun k_=>((P0_ k_ ∨ P1_ k_) ∨ w.heap.size ≤ k_)) ho0 (fun k_ hk_=>Or.elim hk_ (fun hs_=>hs_) (fun hn_=>(.inr (Nat.le_trans (kZ HB.out) hn_))))) (kZ HB.out));replace HB:=mk0 (kS HB.out hb);(try clear hb);(try clear ho0))|((with_reducible refine gate_callee (f:=52) rfl ?_);refine gL (some 28) Try.func52 #[.slice A1 l1.length c1,.int .i64 a2] ?_;(with_reducible refine (spec_l13Heads.calls k (fun k_=>(((P0_ k_ ∨ P1_ k_) ∨ w.heap.size ≤ k_) ∧ some k_ ≠ (v160:Value).ownBlock)) _ _ l1 a2 t162 _ ?side1 A7.out).mono ?_);(case side1=>exact HO1.out);rintro e w11 ⟨v163,rfl,ho0,hb⟩;refine⟨_,rfl,?_⟩;replace HO0:=mk0 (Kd.V_elder' (rV HO0.out) (Kd.N_base ho0) hb);replace HO1:=mk0 (Kd.V_elder' (rV HO1.out) (Kd.N_base ho0) hb);have HO164:=mk0 (Kd.N_lower (Kd.N_mono (ok':=fun k_=>((P0_ k_ ∨ P1_ k_) ∨ w.heap.size ≤ k_) ∧ some k_ ≠ (v160:Value).ownBlock) ho0 (fun k_ hk_=>⟨Or.elim hk_ (fun hs_=>hs_.1) (fun hn_=>(.inr (Nat.le_trans (kZ HB.out) hn_))),Or.elim hk_ (fun hs_=>hs_.2) (fun hn_=>(Kd.fresh' (Kd.N_lt (rN HO161.out)) k_ hn_))⟩)) (kZ HB.out));replace HO161:=mk0 (Kd.N_elder' (rN HO161.out) (Kd.N_base ho0) hb);replace HB:=mk0 (kS HB.out hb);(try clear hb);(try clear ho0))|((with_reducible refine gate_dst (N:=29) rfl ?_);refine Kd.N_lit (Kd.slice 5 (Kd.int .u8)) _ 22 ?hg (N':=29) ?hd (xs:=([]:List (List Int))) (inner:=[]) (ok:=(fun k_=>((P0_ k_ ∨ P1_ k_) ∨ w.heap.size ≤ k_) ∧ some k_ ≠ (v160:Value).ownBlock ∧ some k_ ≠ (v163:Value).ownBlock)) (okp:=(fun k_=>((P0_ k_ ∨ P1_ k_) ∨ w.heap.size ≤ k_) ∧ some k_ ≠ (v160:Value).ownBlock ∧ some k_ ≠ (v163:Value).ownBlock)) ?hr ?hp (fun _ hk=>hk) ((show ∀ k_,w11.heap.size ≤ k_ → (fun k_=>((P0_ k_ ∨ P1_ k_) ∨ w.heap.size ≤ k_) ∧ some k_ ≠ (v160:Value).ownBlock ∧ some k_ ≠ (v163:Value).ownBlock) k_ from fun k_ hk=>⟨(.inr (Nat.le_trans (kZ HB.out) hk)),Kd.fresh' (Kd.N_lt (rN HO161.out)) k_ hk,Kd.fresh' (Kd.N_lt (rN HO164.out)) k_ hk⟩) _ (Nat.le_refl _)) (Below.refl _ _) (Nat.le_refl _) (by simp) ?_;(case hd=>rfl);(case hg=>rfl);(case hr=>first|(go_simp;done)|(go_simp;rfl));(case hp=>exact (Reps.none _ _));intro v166 w12 ho13 hb hg_ hnew_;clear hg_ hnew_;(first|rw [← Ny165.out] at ho13|(simp only [Int.reduceToNat] at ho13;rw [← Ny165.out] at ho13));replace HO0:=mk0 (Kd.V_elder' (rV HO0.out) (Kd.N_base ho13) hb);replace HO1:=mk0 (Kd.V_elder' (rV HO1.out) (Kd.N_base ho13) hb);replace HO161:=mk0 (Kd.N_elder' (rN HO161.out) (Kd.N_base ho13) hb);replace HO164:=mk0 (Kd.N_elder' (rN HO164.out) (Kd.N_base ho13) hb);have HO167:=mk0 (Kd.N_lower ho13 (kZ HB.out));replace HB:=mk0 (kS HB.out hb);clear hb ho13;obtain⟨Ao15,co15,eo15⟩:=Kd.N_slice HO161.out;subst eo15)|((with_reducible refine gate_builtin (b:=.append) (xs:=#[.tmp 29,.tmp 30]) rfl ?_);at_builtin;refine Kd.N_append_rows (Kd.slice 5 (Kd.int .u8)) (w0:=w) w.heap.size rfl (.tmp 29) (.tmp 30) 66 22 (.slice none 0 0) 24 rfl Try.underlying66 info22 rfl (by decide) (by omega) v166 y165 t159 _ _ _ (fun k_=>((P0_ k_ ∨ P1_ k_) ∨ w.heap.size ≤ k_) ∧ some k_ ≠ (v163:Value).ownBlock) (fun k_=>((fun k_=>((P0_ k_ ∨ P1_ k_) ∨ w.heap.size ≤ k_) ∧ some k_ ≠ (v163:Value).ownBlock)) k_ ∧ some k_ ≠ (v166:Value).ownBlock) rfl rfl ?aO ?aR (fun _ hk=>hk) ?aF ?aB ?aS ?aL ?_;(case aR=>exact (by skip;exact Kd.N_F (Kd.N_mono (ok':=(fun k_=>((fun k_=>((P0_ k_ ∨ P1_ k_) ∨ w.heap.size ≤ k_) ∧ some k_ ≠ (v163:Value).ownBlock)) k_ ∧ some k_ ≠ (v166:Value).ownBlock)) (HO161.out) (fun k_ hk=>⟨⟨hk.1.1,hk.1.2⟩,hk.2⟩))));(case aB=>exact (kB HB.out));(case aF=>exact (fun k_ hk=>⟨(.inr (Nat.le_trans (kZ HB.out) hk)),Kd.fresh' (Kd.N_lt (rN HO164.out)) k_ hk⟩));(case aO=>exact (rN (Kd.N_mono HO167.out (fun _ hk=>⟨hk.1,hk.2.2⟩))));(case aS=>exact (kZ HB.out));(case aL=>have:=LMc8.out;omega);intro v169 w14 ho hb hg hat;rw [← Ny168.out] at ho;replace HO0:=mk0 (Kd.V_afterv (ok:=(fun k_=>((P0_ k_ ∨ P1_ k_) ∨ w.heap.size ≤ k_) ∧ some k_ ≠ (.slice Ao15 t159.length co15:Value).ownBlock ∧ some k_ ≠ (v163:Value).ownBlock)) (rV (Kd.V_mono HO0.out (fun _ hk=>⟨⟨hk.1.1.1,⟨hk.1.1.2,hk.1.2⟩⟩,hk.2⟩))) hg hat);replace HO1:=mk0 (Kd.V_afterv (ok:=(fun k_=>((P0_ k_ ∨ P1_ k_) ∨ w.heap.size ≤ k_) ∧ some k_ ≠ (.slice Ao15 t159.length co15:Value).ownBlock ∧ some k_ ≠ (v163:Value).ownBlock)) (rV (Kd.V_mono HO1.out (fun _ hk=>⟨⟨hk.1.1.1,⟨hk.1.1.2,hk.1.2⟩⟩,hk.2⟩))) hg hat);replace HO161:=mk0 (Kd.N_afterv (ok:=(fun k_=>((P0_ k_ ∨ P1_ k_) ∨ w.heap.size ≤ k_) ∧ some k_ ≠ (v163:Value).ownBlock)) (rN HO161.out) hg hat);replace HO164:=mk0 (Kd.N_afterv (ok:=(fun k_=>((P0_ k_ ∨ P1_ k_) ∨ w.heap.size ≤ k_) ∧ some k_ ≠ (.slice Ao15 t159.length co15:Value).ownBlock)) (rN HO164.out) hg hat);replace HB:=mk0 (hb);have HO170:=mk0 (ho);clear HO167 ho hb hg hat;obtain⟨Ao17,co17,eo17⟩:=Kd.N_slice HO164.out;subst eo17)|((with_reducible refine gate_builtin (b:=.append) (xs:=#[.tmp 31,.tmp 32]) rfl ?_);at_builtin;refine Kd.N_append_rows (Kd.slice 5 (Kd.int .u8)) (w0:=w) w.heap.size rfl (.tmp 31) (.tmp 32) 66 22 (.slice none 0 0) 24 rfl Try.underlying66 info22 rfl (by decide) (by omega) v169 y168 t162 _ _ _ (fun k_=>((P0_ k_ ∨ P1_ k_) ∨ w.heap.size ≤ k_)) (fun k_=>((fun k_=>((P0_ k_ ∨ P1_ k_) ∨ w.heap.size ≤ k_))) k_ ∧ some k_ ≠ (v169:Value).ownBlock) rfl rfl ?aO ?aR (fun _ hk=>hk) ?aF ?aB ?aS ?aL ?_;(case aR=>exact (by skip;exact Kd.N_F (Kd.N_mono (ok':=(fun k_=>((fun k_=>((P0_ k_ ∨ P1_ k_) ∨ w.heap.size ≤ k_))) k_ ∧ some k_ ≠ (v169:Value).ownBlock)) (HO164.out) (fun k_ hk=>⟨hk.1.1,hk.2⟩))));(case aB=>exact (kB HB.out));(case aF=>exact (fun k_ hk=>(.inr (Nat.le_trans (kZ HB.out) hk))));(case aO=>exact (rN (Kd.N_mono HO170.out (fun _ hk=>hk.1))));(case aS=>exact (kZ HB.out));(case aL=>have:=LMc9.out;omega);intro v172 w16 ho hb hg hat;rw [← Ny171.out] at ho;replace HO0:=mk0 (Kd.V_afterv (ok:=(fun k_=>((P0_ k_ ∨ P1_ k_) ∨ w.heap.size ≤ k_) ∧ some k_ ≠ (.slice Ao15 t159.length co15:Value).ownBlock ∧ some k_ ≠ (.slice Ao17 t162.length co17:Value).ownBlock)) (rV HO0.out) hg hat);replace HO1:=mk0 (Kd.V_afterv (ok:=(fun k_=>((P0_ k_ ∨ P1_ k_) ∨ w.heap.size ≤ k_) ∧ some k_ ≠ (.slice Ao15 t159.length co15:Value).ownBlock ∧ some k_ ≠ (.slice Ao17 t162.length co17:Value).ownBlock)) (rV HO1.out) hg hat);replace HO161:=mk0 (Kd.N_afterv (ok:=(fun k_=>((P0_ k_ ∨ P1_ k_) ∨ w.heap.size ≤ k_) ∧ some k_ ≠ (.slice Ao17 t162.length co17:Value).ownBlock)) (rN HO161.out) hg hat);replace HO164:=mk0 (Kd.N_afterv (ok:=(fun k_=>((P0_ k_ ∨ P1_ k_) ∨ w.heap.size ≤ k_) ∧ some k_ ≠ (.slice Ao15 t159.length co15:Value).ownBlock)) (rN HO164.out) hg hat);replace HB:=mk0 (hb);have HO173:=mk0 (ho);clear HO170 ho hb hg hat)|((with_reducible refine gate_dst (N:=34) rfl ?_);refine Kd.N_lit (Kd.slice 5 (Kd.int .u8)) _ 22 ?hg (N':=34) ?hd (xs:=([]:List (List Int))) (inner:=[]) (ok:=(fun k_=>((P0_ k_ ∨ P1_ k_) ∨ w.heap.size ≤ k_) ∧ some k_ ≠ (.slice Ao15 t159.length co15:Value).ownBlock ∧ some k_ ≠ (.slice Ao17 t162.length co17:Value).ownBlock ∧ some k_ ≠ (v172:Value).ownBlock)) (okp:=(fun k_=>((P0_ k_ ∨ P1_ k_) ∨ w.heap.size ≤ k_) ∧ some k_ ≠ (.slice Ao15 t159.length co15:Value).ownBlock ∧ some k_ ≠ (.slice Ao17 t162.length co17:Value).ownBlock ∧ some k_ ≠ (v172:Value).ownBlock)) ?hr ?hp (fun _ hk=>hk) ((show ∀ k_,w16.heap.size ≤ k_ → (fun k_=>((P0_ k_ ∨ P1_ k_) ∨ w.heap.size ≤ k_) ∧ some k_ ≠ (.slice Ao15 t159.length co15:Value).ownBlock ∧ some k_ ≠ (.slice Ao17 t162.length co17:Value).ownBlock ∧ some k_ ≠ (v172:Value).ownBlock) k_ from fun k_ hk=>⟨(.inr (Nat.le_trans (kZ HB.out) hk)),Kd.fresh' (Kd.N_lt (rN HO161.out)) k_ hk,Kd.fresh' (Kd.N_lt (rN HO164.out)) k_ hk,Kd.fresh' (Kd.N_lt (rN HO173.out)) k_ hk⟩) _ (Nat.le_refl _)) (Below.refl _ _) (Nat.le_refl _) (by simp) ?_;(case hd=>rfl);(case hg=>rfl);(case hr=>first|(go_simp;done)|(go_simp;rfl));(case hp=>exact (Reps.none _ _));intro v175 w18 ho19 hb hg_ hnew_;clear hg_ hnew_;(first|rw [← Ny174.out] at ho19|(simp only [Int.reduceToNat] at ho19;rw [← Ny174.out] at ho19));replace HO0:=mk0 (Kd.V_elder' (rV HO0.out) (Kd.N_base ho19) hb);replace HO1:=mk0 (Kd.V_elder' (rV HO1.out) (Kd.N_base ho19) hb);replace HO161:=mk0 (Kd.N_elder' (rN HO161.out) (Kd.N_base ho19) hb);replace HO164:=mk0 (Kd.N_elder' (rN HO164.out) (Kd.N_base ho19) hb);replace HO173:=mk0 (Kd.N_elder' (rN HO173.out) (Kd.N_base ho19) hb);have HO176:=mk0 (Kd.N_lower ho19 (kZ HB.out));replace HB:=mk0 (kS HB.out hb);clear hb ho19))
 go_loopg [10,11] k (fun kq v10 v11 w'=>∃ (x10_1:List (List Int)) (x11_1:Int),v11 = .int .i64 x11_1 ∧ Aside0 (spec_Parts.l0 kq x10_1 x11_1 t159 t162 y171 = some r) ∧ Aside0 (kq ≤ k) ∧ Aside0 (Kd.N (Kd.slice 5 (Kd.int .u8)) 22 w' w.heap.size (fun k_=>((P0_ k_ ∨ P1_ k_) ∨ w.heap.size ≤ k_) ∧ some k_ ≠ (v172:Value).ownBlock) v10 x10_1) ∧ Aside0 (Kd.N (Kd.slice 5 (Kd.int .u8)) 22 w' w.heap.size (fun k_=>((P0_ k_ ∨ P1_ k_) ∨ w.heap.size ≤ k_) ∧ some k_ ≠ (v10:Value).ownBlock ∧ some k_ ≠ ((.slice Ao17 t162.length co17):Value).ownBlock ∧ some k_ ≠ (v172:Value).ownBlock) (.slice Ao15 t159.length co15) t159) ∧ Aside0 (Kd.N (Kd.slice 5 (Kd.int .u8)) 22 w' w.heap.size (fun k_=>((P0_ k_ ∨ P1_ k_) ∨ w.heap.size ≤ k_) ∧ some k_ ≠ (v10:Value).ownBlock ∧ some k_ ≠ ((.slice Ao15 t159.length co15):Value).ownBlock ∧ some k_ ≠ (v172:Value).ownBlock) (.slice Ao17 t162.length co17) t162) ∧ Aside0 (Kd.N (Kd.slice 5 (Kd.int .u8)) 22 w' w.heap.size (fun k_=>((P0_ k_ ∨ P1_ k_) ∨ w.heap.size ≤ k_) ∧ some k_ ≠ (v10:Value).ownBlock) v172 y171) ∧ Aside0 (Below w.heap.size w w'))
 case atStart=>exact⟨(y174),(0),eS,H',⟨Nat.le_refl _⟩,⟨rN (Kd.N_mono HO176.out (fun _ hk=>⟨hk.1,hk.2.2.2⟩))⟩,⟨rN (Kd.N_mono HO161.out (fun _ hk=>⟨hk.1.1.1,⟨hk.2,⟨hk.1.1.2,hk.1.2⟩⟩⟩))⟩,⟨rN (Kd.N_mono HO164.out (fun _ hk=>⟨hk.1.1.1,⟨hk.2,⟨hk.1.1.2,hk.1.2⟩⟩⟩))⟩,⟨rN HO173.out⟩,⟨kB HB.out⟩⟩
 case round =>
  clear H'
  try clear c1
  try clear c2
  try clear p2
  try clear c3
  try clear c5
  try clear c8
  try clear c9
  obtain⟨x10_1,x11_1,rfl,HA,HK1,HO_10,HO_25,HO_28,HO_33,HB⟩:=hrel
  cases gk with
  | zero=>exact absurd HA.out (by simp [spec_Parts.l0])
  | succ k1 =>
   have H:=HA.out
   clear HA
   simp only [spec_Parts.l0] at H
   by_cases c20:x11_1 < (y171.length:Int)
   rotate_left
   ·rw [if_neg c20] at H
    have c20b0:decide (x11_1 < (y171.length:Int)) = false:=decide_eq_false c20
    (try simp only [hl177_0] at c20b0)
    (try simp only [hl178_0] at c20b0)
    (try simp only [hl180_0] at c20b0)
    (try simp only [hl181_0] at c20b0)
    (try simp only [hl183_0] at c20b0)
    (try simp only [hl215_0] at c20b0)
    (try simp only [hl220_0] at c20b0)
    (try simp only [hl223_0] at c20b0)
    clear c20
    obtain⟨y209,hy209⟩:∃ y_:List (S48),y_ = (([]:List (S48))):=⟨_,rfl⟩
    first|(with_reducible replace H:=yB hy209 H)|rw [← hy209] at H|skip
    have Ny209:=mk0 hy209
    clear hy209
    have H':=mk0 H
    clear H
    obtain⟨Ao63,co63,eo63⟩:=Kd.N_slice HO_33.out
    subst eo63
    go_wp2_with (first|((with_reducible refine gate_dst (N:=90) rfl ?_);refine Kd.N_lit k48 _ 48 ?hg (N':=90) ?hd (xs:=([]:List (S48))) (inner:=[]) (ok:=(fun k_=>((P0_ k_ ∨ P1_ k_) ∨ w.heap.size ≤ k_) ∧ some k_ ≠ (u10:Value).ownBlock ∧ some k_ ≠ (.slice Ao15 t159.length co15:Value).ownBlock ∧ some k_ ≠ (.slice Ao17 t162.length co17:Value).ownBlock ∧ some k_ ≠ (.slice Ao63 y171.length co63:Value).ownBlock)) (okp:=(fun k_=>((P0_ k_ ∨ P1_ k_) ∨ w.heap.size ≤ k_) ∧ some k_ ≠ (u10:Value).ownBlock ∧ some k_ ≠ (.slice Ao15 t159.length co15:Value).ownBlock ∧ some k_ ≠ (.slice Ao17 t162.length co17:Value).ownBlock ∧ some k_ ≠ (.slice Ao63 y171.length co63:Value).ownBlock)) ?hr ?hp (fun _ hk=>hk) ((show ∀ k_,wr.heap.size ≤ k_ → (fun k_=>((P0_ k_ ∨ P1_ k_) ∨ w.heap.size ≤ k_) ∧ some k_ ≠ (u10:Value).ownBlock ∧ some k_ ≠ (.slice Ao15 t159.length co15:Value).ownBlock ∧ some k_ ≠ (.slice Ao17 t162.length co17:Value).ownBlock ∧ some k_ ≠ (.slice Ao63 y171.length co63:Value).ownBlock) k_ from fun k_ hk=>⟨(.inr (Nat.le_trans (kZ HB.out) hk)),Kd.fresh' (Kd.N_lt (rN HO_10.out)) k_ hk,Kd.fresh' (Kd.N_lt (rN HO_25.out)) k_ hk,Kd.fresh' (Kd.N_lt (rN HO_28.out)) k_ hk,Kd.fresh' (Kd.N_lt (rN HO_33.out)) k_ hk⟩) _ (Nat.le_refl _)) (Below.refl _ _) (Nat.le_refl _) (by simp) ?_;(case hd=>rfl);(case hg=>rfl);(case hr=>first|(go_simp;done)|(go_simp;rfl));(case hp=>exact (Reps.none _ _));intro v210 w64 ho65 hb hg_ hnew_;clear hg_ hnew_;(first|rw [← Ny209.out] at ho65|(simp only [Int.reduceToNat] at ho65;rw [← Ny209.out] at ho65));replace HO_10:=mk0 (Kd.N_elder' (rN HO_10.out) (Kd.N_base ho65) hb);replace HO_25:=mk0 (Kd.N_elder' (rN HO_25.out) (Kd.N_base ho65) hb);replace HO_28:=mk0 (Kd.N_elder' (rN HO_28.out) (Kd.N_base ho65) hb);replace HO_33:=mk0 (Kd.N_elder' (rN HO_33.out) (Kd.N_base ho65) hb);have HO211:=mk0 (Kd.N_lower ho65 (kZ HB.out));replace HB:=mk0 (kS HB.out hb);clear hb ho65))
    go_loopg [15,16] k1 (fun kq v15 v16 w'=>∃ (x15_2:List (S48)) (x16_2:Int),v16 = .int .i64 x16_2 ∧ Aside0 (spec_Parts.l2 kq x10_1 x15_2 x16_2 t159 t162 = some r) ∧ Aside0 (kq ≤ k1) ∧ Aside0 (Kd.N (Kd.slice 5 (Kd.int .u8)) 22 w' w.heap.size (fun k_=>((P0_ k_ ∨ P1_ k_) ∨ w.heap.size ≤ k_) ∧ some k_ ≠ (v15:Value).ownBlock) u10 x10_1) ∧ Aside0 (Kd.N k48 48 w' w.heap.size (fun k_=>((P0_ k_ ∨ P1_ k_) ∨ w.heap.size ≤ k_) ∧ some k_ ≠ (u10:Value).ownBlock ∧ some k_ ≠ ((.slice Ao15 t159.length co15):Value).ownBlock ∧ some k_ ≠ ((.slice Ao17 t162.length co17):Value).ownBlock) v15 x15_2) ∧ Aside0 (Kd.N (Kd.slice 5 (Kd.int .u8)) 22 w' w.heap.size (fun k_=>((P0_ k_ ∨ P1_ k_) ∨ w.heap.size ≤ k_) ∧ some k_ ≠ (u10:Value).ownBlock ∧ some k_ ≠ (v15:Value).ownBlock ∧ some k_ ≠ ((.slice Ao17 t162.length co17):Value).ownBlock) (.slice Ao15 t159.length co15) t159) ∧ Aside0 (Kd.N (Kd.slice 5 (Kd.int .u8)) 22 w' w.heap.size (fun k_=>((P0_ k_ ∨ P1_ k_) ∨ w.heap.size ≤ k_) ∧ some k_ ≠ (u10:Value).ownBlock ∧ some k_ ≠ (v15:Value).ownBlock ∧ some k_ ≠ ((.slice Ao15 t159.length co15):Value).ownBlock) (.slice Ao17 t162.length co17) t162) ∧ Aside0 (Below w.heap.size w w'))
    case atStart=>exact⟨(y209),(0),eS,H',⟨Nat.le_refl _⟩,⟨rN (Kd.N_mono HO_10.out (fun _ hk=>⟨hk.1.1,hk.2⟩))⟩,⟨rN (Kd.N_mono HO211.out (fun _ hk=>⟨hk.1,⟨hk.2.1,⟨hk.2.2.1,hk.2.2.2.1⟩⟩⟩))⟩,⟨rN (Kd.N_mono HO_25.out (fun _ hk=>⟨hk.1.1,⟨hk.1.2.1,⟨hk.2,hk.1.2.2.1⟩⟩⟩))⟩,⟨rN (Kd.N_mono HO_28.out (fun _ hk=>⟨hk.1.1,⟨hk.1.2.1,⟨hk.2,hk.1.2.2.1⟩⟩⟩))⟩,⟨kB HB.out⟩⟩
    case round =>
     clear H'
     try clear c1
     try clear p1
     try clear q1
     try clear hx1
     try clear c2
     try clear p2
     try clear c4
     try clear c5
     try clear q5
     try clear p6
     try clear c17
     try clear p17
     try clear q17
     try clear hx17
     try clear c18
     try clear p18
     try clear q18
     try clear hx18
     try clear c20
     try clear c20b0
     try clear c23
     try clear c23b0
     try clear c24
     try clear c25
     try clear c26
     try clear c28
     try clear c28b0
     try clear c41
     try clear c42
     try clear c42b0
     try clear c43
     try clear c43b0
     try clear c44
     try clear c44b0
     try clear c44b1
     try clear c45
     try clear c45b0
     try clear c45b1
     try clear c46
     try clear c47
     try clear c47b0
     try clear c48
     try clear c48b0
     try clear c49
     try clear c50
     try clear c52
     try clear q52
     try clear c53
     try clear q59
     try clear p64
     try clear hx177_0
     try clear hx178_0
     try clear hx180_0
     try clear hx181_0
     try clear hx183_0
     try clear p1
     try clear p17
     try clear p177
     try clear p178
     try clear p18
     try clear p180
     try clear p181
     try clear p183
     try clear p2
     try clear p6
     try clear q052
     try clear q1
     try clear q17
     try clear q177
     try clear q178
     try clear q18
     try clear q180
     try clear q181
     try clear q183
     try clear q52
     try clear q59
     obtain⟨x15_2,x16_2,rfl,HA,HK2,HO_10,HO_15,HO_25,HO_28,HB⟩:=hrel
     cases gk with
     | zero=>exact absurd HA.out (by simp [spec_Parts.l2])
     | succ k2 =>
      have H:=HA.out
      clear HA
      simp only [spec_Parts.l2] at H
      by_cases c66:x16_2 < (x10_1.length:Int)
      rotate_left
      ·rw [if_neg c66] at H
       have c66b0:decide (x16_2 < (x10_1.length:Int)) = false:=decide_eq_false c66
       (try simp only [hl177_0] at c66b0)
       (try simp only [hl178_0] at c66b0)
       (try simp only [hl180_0] at c66b0)
       (try simp only [hl181_0] at c66b0)
       (try simp only [hl183_0] at c66b0)
       (try simp only [hl215_0] at c66b0)
       (try simp only [hl220_0] at c66b0)
       (try simp only [hl223_0] at c66b0)
       clear c66
       obtain rfl:=Option.some.inj H
       obtain⟨Ao90,co90,eo90⟩:=Kd.N_slice HO_10.out
       subst eo90
       go_wp2
       go_ret
       exact⟨_,eR,rN (Kd.N_mono HO_15.out (fun _ hk=>hk.1)),kB HB.out⟩
      rw [if_pos c66] at H
      have c66b0:decide (x16_2 < (x10_1.length:Int)) = true:=decide_eq_true c66
      (try simp only [hl177_0] at c66b0)
      (try simp only [hl178_0] at c66b0)
      (try simp only [hl180_0] at c66b0)
      (try simp only [hl181_0] at c66b0)
      (try simp only [hl183_0] at c66b0)
      (try simp only [hl215_0] at c66b0)
      (try simp only [hl220_0] at c66b0)
      (try simp only [hl223_0] at c66b0)
      clear c66
      obtain⟨y212,hy212⟩:∃ y_:List Int,y_ = (([]:List Int)):=⟨_,rfl⟩
      first|(with_reducible replace H:=yB hy212 H)|rw [← hy212] at H|skip
      have Ny212:=mk0 hy212
      clear hy212
      by_cases c67:0 ≤ x16_2
      rotate_left
      ·rw [if_neg c67] at H
       exact nn H
      rw [if_pos c67] at H
      have c67b0:decide (0 ≤ x16_2) = true:=decide_eq_true c67
      clear c67
      by_cases c68:y212.length + (rd_L2 x10_1 x16_2).length < 140737488355328
      rotate_left
      ·rw [if_neg c68] at H
       exact nn H
      rw [if_pos c68] at H
      have LMc68:=mk0 c68
      clear c68
      obtain⟨y216,hy216⟩:∃ y_:List Int,y_ = (y212 ++ (rd_L2 x10_1 x16_2)):=⟨_,rfl⟩
      first|(with_reducible replace H:=yB hy216 H)|rw [← hy216] at H|skip
      have Ny216:=mk0 hy216
      clear hy216
      replace H:=bE H
      obtain⟨⟨t221,t222⟩,A69,H⟩:=H
      dsimp only at H
      replace H:=bE H
      obtain⟨⟨t224,t225⟩,A70,H⟩:=H
      dsimp only at H
      by_cases c71:x15_2.length < 2513169434916
      rotate_left
      ·rw [if_neg c71] at H
       exact nn H
      rw [if_pos c71] at H
      have LMc71:=mk0 c71
      clear c71
      obtain⟨y226,hy226⟩:∃ y_:List (S48),y_ = (x15_2 ++ [(⟨y216,t221,t222,t224,t225⟩:S48)]):=⟨_,rfl⟩
      first|(with_reducible replace H:=yB hy226 H)|rw [← hy226] at H|skip
      have Ny226:=mk0 hy226
      clear hy226
      have H':=mk0 H
      clear H
      obtain⟨Ao72,co72,eo72⟩:=Kd.N_slice HO_10.out
      subst eo72
      go_wp2_with (first|((with_reducible refine gate_dst (N:=97) rfl ?_);refine Kd.R_lit (Kd.int .u8) _ 5 ?hg (N:=97) ?hd (xs:=([]:List Int)) (inner:=[]) (ok:=fun _=>True) (okp:=fun _=>True) ?hr ?hp (fun _ hk=>hk) trivial (Below.refl _ _) (Nat.le_refl _) (by simp) ?_;(case hd=>rfl);(case hg=>rfl);(case hr=>first|(go_simp;done)|(go_simp;rfl));(case hp=>exact (Reps.none _ _));intro v213 w73 ho74 hb hg_ hnew_;clear hg_ hnew_;(first|rw [← Ny212.out] at ho74|(simp only [Int.reduceToNat] at ho74;rw [← Ny212.out] at ho74));replace HO_10:=mk0 (Kd.N_elder' (rN HO_10.out) (Kd.R_base ho74) hb);replace HO_15:=mk0 (Kd.N_elder' (rN HO_15.out) (Kd.R_base ho74) hb);replace HO_25:=mk0 (Kd.N_elder' (rN HO_25.out) (Kd.R_base ho74) hb);replace HO_28:=mk0 (Kd.N_elder' (rN HO_28.out) (Kd.R_base ho74) hb);have HO214:=mk0 (Kd.R_lower (Kd.R_newM (M:=fun k_=>(w.heap.size ≤ k_)) ho74 (kZ HB.out) (fun k_ h_=>h_)) (kZ HB.out));replace HB:=mk0 (kS HB.out hb);clear hb ho74;have p215:0 ≤ (x16_2:Int):=oD;have q215:x16_2 < (x10_1.length:Int):=oD;obtain⟨ad215,A215_0,c215_0,e215,hx215_0,hl215_0,hi215_0⟩:=at_L2 (Kd.N_reads' HO_10.out).2.2 x16_2 p215 q215;cases e215;obtain⟨ce215,hce215,hMe215,hcc215⟩:=Kd.N_get HO_10.out [] x16_2 p215 (by first|exact q215|exact oD|(have e_:=(Kd.N_reads' HO_10.out).1;omega));obtain⟨ua215_0,uc215_0,rfl,ul215_0,ge215_0⟩:=Kd.FK_slice_open hMe215;have hv215_0:=hcc215 0 _ rfl;rw [Nat.add_zero,show ((Kd.slice 5 (Kd.int .u8))).sz = 1 from rfl,Nat.mul_one] at hv215_0;replace hv215_0:=Option.some.inj (hv215_0.symm.trans hx215_0);injection hv215_0 with hva_ hvn_ hvc_;rw [hva_] at ge215_0;rw [hvc_] at ul215_0;have HL215_0:=mk0 (show Kd.V (Kd.int .u8) 5 _ w.heap.size _ _ (rd_L2 x10_1 x16_2) from Kd.V_mk ul215_0 ge215_0);clear hva_ hvn_ hvc_ ge215_0 ul215_0 hcc215 hce215;have HR215_0:=mk0 hi215_0;have HC215_0:=mk0 hl215_0;clear hi215_0 hl215_0;replace p215:=eq_true p215;replace q215:=eq_true q215)|((with_reducible refine gate_builtin (b:=.append) (xs:=#[.tmp 97,.tmp 101]) rfl ?_);at_builtin;refine Kd.R_append_rows (Kd.int .u8) (w0:=w) w.heap.size rfl (.tmp 97) (.tmp 101) 22 5 (.int .u8 0) 1 rfl Try.underlying22 info5 rfl (by decide) (by omega) v213 y212 (rd_L2 x10_1 x16_2) _ _ _ (fun k_=>(w.heap.size ≤ k_)) (fun _=>False) rfl rfl ?aO ?aR (fun _ _ h=>h) (fun _ h=>h.elim) ?aF ?aB ?aS ?aL ?_;(case aR=>repeat (first|exact (by repeat (first|(with_reducible exact HR215_0.out)|(with_reducible first|apply aC|apply nC|apply dC)|exact HR215_0.out|exact (Kd.V_reads' HL215_0.out).2.2))|(with_reducible first|apply aC|apply nC|apply dC)));(case aB=>exact (kB HB.out));(case aF=>exact (fun k_ hk=>(Nat.le_trans (kZ HB.out) hk)));(case aO=>exact (rR (Kd.R_mono HO214.out (fun _ hk=>hk.1))));(case aS=>exact (kZ HB.out));(case aL=>have:=LMc68.out;omega);intro v217 w75 ho hb hg hat;rw [← Ny216.out] at ho;replace HO_10:=mk0 (Kd.N_afterv (ok:=(fun k_=>((P0_ k_ ∨ P1_ k_) ∨ w.heap.size ≤ k_) ∧ some k_ ≠ (u15:Value).ownBlock)) (rN HO_10.out) hg hat);replace HO_15:=mk0 (Kd.N_afterv (ok:=(fun k_=>((P0_ k_ ∨ P1_ k_) ∨ w.heap.size ≤ k_) ∧ some k_ ≠ (.slice (some ad215) x10_1.length co72:Value).ownBlock ∧ some k_ ≠ (.slice Ao15 t159.length co15:Value).ownBlock ∧ some k_ ≠ (.slice Ao17 t162.length co17:Value).ownBlock)) (rN HO_15.out) hg hat);replace HO_25:=mk0 (Kd.N_afterv (ok:=(fun k_=>((P0_ k_ ∨ P1_ k_) ∨ w.heap.size ≤ k_) ∧ some k_ ≠ (.slice (some ad215) x10_1.length co72:Value).ownBlock ∧ some k_ ≠ (u15:Value).ownBlock ∧ some k_ ≠ (.slice Ao17 t162.length co17:Value).ownBlock)) (rN HO_25.out) hg hat);replace HO_28:=mk0 (Kd.N_afterv (ok:=(fun k_=>((P0_ k_ ∨ P1_ k_) ∨ w.heap.size ≤ k_) ∧ some k_ ≠ (.slice (some ad215) x10_1.length co72:Value).ownBlock ∧ some k_ ≠ (u15:Value).ownBlock ∧ some k_ ≠ (.slice Ao15 t159.length co15:Value).ownBlock)) (rN HO_28.out) hg hat);replace HL215_0:=mk0 (Kd.V_afterv (ok:=(fun k_=>((P0_ k_ ∨ P1_ k_) ∨ w.heap.size ≤ k_) ∧ some k_ ≠ (.slice (some ad215) x10_1.length co72:Value).ownBlock ∧ some k_ ≠ (u15:Value).ownBlock)) (rV (Kd.V_mono HL215_0.out (fun _ hk=>⟨⟨hk.1.1.1,⟨hk.2,hk.1.1.2⟩⟩,hk.1.2⟩))) hg hat);replace HB:=mk0 (hb);have HO218:=mk0 (ho);clear HO214 ho hb hg hat;obtain⟨Ao76,co76,eo76⟩:=Kd.R_slice HO218.out;subst eo76)|((with_reducible refine gate_dst (N:=17) rfl ?_);refine box_event ?hg (N:=17) ?hd (cs:=#[.slice none 0 0,.int .i64 0,.int .i64 0,.int .i64 0,.int .i64 0]) (t:=48) ?hr ?_;(case hd=>rfl);(case hg=>rfl);(case hr=>first|(go_simp;done)|(go_simp;rfl));intro gb219 hg w77 hbox hb;replace HO_10:=mk0 (Kd.N_below (Kd.N_elderB (rN HO_10.out) gb219 (Nat.le_of_eq hg.symm)) hb);replace HO_15:=mk0 (Kd.N_below (Kd.N_elderB (rN HO_15.out) gb219 (Nat.le_of_eq hg.symm)) hb);replace HO_25:=mk0 (Kd.N_below (Kd.N_elderB (rN HO_25.out) gb219 (Nat.le_of_eq hg.symm)) hb);replace HO_28:=mk0 (Kd.N_below (Kd.N_elderB (rN HO_28.out) gb219 (Nat.le_of_eq hg.symm)) hb);replace HL215_0:=mk0 (Kd.V_below (Kd.V_elderB (rV HL215_0.out) gb219 (Nat.le_of_eq hg.symm)) hb);replace HO218:=mk0 (bR HO218.out hb);have BK219:=mk0 (hbox);have GW219:=mk0 ((by rw [hg];exact (kZ HB.out):w.heap.size ≤ gb219));have GE219:=mk0 ((by rw [hg];exact (kZ HB.out):w.heap.size ≤ gb219));replace HB:=mk0 (kS HB.out hb);clear hb hbox hg;obtain⟨hcz78_0,hcz78_1,hcz78_2,hcz78_3,hcz78_4,hfz78_0,hfz78_1,hfz78_2,hfz78_3,hfz78_4⟩:=cz5 BK219.out)|((with_reducible refine gate_store (t:=48) (p:=17) rfl ?_);refine store_event (t:=48) (p:=17) (v:=?vo_w79) (w1:=(((((w77.setCell ⟨gb219,0,none⟩ (.slice Ao76 y216.length co76)).setCell ⟨gb219,1,none⟩ (.int .i64 0)).setCell ⟨gb219,2,none⟩ (.int .i64 0)).setCell ⟨gb219,3,none⟩ (.int .i64 0)).setCell ⟨gb219,4,none⟩ (.int .i64 0))) ?hg ?ho ?hn ?hr ?_;(case ho=>rfl);(case hg=>rfl);(case hn=>rfl);(case hr=>first|(go_simp;done)|(go_simp;rfl));intro w79 hw;have n0_:Aside0 (Kd.N (Kd.slice 5 (Kd.int .u8)) 22 w79 w.heap.size (fun k_=>((P0_ k_ ∨ P1_ k_) ∨ w.heap.size ≤ k_) ∧ some k_ ≠ (u15:Value).ownBlock ∧ some k_ ≠ (.slice Ao76 y216.length co76:Value).ownBlock ∧ k_ ≠ gb219) (.slice (some ad215) x10_1.length co72) x10_1):=⟨(by rw [hw];exact (by (with_reducible repeat (first|apply aN|apply nN|apply dN));exact Kd.N_mono (Kd.N_far (p:=⟨gb219,4,none⟩) (Kd.N_far (p:=⟨gb219,3,none⟩) (Kd.N_far (p:=⟨gb219,2,none⟩) (Kd.N_far (p:=⟨gb219,1,none⟩) (Kd.N_far (p:=⟨gb219,0,none⟩) (Kd.N_mono HO_10.out (fun k_ hk=>(⟨hk,hk.2⟩:_ ∧ k_ ≠ gb219))) (fun _ hk=>hk.2) (.slice Ao76 y216.length co76)) (fun _ hk=>hk.2) (.int .i64 0)) (fun _ hk=>hk.2) (.int .i64 0)) (fun _ hk=>hk.2) (.int .i64 0)) (fun _ hk=>hk.2) (.int .i64 0)) (fun _ hk=>⟨hk.1.1.1.1,⟨hk.1.1.1.2,⟨hk.1.1.2,hk.1.2⟩⟩⟩)))⟩;have n1_:Aside0 (Kd.N k48 48 w79 w.heap.size (fun k_=>((P0_ k_ ∨ P1_ k_) ∨ w.heap.size ≤ k_) ∧ some k_ ≠ (.slice (some ad215) x10_1.length co72:Value).ownBlock ∧ some k_ ≠ (.slice Ao15 t159.length co15:Value).ownBlock ∧ some k_ ≠ (.slice Ao17 t162.length co17:Value).ownBlock ∧ some k_ ≠ (.slice Ao76 y216.length co76:Value).ownBlock ∧ k_ ≠ gb219) u15 x15_2):=⟨(by rw [hw];exact (by (with_reducible repeat (first|apply aN|apply nN|apply dN));exact Kd.N_mono (Kd.N_far (p:=⟨gb219,4,none⟩) (Kd.N_far (p:=⟨gb219,3,none⟩) (Kd.N_far (p:=⟨gb219,2,none⟩) (Kd.N_far (p:=⟨gb219,1,none⟩) (Kd.N_far (p:=⟨gb219,0,none⟩) (Kd.N_mono HO_15.out (fun k_ hk=>(⟨hk,hk.2⟩:_ ∧ k_ ≠ gb219))) (fun _ hk=>hk.2) (.slice Ao76 y216.length co76)) (fun _ hk=>hk.2) (.int .i64 0)) (fun _ hk=>hk.2) (.int .i64 0)) (fun _ hk=>hk.2) (.int .i64 0)) (fun _ hk=>hk.2) (.int .i64 0)) (fun _ hk=>⟨hk.1.1.1.1,⟨hk.1.1.1.2.1,⟨hk.1.1.1.2.2.1,⟨hk.1.1.1.2.2.2,⟨hk.1.1.2,hk.1.2⟩⟩⟩⟩⟩)))⟩;have n2_:Aside0 (Kd.N (Kd.slice 5 (Kd.int .u8)) 22 w79 w.heap.size (fun k_=>((P0_ k_ ∨ P1_ k_) ∨ w.heap.size ≤ k_) ∧ some k_ ≠ (.slice (some ad215) x10_1.length co72:Value).ownBlock ∧ some k_ ≠ (u15:Value).ownBlock ∧ some k_ ≠ (.slice Ao17 t162.length co17:Value).ownBlock ∧ some k_ ≠ (.slice Ao76 y216.length co76:Value).ownBlock ∧ k_ ≠ gb219) (.slice Ao15 t159.length co15) t159):=⟨(by rw [hw];exact (by (with_reducible repeat (first|apply aN|apply nN|apply dN));exact Kd.N_mono (Kd.N_far (p:=⟨gb219,4,none⟩) (Kd.N_far (p:=⟨gb219,3,none⟩) (Kd.N_far (p:=⟨gb219,2,none⟩) (Kd.N_far (p:=⟨gb219,1,none⟩) (Kd.N_far (p:=⟨gb219,0,none⟩) (Kd.N_mono HO_25.out (fun k_ hk=>(⟨hk,hk.2⟩:_ ∧ k_ ≠ gb219))) (fun _ hk=>hk.2) (.slice Ao76 y216.length co76)) (fun _ hk=>hk.2) (.int .i64 0)) (fun _ hk=>hk.2) (.int .i64 0)) (fun _ hk=>hk.2) (.int .i64 0)) (fun _ hk=>hk.2) (.int .i64 0)) (fun _ hk=>⟨hk.1.1.1.1,⟨hk.1.1.1.2.1,⟨hk.1.1.1.2.2.1,⟨hk.1.1.1.2.2.2,⟨hk.1.1.2,hk.1.2⟩⟩⟩⟩⟩)))⟩;have n3_:Aside0 (Kd.N (Kd.slice 5 (Kd.int .u8)) 22 w79 w.heap.size (fun k_=>((P0_ k_ ∨ P1_ k_) ∨ w.heap.size ≤ k_) ∧ some k_ ≠ (.slice (some ad215) x10_1.length co72:Value).ownBlock ∧ some k_ ≠ (u15:Value).ownBlock ∧ some k_ ≠ (.slice Ao15 t159.length co15:Value).ownBlock ∧ some k_ ≠ (.slice Ao76 y216.length co76:Value).ownBlock ∧ k_ ≠ gb219) (.slice Ao17 t162.length co17) t162):=⟨(by rw [hw];exact (by (with_reducible repeat (first|apply aN|apply nN|apply dN));exact Kd.N_mono (Kd.N_far (p:=⟨gb219,4,none⟩) (Kd.N_far (p:=⟨gb219,3,none⟩) (Kd.N_far (p:=⟨gb219,2,none⟩) (Kd.N_far (p:=⟨gb219,1,none⟩) (Kd.N_far (p:=⟨gb219,0,none⟩) (Kd.N_mono HO_28.out (fun k_ hk=>(⟨hk,hk.2⟩:_ ∧ k_ ≠ gb219))) (fun _ hk=>hk.2) (.slice Ao76 y216.length co76)) (fun _ hk=>hk.2) (.int .i64 0)) (fun _ hk=>hk.2) (.int .i64 0)) (fun _ hk=>hk.2) (.int .i64 0)) (fun _ hk=>hk.2) (.int .i64 0)) (fun _ hk=>⟨hk.1.1.1.1,⟨hk.1.1.1.2.1,⟨hk.1.1.1.2.2.1,⟨hk.1.1.1.2.2.2,⟨hk.1.1.2,hk.1.2⟩⟩⟩⟩⟩)))⟩;have n4_:Aside0 (Kd.V (Kd.int .u8) 5 w79 w.heap.size (fun k_=>((P0_ k_ ∨ P1_ k_) ∨ w.heap.size ≤ k_) ∧ some k_ ≠ (.slice (some ad215) x10_1.length co72:Value).ownBlock ∧ some k_ ≠ (u15:Value).ownBlock ∧ some k_ ≠ (.slice Ao76 y216.length co76:Value).ownBlock ∧ k_ ≠ gb219) (.slice A215_0 (rd_L2 x10_1 x16_2).length c215_0) (rd_L2 x10_1 x16_2)):=⟨(by rw [hw];exact (by (with_reducible repeat (first|apply aV|apply nV|apply dV));exact Kd.V_mono (Kd.V_far (p:=⟨gb219,4,none⟩) (Kd.V_far (p:=⟨gb219,3,none⟩) (Kd.V_far (p:=⟨gb219,2,none⟩) (Kd.V_far (p:=⟨gb219,1,none⟩) (Kd.V_far (p:=⟨gb219,0,none⟩) (Kd.V_mono HL215_0.out (fun k_ hk=>(⟨hk,hk.2⟩:_ ∧ k_ ≠ gb219))) (fun _ hk=>hk.2) (.slice Ao76 y216.length co76)) (fun _ hk=>hk.2) (.int .i64 0)) (fun _ hk=>hk.2) (.int .i64 0)) (fun _ hk=>hk.2) (.int .i64 0)) (fun _ hk=>hk.2) (.int .i64 0)) (fun _ hk=>⟨hk.1.1.1.1,⟨hk.1.1.1.2.1,⟨hk.1.1.1.2.2,⟨hk.1.1.2,hk.1.2⟩⟩⟩⟩)))⟩;have n5_:Aside0 (Kd.R (Kd.int .u8) 5 w79 w.heap.size (fun k_=>(w.heap.size ≤ k_)) (.slice Ao76 y216.length co76) y216):=⟨(by rw [hw];exact (by (with_reducible repeat (first|apply aR|apply nR|apply dR));exact Kd.R_mono (Kd.R_far (p:=⟨gb219,4,none⟩) (Kd.R_far (p:=⟨gb219,3,none⟩) (Kd.R_far (p:=⟨gb219,2,none⟩) (Kd.R_far (p:=⟨gb219,1,none⟩) (Kd.R_far (p:=⟨gb219,0,none⟩) (Kd.R_types HO218.out BK219.out (by decide)) (fun _ hk=>hk.2) (.slice Ao76 y216.length co76)) (fun _ hk=>hk.2) (.int .i64 0)) (fun _ hk=>hk.2) (.int .i64 0)) (fun _ hk=>hk.2) (.int .i64 0)) (fun _ hk=>hk.2) (.int .i64 0)) (fun _ hk=>hk.1)))⟩;have n6_:Aside0 (w79.heap[gb219]? = some (.cells #[.slice Ao76 y216.length co76,.int .i64 0,.int .i64 0,.int .i64 0,.int .i64 0] 48 (0,0))):=⟨(by rw [hw];exact (by (with_reducible repeat (first|apply nB|apply dB|apply aB));refine blk_put (cs:=#[.slice Ao76 y216.length co76,.int .i64 0,.int .i64 0,.int .i64 0,.int .i64 0]) ?_ 4 _ rfl;(with_reducible repeat (first|apply nB|apply dB|apply aB));refine blk_put (cs:=#[.slice Ao76 y216.length co76,.int .i64 0,.int .i64 0,.int .i64 0,.int .i64 0]) ?_ 3 _ rfl;(with_reducible repeat (first|apply nB|apply dB|apply aB));refine blk_put (cs:=#[.slice Ao76 y216.length co76,.int .i64 0,.int .i64 0,.int .i64 0,.int .i64 0]) ?_ 2 _ rfl;(with_reducible repeat (first|apply nB|apply dB|apply aB));refine blk_put (cs:=#[.slice Ao76 y216.length co76,.int .i64 0,.int .i64 0,.int .i64 0,.int .i64 0]) ?_ 1 _ rfl;(with_reducible repeat (first|apply nB|apply dB|apply aB));refine blk_put (cs:=#[.slice none 0 0,.int .i64 0,.int .i64 0,.int .i64 0,.int .i64 0]) ?_ 0 _ rfl;(with_reducible repeat (first|apply nB|apply dB|apply aB));exact BK219.out))⟩;have n7_:Aside0 (Below w.heap.size w w79):=⟨(by rw [hw];exact (kB HB.out))⟩;clear hw HO_10 HO_15 HO_25 HO_28 HL215_0 HO218 BK219 HB;have HO_10:=n0_;have HO_15:=n1_;have HO_25:=n2_;have HO_28:=n3_;have HL215_0:=n4_;have HO218:=n5_;have BK219:=n6_;have HB:=n7_;clear n0_ n1_ n2_ n3_ n4_ n5_ n6_ n7_;have p220:0 ≤ (x16_2:Int):=oD;have q220:x16_2 < (x10_1.length:Int):=oD;obtain⟨ad220,A220_0,c220_0,e220,hx220_0,hl220_0,hi220_0⟩:=at_L2 (Kd.N_reads' HO_10.out).2.2 x16_2 p220 q220;obtain rfl:ad215 = ad220:=(by injection e220);obtain⟨ce220,hce220,hMe220,hcc220⟩:=Kd.N_get HO_10.out [] x16_2 p220 (by first|exact q220|exact oD|(have e_:=(Kd.N_reads' HO_10.out).1;omega));obtain⟨ua220_0,uc220_0,rfl,ul220_0,ge220_0⟩:=Kd.FK_slice_open hMe220;have hv220_0:=hcc220 0 _ rfl;rw [Nat.add_zero,show ((Kd.slice 5 (Kd.int .u8))).sz = 1 from rfl,Nat.mul_one] at hv220_0;replace hv220_0:=Option.some.inj (hv220_0.symm.trans hx220_0);injection hv220_0 with hva_ hvn_ hvc_;rw [hva_] at ge220_0;rw [hvc_] at ul220_0;have HL220_0:=mk0 (show Kd.V (Kd.int .u8) 5 _ w.heap.size _ _ (rd_L2 x10_1 x16_2) from Kd.V_mk ul220_0 ge220_0);clear hva_ hvn_ hvc_ ge220_0 ul220_0 hcc220 hce220;have HR220_0:=mk0 hi220_0;have HC220_0:=mk0 hl220_0;clear hi220_0 hl220_0;replace p220:=eq_true p220;replace q220:=eq_true q220)|((with_reducible refine gate_callee (f:=54) rfl ?_);refine gL (some 110) Try.func54 #[.slice Ao15 t159.length co15,.slice A220_0 (rd_L2 x10_1 x16_2).length c220_0] ?_;(with_reducible refine (spec_l13Span.calls k2 _ _ t159 _ _ (rd_L2 x10_1 x16_2) t221 t222 _ ?side1 ?side2 ?side3 ?side4 A69.out).mono ?_);(case side1=>exact kC (Kd.N_reads' HO_25.out).2.2);(case side2=>exact (Kd.N_reads' HO_25.out).2.1);(case side3=>repeat (first|exact (by repeat (first|(with_reducible exact HR220_0.out)|(with_reducible first|apply aC|apply nC|apply dC)|exact HR220_0.out|exact (Kd.V_reads' HL220_0.out).2.2))|(with_reducible first|apply aC|apply nC|apply dC)));(case side4=>exact HC220_0.out);rintro e w' ⟨rfl,⟨nd,rfl⟩⟩;refine⟨_,rfl,?_⟩;(try (rw [drewN_self w79];generalize hq_:World.drewN w79 _ = w79;have n0_:Aside0 (Kd.V (Kd.int .u8) 5 w79 w.heap.size (fun k_=>((((P0_ k_ ∨ P1_ k_) ∨ w.heap.size ≤ k_)) ∧ (some k_ ≠ (.slice (some ad215) x10_1.length co72:Value).ownBlock ∧ (some k_ ≠ (u15:Value).ownBlock ∧ (some k_ ≠ (.slice Ao76 y216.length co76:Value).ownBlock ∧ k_ ≠ gb219))))) (.slice A215_0 (rd_L2 x10_1 x16_2).length c215_0) (rd_L2 x10_1 x16_2)):=⟨by rw [← hq_];exact (rV HL215_0.out)⟩;have n1_:Aside0 (Kd.V (Kd.int .u8) 5 w79 w.heap.size (fun k_=>(((((P0_ k_ ∨ P1_ k_) ∨ w.heap.size ≤ k_)) ∧ (some k_ ≠ (u15:Value).ownBlock ∧ (some k_ ≠ (.slice Ao76 y216.length co76:Value).ownBlock ∧ k_ ≠ gb219))) ∧ some k_ ≠ (.slice (some ad215) x10_1.length co72:Value).ownBlock)) (.slice A220_0 (rd_L2 x10_1 x16_2).length c220_0) (rd_L2 x10_1 x16_2)):=⟨by rw [← hq_];exact (rV HL220_0.out)⟩;have n2_:Aside0 (Kd.R (Kd.int .u8) 5 w79 w.heap.size (fun k_=>((w.heap.size ≤ k_))) (.slice Ao76 y216.length co76) y216):=⟨by rw [← hq_];exact (rR HO218.out)⟩;have n3_:Aside0 (Kd.N (Kd.slice 5 (Kd.int .u8)) 22 w79 w.heap.size (fun k_=>((((P0_ k_ ∨ P1_ k_) ∨ w.heap.size ≤ k_)) ∧ (some k_ ≠ (u15:Value).ownBlock ∧ (some k_ ≠ (.slice Ao76 y216.length co76:Value).ownBlock ∧ k_ ≠ gb219)))) (.slice (some ad215) x10_1.length co72) x10_1):=⟨by rw [← hq_];exact (rN HO_10.out)⟩;have n4_:Aside0 (Kd.N k48 48 w79 w.heap.size (fun k_=>((((P0_ k_ ∨ P1_ k_) ∨ w.heap.size ≤ k_)) ∧ (some k_ ≠ (.slice (some ad215) x10_1.length co72:Value).ownBlock ∧ (some k_ ≠ (.slice Ao15 t159.length co15:Value).ownBlock ∧ (some k_ ≠ (.slice Ao17 t162.length co17:Value).ownBlock ∧ (some k_ ≠ (.slice Ao76 y216.length co76:Value).ownBlock ∧ k_ ≠ gb219)))))) u15 x15_2):=⟨by rw [← hq_];exact (rN HO_15.out)⟩;have n5_:Aside0 (Kd.N (Kd.slice 5 (Kd.int .u8)) 22 w79 w.heap.size (fun k_=>((((P0_ k_ ∨ P1_ k_) ∨ w.heap.size ≤ k_)) ∧ (some k_ ≠ (.slice (some ad215) x10_1.length co72:Value).ownBlock ∧ (some k_ ≠ (u15:Value).ownBlock ∧ (some k_ ≠ (.slice Ao17 t162.length co17:Value).ownBlock ∧ (some k_ ≠ (.slice Ao76 y216.length co76:Value).ownBlock ∧ k_ ≠ gb219)))))) (.slice Ao15 t159.length co15) t159):=⟨by rw [← hq_];exact (rN HO_25.out)⟩;have n6_:Aside0 (Kd.N (Kd.slice 5 (Kd.int .u8)) 22 w79 w.heap.size (fun k_=>((((P0_ k_ ∨ P1_ k_) ∨ w.heap.size ≤ k_)) ∧ (some k_ ≠ (.slice (some ad215) x10_1.length co72:Value).ownBlock ∧ (some k_ ≠ (u15:Value).ownBlock ∧ (some k_ ≠ (.slice Ao15 t159.length co15:Value).ownBlock ∧ (some k_ ≠ (.slice Ao76 y216.length co76:Value).ownBlock ∧ k_ ≠ gb219)))))) (.slice Ao17 t162.length co17) t162):=⟨by rw [← hq_];exact (rN HO_28.out)⟩;have n7_:Aside0 (w79.heap[gb219]? = some (.cells #[.slice Ao76 y216.length co76,.int .i64 0,.int .i64 0,.int .i64 0,.int .i64 0] 48 (0,0))):=⟨by rw [← hq_];exact (kN BK219.out)⟩;have n8_:Aside0 (Below w.heap.size w w79):=⟨by rw [← hq_];exact (kB HB.out)⟩;have n9_:Aside0 (Kd.C (Kd.int .u8) w79 A220_0 (rd_L2 x10_1 x16_2).length (rd_L2 x10_1 x16_2)):=⟨by rw [← hq_];exact (by repeat (first|(with_reducible exact HR220_0.out)|(with_reducible first|apply aC|apply nC|apply dC)|exact HR220_0.out|exact (Kd.V_reads' HL220_0.out).2.2))⟩;clear HL215_0 HL220_0 HO218 HO_10 HO_15 HO_25 HO_28 BK219 HB HR220_0 hq_;have HL215_0:=n0_;have HL220_0:=n1_;have HO218:=n2_;have HO_10:=n3_;have HO_15:=n4_;have HO_25:=n5_;have HO_28:=n6_;have BK219:=n7_;have HB:=n8_;have HR220_0:=n9_;clear n0_ n1_ n2_ n3_ n4_ n5_ n6_ n7_ n8_ n9_));obtain⟨hcz80_0,hcz80_1,hcz80_2,hcz80_3,hcz80_4,hfz80_0,hfz80_1,hfz80_2,hfz80_3,hfz80_4⟩:=cz5 BK219.out)|((with_reducible refine gate_store (t:=3) (p:=113) rfl ?_);refine store_event (t:=3) (p:=113) (v:=?vo_w81) (w1:=(w79.setCell ⟨gb219,1,none⟩ (.int .i64 t221))) ?hg ?ho ?hn ?hr ?_;(case ho=>rfl);(case hg=>rfl);(case hn=>rfl);(case hr=>first|(go_simp;done)|(go_simp;rfl));intro w81 hw;have n0_:Aside0 (Kd.N (Kd.slice 5 (Kd.int .u8)) 22 w81 w.heap.size (fun k_=>((P0_ k_ ∨ P1_ k_) ∨ w.heap.size ≤ k_) ∧ some k_ ≠ (u15:Value).ownBlock ∧ some k_ ≠ (.slice Ao76 y216.length co76:Value).ownBlock ∧ k_ ≠ gb219) (.slice (some ad215) x10_1.length co72) x10_1):=⟨(by rw [hw];exact (by (with_reducible repeat (first|apply aN|apply nN|apply dN));exact Kd.N_mono (Kd.N_far (p:=⟨gb219,1,none⟩) (Kd.N_mono HO_10.out (fun k_ hk=>(⟨hk,hk.2.2.2⟩:_ ∧ k_ ≠ gb219))) (fun _ hk=>hk.2) (.int .i64 t221)) (fun _ hk=>⟨hk.1.1,⟨hk.1.2.1,⟨hk.1.2.2.1,hk.1.2.2.2⟩⟩⟩)))⟩;have n1_:Aside0 (Kd.N k48 48 w81 w.heap.size (fun k_=>((P0_ k_ ∨ P1_ k_) ∨ w.heap.size ≤ k_) ∧ some k_ ≠ (.slice (some ad215) x10_1.length co72:Value).ownBlock ∧ some k_ ≠ (.slice Ao15 t159.length co15:Value).ownBlock ∧ some k_ ≠ (.slice Ao17 t162.length co17:Value).ownBlock ∧ some k_ ≠ (.slice Ao76 y216.length co76:Value).ownBlock ∧ k_ ≠ gb219) u15 x15_2):=⟨(by rw [hw];exact (by (with_reducible repeat (first|apply aN|apply nN|apply dN));exact Kd.N_mono (Kd.N_far (p:=⟨gb219,1,none⟩) (Kd.N_mono HO_15.out (fun k_ hk=>(⟨hk,hk.2.2.2.2.2⟩:_ ∧ k_ ≠ gb219))) (fun _ hk=>hk.2) (.int .i64 t221)) (fun _ hk=>⟨hk.1.1,⟨hk.1.2.1,⟨hk.1.2.2.1,⟨hk.1.2.2.2.1,⟨hk.1.2.2.2.2.1,hk.1.2.2.2.2.2⟩⟩⟩⟩⟩)))⟩;have n2_:Aside0 (Kd.N (Kd.slice 5 (Kd.int .u8)) 22 w81 w.heap.size (fun k_=>((P0_ k_ ∨ P1_ k_) ∨ w.heap.size ≤ k_) ∧ some k_ ≠ (.slice (some ad215) x10_1.length co72:Value).ownBlock ∧ some k_ ≠ (u15:Value).ownBlock ∧ some k_ ≠ (.slice Ao17 t162.length co17:Value).ownBlock ∧ some k_ ≠ (.slice Ao76 y216.length co76:Value).ownBlock ∧ k_ ≠ gb219) (.slice Ao15 t159.length co15) t159):=⟨(by rw [hw];exact (by (with_reducible repeat (first|apply aN|apply nN|apply dN));exact Kd.N_mono (Kd.N_far (p:=⟨gb219,1,none⟩) (Kd.N_mono HO_25.out (fun k_ hk=>(⟨hk,hk.2.2.2.2.2⟩:_ ∧ k_ ≠ gb219))) (fun _ hk=>hk.2) (.int .i64 t221)) (fun _ hk=>⟨hk.1.1,⟨hk.1.2.1,⟨hk.1.2.2.1,⟨hk.1.2.2.2.1,⟨hk.1.2.2.2.2.1,hk.1.2.2.2.2.2⟩⟩⟩⟩⟩)))⟩;have n3_:Aside0 (Kd.N (Kd.slice 5 (Kd.int .u8)) 22 w81 w.heap.size (fun k_=>((P0_ k_ ∨ P1_ k_) ∨ w.heap.size ≤ k_) ∧ some k_ ≠ (.slice (some ad215) x10_1.length co72:Value).ownBlock ∧ some k_ ≠ (u15:Value).ownBlock ∧ some k_ ≠ (.slice Ao15 t159.length co15:Value).ownBlock ∧ some k_ ≠ (.slice Ao76 y216.length co76:Value).ownBlock ∧ k_ ≠ gb219) (.slice Ao17 t162.length co17) t162):=⟨(by rw [hw];exact (by (with_reducible repeat (first|apply aN|apply nN|apply dN));exact Kd.N_mono (Kd.N_far (p:=⟨gb219,1,none⟩) (Kd.N_mono HO_28.out (fun k_ hk=>(⟨hk,hk.2.2.2.2.2⟩:_ ∧ k_ ≠ gb219))) (fun _ hk=>hk.2) (.int .i64 t221)) (fun _ hk=>⟨hk.1.1,⟨hk.1.2.1,⟨hk.1.2.2.1,⟨hk.1.2.2.2.1,⟨hk.1.2.2.2.2.1,hk.1.2.2.2.2.2⟩⟩⟩⟩⟩)))⟩;have n4_:Aside0 (Kd.V (Kd.int .u8) 5 w81 w.heap.size (fun k_=>((P0_ k_ ∨ P1_ k_) ∨ w.heap.size ≤ k_) ∧ some k_ ≠ (.slice (some ad215) x10_1.length co72:Value).ownBlock ∧ some k_ ≠ (u15:Value).ownBlock ∧ some k_ ≠ (.slice Ao76 y216.length co76:Value).ownBlock ∧ k_ ≠ gb219) (.slice A215_0 (rd_L2 x10_1 x16_2).length c215_0) (rd_L2 x10_1 x16_2)):=⟨(by rw [hw];exact (by (with_reducible repeat (first|apply aV|apply nV|apply dV));exact Kd.V_mono (Kd.V_far (p:=⟨gb219,1,none⟩) (Kd.V_mono HL215_0.out (fun k_ hk=>(⟨hk,hk.2.2.2.2⟩:_ ∧ k_ ≠ gb219))) (fun _ hk=>hk.2) (.int .i64 t221)) (fun _ hk=>⟨hk.1.1,⟨hk.1.2.1,⟨hk.1.2.2.1,⟨hk.1.2.2.2.1,hk.1.2.2.2.2⟩⟩⟩⟩)))⟩;have n5_:Aside0 (Kd.R (Kd.int .u8) 5 w81 w.heap.size (fun k_=>(w.heap.size ≤ k_)) (.slice Ao76 y216.length co76) y216):=⟨(by rw [hw];exact (by (with_reducible repeat (first|apply aR|apply nR|apply dR));exact Kd.R_mono (Kd.R_far (p:=⟨gb219,1,none⟩) (Kd.R_types HO218.out BK219.out (by decide)) (fun _ hk=>hk.2) (.int .i64 t221)) (fun _ hk=>hk.1)))⟩;have n6_:Aside0 (Kd.V (Kd.int .u8) 5 w81 w.heap.size (fun k_=>((P0_ k_ ∨ P1_ k_) ∨ w.heap.size ≤ k_) ∧ some k_ ≠ (.slice (some ad215) x10_1.length co72:Value).ownBlock ∧ some k_ ≠ (u15:Value).ownBlock ∧ some k_ ≠ (.slice Ao76 y216.length co76:Value).ownBlock ∧ k_ ≠ gb219) (.slice A220_0 (rd_L2 x10_1 x16_2).length c220_0) (rd_L2 x10_1 x16_2)):=⟨(by rw [hw];exact (by (with_reducible repeat (first|apply aV|apply nV|apply dV));exact Kd.V_mono (Kd.V_far (p:=⟨gb219,1,none⟩) (Kd.V_mono HL220_0.out (fun k_ hk=>(⟨hk,hk.1.2.2.2⟩:_ ∧ k_ ≠ gb219))) (fun _ hk=>hk.2) (.int .i64 t221)) (fun _ hk=>⟨hk.1.1.1,⟨hk.1.2,⟨hk.1.1.2.1,⟨hk.1.1.2.2.1,hk.1.1.2.2.2⟩⟩⟩⟩)))⟩;have n7_:Aside0 (w81.heap[gb219]? = some (.cells #[.slice Ao76 y216.length co76,.int .i64 t221,.int .i64 0,.int .i64 0,.int .i64 0] 48 (0,0))):=⟨(by rw [hw];exact (by (with_reducible repeat (first|apply nB|apply dB|apply aB));refine blk_put (cs:=#[.slice Ao76 y216.length co76,.int .i64 0,.int .i64 0,.int .i64 0,.int .i64 0]) ?_ 1 _ rfl;(with_reducible repeat (first|apply nB|apply dB|apply aB));exact BK219.out))⟩;have n8_:Aside0 (Below w.heap.size w w81):=⟨(by rw [hw];exact (kB HB.out))⟩;clear hw HO_10 HO_15 HO_25 HO_28 HL215_0 HO218 HL220_0 BK219 HB;have HO_10:=n0_;have HO_15:=n1_;have HO_25:=n2_;have HO_28:=n3_;have HL215_0:=n4_;have HO218:=n5_;have HL220_0:=n6_;have BK219:=n7_;have HB:=n8_;clear n0_ n1_ n2_ n3_ n4_ n5_ n6_ n7_ n8_;obtain⟨hcz82_0,hcz82_1,hcz82_2,hcz82_3,hcz82_4,hfz82_0,hfz82_1,hfz82_2,hfz82_3,hfz82_4⟩:=cz5 BK219.out)|((with_reducible refine gate_store (t:=3) (p:=114) rfl ?_);refine store_event (t:=3) (p:=114) (v:=?vo_w83) (w1:=(w81.setCell ⟨gb219,2,none⟩ (.int .i64 t222))) ?hg ?ho ?hn ?hr ?_;(case ho=>rfl);(case hg=>rfl);(case hn=>rfl);(case hr=>first|(go_simp;done)|(go_simp;rfl));intro w83 hw;have n0_:Aside0 (Kd.N (Kd.slice 5 (Kd.int .u8)) 22 w83 w.heap.size (fun k_=>((P0_ k_ ∨ P1_ k_) ∨ w.heap.size ≤ k_) ∧ some k_ ≠ (u15:Value).ownBlock ∧ some k_ ≠ (.slice Ao76 y216.length co76:Value).ownBlock ∧ k_ ≠ gb219) (.slice (some ad215) x10_1.length co72) x10_1):=⟨(by rw [hw];exact (by (with_reducible repeat (first|apply aN|apply nN|apply dN));exact Kd.N_mono (Kd.N_far (p:=⟨gb219,2,none⟩) (Kd.N_mono HO_10.out (fun k_ hk=>(⟨hk,hk.2.2.2⟩:_ ∧ k_ ≠ gb219))) (fun _ hk=>hk.2) (.int .i64 t222)) (fun _ hk=>⟨hk.1.1,⟨hk.1.2.1,⟨hk.1.2.2.1,hk.1.2.2.2⟩⟩⟩)))⟩;have n1_:Aside0 (Kd.N k48 48 w83 w.heap.size (fun k_=>((P0_ k_ ∨ P1_ k_) ∨ w.heap.size ≤ k_) ∧ some k_ ≠ (.slice (some ad215) x10_1.length co72:Value).ownBlock ∧ some k_ ≠ (.slice Ao15 t159.length co15:Value).ownBlock ∧ some k_ ≠ (.slice Ao17 t162.length co17:Value).ownBlock ∧ some k_ ≠ (.slice Ao76 y216.length co76:Value).ownBlock ∧ k_ ≠ gb219) u15 x15_2):=⟨(by rw [hw];exact (by (with_reducible repeat (first|apply aN|apply nN|apply dN));exact Kd.N_mono (Kd.N_far (p:=⟨gb219,2,none⟩) (Kd.N_mono HO_15.out (fun k_ hk=>(⟨hk,hk.2.2.2.2.2⟩:_ ∧ k_ ≠ gb219))) (fun _ hk=>hk.2) (.int .i64 t222)) (fun _ hk=>⟨hk.1.1,⟨hk.1.2.1,⟨hk.1.2.2.1,⟨hk.1.2.2.2.1,⟨hk.1.2.2.2.2.1,hk.1.2.2.2.2.2⟩⟩⟩⟩⟩)))⟩;have n2_:Aside0 (Kd.N (Kd.slice 5 (Kd.int .u8)) 22 w83 w.heap.size (fun k_=>((P0_ k_ ∨ P1_ k_) ∨ w.heap.size ≤ k_) ∧ some k_ ≠ (.slice (some ad215) x10_1.length co72:Value).ownBlock ∧ some k_ ≠ (u15:Value).ownBlock ∧ some k_ ≠ (.slice Ao17 t162.length co17:Value).ownBlock ∧ some k_ ≠ (.slice Ao76 y216.length co76:Value).ownBlock ∧ k_ ≠ gb219) (.slice Ao15 t159.length co15) t159):=⟨(by rw [hw];exact (by (with_reducible repeat (first|apply aN|apply nN|apply dN));exact Kd.N_mono (Kd.N_far (p:=⟨gb219,2,none⟩) (Kd.N_mono HO_25.out (fun k_ hk=>(⟨hk,hk.2.2.2.2.2⟩:_ ∧ k_ ≠ gb219))) (fun _ hk=>hk.2) (.int .i64 t222)) (fun _ hk=>⟨hk.1.1,⟨hk.1.2.1,⟨hk.1.2.2.1,⟨hk.1.2.2.2.1,⟨hk.1.2.2.2.2.1,hk.1.2.2.2.2.2⟩⟩⟩⟩⟩)))⟩;have n3_:Aside0 (Kd.N (Kd.slice 5 (Kd.int .u8)) 22 w83 w.heap.size (fun k_=>((P0_ k_ ∨ P1_ k_) ∨ w.heap.size ≤ k_) ∧ some k_ ≠ (.slice (some ad215) x10_1.length co72:Value).ownBlock ∧ some k_ ≠ (u15:Value).ownBlock ∧ some k_ ≠ (.slice Ao15 t159.length co15:Value).ownBlock ∧ some k_ ≠ (.slice Ao76 y216.length co76:Value).ownBlock ∧ k_ ≠ gb219) (.slice Ao17 t162.length co17) t162):=⟨(by rw [hw];exact (by (with_reducible repeat (first|apply aN|apply nN|apply dN));exact Kd.N_mono (Kd.N_far (p:=⟨gb219,2,none⟩) (Kd.N_mono HO_28.out (fun k_ hk=>(⟨hk,hk.2.2.2.2.2⟩:_ ∧ k_ ≠ gb219))) (fun _ hk=>hk.2) (.int .i64 t222)) (fun _ hk=>⟨hk.1.1,⟨hk.1.2.1,⟨hk.1.2.2.1,⟨hk.1.2.2.2.1,⟨hk.1.2.2.2.2.1,hk.1.2.2.2.2.2⟩⟩⟩⟩⟩)))⟩;have n4_:Aside0 (Kd.V (Kd.int .u8) 5 w83 w.heap.size (fun k_=>((P0_ k_ ∨ P1_ k_) ∨ w.heap.size ≤ k_) ∧ some k_ ≠ (.slice (some ad215) x10_1.length co72:Value).ownBlock ∧ some k_ ≠ (u15:Value).ownBlock ∧ some k_ ≠ (.slice Ao76 y216.length co76:Value).ownBlock ∧ k_ ≠ gb219) (.slice A215_0 (rd_L2 x10_1 x16_2).length c215_0) (rd_L2 x10_1 x16_2)):=⟨(by rw [hw];exact (by (with_reducible repeat (first|apply aV|apply nV|apply dV));exact Kd.V_mono (Kd.V_far (p:=⟨gb219,2,none⟩) (Kd.V_mono HL215_0.out (fun k_ hk=>(⟨hk,hk.2.2.2.2⟩:_ ∧ k_ ≠ gb219))) (fun _ hk=>hk.2) (.int .i64 t222)) (fun _ hk=>⟨hk.1.1,⟨hk.1.2.1,⟨hk.1.2.2.1,⟨hk.1.2.2.2.1,hk.1.2.2.2.2⟩⟩⟩⟩)))⟩;have n5_:Aside0 (Kd.R (Kd.int .u8) 5 w83 w.heap.size (fun k_=>(w.heap.size ≤ k_)) (.slice Ao76 y216.length co76) y216):=⟨(by rw [hw];exact (by (with_reducible repeat (first|apply aR|apply nR|apply dR));exact Kd.R_mono (Kd.R_far (p:=⟨gb219,2,none⟩) (Kd.R_types HO218.out BK219.out (by decide)) (fun _ hk=>hk.2) (.int .i64 t222)) (fun _ hk=>hk.1)))⟩;have n6_:Aside0 (Kd.V (Kd.int .u8) 5 w83 w.heap.size (fun k_=>((P0_ k_ ∨ P1_ k_) ∨ w.heap.size ≤ k_) ∧ some k_ ≠ (.slice (some ad215) x10_1.length co72:Value).ownBlock ∧ some k_ ≠ (u15:Value).ownBlock ∧ some k_ ≠ (.slice Ao76 y216.length co76:Value).ownBlock ∧ k_ ≠ gb219) (.slice A220_0 (rd_L2 x10_1 x16_2).length c220_0) (rd_L2 x10_1 x16_2)):=⟨(by rw [hw];exact (by (with_reducible repeat (first|apply aV|apply nV|apply dV));exact Kd.V_mono (Kd.V_far (p:=⟨gb219,2,none⟩) (Kd.V_mono HL220_0.out (fun k_ hk=>(⟨hk,hk.2.2.2.2⟩:_ ∧ k_ ≠ gb219))) (fun _ hk=>hk.2) (.int .i64 t222)) (fun _ hk=>⟨hk.1.1,⟨hk.1.2.1,⟨hk.1.2.2.1,⟨hk.1.2.2.2.1,hk.1.2.2.2.2⟩⟩⟩⟩)))⟩;have n7_:Aside0 (w83.heap[gb219]? = some (.cells #[.slice Ao76 y216.length co76,.int .i64 t221,.int .i64 t222,.int .i64 0,.int .i64 0] 48 (0,0))):=⟨(by rw [hw];exact (by (with_reducible repeat (first|apply nB|apply dB|apply aB));refine blk_put (cs:=#[.slice Ao76 y216.length co76,.int .i64 t221,.int .i64 0,.int .i64 0,.int .i64 0]) ?_ 2 _ rfl;(with_reducible repeat (first|apply nB|apply dB|apply aB));exact BK219.out))⟩;have n8_:Aside0 (Below w.heap.size w w83):=⟨(by rw [hw];exact (kB HB.out))⟩;clear hw HO_10 HO_15 HO_25 HO_28 HL215_0 HO218 HL220_0 BK219 HB;have HO_10:=n0_;have HO_15:=n1_;have HO_25:=n2_;have HO_28:=n3_;have HL215_0:=n4_;have HO218:=n5_;have HL220_0:=n6_;have BK219:=n7_;have HB:=n8_;clear n0_ n1_ n2_ n3_ n4_ n5_ n6_ n7_ n8_;have p223:0 ≤ (x16_2:Int):=oD;have q223:x16_2 < (x10_1.length:Int):=oD;obtain⟨ad223,A223_0,c223_0,e223,hx223_0,hl223_0,hi223_0⟩:=at_L2 (Kd.N_reads' HO_10.out).2.2 x16_2 p223 q223;obtain rfl:ad215 = ad223:=(by injection e223);obtain⟨ce223,hce223,hMe223,hcc223⟩:=Kd.N_get HO_10.out [] x16_2 p223 (by first|exact q223|exact oD|(have e_:=(Kd.N_reads' HO_10.out).1;omega));obtain⟨ua223_0,uc223_0,rfl,ul223_0,ge223_0⟩:=Kd.FK_slice_open hMe223;have hv223_0:=hcc223 0 _ rfl;rw [Nat.add_zero,show ((Kd.slice 5 (Kd.int .u8))).sz = 1 from rfl,Nat.mul_one] at hv223_0;replace hv223_0:=Option.some.inj (hv223_0.symm.trans hx223_0);injection hv223_0 with hva_ hvn_ hvc_;rw [hva_] at ge223_0;rw [hvc_] at ul223_0;have HL223_0:=mk0 (show Kd.V (Kd.int .u8) 5 _ w.heap.size _ _ (rd_L2 x10_1 x16_2) from Kd.V_mk ul223_0 ge223_0);clear hva_ hvn_ hvc_ ge223_0 ul223_0 hcc223 hce223;have HR223_0:=mk0 hi223_0;have HC223_0:=mk0 hl223_0;clear hi223_0 hl223_0;replace p223:=eq_true p223;replace q223:=eq_true q223)|((with_reducible refine gate_callee (f:=54) rfl ?_);refine gL (some 121) Try.func54 #[.slice Ao17 t162.length co17,.slice A223_0 (rd_L2 x10_1 x16_2).length c223_0] ?_;(with_reducible refine (spec_l13Span.calls k2 _ _ t162 _ _ (rd_L2 x10_1 x16_2) t224 t225 _ ?side1 ?side2 ?side3 ?side4 A70.out).mono ?_);(case side1=>exact kC (Kd.N_reads' HO_28.out).2.2);(case side2=>exact (Kd.N_reads' HO_28.out).2.1);(case side3=>repeat (first|exact (by repeat (first|(with_reducible exact HR223_0.out)|(with_reducible first|apply aC|apply nC|apply dC)|exact HR223_0.out|exact (Kd.V_reads' HL223_0.out).2.2))|(with_reducible first|apply aC|apply nC|apply dC)));(case side4=>exact HC223_0.out);rintro e w' ⟨rfl,⟨nd,rfl⟩⟩;refine⟨_,rfl,?_⟩;(try (rw [drewN_self w83];generalize hq_:World.drewN w83 _ = w83;have n0_:Aside0 (Kd.V (Kd.int .u8) 5 w83 w.heap.size (fun k_=>((((P0_ k_ ∨ P1_ k_) ∨ w.heap.size ≤ k_)) ∧ (some k_ ≠ (.slice (some ad215) x10_1.length co72:Value).ownBlock ∧ (some k_ ≠ (u15:Value).ownBlock ∧ (some k_ ≠ (.slice Ao76 y216.length co76:Value).ownBlock ∧ k_ ≠ gb219))))) (.slice A215_0 (rd_L2 x10_1 x16_2).length c215_0) (rd_L2 x10_1 x16_2)):=⟨by rw [← hq_];exact (rV HL215_0.out)⟩;have n1_:Aside0 (Kd.V (Kd.int .u8) 5 w83 w.heap.size (fun k_=>((((P0_ k_ ∨ P1_ k_) ∨ w.heap.size ≤ k_)) ∧ (some k_ ≠ (.slice (some ad215) x10_1.length co72:Value).ownBlock ∧ (some k_ ≠ (u15:Value).ownBlock ∧ (some k_ ≠ (.slice Ao76 y216.length co76:Value).ownBlock ∧ k_ ≠ gb219))))) (.slice A220_0 (rd_L2 x10_1 x16_2).length c220_0) (rd_L2 x10_1 x16_2)):=⟨by rw [← hq_];exact (rV HL220_0.out)⟩;have n2_:Aside0 (Kd.V (Kd.int .u8) 5 w83 w.heap.size (fun k_=>(((((P0_ k_ ∨ P1_ k_) ∨ w.heap.size ≤ k_)) ∧ (some k_ ≠ (u15:Value).ownBlock ∧ (some k_ ≠ (.slice Ao76 y216.length co76:Value).ownBlock ∧ k_ ≠ gb219))) ∧ some k_ ≠ (.slice (some ad215) x10_1.length co72:Value).ownBlock)) (.slice A223_0 (rd_L2 x10_1 x16_2).length c223_0) (rd_L2 x10_1 x16_2)):=⟨by rw [← hq_];exact (rV HL223_0.out)⟩;have n3_:Aside0 (Kd.R (Kd.int .u8) 5 w83 w.heap.size (fun k_=>((w.heap.size ≤ k_))) (.slice Ao76 y216.length co76) y216):=⟨by rw [← hq_];exact (rR HO218.out)⟩;have n4_:Aside0 (Kd.N (Kd.slice 5 (Kd.int .u8)) 22 w83 w.heap.size (fun k_=>((((P0_ k_ ∨ P1_ k_) ∨ w.heap.size ≤ k_)) ∧ (some k_ ≠ (u15:Value).ownBlock ∧ (some k_ ≠ (.slice Ao76 y216.length co76:Value).ownBlock ∧ k_ ≠ gb219)))) (.slice (some ad215) x10_1.length co72) x10_1):=⟨by rw [← hq_];exact (rN HO_10.out)⟩;have n5_:Aside0 (Kd.N k48 48 w83 w.heap.size (fun k_=>((((P0_ k_ ∨ P1_ k_) ∨ w.heap.size ≤ k_)) ∧ (some k_ ≠ (.slice (some ad215) x10_1.length co72:Value).ownBlock ∧ (some k_ ≠ (.slice Ao15 t159.length co15:Value).ownBlock ∧ (some k_ ≠ (.slice Ao17 t162.length co17:Value).ownBlock ∧ (some k_ ≠ (.slice Ao76 y216.length co76:Value).ownBlock ∧ k_ ≠ gb219)))))) u15 x15_2):=⟨by rw [← hq_];exact (rN HO_15.out)⟩;have n6_:Aside0 (Kd.N (Kd.slice 5 (Kd.int .u8)) 22 w83 w.heap.size (fun k_=>((((P0_ k_ ∨ P1_ k_) ∨ w.heap.size ≤ k_)) ∧ (some k_ ≠ (.slice (some ad215) x10_1.length co72:Value).ownBlock ∧ (some k_ ≠ (u15:Value).ownBlock ∧ (some k_ ≠ (.slice Ao17 t162.length co17:Value).ownBlock ∧ (some k_ ≠ (.slice Ao76 y216.length co76:Value).ownBlock ∧ k_ ≠ gb219)))))) (.slice Ao15 t159.length co15) t159):=⟨by rw [← hq_];exact (rN HO_25.out)⟩;have n7_:Aside0 (Kd.N (Kd.slice 5 (Kd.int .u8)) 22 w83 w.heap.size (fun k_=>((((P0_ k_ ∨ P1_ k_) ∨ w.heap.size ≤ k_)) ∧ (some k_ ≠ (.slice (some ad215) x10_1.length co72:Value).ownBlock ∧ (some k_ ≠ (u15:Value).ownBlock ∧ (some k_ ≠ (.slice Ao15 t159.length co15:Value).ownBlock ∧ (some k_ ≠ (.slice Ao76 y216.length co76:Value).ownBlock ∧ k_ ≠ gb219)))))) (.slice Ao17 t162.length co17) t162):=⟨by rw [← hq_];exact (rN HO_28.out)⟩;have n8_:Aside0 (w83.heap[gb219]? = some (.cells #[.slice Ao76 y216.length co76,.int .i64 t221,.int .i64 t222,.int .i64 0,.int .i64 0] 48 (0,0))):=⟨by rw [← hq_];exact (kN BK219.out)⟩;have n9_:Aside0 (Below w.heap.size w w83):=⟨by rw [← hq_];exact (kB HB.out)⟩;have n10_:Aside0 (Kd.C (Kd.int .u8) w83 A220_0 (rd_L2 x10_1 x16_2).length (rd_L2 x10_1 x16_2)):=⟨by rw [← hq_];exact (by repeat (first|(with_reducible exact HR220_0.out)|(with_reducible first|apply aC|apply nC|apply dC)|exact HR220_0.out|exact (Kd.V_reads' HL220_0.out).2.2))⟩;have n11_:Aside0 (Kd.C (Kd.int .u8) w83 A223_0 (rd_L2 x10_1 x16_2).length (rd_L2 x10_1 x16_2)):=⟨by rw [← hq_];exact (by repeat (first|(with_reducible exact HR223_0.out)|(with_reducible first|apply aC|apply nC|apply dC)|exact HR223_0.out|exact (Kd.V_reads' HL223_0.out).2.2))⟩;clear HL215_0 HL220_0 HL223_0 HO218 HO_10 HO_15 HO_25 HO_28 BK219 HB HR220_0 HR223_0 hq_;have HL215_0:=n0_;have HL220_0:=n1_;have HL223_0:=n2_;have HO218:=n3_;have HO_10:=n4_;have HO_15:=n5_;have HO_25:=n6_;have HO_28:=n7_;have BK219:=n8_;have HB:=n9_;have HR220_0:=n10_;have HR223_0:=n11_;clear n0_ n1_ n2_ n3_ n4_ n5_ n6_ n7_ n8_ n9_ n10_ n11_));obtain⟨hcz84_0,hcz84_1,hcz84_2,hcz84_3,hcz84_4,hfz84_0,hfz84_1,hfz84_2,hfz84_3,hfz84_4⟩:=cz5 BK219.out)|((with_reducible refine gate_store (t:=3) (p:=124) rfl ?_);refine store_event (t:=3) (p:=124) (v:=?vo_w85) (w1:=(w83.setCell ⟨gb219,3,none⟩ (.int .i64 t224))) ?hg ?ho ?hn ?hr ?_;(case ho=>rfl);(case hg=>rfl);(case hn=>rfl);(case hr=>first|(go_simp;done)|(go_simp;rfl));intro w85 hw;have n0_:Aside0 (Kd.N (Kd.slice 5 (Kd.int .u8)) 22 w85 w.heap.size (fun k_=>((P0_ k_ ∨ P1_ k_) ∨ w.heap.size ≤ k_) ∧ some k_ ≠ (u15:Value).ownBlock ∧ some k_ ≠ (.slice Ao76 y216.length co76:Value).ownBlock ∧ k_ ≠ gb219) (.slice (some ad215) x10_1.length co72) x10_1):=⟨(by rw [hw];exact (by (with_reducible repeat (first|apply aN|apply nN|apply dN));exact Kd.N_mono (Kd.N_far (p:=⟨gb219,3,none⟩) (Kd.N_mono HO_10.out (fun k_ hk=>(⟨hk,hk.2.2.2⟩:_ ∧ k_ ≠ gb219))) (fun _ hk=>hk.2) (.int .i64 t224)) (fun _ hk=>⟨hk.1.1,⟨hk.1.2.1,⟨hk.1.2.2.1,hk.1.2.2.2⟩⟩⟩)))⟩;have n1_:Aside0 (Kd.N k48 48 w85 w.heap.size (fun k_=>((P0_ k_ ∨ P1_ k_) ∨ w.heap.size ≤ k_) ∧ some k_ ≠ (.slice (some ad215) x10_1.length co72:Value).ownBlock ∧ some k_ ≠ (.slice Ao15 t159.length co15:Value).ownBlock ∧ some k_ ≠ (.slice Ao17 t162.length co17:Value).ownBlock ∧ some k_ ≠ (.slice Ao76 y216.length co76:Value).ownBlock ∧ k_ ≠ gb219) u15 x15_2):=⟨(by rw [hw];exact (by (with_reducible repeat (first|apply aN|apply nN|apply dN));exact Kd.N_mono (Kd.N_far (p:=⟨gb219,3,none⟩) (Kd.N_mono HO_15.out (fun k_ hk=>(⟨hk,hk.2.2.2.2.2⟩:_ ∧ k_ ≠ gb219))) (fun _ hk=>hk.2) (.int .i64 t224)) (fun _ hk=>⟨hk.1.1,⟨hk.1.2.1,⟨hk.1.2.2.1,⟨hk.1.2.2.2.1,⟨hk.1.2.2.2.2.1,hk.1.2.2.2.2.2⟩⟩⟩⟩⟩)))⟩;have n2_:Aside0 (Kd.N (Kd.slice 5 (Kd.int .u8)) 22 w85 w.heap.size (fun k_=>((P0_ k_ ∨ P1_ k_) ∨ w.heap.size ≤ k_) ∧ some k_ ≠ (.slice (some ad215) x10_1.length co72:Value).ownBlock ∧ some k_ ≠ (u15:Value).ownBlock ∧ some k_ ≠ (.slice Ao17 t162.length co17:Value).ownBlock ∧ some k_ ≠ (.slice Ao76 y216.length co76:Value).ownBlock ∧ k_ ≠ gb219) (.slice Ao15 t159.length co15) t159):=⟨(by rw [hw];exact (by (with_reducible repeat (first|apply aN|apply nN|apply dN));exact Kd.N_mono (Kd.N_far (p:=⟨gb219,3,none⟩) (Kd.N_mono HO_25.out (fun k_ hk=>(⟨hk,hk.2.2.2.2.2⟩:_ ∧ k_ ≠ gb219))) (fun _ hk=>hk.2) (.int .i64 t224)) (fun _ hk=>⟨hk.1.1,⟨hk.1.2.1,⟨hk.1.2.2.1,⟨hk.1.2.2.2.1,⟨hk.1.2.2.2.2.1,hk.1.2.2.2.2.2⟩⟩⟩⟩⟩)))⟩;have n3_:Aside0 (Kd.N (Kd.slice 5 (Kd.int .u8)) 22 w85 w.heap.size (fun k_=>((P0_ k_ ∨ P1_ k_) ∨ w.heap.size ≤ k_) ∧ some k_ ≠ (.slice (some ad215) x10_1.length co72:Value).ownBlock ∧ some k_ ≠ (u15:Value).ownBlock ∧ some k_ ≠ (.slice Ao15 t159.length co15:Value).ownBlock ∧ some k_ ≠ (.slice Ao76 y216.length co76:Value).ownBlock ∧ k_ ≠ gb219) (.slice Ao17 t162.length co17) t162):=⟨(by rw [hw];exact (by (with_reducible repeat (first|apply aN|apply nN|apply dN));exact Kd.N_mono (Kd.N_far (p:=⟨gb219,3,none⟩) (Kd.N_mono HO_28.out (fun k_ hk=>(⟨hk,hk.2.2.2.2.2⟩:_ ∧ k_ ≠ gb219))) (fun _ hk=>hk.2) (.int .i64 t224)) (fun _ hk=>⟨hk.1.1,⟨hk.1.2.1,⟨hk.1.2.2.1,⟨hk.1.2.2.2.1,⟨hk.1.2.2.2.2.1,hk.1.2.2.2.2.2⟩⟩⟩⟩⟩)))⟩;have n4_:Aside0 (Kd.V (Kd.int .u8) 5 w85 w.heap.size (fun k_=>((P0_ k_ ∨ P1_ k_) ∨ w.heap.size ≤ k_) ∧ some k_ ≠ (.slice (some ad215) x10_1.length co72:Value).ownBlock ∧ some k_ ≠ (u15:Value).ownBlock ∧ some k_ ≠ (.slice Ao76 y216.length co76:Value).ownBlock ∧ k_ ≠ gb219) (.slice A215_0 (rd_L2 x10_1 x16_2).length c215_0) (rd_L2 x10_1 x16_2)):=⟨(by rw [hw];exact (by (with_reducible repeat (first|apply aV|apply nV|apply dV));exact Kd.V_mono (Kd.V_far (p:=⟨gb219,3,none⟩) (Kd.V_mono HL215_0.out (fun k_ hk=>(⟨hk,hk.2.2.2.2⟩:_ ∧ k_ ≠ gb219))) (fun _ hk=>hk.2) (.int .i64 t224)) (fun _ hk=>⟨hk.1.1,⟨hk.1.2.1,⟨hk.1.2.2.1,⟨hk.1.2.2.2.1,hk.1.2.2.2.2⟩⟩⟩⟩)))⟩;have n5_:Aside0 (Kd.R (Kd.int .u8) 5 w85 w.heap.size (fun k_=>(w.heap.size ≤ k_)) (.slice Ao76 y216.length co76) y216):=⟨(by rw [hw];exact (by (with_reducible repeat (first|apply aR|apply nR|apply dR));exact Kd.R_mono (Kd.R_far (p:=⟨gb219,3,none⟩) (Kd.R_types HO218.out BK219.out (by decide)) (fun _ hk=>hk.2) (.int .i64 t224)) (fun _ hk=>hk.1)))⟩;have n6_:Aside0 (Kd.V (Kd.int .u8) 5 w85 w.heap.size (fun k_=>((P0_ k_ ∨ P1_ k_) ∨ w.heap.size ≤ k_) ∧ some k_ ≠ (.slice (some ad215) x10_1.length co72:Value).ownBlock ∧ some k_ ≠ (u15:Value).ownBlock ∧ some k_ ≠ (.slice Ao76 y216.length co76:Value).ownBlock ∧ k_ ≠ gb219) (.slice A220_0 (rd_L2 x10_1 x16_2).length c220_0) (rd_L2 x10_1 x16_2)):=⟨(by rw [hw];exact (by (with_reducible repeat (first|apply aV|apply nV|apply dV));exact Kd.V_mono (Kd.V_far (p:=⟨gb219,3,none⟩) (Kd.V_mono HL220_0.out (fun k_ hk=>(⟨hk,hk.2.2.2.2⟩:_ ∧ k_ ≠ gb219))) (fun _ hk=>hk.2) (.int .i64 t224)) (fun _ hk=>⟨hk.1.1,⟨hk.1.2.1,⟨hk.1.2.2.1,⟨hk.1.2.2.2.1,hk.1.2.2.2.2⟩⟩⟩⟩)))⟩;have n7_:Aside0 (Kd.V (Kd.int .u8) 5 w85 w.heap.size (fun k_=>((P0_ k_ ∨ P1_ k_) ∨ w.heap.size ≤ k_) ∧ some k_ ≠ (.slice (some ad215) x10_1.length co72:Value).ownBlock ∧ some k_ ≠ (u15:Value).ownBlock ∧ some k_ ≠ (.slice Ao76 y216.length co76:Value).ownBlock ∧ k_ ≠ gb219) (.slice A223_0 (rd_L2 x10_1 x16_2).length c223_0) (rd_L2 x10_1 x16_2)):=⟨(by rw [hw];exact (by (with_reducible repeat (first|apply aV|apply nV|apply dV));exact Kd.V_mono (Kd.V_far (p:=⟨gb219,3,none⟩) (Kd.V_mono HL223_0.out (fun k_ hk=>(⟨hk,hk.1.2.2.2⟩:_ ∧ k_ ≠ gb219))) (fun _ hk=>hk.2) (.int .i64 t224)) (fun _ hk=>⟨hk.1.1.1,⟨hk.1.2,⟨hk.1.1.2.1,⟨hk.1.1.2.2.1,hk.1.1.2.2.2⟩⟩⟩⟩)))⟩;have n8_:Aside0 (w85.heap[gb219]? = some (.cells #[.slice Ao76 y216.length co76,.int .i64 t221,.int .i64 t222,.int .i64 t224,.int .i64 0] 48 (0,0))):=⟨(by rw [hw];exact (by (with_reducible repeat (first|apply nB|apply dB|apply aB));refine blk_put (cs:=#[.slice Ao76 y216.length co76,.int .i64 t221,.int .i64 t222,.int .i64 0,.int .i64 0]) ?_ 3 _ rfl;(with_reducible repeat (first|apply nB|apply dB|apply aB));exact BK219.out))⟩;have n9_:Aside0 (Below w.heap.size w w85):=⟨(by rw [hw];exact (kB HB.out))⟩;clear hw HO_10 HO_15 HO_25 HO_28 HL215_0 HO218 HL220_0 HL223_0 BK219 HB;have HO_10:=n0_;have HO_15:=n1_;have HO_25:=n2_;have HO_28:=n3_;have HL215_0:=n4_;have HO218:=n5_;have HL220_0:=n6_;have HL223_0:=n7_;have BK219:=n8_;have HB:=n9_;clear n0_ n1_ n2_ n3_ n4_ n5_ n6_ n7_ n8_ n9_;obtain⟨hcz86_0,hcz86_1,hcz86_2,hcz86_3,hcz86_4,hfz86_0,hfz86_1,hfz86_2,hfz86_3,hfz86_4⟩:=cz5 BK219.out)|((with_reducible refine gate_store (t:=3) (p:=125) rfl ?_);refine store_event (t:=3) (p:=125) (v:=?vo_w87) (w1:=(w85.setCell ⟨gb219,4,none⟩ (.int .i64 t225))) ?hg ?ho ?hn ?hr ?_;(case ho=>rfl);(case hg=>rfl);(case hn=>rfl);(case hr=>first|(go_simp;done)|(go_simp;rfl));intro w87 hw;have n0_:Aside0 (Kd.N (Kd.slice 5 (Kd.int .u8)) 22 w87 w.heap.size (fun k_=>((P0_ k_ ∨ P1_ k_) ∨ w.heap.size ≤ k_) ∧ some k_ ≠ (u15:Value).ownBlock ∧ some k_ ≠ (.slice Ao76 y216.length co76:Value).ownBlock ∧ k_ ≠ gb219) (.slice (some ad215) x10_1.length co72) x10_1):=⟨(by rw [hw];exact (by (with_reducible repeat (first|apply aN|apply nN|apply dN));exact Kd.N_mono (Kd.N_far (p:=⟨gb219,4,none⟩) (Kd.N_mono HO_10.out (fun k_ hk=>(⟨hk,hk.2.2.2⟩:_ ∧ k_ ≠ gb219))) (fun _ hk=>hk.2) (.int .i64 t225)) (fun _ hk=>⟨hk.1.1,⟨hk.1.2.1,⟨hk.1.2.2.1,hk.1.2.2.2⟩⟩⟩)))⟩;have n1_:Aside0 (Kd.N k48 48 w87 w.heap.size (fun k_=>((P0_ k_ ∨ P1_ k_) ∨ w.heap.size ≤ k_) ∧ some k_ ≠ (.slice (some ad215) x10_1.length co72:Value).ownBlock ∧ some k_ ≠ (.slice Ao15 t159.length co15:Value).ownBlock ∧ some k_ ≠ (.slice Ao17 t162.length co17:Value).ownBlock ∧ some k_ ≠ (.slice Ao76 y216.length co76:Value).ownBlock ∧ k_ ≠ gb219) u15 x15_2):=⟨(by rw [hw];exact (by (with_reducible repeat (first|apply aN|apply nN|apply dN));exact Kd.N_mono (Kd.N_far (p:=⟨gb219,4,none⟩) (Kd.N_mono HO_15.out (fun k_ hk=>(⟨hk,hk.2.2.2.2.2⟩:_ ∧ k_ ≠ gb219))) (fun _ hk=>hk.2) (.int .i64 t225)) (fun _ hk=>⟨hk.1.1,⟨hk.1.2.1,⟨hk.1.2.2.1,⟨hk.1.2.2.2.1,⟨hk.1.2.2.2.2.1,hk.1.2.2.2.2.2⟩⟩⟩⟩⟩)))⟩;have n2_:Aside0 (Kd.N (Kd.slice 5 (Kd.int .u8)) 22 w87 w.heap.size (fun k_=>((P0_ k_ ∨ P1_ k_) ∨ w.heap.size ≤ k_) ∧ some k_ ≠ (.slice (some ad215) x10_1.length co72:Value).ownBlock ∧ some k_ ≠ (u15:Value).ownBlock ∧ some k_ ≠ (.slice Ao17 t162.length co17:Value).ownBlock ∧ some k_ ≠ (.slice Ao76 y216.length co76:Value).ownBlock ∧ k_ ≠ gb219) (.slice Ao15 t159.length co15) t159):=⟨(by rw [hw];exact (by (with_reducible repeat (first|apply aN|apply nN|apply dN));exact Kd.N_mono (Kd.N_far (p:=⟨gb219,4,none⟩) (Kd.N_mono HO_25.out (fun k_ hk=>(⟨hk,hk.2.2.2.2.2⟩:_ ∧ k_ ≠ gb219))) (fun _ hk=>hk.2) (.int .i64 t225)) (fun _ hk=>⟨hk.1.1,⟨hk.1.2.1,⟨hk.1.2.2.1,⟨hk.1.2.2.2.1,⟨hk.1.2.2.2.2.1,hk.1.2.2.2.2.2⟩⟩⟩⟩⟩)))⟩;have n3_:Aside0 (Kd.N (Kd.slice 5 (Kd.int .u8)) 22 w87 w.heap.size (fun k_=>((P0_ k_ ∨ P1_ k_) ∨ w.heap.size ≤ k_) ∧ some k_ ≠ (.slice (some ad215) x10_1.length co72:Value).ownBlock ∧ some k_ ≠ (u15:Value).ownBlock ∧ some k_ ≠ (.slice Ao15 t159.length co15:Value).ownBlock ∧ some k_ ≠ (.slice Ao76 y216.length co76:Value).ownBlock ∧ k_ ≠ gb219) (.slice Ao17 t162.length co17) t162):=⟨(by rw [hw];exact (by (with_reducible repeat (first|apply aN|apply nN|apply dN));exact Kd.N_mono (Kd.N_far (p:=⟨gb219,4,none⟩) (Kd.N_mono HO_28.out (fun k_ hk=>(⟨hk,hk.2.2.2.2.2⟩:_ ∧ k_ ≠ gb219))) (fun _ hk=>hk.2) (.int .i64 t225)) (fun _ hk=>⟨hk.1.1,⟨hk.1.2.1,⟨hk.1.2.2.1,⟨hk.1.2.2.2.1,⟨hk.1.2.2.2.2.1,hk.1.2.2.2.2.2⟩⟩⟩⟩⟩)))⟩;have n4_:Aside0 (Kd.V (Kd.int .u8) 5 w87 w.heap.size (fun k_=>((P0_ k_ ∨ P1_ k_) ∨ w.heap.size ≤ k_) ∧ some k_ ≠ (.slice (some ad215) x10_1.length co72:Value).ownBlock ∧ some k_ ≠ (u15:Value).ownBlock ∧ some k_ ≠ (.slice Ao76 y216.length co76:Value).ownBlock ∧ k_ ≠ gb219) (.slice A215_0 (rd_L2 x10_1 x16_2).length c215_0) (rd_L2 x10_1 x16_2)):=⟨(by rw [hw];exact (by (with_reducible repeat (first|apply aV|apply nV|apply dV));exact Kd.V_mono (Kd.V_far (p:=⟨gb219,4,none⟩) (Kd.V_mono HL215_0.out (fun k_ hk=>(⟨hk,hk.2.2.2.2⟩:_ ∧ k_ ≠ gb219))) (fun _ hk=>hk.2) (.int .i64 t225)) (fun _ hk=>⟨hk.1.1,⟨hk.1.2.1,⟨hk.1.2.2.1,⟨hk.1.2.2.2.1,hk.1.2.2.2.2⟩⟩⟩⟩)))⟩;have n5_:Aside0 (Kd.R (Kd.int .u8) 5 w87 w.heap.size (fun k_=>(w.heap.size ≤ k_)) (.slice Ao76 y216.length co76) y216):=⟨(by rw [hw];exact (by (with_reducible repeat (first|apply aR|apply nR|apply dR));exact Kd.R_mono (Kd.R_far (p:=⟨gb219,4,none⟩) (Kd.R_types HO218.out BK219.out (by decide)) (fun _ hk=>hk.2) (.int .i64 t225)) (fun _ hk=>hk.1)))⟩;have n6_:Aside0 (Kd.V (Kd.int .u8) 5 w87 w.heap.size (fun k_=>((P0_ k_ ∨ P1_ k_) ∨ w.heap.size ≤ k_) ∧ some k_ ≠ (.slice (some ad215) x10_1.length co72:Value).ownBlock ∧ some k_ ≠ (u15:Value).ownBlock ∧ some k_ ≠ (.slice Ao76 y216.length co76:Value).ownBlock ∧ k_ ≠ gb219) (.slice A220_0 (rd_L2 x10_1 x16_2).length c220_0) (rd_L2 x10_1 x16_2)):=⟨(by rw [hw];exact (by (with_reducible repeat (first|apply aV|apply nV|apply dV));exact Kd.V_mono (Kd.V_far (p:=⟨gb219,4,none⟩) (Kd.V_mono HL220_0.out (fun k_ hk=>(⟨hk,hk.2.2.2.2⟩:_ ∧ k_ ≠ gb219))) (fun _ hk=>hk.2) (.int .i64 t225)) (fun _ hk=>⟨hk.1.1,⟨hk.1.2.1,⟨hk.1.2.2.1,⟨hk.1.2.2.2.1,hk.1.2.2.2.2⟩⟩⟩⟩)))⟩;have n7_:Aside0 (Kd.V (Kd.int .u8) 5 w87 w.heap.size (fun k_=>((P0_ k_ ∨ P1_ k_) ∨ w.heap.size ≤ k_) ∧ some k_ ≠ (.slice (some ad215) x10_1.length co72:Value).ownBlock ∧ some k_ ≠ (u15:Value).ownBlock ∧ some k_ ≠ (.slice Ao76 y216.length co76:Value).ownBlock ∧ k_ ≠ gb219) (.slice A223_0 (rd_L2 x10_1 x16_2).length c223_0) (rd_L2 x10_1 x16_2)):=⟨(by rw [hw];exact (by (with_reducible repeat (first|apply aV|apply nV|apply dV));exact Kd.V_mono (Kd.V_far (p:=⟨gb219,4,none⟩) (Kd.V_mono HL223_0.out (fun k_ hk=>(⟨hk,hk.2.2.2.2⟩:_ ∧ k_ ≠ gb219))) (fun _ hk=>hk.2) (.int .i64 t225)) (fun _ hk=>⟨hk.1.1,⟨hk.1.2.1,⟨hk.1.2.2.1,⟨hk.1.2.2.2.1,hk.1.2.2.2.2⟩⟩⟩⟩)))⟩;have n8_:Aside0 (w87.heap[gb219]? = some (.cells #[.slice Ao76 y216.length co76,.int .i64 t221,.int .i64 t222,.int .i64 t224,.int .i64 t225] 48 (0,0))):=⟨(by rw [hw];exact (by (with_reducible repeat (first|apply nB|apply dB|apply aB));refine blk_put (cs:=#[.slice Ao76 y216.length co76,.int .i64 t221,.int .i64 t222,.int .i64 t224,.int .i64 0]) ?_ 4 _ rfl;(with_reducible repeat (first|apply nB|apply dB|apply aB));exact BK219.out))⟩;have n9_:Aside0 (Below w.heap.size w w87):=⟨(by rw [hw];exact (kB HB.out))⟩;clear hw HO_10 HO_15 HO_25 HO_28 HL215_0 HO218 HL220_0 HL223_0 BK219 HB;have HO_10:=n0_;have HO_15:=n1_;have HO_25:=n2_;have HO_28:=n3_;have HL215_0:=n4_;have HO218:=n5_;have HL220_0:=n6_;have HL223_0:=n7_;have BK219:=n8_;have HB:=n9_;clear n0_ n1_ n2_ n3_ n4_ n5_ n6_ n7_ n8_ n9_;obtain⟨hcz88_0,hcz88_1,hcz88_2,hcz88_3,hcz88_4,hfz88_0,hfz88_1,hfz88_2,hfz88_3,hfz88_4⟩:=cz5 BK219.out)|((with_reducible refine gate_builtin (b:=.append) (xs:=#[.tmp 126,.tmp 128]) rfl ?_);at_builtin;refine Kd.N_append k48 (w0:=w) w.heap.size rfl (.tmp 126) (.tmp 128) 43 48 (.agg #[(.slice none 0 0),(.int .i64 0),(.int .i64 0),(.int .i64 0),(.int .i64 0)]) 56 rfl Try.underlying43 info48 rfl (by decide) (by omega) u15 x15_2 (⟨y216,t221,t222,t224,t225⟩:S48) [.slice Ao76 y216.length co76,.int .i64 t221,.int .i64 t222,.int .i64 t224,.int .i64 t225] (fun k_=>((P0_ k_ ∨ P1_ k_) ∨ w.heap.size ≤ k_) ∧ some k_ ≠ (.slice (some ad215) x10_1.length co72:Value).ownBlock ∧ some k_ ≠ (.slice Ao15 t159.length co15:Value).ownBlock ∧ some k_ ≠ (.slice Ao17 t162.length co17:Value).ownBlock ∧ k_ ≠ gb219) (fun k_=>((fun k_=>((P0_ k_ ∨ P1_ k_) ∨ w.heap.size ≤ k_) ∧ some k_ ≠ (.slice (some ad215) x10_1.length co72:Value).ownBlock ∧ some k_ ≠ (.slice Ao15 t159.length co15:Value).ownBlock ∧ some k_ ≠ (.slice Ao17 t162.length co17:Value).ownBlock ∧ k_ ≠ gb219)) k_ ∧ some k_ ≠ (u15:Value).ownBlock) rfl rfl ?aP (fun _ hk=>hk) ?aF ?aO ?aB ?aS ?aL ?_;(case aP=>exact (k48_mkF _ _ (⟨y216,t221,t222,t224,t225⟩:S48) (Kd.R_reads' (Kd.R_mono (ok':=(fun k_=>((fun k_=>((P0_ k_ ∨ P1_ k_) ∨ w.heap.size ≤ k_) ∧ some k_ ≠ (.slice (some ad215) x10_1.length co72:Value).ownBlock ∧ some k_ ≠ (.slice Ao15 t159.length co15:Value).ownBlock ∧ some k_ ≠ (.slice Ao17 t162.length co17:Value).ownBlock ∧ k_ ≠ gb219)) k_ ∧ some k_ ≠ (u15:Value).ownBlock)) (Kd.R_types (Kd.R_apart' (Kd.R_apart' (Kd.R_apart' (Kd.R_apart' (HO218.out) (Kd.N_typed HO_10.out) (by decide)) (Kd.N_typed HO_25.out) (by decide)) (Kd.N_typed HO_28.out) (by decide)) (Kd.N_typed HO_15.out) (by decide)) BK219.out (by decide)) (fun k_ hk=>⟨⟨(.inr (hk.1.1.1.1.1)),⟨hk.1.1.1.1.2,⟨hk.1.1.1.2,⟨hk.1.1.2,hk.2⟩⟩⟩⟩,hk.1.2⟩))).2.1 (Kd.R_F (Kd.R_mono (ok':=(fun k_=>((fun k_=>((P0_ k_ ∨ P1_ k_) ∨ w.heap.size ≤ k_) ∧ some k_ ≠ (.slice (some ad215) x10_1.length co72:Value).ownBlock ∧ some k_ ≠ (.slice Ao15 t159.length co15:Value).ownBlock ∧ some k_ ≠ (.slice Ao17 t162.length co17:Value).ownBlock ∧ k_ ≠ gb219)) k_ ∧ some k_ ≠ (u15:Value).ownBlock)) (Kd.R_types (Kd.R_apart' (Kd.R_apart' (Kd.R_apart' (Kd.R_apart' (HO218.out) (Kd.N_typed HO_10.out) (by decide)) (Kd.N_typed HO_25.out) (by decide)) (Kd.N_typed HO_28.out) (by decide)) (Kd.N_typed HO_15.out) (by decide)) BK219.out (by decide)) (fun k_ hk=>⟨⟨(.inr (hk.1.1.1.1.1)),⟨hk.1.1.1.1.2,⟨hk.1.1.1.2,⟨hk.1.1.2,hk.2⟩⟩⟩⟩,hk.1.2⟩)))));(case aB=>exact (kB HB.out));(case aF=>exact (fun k_ hk=>⟨(.inr (Nat.le_trans (kZ HB.out) hk)),Kd.fresh' (Kd.N_lt (rN HO_10.out)) k_ hk,Kd.fresh' (Kd.N_lt (rN HO_25.out)) k_ hk,Kd.fresh' (Kd.N_lt (rN HO_28.out)) k_ hk,Kd.freshB (g:=gb219) (kN BK219.out) k_ hk⟩));(case aO=>exact (rN (Kd.N_mono HO_15.out (fun _ hk=>⟨hk.1,⟨hk.2.1,⟨hk.2.2.1,⟨hk.2.2.2.1,hk.2.2.2.2.2⟩⟩⟩⟩))));(case aS=>exact (kZ HB.out));(case aL=>have:=LMc71.out;omega);intro v227 w89 ho hb hg hat;rw [← Ny226.out] at ho;replace HO_10:=mk0 (Kd.N_afterv (ok:=(fun k_=>((P0_ k_ ∨ P1_ k_) ∨ w.heap.size ≤ k_) ∧ some k_ ≠ (.slice Ao76 y216.length co76:Value).ownBlock ∧ k_ ≠ gb219)) (rN (Kd.N_mono HO_10.out (fun _ hk=>⟨⟨hk.1,⟨hk.2.2.1,hk.2.2.2⟩⟩,hk.2.1⟩))) hg hat);replace HO_25:=mk0 (Kd.N_afterv (ok:=(fun k_=>((P0_ k_ ∨ P1_ k_) ∨ w.heap.size ≤ k_) ∧ some k_ ≠ (.slice (some ad215) x10_1.length co72:Value).ownBlock ∧ some k_ ≠ (.slice Ao17 t162.length co17:Value).ownBlock ∧ some k_ ≠ (.slice Ao76 y216.length co76:Value).ownBlock ∧ k_ ≠ gb219)) (rN (Kd.N_mono HO_25.out (fun _ hk=>⟨⟨hk.1,⟨hk.2.1,⟨hk.2.2.2.1,⟨hk.2.2.2.2.1,hk.2.2.2.2.2⟩⟩⟩⟩,hk.2.2.1⟩))) hg hat);replace HO_28:=mk0 (Kd.N_afterv (ok:=(fun k_=>((P0_ k_ ∨ P1_ k_) ∨ w.heap.size ≤ k_) ∧ some k_ ≠ (.slice (some ad215) x10_1.length co72:Value).ownBlock ∧ some k_ ≠ (.slice Ao15 t159.length co15:Value).ownBlock ∧ some k_ ≠ (.slice Ao76 y216.length co76:Value).ownBlock ∧ k_ ≠ gb219)) (rN (Kd.N_mono HO_28.out (fun _ hk=>⟨⟨hk.1,⟨hk.2.1,⟨hk.2.2.2.1,⟨hk.2.2.2.2.1,hk.2.2.2.2.2⟩⟩⟩⟩,hk.2.2.1⟩))) hg hat);replace HL215_0:=mk0 (Kd.V_afterv (ok:=(fun k_=>((P0_ k_ ∨ P1_ k_) ∨ w.heap.size ≤ k_) ∧ some k_ ≠ (.slice (some ad215) x10_1.length co72:Value).ownBlock ∧ some k_ ≠ (.slice Ao76 y216.length co76:Value).ownBlock ∧ k_ ≠ gb219)) (rV (Kd.V_mono HL215_0.out (fun _ hk=>⟨⟨hk.1,⟨hk.2.1,⟨hk.2.2.2.1,hk.2.2.2.2⟩⟩⟩,hk.2.2.1⟩))) hg hat);replace BK219:=mk0 (blk_grown (kN BK219.out) hg (Kd.N_away HO_15.out (fun _ hk=>hk.2.2.2.2.2)));replace HL220_0:=mk0 (Kd.V_afterv (ok:=(fun k_=>((P0_ k_ ∨ P1_ k_) ∨ w.heap.size ≤ k_) ∧ some k_ ≠ (.slice (some ad215) x10_1.length co72:Value).ownBlock ∧ some k_ ≠ (.slice Ao76 y216.length co76:Value).ownBlock ∧ k_ ≠ gb219)) (rV (Kd.V_mono HL220_0.out (fun _ hk=>⟨⟨hk.1,⟨hk.2.1,⟨hk.2.2.2.1,hk.2.2.2.2⟩⟩⟩,hk.2.2.1⟩))) hg hat);replace HL223_0:=mk0 (Kd.V_afterv (ok:=(fun k_=>((P0_ k_ ∨ P1_ k_) ∨ w.heap.size ≤ k_) ∧ some k_ ≠ (.slice (some ad215) x10_1.length co72:Value).ownBlock ∧ some k_ ≠ (.slice Ao76 y216.length co76:Value).ownBlock ∧ k_ ≠ gb219)) (rV (Kd.V_mono HL223_0.out (fun _ hk=>⟨⟨hk.1,⟨hk.2.1,⟨hk.2.2.2.1,hk.2.2.2.2⟩⟩⟩,hk.2.2.1⟩))) hg hat);replace HB:=mk0 (hb);have HO228:=mk0 (ho);clear HO_15 HO218 ho hb hg hat))
      go_roundg k2
      case measure=>have:=HK1.out;have:=HK2.out;omega
      case rel=>exact⟨(y226),(wrap64 (x16_2 + 1)),eS,H',⟨by have:=HK1.out;have:=HK2.out;omega⟩,⟨rN (Kd.N_mono HO_10.out (fun _ hk=>⟨hk.1.1,hk.2⟩))⟩,⟨rN (Kd.N_mono HO228.out (fun _ hk=>⟨hk.1,⟨hk.2.1,⟨hk.2.2.1,hk.2.2.2.1⟩⟩⟩))⟩,⟨rN (Kd.N_mono HO_25.out (fun _ hk=>⟨hk.1.1,⟨hk.1.2.1,⟨hk.2,hk.1.2.2.1⟩⟩⟩))⟩,⟨rN (Kd.N_mono HO_28.out (fun _ hk=>⟨hk.1.1,⟨hk.1.2.1,⟨hk.2,hk.1.2.2.1⟩⟩⟩))⟩,⟨kB HB.out⟩⟩
   rw [if_pos c20] at H
   have c20b0:decide (x11_1 < (y171.length:Int)) = true:=decide_eq_true c20
   (try simp only [hl177_0] at c20b0)
   (try simp only [hl178_0] at c20b0)
   (try simp only [hl180_0] at c20b0)
   (try simp only [hl181_0] at c20b0)
   (try simp only [hl183_0] at c20b0)
   (try simp only [hl215_0] at c20b0)
   (try simp only [hl220_0] at c20b0)
   (try simp only [hl223_0] at c20b0)
   clear c20
   have HC21:=mk0 H
   clear H
   obtain⟨Ao22,co22,eo22⟩:=Kd.N_slice HO_33.out
   subst eo22
   go_upto_block 2 with (fail)
   go_cut [12,13] (fun v12 v13 wc=>∃ (kq:Nat) (x12_20:Int) (x13_20:Bool),v12 = .int .i64 x12_20 ∧ v13 = .bool x13_20 ∧ Aside0 (spec_Parts.j2 kq t159 t162 y171 x10_1 x11_1 x12_20 x13_20 = some r) ∧ Aside0 (kq ≤ k1) ∧ Aside0 (Kd.N (Kd.slice 5 (Kd.int .u8)) 22 wc w.heap.size (fun k_=>((P0_ k_ ∨ P1_ k_) ∨ w.heap.size ≤ k_) ∧ some k_ ≠ ((.slice Ao17 t162.length co17):Value).ownBlock ∧ some k_ ≠ ((.slice Ao22 y171.length co22):Value).ownBlock ∧ some k_ ≠ (u10:Value).ownBlock) (.slice Ao15 t159.length co15) t159) ∧ Aside0 (Kd.N (Kd.slice 5 (Kd.int .u8)) 22 wc w.heap.size (fun k_=>((P0_ k_ ∨ P1_ k_) ∨ w.heap.size ≤ k_) ∧ some k_ ≠ ((.slice Ao15 t159.length co15):Value).ownBlock ∧ some k_ ≠ ((.slice Ao22 y171.length co22):Value).ownBlock ∧ some k_ ≠ (u10:Value).ownBlock) (.slice Ao17 t162.length co17) t162) ∧ Aside0 (Kd.N (Kd.slice 5 (Kd.int .u8)) 22 wc w.heap.size (fun k_=>((P0_ k_ ∨ P1_ k_) ∨ w.heap.size ≤ k_) ∧ some k_ ≠ (u10:Value).ownBlock) (.slice Ao22 y171.length co22) y171) ∧ Aside0 (Kd.N (Kd.slice 5 (Kd.int .u8)) 22 wc w.heap.size (fun k_=>((P0_ k_ ∨ P1_ k_) ∨ w.heap.size ≤ k_) ∧ some k_ ≠ ((.slice Ao22 y171.length co22):Value).ownBlock) u10 x10_1) ∧ Aside0 (Below w.heap.size w wc))
   case first =>
    have H:=HC21.out
    clear HC21
    have H':=mk0 H
    clear H
    go_wp2
    go_loopg [12,13] k1 (fun kq v12 v13 w'=>∃ (x12_2:Int) (x13_2:Bool),v12 = .int .i64 x12_2 ∧ v13 = .bool x13_2 ∧ Aside0 (spec_Parts.l1 kq x10_1 x11_1 x12_2 x13_2 t159 t162 y171 = some r) ∧ Aside0 (kq ≤ k1) ∧ Aside0 (Kd.N (Kd.slice 5 (Kd.int .u8)) 22 w' w.heap.size (fun k_=>((P0_ k_ ∨ P1_ k_) ∨ w.heap.size ≤ k_) ∧ some k_ ≠ ((.slice Ao22 y171.length co22):Value).ownBlock) u10 x10_1) ∧ Aside0 (Kd.N (Kd.slice 5 (Kd.int .u8)) 22 w' w.heap.size (fun k_=>((P0_ k_ ∨ P1_ k_) ∨ w.heap.size ≤ k_) ∧ some k_ ≠ (u10:Value).ownBlock ∧ some k_ ≠ ((.slice Ao17 t162.length co17):Value).ownBlock ∧ some k_ ≠ ((.slice Ao22 y171.length co22):Value).ownBlock) (.slice Ao15 t159.length co15) t159) ∧ Aside0 (Kd.N (Kd.slice 5 (Kd.int .u8)) 22 w' w.heap.size (fun k_=>((P0_ k_ ∨ P1_ k_) ∨ w.heap.size ≤ k_) ∧ some k_ ≠ (u10:Value).ownBlock ∧ some k_ ≠ ((.slice Ao15 t159.length co15):Value).ownBlock ∧ some k_ ≠ ((.slice Ao22 y171.length co22):Value).ownBlock) (.slice Ao17 t162.length co17) t162) ∧ Aside0 (Kd.N (Kd.slice 5 (Kd.int .u8)) 22 w' w.heap.size (fun k_=>((P0_ k_ ∨ P1_ k_) ∨ w.heap.size ≤ k_) ∧ some k_ ≠ (u10:Value).ownBlock) (.slice Ao22 y171.length co22) y171) ∧ Aside0 (Below w.heap.size w w'))
    case atStart=>exact⟨(0),(false),eS,eS,H',⟨Nat.le_refl _⟩,⟨rN HO_10.out⟩,⟨rN HO_25.out⟩,⟨rN HO_28.out⟩,⟨rN HO_33.out⟩,⟨kB HB.out⟩⟩
    case round =>
     clear H'
     try clear c1
     try clear c2
     try clear p2
     try clear c3
     try clear c5
     try clear c8
     try clear c9
     try clear c20
     try clear c20b0
     try clear p2
     obtain⟨x12_2,x13_2,rfl,rfl,HA,HK2,HO_10,HO_25,HO_28,HO_33,HB⟩:=hrel
     cases gk with
     | zero=>exact absurd HA.out (by simp [spec_Parts.l1])
     | succ k2 =>
      have H:=HA.out
      clear HA
      simp only [spec_Parts.l1] at H
      by_cases c23:x12_2 < (x10_1.length:Int)
      rotate_left
      ·rw [if_neg c23] at H
       have c23b0:decide (x12_2 < (x10_1.length:Int)) = false:=decide_eq_false c23
       (try simp only [hl177_0] at c23b0)
       (try simp only [hl178_0] at c23b0)
       (try simp only [hl180_0] at c23b0)
       (try simp only [hl181_0] at c23b0)
       (try simp only [hl183_0] at c23b0)
       (try simp only [hl215_0] at c23b0)
       (try simp only [hl220_0] at c23b0)
       (try simp only [hl223_0] at c23b0)
       clear c23
       (first|rw [c23b0]|(simp only [i64_w,i32_w];rw [c23b0])|skip)
       have H':=mk0 H
       clear H
       try go_wp2
       replace HO_10:=mk0 (dN HO_10.out)
       replace HO_25:=mk0 (dN HO_25.out)
       replace HO_28:=mk0 (dN HO_28.out)
       replace HO_33:=mk0 (dN HO_33.out)
       replace HB:=mk0 (dZ HB.out)
       obtain⟨Ao40,co40,eo40⟩:=Kd.N_slice HO_10.out
       (first|subst eo40|(injection eo40 with f1_ f2_ f3_;have f4_:=f1_.symm;have f5_:=f3_.symm;clear f1_ f2_ f3_;subst f4_;subst f5_))
       refine start_ (n:=16) (S:=fun w'=>True) (ds:=[]) (bm 16 0) (by kernel_rfl) rfl (by kernel_rfl) trivial (fun hHeld=>?_);refine with_tabW spec_Parts.tab12 spec_Parts.bits12 (fun HT_ HW_=>?_)
       generalize wr.drew = w39 at HO_10 HO_25 HO_28 HO_33 HB hHeld ⊢
       refine pU 0 (some 41) (bm 16 1) HT_ ?_
       refine pU 1 (some 42) (bm 16 3) HT_ ?_
       refine pU 2 (some 43) (bm 16 7) HT_ ?_
       refine pU 3 (some 44) (bm 16 15) HT_ ?_
       refine pU 4 (some 45) (bm 16 31) HT_ ?_
       refine pX 5 (some 46) (bm 16 63) HT_ ?_
       refine pX 6 (some 47) (bm 16 127) HT_ ?_
       refine pX 7 (some 48) (bm 16 255) HT_ ?_
       refine pX 8 (some 49) (bm 16 511) HT_ ?_
       refine pX 9 (some 50) (bm 16 1023) HT_ ?_
       refine pX 10 (some 51) (bm 16 2047) HT_ ?_
       refine pX 11 (some 52) (bm 16 4095) HT_ ?_
       refine pX 12 (some 53) (bm 16 8191) HT_ ?_
       refine pX 13 (some 54) (bm 16 16383) HT_ ?_
       refine pX 14 (some 55) (bm 16 32767) HT_ ?_
       refine pU 15 (some 56) (bm 16 65535) HT_ ?_
       refine pD HT_ ?_
       try go_wp2
       go_meet
       case rel=>exact⟨_,(x12_2),(x13_2),eS,eS,H',⟨by have:=HK1.out;have:=HK2.out;first|omega|exact Nat.le_refl _⟩,⟨rN (Kd.N_mono HO_25.out (fun _ hk=>⟨hk.1,⟨hk.2.2.1,⟨hk.2.2.2,hk.2.1⟩⟩⟩))⟩,⟨rN (Kd.N_mono HO_28.out (fun _ hk=>⟨hk.1,⟨hk.2.2.1,⟨hk.2.2.2,hk.2.1⟩⟩⟩))⟩,⟨rN HO_33.out⟩,⟨rN HO_10.out⟩,⟨kB HB.out⟩⟩
      rw [if_pos c23] at H
      have c23b0:decide (x12_2 < (x10_1.length:Int)) = true:=decide_eq_true c23
      (try simp only [hl177_0] at c23b0)
      (try simp only [hl178_0] at c23b0)
      (try simp only [hl180_0] at c23b0)
      (try simp only [hl181_0] at c23b0)
      (try simp only [hl183_0] at c23b0)
      (try simp only [hl215_0] at c23b0)
      (try simp only [hl220_0] at c23b0)
      (try simp only [hl223_0] at c23b0)
      clear c23
      (first|rw [c23b0]|(simp only [i64_w,i32_w];rw [c23b0])|skip)
      by_cases c24:0 ≤ x12_2
      rotate_left
      ·rw [if_neg c24] at H
       exact nn H
      rw [if_pos c24] at H
      have c24b0:decide (0 ≤ x12_2) = true:=decide_eq_true c24
      clear c24
      by_cases c25:0 ≤ x11_1
      rotate_left
      ·rw [if_neg c25] at H
       exact nn H
      rw [if_pos c25] at H
      have c25b0:decide (0 ≤ x11_1) = true:=decide_eq_true c25
      clear c25
      by_cases c26:x11_1 < (y171.length:Int)
      rotate_left
      ·rw [if_neg c26] at H
       exact nn H
      rw [if_pos c26] at H
      have c26b0:decide (x11_1 < (y171.length:Int)) = true:=decide_eq_true c26
      (try simp only [hl177_0] at c26b0)
      (try simp only [hl178_0] at c26b0)
      (try simp only [hl180_0] at c26b0)
      (try simp only [hl181_0] at c26b0)
      (try simp only [hl183_0] at c26b0)
      (try simp only [hl215_0] at c26b0)
      (try simp only [hl220_0] at c26b0)
      (try simp only [hl223_0] at c26b0)
      clear c26
      replace H:=bE H
      obtain⟨t179,A27,H⟩:=H
      by_cases c28:t179 ≤ 0
      rotate_left
      ·rw [if_neg c28] at H
       have c28b0:decide (t179 ≤ 0) = false:=decide_eq_false c28
       clear c28
       have H':=mk0 H
       clear H
       try go_wp2
       replace HO_10:=mk0 (dN HO_10.out)
       replace HO_25:=mk0 (dN HO_25.out)
       replace HO_28:=mk0 (dN HO_28.out)
       replace HO_33:=mk0 (dN HO_33.out)
       replace HB:=mk0 (dZ HB.out)
       obtain⟨Ao38,co38,eo38⟩:=Kd.N_slice HO_10.out
       (first|subst eo38|(injection eo38 with f1_ f2_ f3_;have f4_:=f1_.symm;have f5_:=f3_.symm;clear f1_ f2_ f3_;subst f4_;subst f5_))
       have p177:0 ≤ (x12_2:Int):=oD
       have q177:x12_2 < (x10_1.length:Int):=oD
       obtain⟨ad177,A177_0,c177_0,e177,hx177_0,hl177_0,hi177_0⟩:=at_L2 (Kd.N_reads' HO_10.out).2.2 x12_2 p177 q177
       cases e177
       obtain⟨ce177,hce177,hMe177,hcc177⟩:=Kd.N_get HO_10.out [] x12_2 p177 (by first|exact q177|exact oD|(have e_:=(Kd.N_reads' HO_10.out).1;omega))
       obtain⟨ua177_0,uc177_0,rfl,ul177_0,ge177_0⟩:=Kd.FK_slice_open hMe177
       have hv177_0:=hcc177 0 _ rfl
       rw [Nat.add_zero,show ((Kd.slice 5 (Kd.int .u8))).sz = 1 from rfl,Nat.mul_one] at hv177_0
       replace hv177_0:=Option.some.inj (hv177_0.symm.trans hx177_0)
       injection hv177_0 with hva_ hvn_ hvc_
       rw [hva_] at ge177_0
       rw [hvc_] at ul177_0
       have HL177_0:=mk0 (show Kd.V (Kd.int .u8) 5 _ w.heap.size _ _ (rd_L2 x10_1 x12_2) from Kd.V_mk ul177_0 ge177_0)
       clear hva_ hvn_ hvc_ ge177_0 ul177_0
       clear hcc177 hce177
       have HR177_0:=mk0 hi177_0
       have HC177_0:=mk0 hl177_0
       clear hi177_0 hl177_0
       replace p177:=eq_true p177
       replace q177:=eq_true q177
       have p178:0 ≤ (x11_1:Int):=oD
       have q178:x11_1 < (y171.length:Int):=oD
       obtain⟨ad178,A178_0,c178_0,e178,hx178_0,hl178_0,hi178_0⟩:=at_L2 (Kd.N_reads' HO_33.out).2.2 x11_1 p178 q178
       cases e178
       obtain⟨ce178,hce178,hMe178,hcc178⟩:=Kd.N_get HO_33.out [] x11_1 p178 (by first|exact q178|exact oD|(have e_:=(Kd.N_reads' HO_33.out).1;omega))
       obtain⟨ua178_0,uc178_0,rfl,ul178_0,ge178_0⟩:=Kd.FK_slice_open hMe178
       have hv178_0:=hcc178 0 _ rfl
       rw [Nat.add_zero,show ((Kd.slice 5 (Kd.int .u8))).sz = 1 from rfl,Nat.mul_one] at hv178_0
       replace hv178_0:=Option.some.inj (hv178_0.symm.trans hx178_0)
       injection hv178_0 with hva_ hvn_ hvc_
       rw [hva_] at ge178_0
       rw [hvc_] at ul178_0
       have HL178_0:=mk0 (show Kd.V (Kd.int .u8) 5 _ w.heap.size _ _ (rd_L2 y171 x11_1) from Kd.V_mk ul178_0 ge178_0)
       clear hva_ hvn_ hvc_ ge178_0 ul178_0
       clear hcc178 hce178
       have HR178_0:=mk0 hi178_0
       have HC178_0:=mk0 hl178_0
       clear hi178_0 hl178_0
       replace p178:=eq_true p178
       replace q178:=eq_true q178
       refine start_ (n:=16) (S:=fun w'=>w'.cell? (ad177.add (x12_2).toNat) = some (.slice A177_0 (rd_L2 x10_1 x12_2).length c177_0) ∧ w'.cell? (ad178.add (x11_1).toNat) = some (.slice A178_0 (rd_L2 y171 x11_1).length c178_0)) (ds:=[]) (bm 16 0) (by kernel_rfl) rfl (by kernel_rfl) ⟨hx177_0,hx178_0⟩ (fun hHeld=>?_);refine with_tabW spec_Parts.tab12 spec_Parts.bits12 (fun HT_ HW_=>?_)
       generalize wr.drew = w37 at HO_10 HO_25 HO_28 HO_33 HB HL177_0 HL178_0 HR177_0 HR178_0 hx177_0 hx178_0 hHeld ⊢
       refine pU 0 (some 41) (bm 16 1) HT_ ?_
       refine pU 1 (some 42) (bm 16 3) HT_ ?_
       refine pU 2 (some 43) (bm 16 7) HT_ ?_
       refine pU 3 (some 44) (bm 16 15) HT_ ?_
       refine pU 4 (some 45) (bm 16 31) HT_ ?_
       refine pU 5 (some 46) (bm 16 63) HT_ ?_
       refine pU 6 (some 47) (bm 16 127) HT_ ?_
       refine pU 7 (some 48) (bm 16 255) HT_ ?_
       refine pU 9 (some 50) (bm 16 767) HT_ ?_
       refine pU 10 (some 51) (bm 16 1791) HT_ ?_
       refine pU 11 (some 52) (bm 16 3839) HT_ ?_
       refine pT 8 (some 49) (bm 16 4095) HT_ HW_ hHeld ?_
       refine pT 12 (some 53) (bm 16 8191) HT_ HW_ hHeld ?_
       refine pO 13 (some 54) (bm 16 16383) HT_ (fun K hK=>?_)
       refine gO Try.func53 #[.slice A177_0 (rd_L2 x10_1 x12_2).length c177_0,.slice A178_0 (rd_L2 y171 x11_1).length c178_0] ?_
       with_reducible refine (spec_l05Cmp.calls k2 _ _ (rd_L2 x10_1 x12_2) _ _ (rd_L2 y171 x11_1) t179 _ ?side1 ?side2 ?side3 ?side4 A27.out).mono ?_
       (case side1=>repeat (first|exact (by repeat (first|(with_reducible exact HR177_0.out)|(with_reducible first|apply aC|apply nC|apply dC)|exact HR177_0.out|exact (Kd.V_reads' HL177_0.out).2.2))|(with_reducible first|apply aC|apply nC|apply dC)))
       (case side2=>exact HC177_0.out)
       (case side3=>repeat (first|exact (by repeat (first|(with_reducible exact HR178_0.out)|(with_reducible first|apply aC|apply nC|apply dC)|exact HR178_0.out|exact (Kd.V_reads' HL178_0.out).2.2))|(with_reducible first|apply aC|apply nC|apply dC)))
       (case side4=>exact HC178_0.out)
       rintro e w' ⟨rfl,⟨nd,rfl⟩⟩
       refine⟨_,rfl,?_⟩
       refine hK.out _ _ ⟨hHeld.1,hHeld.2⟩ (fun hHeld=>?_)
       clear hK K
       refine pN (some 54) ?_
       refine pU 14 (some 55) (bm 16 32767) HT_ ?_
       refine pU 15 (some 56) (bm 16 65535) HT_ ?_
       refine pD HT_ ?_
       try go_wp2
       go_meet
       case rel=>exact⟨_,(x12_2),(x13_2),eS,eS,H',⟨by have:=HK1.out;have:=HK2.out;first|omega|exact Nat.le_refl _⟩,⟨rN (Kd.N_mono HO_25.out (fun _ hk=>⟨hk.1,⟨hk.2.2.1,⟨hk.2.2.2,hk.2.1⟩⟩⟩))⟩,⟨rN (Kd.N_mono HO_28.out (fun _ hk=>⟨hk.1,⟨hk.2.2.1,⟨hk.2.2.2,hk.2.1⟩⟩⟩))⟩,⟨rN HO_33.out⟩,⟨rN HO_10.out⟩,⟨kB HB.out⟩⟩
      rw [if_pos c28] at H
      have c28b0:decide (t179 ≤ 0) = true:=decide_eq_true c28
      clear c28
      by_cases c29:x13_2 = true
      ·subst c29
       replace H:=iT H
       have H':=mk0 H
       clear H
       try go_wp2
       replace HO_10:=mk0 (dN HO_10.out)
       replace HO_25:=mk0 (dN HO_25.out)
       replace HO_28:=mk0 (dN HO_28.out)
       replace HO_33:=mk0 (dN HO_33.out)
       replace HB:=mk0 (dZ HB.out)
       obtain⟨Ao31,co31,eo31⟩:=Kd.N_slice HO_10.out
       (first|subst eo31|(injection eo31 with f1_ f2_ f3_;have f4_:=f1_.symm;have f5_:=f3_.symm;clear f1_ f2_ f3_;subst f4_;subst f5_))
       have p177:0 ≤ (x12_2:Int):=oD
       have q177:x12_2 < (x10_1.length:Int):=oD
       obtain⟨ad177,A177_0,c177_0,e177,hx177_0,hl177_0,hi177_0⟩:=at_L2 (Kd.N_reads' HO_10.out).2.2 x12_2 p177 q177
       cases e177
       obtain⟨ce177,hce177,hMe177,hcc177⟩:=Kd.N_get HO_10.out [] x12_2 p177 (by first|exact q177|exact oD|(have e_:=(Kd.N_reads' HO_10.out).1;omega))
       obtain⟨ua177_0,uc177_0,rfl,ul177_0,ge177_0⟩:=Kd.FK_slice_open hMe177
       have hv177_0:=hcc177 0 _ rfl
       rw [Nat.add_zero,show ((Kd.slice 5 (Kd.int .u8))).sz = 1 from rfl,Nat.mul_one] at hv177_0
       replace hv177_0:=Option.some.inj (hv177_0.symm.trans hx177_0)
       injection hv177_0 with hva_ hvn_ hvc_
       rw [hva_] at ge177_0
       rw [hvc_] at ul177_0
       have HL177_0:=mk0 (show Kd.V (Kd.int .u8) 5 _ w.heap.size _ _ (rd_L2 x10_1 x12_2) from Kd.V_mk ul177_0 ge177_0)
       clear hva_ hvn_ hvc_ ge177_0 ul177_0
       clear hcc177 hce177
       have HR177_0:=mk0 hi177_0
       have HC177_0:=mk0 hl177_0
       clear hi177_0 hl177_0
       replace p177:=eq_true p177
       replace q177:=eq_true q177
       have p178:0 ≤ (x11_1:Int):=oD
       have q178:x11_1 < (y171.length:Int):=oD
       obtain⟨ad178,A178_0,c178_0,e178,hx178_0,hl178_0,hi178_0⟩:=at_L2 (Kd.N_reads' HO_33.out).2.2 x11_1 p178 q178
       cases e178
       obtain⟨ce178,hce178,hMe178,hcc178⟩:=Kd.N_get HO_33.out [] x11_1 p178 (by first|exact q178|exact oD|(have e_:=(Kd.N_reads' HO_33.out).1;omega))
       obtain⟨ua178_0,uc178_0,rfl,ul178_0,ge178_0⟩:=Kd.FK_slice_open hMe178
       have hv178_0:=hcc178 0 _ rfl
       rw [Nat.add_zero,show ((Kd.slice 5 (Kd.int .u8))).sz = 1 from rfl,Nat.mul_one] at hv178_0
       replace hv178_0:=Option.some.inj (hv178_0.symm.trans hx178_0)
       injection hv178_0 with hva_ hvn_ hvc_
       rw [hva_] at ge178_0
       rw [hvc_] at ul178_0
       have HL178_0:=mk0 (show Kd.V (Kd.int .u8) 5 _ w.heap.size _ _ (rd_L2 y171 x11_1) from Kd.V_mk ul178_0 ge178_0)
       clear hva_ hvn_ hvc_ ge178_0 ul178_0
       clear hcc178 hce178
       have HR178_0:=mk0 hi178_0
       have HC178_0:=mk0 hl178_0
       clear hi178_0 hl178_0
       replace p178:=eq_true p178
       replace q178:=eq_true q178
       refine start_ (n:=16) (S:=fun w'=>w'.cell? (ad177.add (x12_2).toNat) = some (.slice A177_0 (rd_L2 x10_1 x12_2).length c177_0) ∧ w'.cell? (ad178.add (x11_1).toNat) = some (.slice A178_0 (rd_L2 y171 x11_1).length c178_0)) (ds:=[]) (bm 16 0) (by kernel_rfl) rfl (by kernel_rfl) ⟨hx177_0,hx178_0⟩ (fun hHeld=>?_);refine with_tabW spec_Parts.tab12 spec_Parts.bits12 (fun HT_ HW_=>?_)
       generalize wr.drew = w30 at HO_10 HO_25 HO_28 HO_33 HB HL177_0 HL178_0 HR177_0 HR178_0 hx177_0 hx178_0 hHeld ⊢
       refine pU 0 (some 41) (bm 16 1) HT_ ?_
       refine pU 1 (some 42) (bm 16 3) HT_ ?_
       refine pU 2 (some 43) (bm 16 7) HT_ ?_
       refine pU 3 (some 44) (bm 16 15) HT_ ?_
       refine pU 4 (some 45) (bm 16 31) HT_ ?_
       refine pU 5 (some 46) (bm 16 63) HT_ ?_
       refine pU 6 (some 47) (bm 16 127) HT_ ?_
       refine pU 7 (some 48) (bm 16 255) HT_ ?_
       refine pU 9 (some 50) (bm 16 767) HT_ ?_
       refine pU 10 (some 51) (bm 16 1791) HT_ ?_
       refine pU 11 (some 52) (bm 16 3839) HT_ ?_
       refine pT 8 (some 49) (bm 16 4095) HT_ HW_ hHeld ?_
       refine pT 12 (some 53) (bm 16 8191) HT_ HW_ hHeld ?_
       refine pO 13 (some 54) (bm 16 16383) HT_ (fun K hK=>?_)
       refine gO Try.func53 #[.slice A177_0 (rd_L2 x10_1 x12_2).length c177_0,.slice A178_0 (rd_L2 y171 x11_1).length c178_0] ?_
       with_reducible refine (spec_l05Cmp.calls k2 _ _ (rd_L2 x10_1 x12_2) _ _ (rd_L2 y171 x11_1) t179 _ ?side1 ?side2 ?side3 ?side4 A27.out).mono ?_
       (case side1=>repeat (first|exact (by repeat (first|(with_reducible exact HR177_0.out)|(with_reducible first|apply aC|apply nC|apply dC)|exact HR177_0.out|exact (Kd.V_reads' HL177_0.out).2.2))|(with_reducible first|apply aC|apply nC|apply dC)))
       (case side2=>exact HC177_0.out)
       (case side3=>repeat (first|exact (by repeat (first|(with_reducible exact HR178_0.out)|(with_reducible first|apply aC|apply nC|apply dC)|exact HR178_0.out|exact (Kd.V_reads' HL178_0.out).2.2))|(with_reducible first|apply aC|apply nC|apply dC)))
       (case side4=>exact HC178_0.out)
       rintro e w' ⟨rfl,⟨nd,rfl⟩⟩
       refine⟨_,rfl,?_⟩
       refine hK.out _ _ ⟨hHeld.1,hHeld.2⟩ (fun hHeld=>?_)
       clear hK K
       refine pN (some 54) ?_
       refine pU 14 (some 55) (bm 16 32767) HT_ ?_
       refine pU 15 (some 56) (bm 16 65535) HT_ ?_
       refine pD HT_ ?_
       try go_wp2
       (try (rw [drewN_self w30];generalize hq_:World.drewN w30 _ = w30;have n0_:Aside0 (Kd.V (Kd.int .u8) 5 w30 w.heap.size (fun k_=>(((((P0_ k_ ∨ P1_ k_) ∨ w.heap.size ≤ k_)) ∧ some k_ ≠ (.slice (some ad178) y171.length co22:Value).ownBlock) ∧ some k_ ≠ (.slice (some ad177) x10_1.length co31:Value).ownBlock)) (.slice A177_0 (rd_L2 x10_1 x12_2).length c177_0) (rd_L2 x10_1 x12_2)):=⟨by rw [← hq_];exact (rV HL177_0.out)⟩;have n1_:Aside0 (Kd.V (Kd.int .u8) 5 w30 w.heap.size (fun k_=>(((((P0_ k_ ∨ P1_ k_) ∨ w.heap.size ≤ k_)) ∧ some k_ ≠ (.slice (some ad177) x10_1.length co31:Value).ownBlock) ∧ some k_ ≠ (.slice (some ad178) y171.length co22:Value).ownBlock)) (.slice A178_0 (rd_L2 y171 x11_1).length c178_0) (rd_L2 y171 x11_1)):=⟨by rw [← hq_];exact (rV HL178_0.out)⟩;have n2_:Aside0 (Kd.N (Kd.slice 5 (Kd.int .u8)) 22 w30 w.heap.size (fun k_=>((((P0_ k_ ∨ P1_ k_) ∨ w.heap.size ≤ k_)) ∧ some k_ ≠ (.slice (some ad178) y171.length co22:Value).ownBlock)) (.slice (some ad177) x10_1.length co31) x10_1):=⟨by rw [← hq_];exact (rN HO_10.out)⟩;have n3_:Aside0 (Kd.N (Kd.slice 5 (Kd.int .u8)) 22 w30 w.heap.size (fun k_=>((((P0_ k_ ∨ P1_ k_) ∨ w.heap.size ≤ k_)) ∧ (some k_ ≠ (.slice (some ad177) x10_1.length co31:Value).ownBlock ∧ (some k_ ≠ (.slice Ao17 t162.length co17:Value).ownBlock ∧ some k_ ≠ (.slice (some ad178) y171.length co22:Value).ownBlock)))) (.slice Ao15 t159.length co15) t159):=⟨by rw [← hq_];exact (rN HO_25.out)⟩;have n4_:Aside0 (Kd.N (Kd.slice 5 (Kd.int .u8)) 22 w30 w.heap.size (fun k_=>((((P0_ k_ ∨ P1_ k_) ∨ w.heap.size ≤ k_)) ∧ (some k_ ≠ (.slice (some ad177) x10_1.length co31:Value).ownBlock ∧ (some k_ ≠ (.slice Ao15 t159.length co15:Value).ownBlock ∧ some k_ ≠ (.slice (some ad178) y171.length co22:Value).ownBlock)))) (.slice Ao17 t162.length co17) t162):=⟨by rw [← hq_];exact (rN HO_28.out)⟩;have n5_:Aside0 (Kd.N (Kd.slice 5 (Kd.int .u8)) 22 w30 w.heap.size (fun k_=>((((P0_ k_ ∨ P1_ k_) ∨ w.heap.size ≤ k_)) ∧ some k_ ≠ (.slice (some ad177) x10_1.length co31:Value).ownBlock)) (.slice (some ad178) y171.length co22) y171):=⟨by rw [← hq_];exact (rN HO_33.out)⟩;have n6_:Aside0 (Below w.heap.size w w30):=⟨by rw [← hq_];exact (kB HB.out)⟩;have n7_:Aside0 (Kd.C (Kd.int .u8) w30 A177_0 (rd_L2 x10_1 x12_2).length (rd_L2 x10_1 x12_2)):=⟨by rw [← hq_];exact (by repeat (first|(with_reducible exact HR177_0.out)|(with_reducible first|apply aC|apply nC|apply dC)|exact HR177_0.out|exact (Kd.V_reads' HL177_0.out).2.2))⟩;have n8_:Aside0 (Kd.C (Kd.int .u8) w30 A178_0 (rd_L2 y171 x11_1).length (rd_L2 y171 x11_1)):=⟨by rw [← hq_];exact (by repeat (first|(with_reducible exact HR178_0.out)|(with_reducible first|apply aC|apply nC|apply dC)|exact HR178_0.out|exact (Kd.V_reads' HL178_0.out).2.2))⟩;clear HL177_0 HL178_0 HO_10 HO_25 HO_28 HO_33 HB HR177_0 HR178_0 hq_;have HL177_0:=n0_;have HL178_0:=n1_;have HO_10:=n2_;have HO_25:=n3_;have HO_28:=n4_;have HO_33:=n5_;have HB:=n6_;have HR177_0:=n7_;have HR178_0:=n8_;clear n0_ n1_ n2_ n3_ n4_ n5_ n6_ n7_ n8_))
       replace HO_10:=mk0 (dN HO_10.out)
       replace HO_25:=mk0 (dN HO_25.out)
       replace HO_28:=mk0 (dN HO_28.out)
       replace HO_33:=mk0 (dN HO_33.out)
       replace HL177_0:=mk0 (dV HL177_0.out)
       replace HL178_0:=mk0 (dV HL178_0.out)
       replace HR177_0:=mk0 (dC HR177_0.out)
       replace HR178_0:=mk0 (dC HR178_0.out)
       replace HB:=mk0 (dZ HB.out)
       refine start_ (n:=14) (S:=fun w'=>True) (ds:=[]) (bm 14 0) (by kernel_rfl) rfl (by kernel_rfl) trivial (fun hHeld=>?_);refine with_tabW spec_Parts.tab13 spec_Parts.bits13 (fun HT_ HW_=>?_)
       generalize w30.drew = w32 at HO_10 HO_25 HO_28 HO_33 HL177_0 HL178_0 HR177_0 HR178_0 HB hHeld ⊢
       refine pU 0 (some 57) (bm 14 1) HT_ ?_
       refine pU 1 (some 58) (bm 14 3) HT_ ?_
       refine pX 2 (some 59) (bm 14 7) HT_ ?_
       refine pX 3 (some 60) (bm 14 15) HT_ ?_
       refine pX 4 (some 61) (bm 14 31) HT_ ?_
       refine pX 5 (some 62) (bm 14 63) HT_ ?_
       refine pX 6 (some 63) (bm 14 127) HT_ ?_
       refine pX 7 (some 64) (bm 14 255) HT_ ?_
       refine pX 8 (some 65) (bm 14 511) HT_ ?_
       refine pX 9 (some 66) (bm 14 1023) HT_ ?_
       refine pX 10 (some 67) (bm 14 2047) HT_ ?_
       refine pX 11 (some 68) (bm 14 4095) HT_ ?_
       refine pU 12 (some 69) (bm 14 8191) HT_ ?_
       refine pU 13 (some 13) (bm 14 16383) HT_ ?_
       refine pD HT_ ?_
       try go_wp2
       go_roundg k2
       case measure=>have:=HK1.out;have:=HK2.out;omega
       case rel=>exact⟨(wrap64 (x12_2 + 1)),(true),eS,eS,H',⟨by have:=HK1.out;have:=HK2.out;omega⟩,⟨rN HO_10.out⟩,⟨rN HO_25.out⟩,⟨rN HO_28.out⟩,⟨rN HO_33.out⟩,⟨kB HB.out⟩⟩
      replace c29:=Bool.eq_false_iff.mpr c29
      subst c29
      replace H:=iF H
      replace H:=bE H
      obtain⟨t182,A33,H⟩:=H
      have H':=mk0 H
      clear H
      try go_wp2
      replace HO_10:=mk0 (dN HO_10.out)
      replace HO_25:=mk0 (dN HO_25.out)
      replace HO_28:=mk0 (dN HO_28.out)
      replace HO_33:=mk0 (dN HO_33.out)
      replace HB:=mk0 (dZ HB.out)
      obtain⟨Ao35,co35,eo35⟩:=Kd.N_slice HO_10.out
      (first|subst eo35|(injection eo35 with f1_ f2_ f3_;have f4_:=f1_.symm;have f5_:=f3_.symm;clear f1_ f2_ f3_;subst f4_;subst f5_))
      have p177:0 ≤ (x12_2:Int):=oD
      have q177:x12_2 < (x10_1.length:Int):=oD
      obtain⟨ad177,A177_0,c177_0,e177,hx177_0,hl177_0,hi177_0⟩:=at_L2 (Kd.N_reads' HO_10.out).2.2 x12_2 p177 q177
      cases e177
      obtain⟨ce177,hce177,hMe177,hcc177⟩:=Kd.N_get HO_10.out [] x12_2 p177 (by first|exact q177|exact oD|(have e_:=(Kd.N_reads' HO_10.out).1;omega))
      obtain⟨ua177_0,uc177_0,rfl,ul177_0,ge177_0⟩:=Kd.FK_slice_open hMe177
      have hv177_0:=hcc177 0 _ rfl
      rw [Nat.add_zero,show ((Kd.slice 5 (Kd.int .u8))).sz = 1 from rfl,Nat.mul_one] at hv177_0
      replace hv177_0:=Option.some.inj (hv177_0.symm.trans hx177_0)
      injection hv177_0 with hva_ hvn_ hvc_
      rw [hva_] at ge177_0
      rw [hvc_] at ul177_0
      have HL177_0:=mk0 (show Kd.V (Kd.int .u8) 5 _ w.heap.size _ _ (rd_L2 x10_1 x12_2) from Kd.V_mk ul177_0 ge177_0)
      clear hva_ hvn_ hvc_ ge177_0 ul177_0
      clear hcc177 hce177
      have HR177_0:=mk0 hi177_0
      have HC177_0:=mk0 hl177_0
      clear hi177_0 hl177_0
      replace p177:=eq_true p177
      replace q177:=eq_true q177
      have p178:0 ≤ (x11_1:Int):=oD
      have q178:x11_1 < (y171.length:Int):=oD
      obtain⟨ad178,A178_0,c178_0,e178,hx178_0,hl178_0,hi178_0⟩:=at_L2 (Kd.N_reads' HO_33.out).2.2 x11_1 p178 q178
      cases e178
      obtain⟨ce178,hce178,hMe178,hcc178⟩:=Kd.N_get HO_33.out [] x11_1 p178 (by first|exact q178|exact oD|(have e_:=(Kd.N_reads' HO_33.out).1;omega))
      obtain⟨ua178_0,uc178_0,rfl,ul178_0,ge178_0⟩:=Kd.FK_slice_open hMe178
      have hv178_0:=hcc178 0 _ rfl
      rw [Nat.add_zero,show ((Kd.slice 5 (Kd.int .u8))).sz = 1 from rfl,Nat.mul_one] at hv178_0
      replace hv178_0:=Option.some.inj (hv178_0.symm.trans hx178_0)
      injection hv178_0 with hva_ hvn_ hvc_
      rw [hva_] at ge178_0
      rw [hvc_] at ul178_0
      have HL178_0:=mk0 (show Kd.V (Kd.int .u8) 5 _ w.heap.size _ _ (rd_L2 y171 x11_1) from Kd.V_mk ul178_0 ge178_0)
      clear hva_ hvn_ hvc_ ge178_0 ul178_0
      clear hcc178 hce178
      have HR178_0:=mk0 hi178_0
      have HC178_0:=mk0 hl178_0
      clear hi178_0 hl178_0
      replace p178:=eq_true p178
      replace q178:=eq_true q178
      refine start_ (n:=16) (S:=fun w'=>w'.cell? (ad177.add (x12_2).toNat) = some (.slice A177_0 (rd_L2 x10_1 x12_2).length c177_0) ∧ w'.cell? (ad178.add (x11_1).toNat) = some (.slice A178_0 (rd_L2 y171 x11_1).length c178_0)) (ds:=[]) (bm 16 0) (by kernel_rfl) rfl (by kernel_rfl) ⟨hx177_0,hx178_0⟩ (fun hHeld=>?_);refine with_tabW spec_Parts.tab12 spec_Parts.bits12 (fun HT_ HW_=>?_)
      generalize wr.drew = w34 at HO_10 HO_25 HO_28 HO_33 HB HL177_0 HL178_0 HR177_0 HR178_0 hx177_0 hx178_0 hHeld ⊢
      refine pU 0 (some 41) (bm 16 1) HT_ ?_
      refine pU 1 (some 42) (bm 16 3) HT_ ?_
      refine pU 2 (some 43) (bm 16 7) HT_ ?_
      refine pU 3 (some 44) (bm 16 15) HT_ ?_
      refine pU 4 (some 45) (bm 16 31) HT_ ?_
      refine pU 5 (some 46) (bm 16 63) HT_ ?_
      refine pU 6 (some 47) (bm 16 127) HT_ ?_
      refine pU 7 (some 48) (bm 16 255) HT_ ?_
      refine pU 9 (some 50) (bm 16 767) HT_ ?_
      refine pU 10 (some 51) (bm 16 1791) HT_ ?_
      refine pU 11 (some 52) (bm 16 3839) HT_ ?_
      refine pT 8 (some 49) (bm 16 4095) HT_ HW_ hHeld ?_
      refine pT 12 (some 53) (bm 16 8191) HT_ HW_ hHeld ?_
      refine pO 13 (some 54) (bm 16 16383) HT_ (fun K hK=>?_)
      refine gO Try.func53 #[.slice A177_0 (rd_L2 x10_1 x12_2).length c177_0,.slice A178_0 (rd_L2 y171 x11_1).length c178_0] ?_
      with_reducible refine (spec_l05Cmp.calls k2 _ _ (rd_L2 x10_1 x12_2) _ _ (rd_L2 y171 x11_1) t179 _ ?side1 ?side2 ?side3 ?side4 A27.out).mono ?_
      (case side1=>repeat (first|exact (by repeat (first|(with_reducible exact HR177_0.out)|(with_reducible first|apply aC|apply nC|apply dC)|exact HR177_0.out|exact (Kd.V_reads' HL177_0.out).2.2))|(with_reducible first|apply aC|apply nC|apply dC)))
      (case side2=>exact HC177_0.out)
      (case side3=>repeat (first|exact (by repeat (first|(with_reducible exact HR178_0.out)|(with_reducible first|apply aC|apply nC|apply dC)|exact HR178_0.out|exact (Kd.V_reads' HL178_0.out).2.2))|(with_reducible first|apply aC|apply nC|apply dC)))
      (case side4=>exact HC178_0.out)
      rintro e w' ⟨rfl,⟨nd,rfl⟩⟩
      refine⟨_,rfl,?_⟩
      refine hK.out _ _ ⟨hHeld.1,hHeld.2⟩ (fun hHeld=>?_)
      clear hK K
      refine pN (some 54) ?_
      refine pU 14 (some 55) (bm 16 32767) HT_ ?_
      refine pU 15 (some 56) (bm 16 65535) HT_ ?_
      refine pD HT_ ?_
      try go_wp2
      (try (rw [drewN_self w34];generalize hq_:World.drewN w34 _ = w34;have n0_:Aside0 (Kd.V (Kd.int .u8) 5 w34 w.heap.size (fun k_=>(((((P0_ k_ ∨ P1_ k_) ∨ w.heap.size ≤ k_)) ∧ some k_ ≠ (.slice (some ad178) y171.length co22:Value).ownBlock) ∧ some k_ ≠ (.slice (some ad177) x10_1.length co35:Value).ownBlock)) (.slice A177_0 (rd_L2 x10_1 x12_2).length c177_0) (rd_L2 x10_1 x12_2)):=⟨by rw [← hq_];exact (rV HL177_0.out)⟩;have n1_:Aside0 (Kd.V (Kd.int .u8) 5 w34 w.heap.size (fun k_=>(((((P0_ k_ ∨ P1_ k_) ∨ w.heap.size ≤ k_)) ∧ some k_ ≠ (.slice (some ad177) x10_1.length co35:Value).ownBlock) ∧ some k_ ≠ (.slice (some ad178) y171.length co22:Value).ownBlock)) (.slice A178_0 (rd_L2 y171 x11_1).length c178_0) (rd_L2 y171 x11_1)):=⟨by rw [← hq_];exact (rV HL178_0.out)⟩;have n2_:Aside0 (Kd.N (Kd.slice 5 (Kd.int .u8)) 22 w34 w.heap.size (fun k_=>((((P0_ k_ ∨ P1_ k_) ∨ w.heap.size ≤ k_)) ∧ some k_ ≠ (.slice (some ad178) y171.length co22:Value).ownBlock)) (.slice (some ad177) x10_1.length co35) x10_1):=⟨by rw [← hq_];exact (rN HO_10.out)⟩;have n3_:Aside0 (Kd.N (Kd.slice 5 (Kd.int .u8)) 22 w34 w.heap.size (fun k_=>((((P0_ k_ ∨ P1_ k_) ∨ w.heap.size ≤ k_)) ∧ (some k_ ≠ (.slice (some ad177) x10_1.length co35:Value).ownBlock ∧ (some k_ ≠ (.slice Ao17 t162.length co17:Value).ownBlock ∧ some k_ ≠ (.slice (some ad178) y171.length co22:Value).ownBlock)))) (.slice Ao15 t159.length co15) t159):=⟨by rw [← hq_];exact (rN HO_25.out)⟩;have n4_:Aside0 (Kd.N (Kd.slice 5 (Kd.int .u8)) 22 w34 w.heap.size (fun k_=>((((P0_ k_ ∨ P1_ k_) ∨ w.heap.size ≤ k_)) ∧ (some k_ ≠ (.slice (some ad177) x10_1.length co35:Value).ownBlock ∧ (some k_ ≠ (.slice Ao15 t159.length co15:Value).ownBlock ∧ some k_ ≠ (.slice (some ad178) y171.length co22:Value).ownBlock)))) (.slice Ao17 t162.length co17) t162):=⟨by rw [← hq_];exact (rN HO_28.out)⟩;have n5_:Aside0 (Kd.N (Kd.slice 5 (Kd.int .u8)) 22 w34 w.heap.size (fun k_=>((((P0_ k_ ∨ P1_ k_) ∨ w.heap.size ≤ k_)) ∧ some k_ ≠ (.slice (some ad177) x10_1.length co35:Value).ownBlock)) (.slice (some ad178) y171.length co22) y171):=⟨by rw [← hq_];exact (rN HO_33.out)⟩;have n6_:Aside0 (Below w.heap.size w w34):=⟨by rw [← hq_];exact (kB HB.out)⟩;have n7_:Aside0 (Kd.C (Kd.int .u8) w34 A177_0 (rd_L2 x10_1 x12_2).length (rd_L2 x10_1 x12_2)):=⟨by rw [← hq_];exact (by repeat (first|(with_reducible exact HR177_0.out)|(with_reducible first|apply aC|apply nC|apply dC)|exact HR177_0.out|exact (Kd.V_reads' HL177_0.out).2.2))⟩;have n8_:Aside0 (Kd.C (Kd.int .u8) w34 A178_0 (rd_L2 y171 x11_1).length (rd_L2 y171 x11_1)):=⟨by rw [← hq_];exact (by repeat (first|(with_reducible exact HR178_0.out)|(with_reducible first|apply aC|apply nC|apply dC)|exact HR178_0.out|exact (Kd.V_reads' HL178_0.out).2.2))⟩;clear HL177_0 HL178_0 HO_10 HO_25 HO_28 HO_33 HB HR177_0 HR178_0 hq_;have HL177_0:=n0_;have HL178_0:=n1_;have HO_10:=n2_;have HO_25:=n3_;have HO_28:=n4_;have HO_33:=n5_;have HB:=n6_;have HR177_0:=n7_;have HR178_0:=n8_;clear n0_ n1_ n2_ n3_ n4_ n5_ n6_ n7_ n8_))
      replace HO_10:=mk0 (dN HO_10.out)
      replace HO_25:=mk0 (dN HO_25.out)
      replace HO_28:=mk0 (dN HO_28.out)
      replace HO_33:=mk0 (dN HO_33.out)
      replace HL177_0:=mk0 (dV HL177_0.out)
      replace HL178_0:=mk0 (dV HL178_0.out)
      replace HR177_0:=mk0 (dC HR177_0.out)
      replace HR178_0:=mk0 (dC HR178_0.out)
      replace HB:=mk0 (dZ HB.out)
      have p180:0 ≤ (x12_2:Int):=oD
      have q180:x12_2 < (x10_1.length:Int):=oD
      obtain⟨ad180,A180_0,c180_0,e180,hx180_0,hl180_0,hi180_0⟩:=at_L2 (Kd.N_reads' HO_10.out).2.2 x12_2 p180 q180
      obtain rfl:ad177 = ad180:=(by injection e180)
      obtain⟨ce180,hce180,hMe180,hcc180⟩:=Kd.N_get HO_10.out [] x12_2 p180 (by first|exact q180|exact oD|(have e_:=(Kd.N_reads' HO_10.out).1;omega))
      obtain⟨ua180_0,uc180_0,rfl,ul180_0,ge180_0⟩:=Kd.FK_slice_open hMe180
      have hv180_0:=hcc180 0 _ rfl
      rw [Nat.add_zero,show ((Kd.slice 5 (Kd.int .u8))).sz = 1 from rfl,Nat.mul_one] at hv180_0
      replace hv180_0:=Option.some.inj (hv180_0.symm.trans hx180_0)
      injection hv180_0 with hva_ hvn_ hvc_
      rw [hva_] at ge180_0
      rw [hvc_] at ul180_0
      have HL180_0:=mk0 (show Kd.V (Kd.int .u8) 5 _ w.heap.size _ _ (rd_L2 x10_1 x12_2) from Kd.V_mk ul180_0 ge180_0)
      clear hva_ hvn_ hvc_ ge180_0 ul180_0
      clear hcc180 hce180
      have HR180_0:=mk0 hi180_0
      have HC180_0:=mk0 hl180_0
      clear hi180_0 hl180_0
      replace p180:=eq_true p180
      replace q180:=eq_true q180
      have p181:0 ≤ (x11_1:Int):=oD
      have q181:x11_1 < (y171.length:Int):=oD
      obtain⟨ad181,A181_0,c181_0,e181,hx181_0,hl181_0,hi181_0⟩:=at_L2 (Kd.N_reads' HO_33.out).2.2 x11_1 p181 q181
      obtain rfl:ad178 = ad181:=(by injection e181)
      obtain⟨ce181,hce181,hMe181,hcc181⟩:=Kd.N_get HO_33.out [] x11_1 p181 (by first|exact q181|exact oD|(have e_:=(Kd.N_reads' HO_33.out).1;omega))
      obtain⟨ua181_0,uc181_0,rfl,ul181_0,ge181_0⟩:=Kd.FK_slice_open hMe181
      have hv181_0:=hcc181 0 _ rfl
      rw [Nat.add_zero,show ((Kd.slice 5 (Kd.int .u8))).sz = 1 from rfl,Nat.mul_one] at hv181_0
      replace hv181_0:=Option.some.inj (hv181_0.symm.trans hx181_0)
      injection hv181_0 with hva_ hvn_ hvc_
      rw [hva_] at ge181_0
      rw [hvc_] at ul181_0
      have HL181_0:=mk0 (show Kd.V (Kd.int .u8) 5 _ w.heap.size _ _ (rd_L2 y171 x11_1) from Kd.V_mk ul181_0 ge181_0)
      clear hva_ hvn_ hvc_ ge181_0 ul181_0
      clear hcc181 hce181
      have HR181_0:=mk0 hi181_0
      have HC181_0:=mk0 hl181_0
      clear hi181_0 hl181_0
      replace p181:=eq_true p181
      replace q181:=eq_true q181
      refine start_ (n:=14) (S:=fun w'=>w'.cell? (ad177.add (x12_2).toNat) = some (.slice A180_0 (rd_L2 x10_1 x12_2).length c180_0) ∧ w'.cell? (ad178.add (x11_1).toNat) = some (.slice A181_0 (rd_L2 y171 x11_1).length c181_0)) (ds:=[]) (bm 14 0) (by kernel_rfl) rfl (by kernel_rfl) ⟨hx180_0,hx181_0⟩ (fun hHeld=>?_);refine with_tabW spec_Parts.tab13 spec_Parts.bits13 (fun HT_ HW_=>?_)
      generalize w34.drew = w36 at HO_10 HO_25 HO_28 HO_33 HL177_0 HL178_0 HR177_0 HR178_0 HB HL180_0 HL181_0 HR180_0 HR181_0 hx180_0 hx181_0 hHeld ⊢
      refine pU 0 (some 57) (bm 14 1) HT_ ?_
      refine pU 1 (some 58) (bm 14 3) HT_ ?_
      refine pU 2 (some 59) (bm 14 7) HT_ ?_
      refine pU 3 (some 60) (bm 14 15) HT_ ?_
      refine pU 4 (some 61) (bm 14 31) HT_ ?_
      refine pU 6 (some 63) (bm 14 95) HT_ ?_
      refine pU 7 (some 64) (bm 14 223) HT_ ?_
      refine pU 8 (some 65) (bm 14 479) HT_ ?_
      refine pT 5 (some 62) (bm 14 511) HT_ HW_ hHeld ?_
      refine pT 9 (some 66) (bm 14 1023) HT_ HW_ hHeld ?_
      refine pO 10 (some 67) (bm 14 2047) HT_ (fun K hK=>?_)
      refine gO Try.func53 #[.slice A180_0 (rd_L2 x10_1 x12_2).length c180_0,.slice A181_0 (rd_L2 y171 x11_1).length c181_0] ?_
      with_reducible refine (spec_l05Cmp.calls k2 _ _ (rd_L2 x10_1 x12_2) _ _ (rd_L2 y171 x11_1) t182 _ ?side1 ?side2 ?side3 ?side4 A33.out).mono ?_
      (case side1=>repeat (first|exact (by repeat (first|(with_reducible exact HR180_0.out)|(with_reducible first|apply aC|apply nC|apply dC)|exact HR180_0.out|exact (Kd.V_reads' HL180_0.out).2.2))|(with_reducible first|apply aC|apply nC|apply dC)))
      (case side2=>exact HC180_0.out)
      (case side3=>repeat (first|exact (by repeat (first|(with_reducible exact HR181_0.out)|(with_reducible first|apply aC|apply nC|apply dC)|exact HR181_0.out|exact (Kd.V_reads' HL181_0.out).2.2))|(with_reducible first|apply aC|apply nC|apply dC)))
      (case side4=>exact HC181_0.out)
      rintro e w' ⟨rfl,⟨nd,rfl⟩⟩
      refine⟨_,rfl,?_⟩
      refine hK.out _ _ ⟨hHeld.1,hHeld.2⟩ (fun hHeld=>?_)
      clear hK K
      refine pN (some 67) ?_
      refine pU 11 (some 68) (bm 14 4095) HT_ ?_
      refine pU 12 (some 69) (bm 14 8191) HT_ ?_
      refine pU 13 (some 13) (bm 14 16383) HT_ ?_
      refine pD HT_ ?_
      try go_wp2
      go_roundg k2
      case measure=>have:=HK1.out;have:=HK2.out;omega
      case rel=>exact⟨(wrap64 (x12_2 + 1)),((t182 == 0)),eS,eS,H',⟨by have:=HK1.out;have:=HK2.out;omega⟩,⟨rN HO_10.out⟩,⟨rN HO_25.out⟩,⟨rN HO_28.out⟩,⟨rN HO_33.out⟩,⟨kB HB.out⟩⟩
   case rest =>
    clear HC21
    try clear c1
    try clear p1
    try clear q1
    try clear hx1
    try clear c2
    try clear p2
    try clear c5
    try clear p6
    try clear c17
    try clear p17
    try clear q17
    try clear hx17
    try clear c18
    try clear p18
    try clear q18
    try clear hx18
    try clear c23
    try clear c23b0
    try clear c24
    try clear c25
    try clear c26
    try clear c28
    try clear c28b0
    try clear hx177_0
    try clear hx178_0
    try clear hx180_0
    try clear hx181_0
    try clear p177
    try clear p178
    try clear p180
    try clear p181
    try clear q177
    try clear q178
    try clear q180
    try clear q181
    obtain⟨kq,x12_20,x13_20,rfl,rfl,HA,HJ20,HO_7,HO_8,HO_9,HO_10,HB⟩:=hcut
    cases kq with
    | zero=>exact absurd HA.out (by simp [spec_Parts.j2])
    | succ kj20 =>
     have H:=HA.out
     clear HA
     simp only [spec_Parts.j2] at H
     by_cases c41:x13_20 = true
     ·subst c41
      replace H:=iT H
      have H':=mk0 H
      clear H
      go_wp2
      go_roundg kj20
      case measure=>have:=HK1.out;have:=HJ20.out;omega
      case rel=>exact⟨(x10_1),(wrap64 (x11_1 + 1)),eS,H',⟨by have:=HK1.out;have:=HJ20.out;omega⟩,⟨rN HO_10.out⟩,⟨rN (Kd.N_mono HO_7.out (fun _ hk=>⟨hk.1,⟨hk.2.2.2,⟨hk.2.1,hk.2.2.1⟩⟩⟩))⟩,⟨rN (Kd.N_mono HO_8.out (fun _ hk=>⟨hk.1,⟨hk.2.2.2,⟨hk.2.1,hk.2.2.1⟩⟩⟩))⟩,⟨rN HO_9.out⟩,⟨kB HB.out⟩⟩
     replace c41:=Bool.eq_false_iff.mpr c41
     subst c41
     replace H:=iF H
     by_cases c42:0 ≤ x11_1
     rotate_left
     ·rw [if_neg c42] at H
      exact nn H
     rw [if_pos c42] at H
     have c42b0:decide (0 ≤ x11_1) = true:=decide_eq_true c42
     clear c42
     by_cases c43:x11_1 < (y171.length:Int)
     rotate_left
     ·rw [if_neg c43] at H
      exact nn H
     rw [if_pos c43] at H
     have c43b0:decide (x11_1 < (y171.length:Int)) = true:=decide_eq_true c43
     (try simp only [hl177_0] at c43b0)
     (try simp only [hl178_0] at c43b0)
     (try simp only [hl180_0] at c43b0)
     (try simp only [hl181_0] at c43b0)
     (try simp only [hl183_0] at c43b0)
     (try simp only [hl215_0] at c43b0)
     (try simp only [hl220_0] at c43b0)
     (try simp only [hl223_0] at c43b0)
     clear c43
     obtain⟨y184,hy184⟩:∃ y_:List (List Int),y_ = (([rd_L2 y171 x11_1]:List (List Int))):=⟨_,rfl⟩
     first|(with_reducible replace H:=yB hy184 H)|rw [← hy184] at H|skip
     have Ny184:=mk0 hy184
     clear hy184
     by_cases c44:0 ≤ x12_20
     rotate_left
     ·rw [if_neg c44] at H
      exact nn H
     rw [if_pos c44] at H
     have c44b0:=eq_true c44
     have c44b1:decide (0 ≤ x12_20) = true:=decide_eq_true c44
     clear c44
     by_cases c45:x12_20 ≤ (x10_1.length:Int)
     rotate_left
     ·rw [if_neg c45] at H
      exact nn H
     rw [if_pos c45] at H
     have c45b0:=eq_true c45
     have c45b1:decide (x12_20 ≤ (x10_1.length:Int)) = true:=decide_eq_true c45
     (try simp only [hl177_0] at c45b1)
     (try simp only [hl178_0] at c45b1)
     (try simp only [hl180_0] at c45b1)
     (try simp only [hl181_0] at c45b1)
     (try simp only [hl183_0] at c45b1)
     (try simp only [hl215_0] at c45b1)
     (try simp only [hl220_0] at c45b1)
     (try simp only [hl223_0] at c45b1)
     clear c45
     obtain⟨y187,hy187⟩:∃ y_:List (List Int),y_ = (x10_1.drop (x12_20:Int).toNat):=⟨_,rfl⟩
     first|(with_reducible replace H:=yB hy187 H)|rw [← hy187] at H|skip
     have Ny187:=mk0 hy187
     clear hy187
     by_cases c46:y184.length + y187.length < 5864062014805
     rotate_left
     ·rw [if_neg c46] at H
      exact nn H
     rw [if_pos c46] at H
     have LMc46:=mk0 c46
     clear c46
     obtain⟨y192,hy192⟩:∃ y_:List (List Int),y_ = (y184 ++ y187):=⟨_,rfl⟩
     first|(with_reducible replace H:=yB hy192 H)|rw [← hy192] at H|skip
     have Ny192:=mk0 hy192
     clear hy192
     obtain⟨y195,hy195⟩:∃ y_:List (List Int),y_ = (([]:List (List Int))):=⟨_,rfl⟩
     first|(with_reducible replace H:=yB hy195 H)|rw [← hy195] at H|skip
     have Ny195:=mk0 hy195
     clear hy195
     have c47b0:=eq_true (oD:0 ≤ x12_20)
     have c48b0:=eq_true (oD:x12_20 ≤ (x10_1.length:Int))
     obtain⟨y198,hy198⟩:∃ y_:List (List Int),y_ = (x10_1.take (x12_20:Int).toNat):=⟨_,rfl⟩
     first|(with_reducible replace H:=yB hy198 H)|rw [← hy198] at H|skip
     have Ny198:=mk0 hy198
     clear hy198
     by_cases c49:y195.length + y198.length < 5864062014805
     rotate_left
     ·rw [if_neg c49] at H
      exact nn H
     rw [if_pos c49] at H
     have LMc49:=mk0 c49
     clear c49
     obtain⟨y203,hy203⟩:∃ y_:List (List Int),y_ = (y195 ++ y198):=⟨_,rfl⟩
     first|(with_reducible replace H:=yB hy203 H)|rw [← hy203] at H|skip
     have Ny203:=mk0 hy203
     clear hy203
     by_cases c50:y203.length + y192.length < 5864062014805
     rotate_left
     ·rw [if_neg c50] at H
      exact nn H
     rw [if_pos c50] at H
     have LMc50:=mk0 c50
     clear c50
     obtain⟨y206,hy206⟩:∃ y_:List (List Int),y_ = (y203 ++ y192):=⟨_,rfl⟩
     first|(with_reducible replace H:=yB hy206 H)|rw [← hy206] at H|skip
     have Ny206:=mk0 hy206
     clear hy206
     have H':=mk0 H
     clear H
     try go_wp2
     replace HO_7:=mk0 (dN HO_7.out)
     replace HO_8:=mk0 (dN HO_8.out)
     replace HO_9:=mk0 (dN HO_9.out)
     replace HO_10:=mk0 (dN HO_10.out)
     replace HB:=mk0 (dZ HB.out)
     have p183:0 ≤ (x11_1:Int):=oD
     have q183:x11_1 < (y171.length:Int):=oD
     obtain⟨ad183,A183_0,c183_0,e183,hx183_0,hl183_0,hi183_0⟩:=at_L2 (Kd.N_reads' HO_9.out).2.2 x11_1 p183 q183
     cases e183
     obtain⟨ce183,hce183,hMe183,hcc183⟩:=Kd.N_get HO_9.out [] x11_1 p183 (by first|exact q183|exact oD|(have e_:=(Kd.N_reads' HO_9.out).1;omega))
     obtain⟨ua183_0,uc183_0,rfl,ul183_0,ge183_0⟩:=Kd.FK_slice_open hMe183
     have hv183_0:=hcc183 0 _ rfl
     rw [Nat.add_zero,show ((Kd.slice 5 (Kd.int .u8))).sz = 1 from rfl,Nat.mul_one] at hv183_0
     replace hv183_0:=Option.some.inj (hv183_0.symm.trans hx183_0)
     injection hv183_0 with hva_ hvn_ hvc_
     rw [hva_] at ge183_0
     rw [hvc_] at ul183_0
     have HL183_0:=mk0 (show Kd.V (Kd.int .u8) 5 _ w.heap.size _ _ (rd_L2 y171 x11_1) from Kd.V_mk ul183_0 ge183_0)
     clear hva_ hvn_ hvc_ ge183_0 ul183_0
     clear hcc183 hce183
     have HR183_0:=mk0 hi183_0
     have HC183_0:=mk0 hl183_0
     clear hi183_0 hl183_0
     replace p183:=eq_true p183
     replace q183:=eq_true q183
     obtain⟨Ao53,co53,eo53⟩:=Kd.N_slice HO_10.out
     (first|subst eo53|(injection eo53 with f1_ f2_ f3_;have f4_:=f1_.symm;have f5_:=f3_.symm;clear f1_ f2_ f3_;subst f4_;subst f5_))
     have q52:(x12_20:Int) ≤ ((x10_1.length:Int):Int):=oD
     obtain⟨i052,hi052,_,hsz52,_⟩:=info_parts info22
     have hroom52:x10_1.length ≤ co53:=(Kd.N_reads' HO_10.out).2.1
     have hC52:Kd.F (Kd.slice 5 (Kd.int .u8)) _ _ Ao53 x10_1.length x10_1:=(Kd.V_at (base:=w.heap.size) (Kd.N_V HO_10.out)).2.2
     have q052:(0:Int) ≤ (x12_20:Int):=oD
     have hcut52:=cut_from (P:=Try.prog) 66 22 .i64 Try.underlying66 hi052 1 hsz52 Ao53 x10_1.length co53 x12_20 q052 q52
     have hr52:=Kd.F_cut (m:=(x12_20:Int).toNat) (c:=co53) hC52 (by omega) hroom52
     obtain⟨A52,hA52⟩:∃ A1,A1 = (if co53 = (x12_20:Int).toNat then Ao53 else (Ao53:Option Addr).map (·.add ((x12_20:Int).toNat * 1))):=⟨_,rfl⟩
     obtain⟨c52,hc52⟩:∃ c1,c1 = co53 - (x12_20:Int).toNat:=⟨_,rfl⟩
     have hy52:y187.length = x10_1.length - (x12_20:Int).toNat:=(by rw [Ny187.out,List.length_drop] <;> omega)
     rw [show (x10_1).drop (x12_20:Int).toNat = y187 from Ny187.out.symm] at hr52
     replace hr52:Kd.F (Kd.slice 5 (Kd.int .u8)) _ _ A52 y187.length y187:=(by rw [hA52];exact hr52)
     rw [← hy52, ← hA52, ← hc52] at hcut52
     have HO191:=mk0 (show Kd.V (Kd.slice 5 (Kd.int .u8)) 22 _ w.heap.size _ (.slice A52 y187.length c52) y187 from Kd.V_mk (by rw [hy52,hc52];exact Nat.sub_le_sub_right hroom52 _) hr52)
     have HC191:=mk0 (show y187.length ≤ c52 from by rw [hy52,hc52];exact Nat.sub_le_sub_right hroom52 _)
     clear hr52 hC52 hroom52 hi052 hsz52 hc52
     have KY52:=mk0 hy52
     have KA52:=mk0 hA52
     clear hy52 hA52
     replace q52:=eq_true q52
     refine start_ (n:=10) (S:=fun w'=>w'.cell? (ad183.add (x11_1).toNat) = some (.slice A183_0 (rd_L2 y171 x11_1).length c183_0)) (ds:=[8]) (bm 10 0) (by kernel_rfl) rfl (by kernel_rfl) (hx183_0) (fun hHeld=>?_);refine with_tabW spec_Parts.tab16 spec_Parts.bits16 (fun HT_ HW_=>?_)
     generalize wc.drew = w51 at HO_7 HO_8 HO_9 HO_10 HB HL183_0 HO191 HR183_0 hx183_0 hHeld ⊢
     refine pU 0 (some 74) (bm 10 1) HT_ ?_
     refine pU 1 (some 75) (bm 10 3) HT_ ?_
     refine pU 2 (some 76) (bm 10 7) HT_ ?_
     refine pU 5 (some 79) (bm 10 39) HT_ ?_
     refine pU 6 (some 80) (bm 10 103) HT_ ?_
     refine pU 7 (some 81) (bm 10 231) HT_ ?_
     refine take_ (i:=3) (N:=some 77) (v:=?_) (a':=?_) (bm 10 239) rfl rfl (take_ofW HT_.out HW_.out (by kernel_rfl)) (fun _ _ _ h=>h) (Or.inl ⟨by rfl,?_⟩) hHeld ?_ ?_
     rotate_left
     ·intro w' s0
      go_simp
      with_reducible rfl
     rotate_left
     ·simp only [Act.put,sA,sO,sS,i64_w,i32_w]
      rfl
     refine pO 4 (some 78) (bm 10 255) HT_ (fun K hK=>?_)
     refine Kd.N_lit_step (Kd.slice 5 (Kd.int .u8)) _ 22 ?hg (N':=78) ?hd (xs:=([rd_L2 y171 x11_1]:List (List Int))) (inner:=[.slice A183_0 (rd_L2 y171 x11_1).length c183_0]) (ok:=(fun k_=>((P0_ k_ ∨ P1_ k_) ∨ w.heap.size ≤ k_) ∧ some k_ ≠ (.slice (some ad183) y171.length co22:Value).ownBlock ∧ some k_ ≠ (.slice Ao53 x10_1.length co53:Value).ownBlock)) (okp:=(fun k_=>((P0_ k_ ∨ P1_ k_) ∨ w.heap.size ≤ k_) ∧ some k_ ≠ (.slice (some ad183) y171.length co22:Value).ownBlock ∧ some k_ ≠ (.slice Ao53 x10_1.length co53:Value).ownBlock)) ?hr ?hp (fun _ hk=>hk) ((show ∀ k_,w51.heap.size ≤ k_ → (fun k_=>((P0_ k_ ∨ P1_ k_) ∨ w.heap.size ≤ k_) ∧ some k_ ≠ (.slice (some ad183) y171.length co22:Value).ownBlock ∧ some k_ ≠ (.slice Ao53 x10_1.length co53:Value).ownBlock) k_ from fun k_ hk=>⟨(.inr (Nat.le_trans (kZ HB.out) hk)),Kd.fresh' (Kd.N_lt (rN HO_9.out)) k_ hk,Kd.fresh' (Kd.N_lt (rN HO_10.out)) k_ hk⟩) _ (Nat.le_refl _)) (Below.refl _ _) (Nat.le_refl _) (by simp) ?_;(case hd=>rfl);(case hg=>rfl);(case hr=>first|(go_simp;done)|(go_simp;rfl));(case hp=>exact (Reps.one (show Kd.FK (Kd.slice 5 (Kd.int .u8)) _ _ (rd_L2 y171 x11_1) [.slice A183_0 (rd_L2 y171 x11_1).length c183_0] from (Kd.FK_slice_mk (Kd.V_reads' (Kd.V_mono (ok':=(fun k_=>((P0_ k_ ∨ P1_ k_) ∨ w.heap.size ≤ k_) ∧ some k_ ≠ (.slice (some ad183) y171.length co22:Value).ownBlock ∧ some k_ ≠ (.slice Ao53 x10_1.length co53:Value).ownBlock)) (HL183_0.out) (fun k_ hk=>⟨hk.1.1,⟨hk.2,hk.1.2⟩⟩))).2.1 (Kd.V_F (Kd.V_mono (ok':=(fun k_=>((P0_ k_ ∨ P1_ k_) ∨ w.heap.size ≤ k_) ∧ some k_ ≠ (.slice (some ad183) y171.length co22:Value).ownBlock ∧ some k_ ≠ (.slice Ao53 x10_1.length co53:Value).ownBlock)) (HL183_0.out) (fun k_ hk=>⟨hk.1.1,⟨hk.2,hk.1.2⟩⟩))))) (Reps.none _ _)))
     intro v185 w54 ho55 hb hg_ hnew_
     have HS0_:=(hb.cell (World.block_lt_of_cell? _ _ (hHeld))).trans (hHeld)
     clear hg_ hnew_
     (first|rw [← Ny184.out] at ho55|(simp only [Int.reduceToNat] at ho55;rw [← Ny184.out] at ho55))
     replace HO_7:=mk0 (Kd.N_elder' (rN HO_7.out) (Kd.N_base ho55) hb)
     replace HO_8:=mk0 (Kd.N_elder' (rN HO_8.out) (Kd.N_base ho55) hb)
     replace HO_9:=mk0 (Kd.N_elder' (rN HO_9.out) (Kd.N_base ho55) hb)
     replace HO_10:=mk0 (Kd.N_elder' (rN HO_10.out) (Kd.N_base ho55) hb)
     replace HO191:=mk0 (Kd.V_elder' (rV HO191.out) (Kd.N_base ho55) hb)
     have HO186:=mk0 (Kd.N_lower ho55 (kZ HB.out))
     replace HR183_0:=mk0 (Kd.C_below (by repeat (first|(with_reducible exact HR183_0.out)|(with_reducible first|apply aC|apply nC|apply dC)|exact HR183_0.out|exact (Kd.V_reads' HL183_0.out).2.2)) hb)
     replace HL183_0:=mk0 (Kd.V_elder' (rV HL183_0.out) (Kd.N_base ho55) hb)
     replace HB:=mk0 (kS HB.out hb)
     clear hb ho55
     refine hK.out _ _ (HS0_) (fun hHeld=>?_)
     clear hK K
     refine pN (some 78) ?_
     refine pL 8 (some 82) (bm 10 511) HT_ (fun K hK=>?_)
     refine Kd.N_append_rows_step (Kd.slice 5 (Kd.int .u8)) (w0:=w) w.heap.size (by rfl) (.tmp 78) (.tmp 81) 66 22 (.slice none 0 0) 24 rfl Try.underlying66 info22 rfl (by decide) (by omega) v185 y184 y187 _ _ _ (fun k_=>((P0_ k_ ∨ P1_ k_) ∨ w.heap.size ≤ k_) ∧ some k_ ≠ (.slice (some ad183) y171.length co22:Value).ownBlock) (fun k_=>((fun k_=>((P0_ k_ ∨ P1_ k_) ∨ w.heap.size ≤ k_) ∧ some k_ ≠ (.slice (some ad183) y171.length co22:Value).ownBlock)) k_ ∧ some k_ ≠ (v185:Value).ownBlock) rfl rfl ?aO ?aR (fun _ hk=>hk) ?aF ?aB ?aS ?aL ?_
     (case aR=>exact (by skip;exact Kd.V_F (Kd.V_mono (ok':=(fun k_=>((fun k_=>((P0_ k_ ∨ P1_ k_) ∨ w.heap.size ≤ k_) ∧ some k_ ≠ (.slice (some ad183) y171.length co22:Value).ownBlock)) k_ ∧ some k_ ≠ (v185:Value).ownBlock)) (HO191.out) (fun k_ hk=>⟨⟨hk.1.1,hk.1.2⟩,hk.2⟩))))
     (case aB=>exact (kB HB.out))
     (case aF=>exact (fun k_ hk=>⟨(.inr (Nat.le_trans (kZ HB.out) hk)),Kd.fresh' (Kd.N_lt (rN HO_9.out)) k_ hk⟩))
     (case aO=>exact (rN (Kd.N_mono HO186.out (fun _ hk=>⟨hk.1,hk.2.1⟩))))
     (case aS=>exact (kZ HB.out))
     (case aL=>have:=LMc46.out;omega)
     intro v193 w56 ho hb hg hat
     rw [← Ny192.out] at ho
     replace HO_7:=mk0 (Kd.N_afterv (ok:=(fun k_=>((P0_ k_ ∨ P1_ k_) ∨ w.heap.size ≤ k_) ∧ some k_ ≠ (.slice Ao17 t162.length co17:Value).ownBlock ∧ some k_ ≠ (.slice (some ad183) y171.length co22:Value).ownBlock ∧ some k_ ≠ (.slice Ao53 x10_1.length co53:Value).ownBlock)) (rN HO_7.out) hg hat)
     replace HO_8:=mk0 (Kd.N_afterv (ok:=(fun k_=>((P0_ k_ ∨ P1_ k_) ∨ w.heap.size ≤ k_) ∧ some k_ ≠ (.slice Ao15 t159.length co15:Value).ownBlock ∧ some k_ ≠ (.slice (some ad183) y171.length co22:Value).ownBlock ∧ some k_ ≠ (.slice Ao53 x10_1.length co53:Value).ownBlock)) (rN HO_8.out) hg hat)
     replace HO_9:=mk0 (Kd.N_afterv (ok:=(fun k_=>((P0_ k_ ∨ P1_ k_) ∨ w.heap.size ≤ k_) ∧ some k_ ≠ (.slice Ao53 x10_1.length co53:Value).ownBlock)) (rN HO_9.out) hg hat)
     replace HO_10:=mk0 (Kd.N_afterv (ok:=(fun k_=>((P0_ k_ ∨ P1_ k_) ∨ w.heap.size ≤ k_) ∧ some k_ ≠ (.slice (some ad183) y171.length co22:Value).ownBlock)) (rN HO_10.out) hg hat)
     replace HL183_0:=mk0 (Kd.V_afterv (ok:=(fun k_=>((P0_ k_ ∨ P1_ k_) ∨ w.heap.size ≤ k_) ∧ some k_ ≠ (.slice (some ad183) y171.length co22:Value).ownBlock ∧ some k_ ≠ (.slice Ao53 x10_1.length co53:Value).ownBlock)) (rV (Kd.V_mono HL183_0.out (fun _ hk=>⟨⟨hk.1.1.1,⟨hk.1.2,hk.1.1.2⟩⟩,hk.2⟩))) hg hat)
     replace HO191:=mk0 (Kd.V_afterv (ok:=(fun k_=>((P0_ k_ ∨ P1_ k_) ∨ w.heap.size ≤ k_) ∧ some k_ ≠ (.slice (some ad183) y171.length co22:Value).ownBlock)) (rV HO191.out) hg hat)
     replace HB:=mk0 (hb)
     have HO194:=mk0 (ho)
     clear HO186
     clear ho hb hg hat
     refine hK.out _ _ ?_
     clear hK K
     refine pN (some 82) ?_
     refine pU 9 (some 14) (bm 10 1023) HT_ ?_
     refine pD HT_ ?_
     try go_wp2_with (first|((with_reducible refine gate_dst (N:=83) rfl ?_);refine Kd.N_lit (Kd.slice 5 (Kd.int .u8)) _ 22 ?hg (N':=83) ?hd (xs:=([]:List (List Int))) (inner:=[]) (ok:=(fun k_=>((P0_ k_ ∨ P1_ k_) ∨ w.heap.size ≤ k_) ∧ some k_ ≠ (.slice Ao15 t159.length co15:Value).ownBlock ∧ some k_ ≠ (.slice Ao17 t162.length co17:Value).ownBlock ∧ some k_ ≠ (.slice (some ad183) y171.length co22:Value).ownBlock ∧ some k_ ≠ (.slice Ao53 x10_1.length co53:Value).ownBlock ∧ some k_ ≠ (v193:Value).ownBlock)) (okp:=(fun k_=>((P0_ k_ ∨ P1_ k_) ∨ w.heap.size ≤ k_) ∧ some k_ ≠ (.slice Ao15 t159.length co15:Value).ownBlock ∧ some k_ ≠ (.slice Ao17 t162.length co17:Value).ownBlock ∧ some k_ ≠ (.slice (some ad183) y171.length co22:Value).ownBlock ∧ some k_ ≠ (.slice Ao53 x10_1.length co53:Value).ownBlock ∧ some k_ ≠ (v193:Value).ownBlock)) ?hr ?hp (fun _ hk=>hk) ((show ∀ k_,w56.heap.size ≤ k_ → (fun k_=>((P0_ k_ ∨ P1_ k_) ∨ w.heap.size ≤ k_) ∧ some k_ ≠ (.slice Ao15 t159.length co15:Value).ownBlock ∧ some k_ ≠ (.slice Ao17 t162.length co17:Value).ownBlock ∧ some k_ ≠ (.slice (some ad183) y171.length co22:Value).ownBlock ∧ some k_ ≠ (.slice Ao53 x10_1.length co53:Value).ownBlock ∧ some k_ ≠ (v193:Value).ownBlock) k_ from fun k_ hk=>⟨(.inr (Nat.le_trans (kZ HB.out) hk)),Kd.fresh' (Kd.N_lt (rN HO_7.out)) k_ hk,Kd.fresh' (Kd.N_lt (rN HO_8.out)) k_ hk,Kd.fresh' (Kd.N_lt (rN HO_9.out)) k_ hk,Kd.fresh' (Kd.N_lt (rN HO_10.out)) k_ hk,Kd.fresh' (Kd.N_lt (rN HO194.out)) k_ hk⟩) _ (Nat.le_refl _)) (Below.refl _ _) (Nat.le_refl _) (by simp) ?_;(case hd=>rfl);(case hg=>rfl);(case hr=>first|(go_simp;done)|(go_simp;rfl));(case hp=>exact (Reps.none _ _));intro v196 w57 ho58 hb hg_ hnew_;clear hg_ hnew_;(first|rw [← Ny195.out] at ho58|(simp only [Int.reduceToNat] at ho58;rw [← Ny195.out] at ho58));replace HO_7:=mk0 (Kd.N_elder' (rN HO_7.out) (Kd.N_base ho58) hb);replace HO_8:=mk0 (Kd.N_elder' (rN HO_8.out) (Kd.N_base ho58) hb);replace HO_9:=mk0 (Kd.N_elder' (rN HO_9.out) (Kd.N_base ho58) hb);replace HO_10:=mk0 (Kd.N_elder' (rN HO_10.out) (Kd.N_base ho58) hb);replace HL183_0:=mk0 (Kd.V_elder' (rV HL183_0.out) (Kd.N_base ho58) hb);replace HO191:=mk0 (Kd.V_elder' (rV HO191.out) (Kd.N_base ho58) hb);replace HO194:=mk0 (Kd.N_elder' (rN HO194.out) (Kd.N_base ho58) hb);have HO197:=mk0 (Kd.N_lower ho58 (kZ HB.out));replace HB:=mk0 (kS HB.out hb);clear hb ho58;have q59:(x12_20:Int) ≤ ((x10_1.length:Int):Int):=oD;obtain⟨i059,hi059,_,hsz59,_⟩:=info_parts info22;have hroom59:x10_1.length ≤ co53:=(Kd.N_reads' HO_10.out).2.1;have hC59:Kd.F (Kd.slice 5 (Kd.int .u8)) _ _ Ao53 x10_1.length x10_1:=(Kd.V_at (base:=w.heap.size) (Kd.N_V HO_10.out)).2.2;have hcut59:=cut_to (P:=Try.prog) 66 22 .i64 Try.underlying66 hi059 Ao53 x10_1.length co53 x12_20 (oD) q59 hroom59;have hr59:=Kd.F_take (m:=(x12_20:Int).toNat) hC59 (by omega);have hy59:y198.length = (x12_20:Int).toNat:=(by rw [Ny198.out,List.length_take];omega);rw [← Ny198.out] at hr59;rw [← hy59] at hcut59;have HO202:=mk0 (show Kd.V (Kd.slice 5 (Kd.int .u8)) 22 _ w.heap.size _ (.slice Ao53 y198.length co53) y198 from Kd.V_mk (by omega) hr59);have HC202:=mk0 (show y198.length ≤ co53 from by omega);clear hr59 hC59 hroom59 hi059 hsz59;have KY59:=mk0 hy59;clear hy59;replace q59:=eq_true q59)|((with_reducible refine gate_builtin (b:=.append) (xs:=#[.tmp 83,.tmp 86]) rfl ?_);at_builtin;refine Kd.N_append_rows (Kd.slice 5 (Kd.int .u8)) (w0:=w) w.heap.size rfl (.tmp 83) (.tmp 86) 66 22 (.slice none 0 0) 24 rfl Try.underlying66 info22 rfl (by decide) (by omega) v196 y195 y198 _ _ _ (fun k_=>((P0_ k_ ∨ P1_ k_) ∨ w.heap.size ≤ k_) ∧ some k_ ≠ (.slice (some ad183) y171.length co22:Value).ownBlock ∧ some k_ ≠ (v193:Value).ownBlock) (fun k_=>((fun k_=>((P0_ k_ ∨ P1_ k_) ∨ w.heap.size ≤ k_) ∧ some k_ ≠ (.slice (some ad183) y171.length co22:Value).ownBlock ∧ some k_ ≠ (v193:Value).ownBlock)) k_ ∧ some k_ ≠ (v196:Value).ownBlock) rfl rfl ?aO ?aR (fun _ hk=>hk) ?aF ?aB ?aS ?aL ?_;(case aR=>exact (by skip;exact Kd.V_F (Kd.V_mono (ok':=(fun k_=>((fun k_=>((P0_ k_ ∨ P1_ k_) ∨ w.heap.size ≤ k_) ∧ some k_ ≠ (.slice (some ad183) y171.length co22:Value).ownBlock ∧ some k_ ≠ (v193:Value).ownBlock)) k_ ∧ some k_ ≠ (v196:Value).ownBlock)) (HO202.out) (fun k_ hk=>⟨⟨hk.1.1.1,⟨hk.1.1.2,hk.1.2⟩⟩,hk.2⟩))));(case aB=>exact (kB HB.out));(case aF=>exact (fun k_ hk=>⟨(.inr (Nat.le_trans (kZ HB.out) hk)),Kd.fresh' (Kd.N_lt (rN HO_9.out)) k_ hk,Kd.fresh' (Kd.N_lt (rN HO194.out)) k_ hk⟩));(case aO=>exact (rN (Kd.N_mono HO197.out (fun _ hk=>⟨hk.1,⟨hk.2.2.2.1,hk.2.2.2.2.2⟩⟩))));(case aS=>exact (kZ HB.out));(case aL=>have:=LMc49.out;omega);intro v204 w60 ho hb hg hat;rw [← Ny203.out] at ho;replace HO_7:=mk0 (Kd.N_afterv (ok:=(fun k_=>((P0_ k_ ∨ P1_ k_) ∨ w.heap.size ≤ k_) ∧ some k_ ≠ (.slice Ao17 t162.length co17:Value).ownBlock ∧ some k_ ≠ (.slice (some ad183) y171.length co22:Value).ownBlock ∧ some k_ ≠ (.slice Ao53 x10_1.length co53:Value).ownBlock ∧ some k_ ≠ (v193:Value).ownBlock)) (rN (Kd.N_mono HO_7.out (fun _ hk=>⟨⟨hk.1.1.1,⟨hk.1.1.2.1,⟨hk.1.1.2.2.1,⟨hk.1.1.2.2.2,hk.1.2⟩⟩⟩⟩,hk.2⟩))) hg hat);replace HO_8:=mk0 (Kd.N_afterv (ok:=(fun k_=>((P0_ k_ ∨ P1_ k_) ∨ w.heap.size ≤ k_) ∧ some k_ ≠ (.slice Ao15 t159.length co15:Value).ownBlock ∧ some k_ ≠ (.slice (some ad183) y171.length co22:Value).ownBlock ∧ some k_ ≠ (.slice Ao53 x10_1.length co53:Value).ownBlock ∧ some k_ ≠ (v193:Value).ownBlock)) (rN (Kd.N_mono HO_8.out (fun _ hk=>⟨⟨hk.1.1.1,⟨hk.1.1.2.1,⟨hk.1.1.2.2.1,⟨hk.1.1.2.2.2,hk.1.2⟩⟩⟩⟩,hk.2⟩))) hg hat);replace HO_9:=mk0 (Kd.N_afterv (ok:=(fun k_=>((P0_ k_ ∨ P1_ k_) ∨ w.heap.size ≤ k_) ∧ some k_ ≠ (.slice Ao53 x10_1.length co53:Value).ownBlock ∧ some k_ ≠ (v193:Value).ownBlock)) (rN (Kd.N_mono HO_9.out (fun _ hk=>⟨⟨hk.1.1.1,⟨hk.1.1.2,hk.1.2⟩⟩,hk.2⟩))) hg hat);replace HO_10:=mk0 (Kd.N_afterv (ok:=(fun k_=>((P0_ k_ ∨ P1_ k_) ∨ w.heap.size ≤ k_) ∧ some k_ ≠ (.slice (some ad183) y171.length co22:Value).ownBlock ∧ some k_ ≠ (v193:Value).ownBlock)) (rN (Kd.N_mono HO_10.out (fun _ hk=>⟨⟨hk.1.1.1,⟨hk.1.1.2,hk.1.2⟩⟩,hk.2⟩))) hg hat);replace HL183_0:=mk0 (Kd.V_afterv (ok:=(fun k_=>((P0_ k_ ∨ P1_ k_) ∨ w.heap.size ≤ k_) ∧ some k_ ≠ (.slice (some ad183) y171.length co22:Value).ownBlock ∧ some k_ ≠ (.slice Ao53 x10_1.length co53:Value).ownBlock ∧ some k_ ≠ (v193:Value).ownBlock)) (rV (Kd.V_mono HL183_0.out (fun _ hk=>⟨⟨hk.1.1.1,⟨hk.1.1.2.1,⟨hk.1.1.2.2,hk.1.2⟩⟩⟩,hk.2⟩))) hg hat);replace HO191:=mk0 (Kd.V_afterv (ok:=(fun k_=>((P0_ k_ ∨ P1_ k_) ∨ w.heap.size ≤ k_) ∧ some k_ ≠ (.slice (some ad183) y171.length co22:Value).ownBlock ∧ some k_ ≠ (v193:Value).ownBlock)) (rV (Kd.V_mono HO191.out (fun _ hk=>⟨⟨hk.1.1.1,⟨hk.1.1.2,hk.1.2⟩⟩,hk.2⟩))) hg hat);replace HO194:=mk0 (Kd.N_afterv (ok:=(fun k_=>((P0_ k_ ∨ P1_ k_) ∨ w.heap.size ≤ k_) ∧ some k_ ≠ (.slice (some ad183) y171.length co22:Value).ownBlock)) (rN HO194.out) hg hat);replace HO202:=mk0 (Kd.V_afterv (ok:=(fun k_=>((P0_ k_ ∨ P1_ k_) ∨ w.heap.size ≤ k_) ∧ some k_ ≠ (.slice (some ad183) y171.length co22:Value).ownBlock ∧ some k_ ≠ (v193:Value).ownBlock)) (rV (Kd.V_mono HO202.out (fun _ hk=>⟨⟨hk.1.1.1,⟨hk.1.1.2,hk.1.2⟩⟩,hk.2⟩))) hg hat);replace HB:=mk0 (hb);have HO205:=mk0 (ho);clear HO197 ho hb hg hat;obtain⟨Ao62,co62,eo62⟩:=Kd.N_slice HO194.out;subst eo62)|((with_reducible refine gate_builtin (b:=.append) (xs:=#[.tmp 87,.tmp 88]) rfl ?_);at_builtin;refine Kd.N_append_rows (Kd.slice 5 (Kd.int .u8)) (w0:=w) w.heap.size rfl (.tmp 87) (.tmp 88) 66 22 (.slice none 0 0) 24 rfl Try.underlying66 info22 rfl (by decide) (by omega) v204 y203 y192 _ _ _ (fun k_=>((P0_ k_ ∨ P1_ k_) ∨ w.heap.size ≤ k_) ∧ some k_ ≠ (.slice (some ad183) y171.length co22:Value).ownBlock) (fun k_=>((fun k_=>((P0_ k_ ∨ P1_ k_) ∨ w.heap.size ≤ k_) ∧ some k_ ≠ (.slice (some ad183) y171.length co22:Value).ownBlock)) k_ ∧ some k_ ≠ (v204:Value).ownBlock) rfl rfl ?aO ?aR (fun _ hk=>hk) ?aF ?aB ?aS ?aL ?_;(case aR=>exact (by skip;exact Kd.N_F (Kd.N_mono (ok':=(fun k_=>((fun k_=>((P0_ k_ ∨ P1_ k_) ∨ w.heap.size ≤ k_) ∧ some k_ ≠ (.slice (some ad183) y171.length co22:Value).ownBlock)) k_ ∧ some k_ ≠ (v204:Value).ownBlock)) (HO194.out) (fun k_ hk=>⟨⟨hk.1.1,hk.1.2⟩,hk.2⟩))));(case aB=>exact (kB HB.out));(case aF=>exact (fun k_ hk=>⟨(.inr (Nat.le_trans (kZ HB.out) hk)),Kd.fresh' (Kd.N_lt (rN HO_9.out)) k_ hk⟩));(case aO=>exact (rN (Kd.N_mono HO205.out (fun _ hk=>⟨hk.1,hk.2.1⟩))));(case aS=>exact (kZ HB.out));(case aL=>have:=LMc50.out;omega);intro v207 w61 ho hb hg hat;rw [← Ny206.out] at ho;replace HO_7:=mk0 (Kd.N_afterv (ok:=(fun k_=>((P0_ k_ ∨ P1_ k_) ∨ w.heap.size ≤ k_) ∧ some k_ ≠ (.slice Ao17 t162.length co17:Value).ownBlock ∧ some k_ ≠ (.slice (some ad183) y171.length co22:Value).ownBlock ∧ some k_ ≠ (.slice Ao53 x10_1.length co53:Value).ownBlock ∧ some k_ ≠ (.slice Ao62 y192.length co62:Value).ownBlock)) (rN HO_7.out) hg hat);replace HO_8:=mk0 (Kd.N_afterv (ok:=(fun k_=>((P0_ k_ ∨ P1_ k_) ∨ w.heap.size ≤ k_) ∧ some k_ ≠ (.slice Ao15 t159.length co15:Value).ownBlock ∧ some k_ ≠ (.slice (some ad183) y171.length co22:Value).ownBlock ∧ some k_ ≠ (.slice Ao53 x10_1.length co53:Value).ownBlock ∧ some k_ ≠ (.slice Ao62 y192.length co62:Value).ownBlock)) (rN HO_8.out) hg hat);replace HO_9:=mk0 (Kd.N_afterv (ok:=(fun k_=>((P0_ k_ ∨ P1_ k_) ∨ w.heap.size ≤ k_) ∧ some k_ ≠ (.slice Ao53 x10_1.length co53:Value).ownBlock ∧ some k_ ≠ (.slice Ao62 y192.length co62:Value).ownBlock)) (rN HO_9.out) hg hat);replace HO_10:=mk0 (Kd.N_afterv (ok:=(fun k_=>((P0_ k_ ∨ P1_ k_) ∨ w.heap.size ≤ k_) ∧ some k_ ≠ (.slice (some ad183) y171.length co22:Value).ownBlock ∧ some k_ ≠ (.slice Ao62 y192.length co62:Value).ownBlock)) (rN HO_10.out) hg hat);replace HL183_0:=mk0 (Kd.V_afterv (ok:=(fun k_=>((P0_ k_ ∨ P1_ k_) ∨ w.heap.size ≤ k_) ∧ some k_ ≠ (.slice (some ad183) y171.length co22:Value).ownBlock ∧ some k_ ≠ (.slice Ao53 x10_1.length co53:Value).ownBlock ∧ some k_ ≠ (.slice Ao62 y192.length co62:Value).ownBlock)) (rV HL183_0.out) hg hat);replace HO191:=mk0 (Kd.V_afterv (ok:=(fun k_=>((P0_ k_ ∨ P1_ k_) ∨ w.heap.size ≤ k_) ∧ some k_ ≠ (.slice (some ad183) y171.length co22:Value).ownBlock ∧ some k_ ≠ (.slice Ao62 y192.length co62:Value).ownBlock)) (rV HO191.out) hg hat);replace HO194:=mk0 (Kd.N_afterv (ok:=(fun k_=>((P0_ k_ ∨ P1_ k_) ∨ w.heap.size ≤ k_) ∧ some k_ ≠ (.slice (some ad183) y171.length co22:Value).ownBlock)) (rN HO194.out) hg hat);replace HO202:=mk0 (Kd.V_afterv (ok:=(fun k_=>((P0_ k_ ∨ P1_ k_) ∨ w.heap.size ≤ k_) ∧ some k_ ≠ (.slice (some ad183) y171.length co22:Value).ownBlock ∧ some k_ ≠ (.slice Ao62 y192.length co62:Value).ownBlock)) (rV HO202.out) hg hat);replace HB:=mk0 (hb);have HO208:=mk0 (ho);clear HO205 ho hb hg hat))
     go_roundg kj20
     case measure=>have:=HK1.out;have:=HJ20.out;omega
     case rel=>exact⟨(y206),(wrap64 (x11_1 + 1)),eS,H',⟨by have:=HK1.out;have:=HJ20.out;omega⟩,⟨rN HO208.out⟩,⟨rN (Kd.N_mono HO_7.out (fun _ hk=>⟨hk.1.1,⟨hk.2,⟨hk.1.2.1,hk.1.2.2.1⟩⟩⟩))⟩,⟨rN (Kd.N_mono HO_8.out (fun _ hk=>⟨hk.1.1,⟨hk.2,⟨hk.1.2.1,hk.1.2.2.1⟩⟩⟩))⟩,⟨rN (Kd.N_mono HO_9.out (fun _ hk=>⟨hk.1.1,hk.2⟩))⟩,⟨kB HB.out⟩⟩
end Go.Proofs.Ytadhngelhognaaa.QFnShare
