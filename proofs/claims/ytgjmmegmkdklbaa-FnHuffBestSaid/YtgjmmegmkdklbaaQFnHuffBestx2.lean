-- A walk, made by walk.py, a program of this session's.
import Derived.Test.YtgjmmegmkdklbaaQFnHuffBestx0
import Derived.Test.YtgjmmegmkdklbaaQFnHuffBestx1
namespace Go.Proofs.Ytgjmmegmkdklbaa.QFnHuffBest
open Go.RowKit Go.Proofs.YtgjmmegmkdklbaaW.PrintWords Go.Proofs.YtgjmmegmkdklbaaW.PrintLast Go.Proofs.YtgjmmegmkdklbaaW.PrintMore
attribute [local go_sem] max2_int min2_int max_two min_two max_three min_three max_four min_four   -- for this text's walks alone
set_option linter.unusedVariables false
set_option linter.unusedSimpArgs false

/-! ### spec_HuffLens: function 21 -/
mutual
def spec_HuffLens.l0 : Nat → List Int → List (S61) → Int → List Int → Option (List Int)
 | 0, _, _, _, _ => none
 | k + 1, x0, x4, x5, x18 => if x5 < (x0.length : Int) then (if 0 ≤ x5 then (if (rd x0 x5) > 0 then (if x4.length < 3518437208883 then (spec_HuffLens.l0 k x0 (x4 ++ [(⟨rd x0 x5, (x4.length : Int), (([x5] : List Int))⟩ : S61)]) (wrap64 (x5 + 1)) x18) else (none)) else (spec_HuffLens.l0 k x0 x4 (wrap64 (x5 + 1)) x18)) else (none)) else (if (x4.length : Int) = 1 then (if 0 < (x4.length : Int) then (if 0 < (((rd_T61 x4 0).f2).length : Int) then (if 0 ≤ (rd ((rd_T61 x4 0).f2) 0) then (if (rd ((rd_T61 x4 0).f2) 0) < (x18.length : Int) then (some (x18.set ((rd ((rd_T61 x4 0).f2) 0) : Int).toNat 1)) else (none)) else (none)) else (none)) else (none)) else (spec_HuffLens.l1 k x4 (x4.length : Int) x18))
def spec_HuffLens.l1 : Nat → List (S61) → Int → List Int → Option (List Int)
 | 0, _, _, _ => none
 | k + 1, x4, x6, x18 => if (x4.length : Int) > 1 then ((spec_l08Least.f k x4).bind fun t146 => (if 0 ≤ t146 then (if t146 < (x4.length : Int) then ((spec_l08Without.f x4 t146).bind fun t149 => ((spec_l08Least.f k t149).bind fun t152 => (if 0 ≤ t152 then (if t152 < (t149.length : Int) then ((spec_l08Without.f t149 t152).bind fun t155 => ((some (([] : List Int) : List Int)).bind fun y158 => (if y158.length + ((rd_T61 x4 t146).f2).length < 17592186044416 then ((some (y158 ++ ((rd_T61 x4 t146).f2) : List Int)).bind fun y161 => (if y161.length + ((rd_T61 t149 t152).f2).length < 17592186044416 then (spec_HuffLens.l2 k t155 x6 0 x18 (y161 ++ ((rd_T61 t149 t152).f2)) ((rd_T61 x4 t146).f0) ((rd_T61 x4 t146).f1) ((rd_T61 x4 t146).f2) ((rd_T61 t149 t152).f0) ((rd_T61 t149 t152).f1) ((rd_T61 t149 t152).f2)) else (none))) else (none)))) else (none)) else (none)))) else (none)) else (none))) else (some x18)
def spec_HuffLens.l2 : Nat → List (S61) → Int → Int → List Int → List Int → Int → Int → List Int → Int → Int → List Int → Option (List Int)
 | 0, _, _, _, _, _, _, _, _, _, _, _ => none
 | k + 1, x4, x6, x12, x18, x84, x149000, x149001, x149002, x155000, x155001, x155002 => if x12 < (x84.length : Int) then (if 0 ≤ x12 then (if 0 ≤ (rd x84 x12) then (if (rd x84 x12) < (x18.length : Int) then (spec_HuffLens.l2 k x4 x6 (wrap64 (x12 + 1)) (x18.set ((rd x84 x12) : Int).toNat (wrap64 ((rd x18 (rd x84 x12)) + 1))) x84 x149000 x149001 x149002 x155000 x155001 x155002) else (none)) else (none)) else (none)) else (if x4.length < 3518437208883 then (spec_HuffLens.l1 k (x4 ++ [(⟨wrap64 (x149000 + x155000), x6, x84⟩ : S61)]) (wrap64 (x6 + 1)) x18) else (none))
end
def spec_HuffLens.f (k : Nat) (l0 : List Int) : Option (List Int) := (spec_l08Counts.f k l0).bind fun t128 => (if t128 = true then (if 0 ≤ (l0.length : Int) then (if ((l0.length : Int) : Int).toNat ≤ 35184372088832 then (spec_HuffLens.l0 k l0 (([] : List (S61))) 0 (List.replicate ((l0.length : Int) : Int).toNat 0)) else (none)) else (none)) else (some ([] : List Int)))
theorem spec_HuffLens.mono_l : ∀ k, (∀ y0 y1 y2 y3, LeO (spec_HuffLens.l0 k y0 y1 y2 y3) (spec_HuffLens.l0 (k + 1) y0 y1 y2 y3)) ∧ (∀ y0 y1 y2, LeO (spec_HuffLens.l1 k y0 y1 y2) (spec_HuffLens.l1 (k + 1) y0 y1 y2)) ∧ (∀ y0 y1 y2 y3 y4 y5 y6 y7 y8 y9 y10, LeO (spec_HuffLens.l2 k y0 y1 y2 y3 y4 y5 y6 y7 y8 y9 y10) (spec_HuffLens.l2 (k + 1) y0 y1 y2 y3 y4 y5 y6 y7 y8 y9 y10))
 | 0 => ⟨fun _ _ _ _ r h => by simp [spec_HuffLens.l0] at h, fun _ _ _ r h => by simp [spec_HuffLens.l1] at h, fun _ _ _ _ _ _ _ _ _ _ _ r h => by simp [spec_HuffLens.l2] at h⟩
 | k + 1 => by
  obtain ⟨ih0, ih1, ih2⟩ := spec_HuffLens.mono_l k
  refine ⟨?_, ?_, ?_⟩
  ·intro y0 y1 y2 y3
   unfold spec_HuffLens.l0
   repeat' first|(with_reducible first|exact ih0 _ _ _ _|exact ih1 _ _ _|exact ih2 _ _ _ _ _ _ _ _ _ _ _|exact spec_l08Counts.mono _ _|exact spec_l08Least.mono _ _|exact LeO.refl _|exact LeO.none _|refine LeO.ite ?_ ?_|refine LeO.bind ?_ (fun _ => ?_))|exact LeO.none _|refine LeO.ite ?_ ?_|refine LeO.bind ?_ (fun _ => ?_)
  ·intro y0 y1 y2
   unfold spec_HuffLens.l1
   repeat' first|(with_reducible first|exact ih0 _ _ _ _|exact ih1 _ _ _|exact ih2 _ _ _ _ _ _ _ _ _ _ _|exact spec_l08Counts.mono _ _|exact spec_l08Least.mono _ _|exact LeO.refl _|exact LeO.none _|refine LeO.ite ?_ ?_|refine LeO.bind ?_ (fun _ => ?_))|exact LeO.none _|refine LeO.ite ?_ ?_|refine LeO.bind ?_ (fun _ => ?_)
  ·intro y0 y1 y2 y3 y4 y5 y6 y7 y8 y9 y10
   unfold spec_HuffLens.l2
   repeat' first|(with_reducible first|exact ih0 _ _ _ _|exact ih1 _ _ _|exact ih2 _ _ _ _ _ _ _ _ _ _ _|exact spec_l08Counts.mono _ _|exact spec_l08Least.mono _ _|exact LeO.refl _|exact LeO.none _|refine LeO.ite ?_ ?_|refine LeO.bind ?_ (fun _ => ?_))|exact LeO.none _|refine LeO.ite ?_ ?_|refine LeO.bind ?_ (fun _ => ?_)
theorem spec_HuffLens.mono : ∀ a0 k, LeO (spec_HuffLens.f k a0) (spec_HuffLens.f (k + 1) a0) := by
 intro a0 k
 obtain ⟨ih0, ih1, ih2⟩ := spec_HuffLens.mono_l k
 unfold spec_HuffLens.f
 repeat' first|(with_reducible first|exact ih0 _ _ _ _|exact ih1 _ _ _|exact ih2 _ _ _ _ _ _ _ _ _ _ _|exact spec_l08Counts.mono _ _|exact spec_l08Least.mono _ _|exact LeO.refl _|exact LeO.none _|refine LeO.ite ?_ ?_|refine LeO.bind ?_ (fun _ => ?_))|exact LeO.none _|refine LeO.ite ?_ ?_|refine LeO.bind ?_ (fun _ => ?_)
def spec_HuffLens.T21 : Bool × List (List Nat × List Nat) := (true, [([], []), ([], []), ([1], [1]), ([0, 2], [0, 2]), ([], []), ([4], [4]), ([3, 5, 3], [3, 5]), ([6, 6, 0, 1, 2, 3, 4, 5, 6], [6])])
def spec_HuffLens.B21 : List Nat := [0, 0, 2, 7, 0, 16, 63, 127]
theorem spec_HuffLens.tab21 : rtab .any (opsOf Try.f21 21) = spec_HuffLens.T21 := by kernel_rfl
theorem spec_HuffLens.bits21 : waitsOk spec_HuffLens.T21.2 spec_HuffLens.B21 = true := by kernel_rfl
abbrev spec_HuffLens.m0 : Array Bool := #[F,F,F,F,F,F,F,F]
abbrev spec_HuffLens.m1 : Array Bool := #[F,T,F,F,F,F,F,F]
abbrev spec_HuffLens.m2 : Array Bool := #[F,T,F,F,T,F,F,F]
abbrev spec_HuffLens.m3 : Array Bool := #[F,T,T,F,T,F,F,F]
abbrev spec_HuffLens.m4 : Array Bool := #[F,T,T,F,T,T,F,F]
abbrev spec_HuffLens.m5 : Array Bool := #[T,T,T,F,T,T,F,F]
set_option maxHeartbeats 8000000 in
set_option maxRecDepth 100000 in
theorem spec_HuffLens.calls (k : Nat) (A0 : Option Addr) (c0 : Nat) (l0 : List Int) (r : List Int) (w : World) (hr0 : Kd.C (Kd.int .i64) w A0 l0.length l0) (hc0 : l0.length ≤ c0) (h : spec_HuffLens.f k l0 = some r) :
  Calls Try.prog 21 #[.slice A0 l0.length c0] w fun e w' => ∃ v0_ : Value, e = .returned (v0_) ∧ Kd.R (Kd.int .i64) 3 w' w.heap.size (fun _ => True) v0_ r ∧ Below w.heap.size w w' := by
 have hu61:=Try.underlying61
 have HR0:=mk0 hr0
 have HC0:=mk0 hc0
 clear hr0 hc0
 have HB:=mk0 (Below.refl w.heap.size w)
 have H:((spec_l08Counts.f k l0).bind fun t128=>(if t128 = true then (if 0 ≤ (l0.length:Int) then (if ((l0.length:Int):Int).toNat ≤ 35184372088832 then (spec_HuffLens.l0 k l0 (([]:List (S61))) 0 (List.replicate ((l0.length:Int):Int).toNat 0)) else (none)) else (none)) else (some ([]:List Int)))) = some r:=h
 clear h
 replace H:=Option.bind_eq_some_iff.mp H
 obtain⟨t128,A20,H⟩:=H
 replace H:(if t128 = true then (if 0 ≤ (l0.length:Int) then (if ((l0.length:Int):Int).toNat ≤ 35184372088832 then (spec_HuffLens.l0 k l0 (([]:List (S61))) 0 (List.replicate ((l0.length:Int):Int).toNat 0)) else (none)) else (none)) else (some ([]:List Int))) = some r:=H
 have A2:=mk0 A20
 clear A20
 by_cases c3:t128 = true
 rotate_left
 ·replace c3:=Bool.eq_false_iff.mpr c3
  subst c3
  have H1:(some ([]:List Int)) = some r:=by rw [if_neg (show ¬ (false = true) by decide)] at H;exact H
  clear H
  have H:=H1
  clear H1
  obtain rfl:=Option.some.inj H
  go_enter Try.func21,Try.ntmps21
  go_wp2_with (first|((with_reducible refine gate_callee (f:=50) rfl ?_);refine goesL_ (some 14) rfl rfl Try.func50 (by kernel_rfl) rfl #[.slice A0 l0.length c0] rfl (by (try simp only [mA,mC,mN]);first|done|rfl|(simp only [List.length_drop,List.length_take];done)|(simp only [List.length_drop,List.length_take];rfl)) ?_;(with_reducible refine (spec_l08Counts.calls k _ _ l0 false _ ?side1 ?side2 A2.out).mono ?_);(case side1=>repeat (first|exact HR0.out|(with_reducible first|apply aC|apply nC|apply dC)));(case side2=>exact HC0.out);rintro e w' ⟨rfl,⟨nd,rfl⟩⟩;refine⟨_,rfl,?_⟩))
  go_ret
  exact⟨_,by first|rfl|(simp [errW_none,errW_some] <;> rfl)|(simp [*,errW_none,errW_some] <;> rfl),by first|exact Kd.R_nil _ _ _ _ _|exact Kd.N_nil _ _ _ _ _|exact Kd.V_nil _ _ _ _ _|exact Kd.Q_nil _ _ _ _ _|exact Kd.S_nil _ _ _ _ _,kB HB.out⟩

 subst c3
 have H1:(if 0 ≤ (l0.length:Int) then (if ((l0.length:Int):Int).toNat ≤ 35184372088832 then (spec_HuffLens.l0 k l0 (([]:List (S61))) 0 (List.replicate ((l0.length:Int):Int).toNat 0)) else (none)) else (none)) = some r:=by rw [if_pos rfl] at H;exact H
 clear H
 have H:=H1
 clear H1
 by_cases c4:0 ≤ (l0.length:Int)
 rotate_left
 ·rw [if_neg c4] at H
  exact absurd H (by simp)
 rw [if_pos c4] at H
 have c4b0:=eq_true c4
 have c4b1:decide (0 ≤ (l0.length:Int)) = true:=decide_eq_true c4
 (try simp only [hl143_2] at c4b1)
 (try simp only [hl147_2] at c4b1)
 (try simp only [hl153_2] at c4b1)
 clear c4
 by_cases c5:((l0.length:Int):Int).toNat ≤ 35184372088832
 rotate_left
 ·rw [if_neg c5] at H
  exact absurd H (by simp)
 rw [if_pos c5] at H
 have c5b0:=eq_true c5
 have c5b1:decide (((l0.length:Int):Int).toNat ≤ 35184372088832) = true:=decide_eq_true c5
 (try simp only [hl143_2] at c5b1)
 (try simp only [hl147_2] at c5b1)
 (try simp only [hl153_2] at c5b1)
 clear c5
 obtain⟨y129,hy129⟩:∃ y_:List Int,y_ = (List.replicate ((l0.length:Int):Int).toNat 0):=⟨_,rfl⟩
 replace H:(spec_HuffLens.l0 k l0 (([]:List (S61))) 0 y129) = some r:=by first|(rw [hy129];with_reducible exact H)|(have H2_:=(Option.bind_some _ _).symm.trans H;rw [hy129];with_reducible exact H2_)|(have H2_:=(Option.bind_some _ _).symm.trans H;with_reducible exact H2_)|with_reducible exact H|(rw [hy129];exact H)|exact H
 have Ny129:=mk0 hy129
 clear hy129
 obtain⟨y132,hy132⟩:∃ y_:List (S61),y_ = (([]:List (S61))):=⟨_,rfl⟩
 replace H:(spec_HuffLens.l0 k l0 y132 0 y129) = some r:=by first|(rw [hy132];with_reducible exact H)|(have H2_:=(Option.bind_some _ _).symm.trans H;rw [hy132];with_reducible exact H2_)|(have H2_:=(Option.bind_some _ _).symm.trans H;with_reducible exact H2_)|with_reducible exact H|(rw [hy132];exact H)|exact H
 have Ny132:=mk0 hy132
 clear hy132
 have H':=mk0 H
 clear H
 go_enter Try.func21,Try.ntmps21
 go_wp2_with (first|((with_reducible refine gate_callee (f:=50) rfl ?_);refine goesL_ (some 14) rfl rfl Try.func50 (by kernel_rfl) rfl #[.slice A0 l0.length c0] rfl (by (try simp only [mA,mC,mN]);first|done|rfl|(simp only [List.length_drop,List.length_take];done)|(simp only [List.length_drop,List.length_take];rfl)) ?_;(with_reducible refine (spec_l08Counts.calls k _ _ l0 true _ ?side1 ?side2 A2.out).mono ?_);(case side1=>repeat (first|exact HR0.out|(with_reducible first|apply aC|apply nC|apply dC)));(case side2=>exact HC0.out);rintro e w' ⟨rfl,⟨nd,rfl⟩⟩;refine⟨_,rfl,?_⟩)|((with_reducible refine gate_dst (N:=18) rfl ?_);refine Kd.R_make (Kd.int .i64) _ 3 rfl (N:=18) rfl 24 _ _ rfl (l0.length:Int) rfl rfl Try.underlying24 (.int .i64 0) 8 info3 rfl (by decide) (by omega) 0 (ok:=fun _=>True) (okp:=fun _=>True) rfl (fun _ hk=>hk) trivial (of_decide_eq_true (by first|(with_reducible assumption)|assumption)) (Nat.le_trans (Nat.mul_le_mul_right _ (of_decide_eq_true (by first|(with_reducible assumption)|assumption):(l0.length:Int).toNat ≤ 35184372088832)) (by omega)) (Below.refl _ _) (Nat.le_refl _) ?_;intro v130 w6 ho7 hb hg_ hnew_;clear hg_ hnew_;(first|rw [← Ny129.out] at ho7|(simp only [Int.reduceToNat] at ho7;rw [← Ny129.out] at ho7));have HO131:=mk0 (Kd.R_lower ho7 (kZ HB.out));replace HB:=mk0 (kS HB.out hb);clear hb ho7)|((with_reducible refine gate_dst (N:=19) rfl ?_);refine Kd.N_lit k61 _ 61 ?hg (N':=19) ?hd (xs:=([]:List (S61))) (inner:=[]) (ok:=(fun k_=>some k_ ≠ (v130:Value).ownBlock)) (okp:=(fun k_=>some k_ ≠ (v130:Value).ownBlock)) ?hr ?hp (fun _ hk=>hk) ((show ∀ k_,w6.heap.size ≤ k_ → (fun k_=>some k_ ≠ (v130:Value).ownBlock) k_ from fun k_ hk=>Kd.fresh' (Kd.R_lt (rR HO131.out)) k_ hk) _ (Nat.le_refl _)) (Below.refl _ _) (Nat.le_refl _) (by simp) ?_;(case hd=>rfl);(case hg=>rfl);(case hr=>first|(go_simp;done)|(go_simp;rfl));(case hp=>exact (Reps.none _ _));intro v133 w8 ho9 hb hg_ hnew_;clear hg_ hnew_;(first|rw [← Ny132.out] at ho9|(simp only [Int.reduceToNat] at ho9;rw [← Ny132.out] at ho9));replace HO131:=mk0 (bR HO131.out hb);have HO134:=mk0 (Kd.N_lower ho9 (kZ HB.out));replace HB:=mk0 (kS HB.out hb);clear hb ho9))
 go_loopg [4,5] k (fun kq v4 v5 w'=>∃ (x4_1:List (S61)) (x5_1:Int),v5 = .int .i64 x5_1 ∧ Aside0 (spec_HuffLens.l0 kq l0 x4_1 x5_1 y129 = some r) ∧ Aside0 (kq ≤ k) ∧ Aside0 (Kd.N k61 61 w' w.heap.size (fun k_=>some k_ ≠ (v130:Value).ownBlock) v4 x4_1) ∧ Aside0 (Kd.R (Kd.int .i64) 3 w' w.heap.size (fun _=>True) v130 y129) ∧ Aside0 (Below w.heap.size w w'))
 case atStart=>exact⟨(y132),(0),(by first|rfl|(simp;done)|(simp [*];done)),H',⟨Nat.le_refl _⟩,⟨rN HO134.out⟩,⟨rR HO131.out⟩,⟨kB HB.out⟩⟩
 case round =>
  clear H'
  try clear c2
  try clear p2
  try clear c3
  try clear c4
  try clear c4b0
  try clear c4b1
  try clear c5
  try clear c5b0
  try clear c5b1
  obtain⟨x4_1,x5_1,rfl,HA,HK1,HO_4,HO_18,HB⟩:=hrel
  cases gk with
  | zero=>exact absurd HA.out (by simp [spec_HuffLens.l0])
  | succ k1 =>
   have H:=HA.out
   clear HA
   simp only [spec_HuffLens.l0] at H
   by_cases c10:x5_1 < (l0.length:Int)
   ·rw [if_pos c10] at H
    have c10b0:decide (x5_1 < (l0.length:Int)) = true:=decide_eq_true c10
    (try simp only [hl143_2] at c10b0)
    (try simp only [hl147_2] at c10b0)
    (try simp only [hl153_2] at c10b0)
    clear c10
    by_cases c11:0 ≤ x5_1
    rotate_left
    ·rw [if_neg c11] at H
     exact absurd H (by simp)
    rw [if_pos c11] at H
    have c11b0:decide (0 ≤ x5_1) = true:=decide_eq_true c11
    clear c11
    by_cases c12:(rd l0 x5_1) > 0
    rotate_left
    ·rw [if_neg c12] at H
     have c12b0:decide (0 < (rd l0 x5_1)) = false:=decide_eq_false c12
     clear c12
     have H':=mk0 H
     clear H
     have p135:0 ≤ (x5_1:Int):=of_decide_eq_true (by first|(with_reducible assumption)|assumption)
     have q135:x5_1 < (l0.length:Int):=of_decide_eq_true (by first|(with_reducible assumption)|assumption)
     obtain⟨ad135,e135,hx135_0⟩:=Kd.at_int HR0.out x5_1 p135 q135
     cases e135
     replace hx135_0:=(HB.out.cell (World.block_lt_of_cell? w _ hx135_0)).trans hx135_0
     replace p135:=eq_true p135
     replace q135:=eq_true q135
     go_wp2
     go_roundg k1
     case measure=>have:=HK1.out;omega
     case rel=>exact⟨(x4_1),(wrap64 (x5_1 + 1)),(by first|rfl|(simp;done)|(simp [*];done)),H',⟨by have:=HK1.out;omega⟩,⟨rN HO_4.out⟩,⟨rR HO_18.out⟩,⟨kB HB.out⟩⟩
    rw [if_pos c12] at H
    have c12b0:decide (0 < (rd l0 x5_1)) = true:=decide_eq_true c12
    clear c12
    obtain⟨y137,hy137⟩:∃ y_:List Int,y_ = (([x5_1]:List Int)):=⟨_,rfl⟩
    replace H:(if x4_1.length < 3518437208883 then (spec_HuffLens.l0 k1 l0 (x4_1 ++ [(⟨rd l0 x5_1,(x4_1.length:Int),y137⟩:S61)]) (wrap64 (x5_1 + 1)) y129) else (none)) = some r:=by first|(rw [hy137];with_reducible exact H)|(have H2_:=(Option.bind_some _ _).symm.trans H;rw [hy137];with_reducible exact H2_)|(have H2_:=(Option.bind_some _ _).symm.trans H;with_reducible exact H2_)|with_reducible exact H|(rw [hy137];exact H)|exact H
    have Ny137:=mk0 hy137
    clear hy137
    by_cases c13:x4_1.length < 3518437208883
    rotate_left
    ·rw [if_neg c13] at H
     exact absurd H (by simp)
    rw [if_pos c13] at H
    have LMc13:=mk0 c13
    clear c13
    obtain⟨y140,hy140⟩:∃ y_:List (S61),y_ = (x4_1 ++ [(⟨rd l0 x5_1,(x4_1.length:Int),y137⟩:S61)]):=⟨_,rfl⟩
    replace H:(spec_HuffLens.l0 k1 l0 y140 (wrap64 (x5_1 + 1)) y129) = some r:=by first|(rw [hy140];with_reducible exact H)|(have H2_:=(Option.bind_some _ _).symm.trans H;rw [hy140];with_reducible exact H2_)|(have H2_:=(Option.bind_some _ _).symm.trans H;with_reducible exact H2_)|with_reducible exact H|(rw [hy140];exact H)|exact H
    have Ny140:=mk0 hy140
    clear hy140
    have H':=mk0 H
    clear H
    have p135:0 ≤ (x5_1:Int):=of_decide_eq_true (by first|(with_reducible assumption)|assumption)
    have q135:x5_1 < (l0.length:Int):=of_decide_eq_true (by first|(with_reducible assumption)|assumption)
    obtain⟨ad135,e135,hx135_0⟩:=Kd.at_int HR0.out x5_1 p135 q135
    cases e135
    replace hx135_0:=(HB.out.cell (World.block_lt_of_cell? w _ hx135_0)).trans hx135_0
    replace p135:=eq_true p135
    replace q135:=eq_true q135
    have p136:0 ≤ (x5_1:Int):=of_decide_eq_true (by first|(with_reducible assumption)|assumption)
    have q136:x5_1 < (l0.length:Int):=of_decide_eq_true (by first|(with_reducible assumption)|assumption)
    obtain⟨ad136,e136,hx136_0⟩:=Kd.at_int HR0.out x5_1 p136 q136
    obtain rfl:ad135 = ad136:=(by injection e136)
    replace hx136_0:=(HB.out.cell (World.block_lt_of_cell? w _ hx136_0)).trans hx136_0
    replace p136:=eq_true p136
    replace q136:=eq_true q136
    obtain⟨Ao14,co14,eo14⟩:=Kd.N_slice HO_4.out
    subst eo14
    go_wp2_with (first|((with_reducible refine gate_dst (N:=39) rfl ?_);refine Kd.R_lit (Kd.int .i64) _ 3 ?hg (N:=39) ?hd (xs:=([x5_1]:List Int)) (inner:=[.int .i64 x5_1]) (ok:=fun _=>True) (okp:=fun _=>True) ?hr ?hp (fun _ hk=>hk) trivial (Below.refl _ _) (Nat.le_refl _) (by simp) ?_;(case hd=>rfl);(case hg=>rfl);(case hr=>first|(go_simp;done)|(go_simp;rfl));(case hp=>exact (Reps.one (show Kd.M (Kd.int .i64) _ _ _ x5_1 [.int .i64 x5_1] from rfl) (Reps.none _ _)));intro v138 w15 ho16 hb hg_ hnew_;clear hg_ hnew_;(first|rw [← Ny137.out] at ho16|(simp only [Int.reduceToNat] at ho16;rw [← Ny137.out] at ho16));replace HO_4:=mk0 (Kd.N_elder' (rN HO_4.out) (Kd.R_base ho16) hb);have HO139:=mk0 (Kd.R_lower (Kd.R_new' ho16 (Kd.R_lt (rR HO_18.out))) (kZ HB.out));replace HO_18:=mk0 (Kd.R_elder' (rR HO_18.out) (Kd.R_base ho16) hb);replace HB:=mk0 (kS HB.out hb);clear hb ho16;obtain⟨Ao17,co17,eo17⟩:=Kd.R_slice HO139.out;subst eo17)|((with_reducible refine gate_builtin (b:=.append) (xs:=#[.tmp 31,.tmp 41]) rfl ?_);at_builtin;refine Kd.N_append k61 (w0:=w) w.heap.size rfl (.tmp 31) (.tmp 41) 59 61 (.agg #[(.int .i64 0),(.int .i64 0),(.slice none 0 0)]) 40 rfl Try.underlying59 info61 rfl (by decide) (by omega) (.slice Ao14 x4_1.length co14) x4_1 (⟨rd l0 x5_1,(x4_1.length:Int),y137⟩:S61) [.int .i64 (rd l0 x5_1),.int .i64 (x4_1.length:Int),.slice Ao17 y137.length co17] (fun k_=>some k_ ≠ (v130:Value).ownBlock) (fun k_=>((fun k_=>some k_ ≠ (v130:Value).ownBlock)) k_ ∧ some k_ ≠ (.slice Ao14 x4_1.length co14:Value).ownBlock) rfl rfl ?aP (fun _ hk=>hk) ?aF ?aO ?aB ?aS ?aL ?_;(case aP=>exact (k61_mkF _ _ (⟨rd l0 x5_1,(x4_1.length:Int),y137⟩:S61) (Kd.R_reads' (Kd.R_mono (ok':=(fun k_=>((fun k_=>some k_ ≠ (v130:Value).ownBlock)) k_ ∧ some k_ ≠ (.slice Ao14 x4_1.length co14:Value).ownBlock)) (Kd.R_apart' (HO139.out) (Kd.N_typed HO_4.out) (by decide)) (fun k_ hk=>⟨hk.1.2,hk.2⟩))).2.1 (Kd.R_F (Kd.R_mono (ok':=(fun k_=>((fun k_=>some k_ ≠ (v130:Value).ownBlock)) k_ ∧ some k_ ≠ (.slice Ao14 x4_1.length co14:Value).ownBlock)) (Kd.R_apart' (HO139.out) (Kd.N_typed HO_4.out) (by decide)) (fun k_ hk=>⟨hk.1.2,hk.2⟩)))));(case aB=>exact (kB HB.out));(case aF=>exact (fun k_ hk=>Kd.fresh' (Kd.R_lt (rR HO_18.out)) k_ hk));(case aO=>exact (by (with_reducible repeat (first|apply aN|apply nN|apply dN));exact Kd.N_mono HO_4.out (by first|exact fun _ hk=>hk.1|(intro k_ hk;simp only [hk,ne_eq,and_self,not_false_eq_true]))));(case aS=>exact (kZ HB.out));(case aL=>have:=LMc13.out;omega);intro v141 w18 ho hb hg hat;rw [← Ny140.out] at ho;replace HO_18:=mk0 (Kd.R_over' (rR HO_18.out) (Kd.N_typed (rN HO_4.out)) (by decide) hg);replace HB:=mk0 (hb);have HO142:=mk0 (ho);clear HO_4 HO139 ho hb hg hat))
    go_roundg k1
    case measure=>have:=HK1.out;omega
    case rel=>exact⟨(y140),(wrap64 (x5_1 + 1)),(by first|rfl|(simp;done)|(simp [*];done)),H',⟨by have:=HK1.out;omega⟩,⟨rN HO142.out⟩,⟨rR (Kd.R_mono HO_18.out (fun _ hk=>trivial))⟩,⟨kB HB.out⟩⟩
   rw [if_neg c10] at H
   have c10b0:decide (x5_1 < (l0.length:Int)) = false:=decide_eq_false c10
   (try simp only [hl143_2] at c10b0)
   (try simp only [hl147_2] at c10b0)
   (try simp only [hl153_2] at c10b0)
   clear c10
   by_cases c19:(x4_1.length:Int) = 1
   ·rw [if_pos c19] at H
    have c19b0:((x4_1.length:Int) == 1) = true:=beq_iff_eq.mpr c19
    (try simp only [hl143_2] at c19b0)
    (try simp only [hl147_2] at c19b0)
    (try simp only [hl153_2] at c19b0)
    have c19b1:((x4_1.length:Int) != 1) = false:=bne_eq_false_iff_eq.mpr c19
    (try simp only [hl143_2] at c19b1)
    (try simp only [hl147_2] at c19b1)
    (try simp only [hl153_2] at c19b1)
    clear c19
    by_cases c20:0 < (x4_1.length:Int)
    rotate_left
    ·rw [if_neg c20] at H
     exact absurd H (by simp)
    rw [if_pos c20] at H
    have c20b0:decide (0 < (x4_1.length:Int)) = true:=decide_eq_true c20
    (try simp only [hl143_2] at c20b0)
    (try simp only [hl147_2] at c20b0)
    (try simp only [hl153_2] at c20b0)
    have c20b1:decide (0 < x4_1.length) = true:=decide_eq_true (by omega)
    (try simp only [hl143_2] at c20b1)
    (try simp only [hl147_2] at c20b1)
    (try simp only [hl153_2] at c20b1)
    clear c20
    by_cases c21:0 < (((rd_T61 x4_1 0).f2).length:Int)
    rotate_left
    ·rw [if_neg c21] at H
     exact absurd H (by simp)
    rw [if_pos c21] at H
    have c21b0:decide (0 < (((rd_T61 x4_1 0).f2).length:Int)) = true:=decide_eq_true c21
    (try simp only [hl143_2] at c21b0)
    (try simp only [hl147_2] at c21b0)
    (try simp only [hl153_2] at c21b0)
    have c21b1:decide (0 < ((rd_T61 x4_1 0).f2).length) = true:=decide_eq_true (by omega)
    (try simp only [hl143_2] at c21b1)
    (try simp only [hl147_2] at c21b1)
    (try simp only [hl153_2] at c21b1)
    clear c21
    by_cases c22:0 ≤ (rd ((rd_T61 x4_1 0).f2) 0)
    rotate_left
    ·rw [if_neg c22] at H
     exact absurd H (by simp)
    rw [if_pos c22] at H
    have c22b0:decide (0 ≤ (rd ((rd_T61 x4_1 0).f2) 0)) = true:=decide_eq_true c22
    clear c22
    by_cases c23:(rd ((rd_T61 x4_1 0).f2) 0) < (y129.length:Int)
    rotate_left
    ·rw [if_neg c23] at H
     exact absurd H (by simp)
    rw [if_pos c23] at H
    have c23b0:decide ((rd ((rd_T61 x4_1 0).f2) 0) < (y129.length:Int)) = true:=decide_eq_true c23
    (try simp only [hl143_2] at c23b0)
    (try simp only [hl147_2] at c23b0)
    (try simp only [hl153_2] at c23b0)
    clear c23
    obtain⟨y145,hy145⟩:∃ y_:List Int,y_ = (y129.set ((rd ((rd_T61 x4_1 0).f2) 0):Int).toNat 1):=⟨_,rfl⟩
    replace H:(some y145) = some r:=by first|(rw [hy145];with_reducible exact H)|(have H2_:=(Option.bind_some _ _).symm.trans H;rw [hy145];with_reducible exact H2_)|(have H2_:=(Option.bind_some _ _).symm.trans H;with_reducible exact H2_)|with_reducible exact H|(rw [hy145];exact H)|exact H
    have Ny145:=mk0 hy145
    clear hy145
    obtain rfl:=Option.some.inj H
    obtain⟨Ao25,co25,eo25⟩:=Kd.N_slice HO_4.out
    subst eo25
    have p143:0 ≤ (0:Int):=(by omega)
    have q143:0 < (x4_1.length:Int):=of_decide_eq_true (by first|(with_reducible assumption)|assumption)
    obtain⟨ad143,A143_2,c143_2,e143,hx143_0,hx143_1,hx143_2,hl143_2,hi143_2⟩:=at_T61 (Kd.N_reads' HO_4.out).2.2 0 p143 q143
    cases e143
    obtain⟨ce143,hce143,hMe143,hcc143⟩:=Kd.N_get HO_4.out z61 0 p143 (by first|exact q143|exact of_decide_eq_true (by first|(with_reducible assumption)|assumption)|(have e_:=(Kd.N_reads' HO_4.out).1;omega))
    obtain⟨ua143_2,uc143_2,rfl,ul143_2,ge143_2⟩:=k61_openF hMe143
    have hv143_2:=hcc143 2 _ rfl
    rw [add_field _ _ 2 (by omega)] at hv143_2
    replace hv143_2:=Option.some.inj (hv143_2.symm.trans hx143_2)
    injection hv143_2 with hva_ hvn_ hvc_
    rw [hva_] at ge143_2
    rw [hvc_] at ul143_2
    have HL143_2:=mk0 (show Kd.V (Kd.int .i64) 3 _ w.heap.size _ _ ((rd_T61 x4_1 0).f2) from Kd.V_mk ul143_2 ge143_2)
    clear hva_ hvn_ hvc_ ge143_2 ul143_2
    clear hcc143 hce143
    have qi143:(0 < x4_1.length) = True:=eq_true (by omega)
    (try rw [show ((0:Int)).toNat = 0 from rfl] at hx143_0)
    (try rw [show 0 * 3 = 0 from rfl] at hx143_0)
    (try rw [Addr.add_zero'] at hx143_0)
    (try rw [show ((0:Int)).toNat = 0 from rfl] at hx143_1)
    (try rw [show 0 * 3 = 0 from rfl] at hx143_1)
    (try rw [Addr.add_zero'] at hx143_1)
    (try rw [show ((0:Int)).toNat = 0 from rfl] at hx143_2)
    (try rw [show 0 * 3 = 0 from rfl] at hx143_2)
    (try rw [Addr.add_zero'] at hx143_2)
    have HR143_2:=mk0 hi143_2
    have HC143_2:=mk0 hl143_2
    clear hi143_2 hl143_2
    replace p143:=eq_true p143
    replace q143:=eq_true q143
    have p144:0 ≤ (0:Int):=(by omega)
    have q144:0 < (((rd_T61 x4_1 0).f2).length:Int):=of_decide_eq_true (by first|(with_reducible assumption)|assumption)
    obtain⟨ad144,e144,hx144_0⟩:=Kd.at_int (by repeat (first|(with_reducible exact HR143_2.out)|(with_reducible first|apply aC|apply nC|apply dC)|exact HR143_2.out|exact (Kd.V_reads' HL143_2.out).2.2)) 0 p144 q144
    cases e144
    have qi144:(0 < ((rd_T61 x4_1 0).f2).length) = True:=eq_true (by omega)
    (try rw [show ((0:Int)).toNat = 0 from rfl] at hx144_0)
    (try rw [Addr.add_zero'] at hx144_0)
    replace p144:=eq_true p144
    replace q144:=eq_true q144
    have p24:0 ≤ ((rd ((rd_T61 x4_1 0).f2) 0):Int):=of_decide_eq_true (by first|(with_reducible assumption)|assumption)
    have q24:((rd ((rd_T61 x4_1 0).f2) 0):Int) < ((y129.length:Int):Int):=of_decide_eq_true (by first|(with_reducible assumption)|assumption)
    obtain⟨go24,co24,eo24,gb24,gl24,cl24,HG24⟩:=Kd.R_form HO_18.out (by omega)
    (first|cases eo24|(injection eo24 with ea_ en_ ec_;(first|subst ea_|(injection ea_ with ea_;subst ea_));subst ec_;clear en_))
    have GB24:=mk0 gb24
    have GG24:=mk0 HG24
    clear gb24 gl24 HG24
    obtain⟨hx24_0,hf24_0⟩:=Kd.R_celln 0 HO_18.out ((rd ((rd_T61 x4_1 0).f2) 0):Int) p24 q24
    replace p24:=eq_true p24
    replace q24:=eq_true q24
    have HP26:=Kd.R_putg HO_18.out ((rd ((rd_T61 x4_1 0).f2) 0):Int) 1
    go_wp2_with (first|((with_reducible refine gate_store (t:=3) (p:=53) rfl ?_);refine store_event (t:=3) (p:=53) (v:=?vo_w27) (w1:=(wr.setCell ⟨go24,((rd ((rd_T61 x4_1 0).f2) 0):Int).toNat,none⟩ (.int .i64 1))) ?hg ?ho ?hn ?hr ?_;(case ho=>rfl);(case hg=>rfl);(case hn=>rfl);(case hr=>first|(go_simp;done)|(go_simp;rfl));intro w27 hw;have hg:wr.grownBy w27 (some go24):=(by rw [hw];exact HP26.2);have hp_:Kd.R (Kd.int .i64) 3 w27 w.heap.size (fun _=>True) (.slice (some ⟨go24,0,none⟩) y129.length co24) y145:=(by rw [hw,Ny145.out];exact HP26.1);clear HP26;replace HO_4:=mk0 (Kd.N_afterv (v:=(.slice (some ⟨go24,0,none⟩) y129.length co24)) (v1:=(.slice (some ⟨go24,0,none⟩) y129.length co24)) (ok:=(fun _=>True)) (rN (Kd.N_mono HO_4.out (fun _ hk=>⟨trivial,hk⟩))) hg (.inl rfl));replace HO_18:=mk0 (hp_);replace HL143_2:=mk0 (Kd.V_afterv (v:=(.slice (some ⟨go24,0,none⟩) y129.length co24)) (v1:=(.slice (some ⟨go24,0,none⟩) y129.length co24)) (ok:=(fun k_=>some k_ ≠ (.slice (some ad143) x4_1.length co25:Value).ownBlock)) (by (with_reducible repeat (first|apply aV|apply nV|apply dV));exact Kd.V_mono HL143_2.out (by first|exact fun _ hk=>⟨hk.2,hk.1⟩|(intro k_ hk;simp only [hk,ne_eq,and_self,not_false_eq_true]))) hg (.inl rfl));replace HB:=mk0 ((by rw [hw];exact sZ (HB.out) GB24.out:Below w.heap.size w w27));clear hg hw hp_))
    go_ret
    exact⟨_,by first|rfl|(simp [errW_none,errW_some] <;> rfl)|(simp [*,errW_none,errW_some] <;> rfl),rR HO_18.out,kB HB.out⟩
   rw [if_neg c19] at H
   have c19b0:((x4_1.length:Int) == 1) = false:=beq_eq_false_iff_ne.mpr c19
   (try simp only [hl143_2] at c19b0)
   (try simp only [hl147_2] at c19b0)
   (try simp only [hl153_2] at c19b0)
   have c19b1:((x4_1.length:Int) != 1) = true:=bne_iff_ne.mpr c19
   (try simp only [hl143_2] at c19b1)
   (try simp only [hl147_2] at c19b1)
   (try simp only [hl153_2] at c19b1)
   have H':=mk0 H
   clear H
   obtain⟨Ao28,co28,eo28⟩:=Kd.N_slice HO_4.out
   subst eo28
   go_wp2
   go_loopg [4,6] k1 (fun kq v4 v6 w'=>∃ (x4_2:List (S61)) (x6_2:Int) (x18_2:List Int),v6 = .int .i64 x6_2 ∧ Aside0 (spec_HuffLens.l1 kq x4_2 x6_2 x18_2 = some r) ∧ Aside0 (kq ≤ k1) ∧ Aside0 (Kd.N k61 61 w' w.heap.size (fun k_=>some k_ ≠ (v130:Value).ownBlock) v4 x4_2) ∧ Aside0 (Kd.R (Kd.int .i64) 3 w' w.heap.size (fun _=>True) v130 x18_2) ∧ Aside0 (Below w.heap.size w w'))
   case atStart=>exact⟨(x4_1),((x4_1.length:Int)),(y129),(by first|rfl|(simp;done)|(simp [*];done)),H',⟨Nat.le_refl _⟩,⟨rN HO_4.out⟩,⟨rR HO_18.out⟩,⟨kB HB.out⟩⟩
   case round =>
    clear H'
    try clear c1
    try clear p1
    try clear q1
    try clear hx1
    try clear qi1
    try clear c2
    try clear p2
    try clear q2
    try clear hx2
    try clear hf2
    try clear c3
    try clear c4
    try clear c4b0
    try clear c4b1
    try clear c5
    try clear c5b0
    try clear c5b1
    try clear p6
    try clear c10
    try clear c10b0
    try clear c11
    try clear c11b0
    try clear c12
    try clear c12b0
    try clear c13
    try clear p13
    try clear q13
    try clear hx13
    try clear c14
    try clear p14
    try clear q14
    try clear hx14
    try clear qi14
    try clear c19
    try clear c19b0
    try clear c19b1
    try clear c20
    try clear c20b0
    try clear c20b1
    try clear c21
    try clear c21b0
    try clear c21b1
    try clear c22
    try clear c22b0
    try clear c23
    try clear c23b0
    try clear p24
    try clear q24
    try clear hx24
    try clear hf24
    try clear hx135_0
    try clear hx136_0
    try clear hx143_0
    try clear hx143_1
    try clear hx143_2
    try clear hx144_0
    try clear hx24_0
    try clear p135
    try clear p136
    try clear p143
    try clear p144
    try clear p2
    try clear p24
    try clear q135
    try clear q136
    try clear q143
    try clear q144
    try clear q24
    obtain⟨x4_2,x6_2,x18_2,rfl,HA,HK2,HO_4,HO_18,HB⟩:=hrel
    cases gk with
    | zero=>exact absurd HA.out (by simp [spec_HuffLens.l1])
    | succ k2 =>
     have H:=HA.out
     clear HA
     simp only [spec_HuffLens.l1] at H
     by_cases c29:(x4_2.length:Int) > 1
     rotate_left
     ·rw [if_neg c29] at H
      have c29b0:decide (1 < (x4_2.length:Int)) = false:=decide_eq_false c29
      (try simp only [hl143_2] at c29b0)
      (try simp only [hl147_2] at c29b0)
      (try simp only [hl153_2] at c29b0)
      have c29b1:decide (1 < x4_2.length) = false:=decide_eq_false (by omega)
      (try simp only [hl143_2] at c29b1)
      (try simp only [hl147_2] at c29b1)
      (try simp only [hl153_2] at c29b1)
      clear c29
      obtain rfl:=Option.some.inj H
      obtain⟨Ao71,co71,eo71⟩:=Kd.N_slice HO_4.out
      subst eo71
      go_wp2
      go_ret
      exact⟨_,by first|rfl|(simp [errW_none,errW_some] <;> rfl)|(simp [*,errW_none,errW_some] <;> rfl),rR HO_18.out,kB HB.out⟩
     rw [if_pos c29] at H
     have c29b0:decide (1 < (x4_2.length:Int)) = true:=decide_eq_true c29
     (try simp only [hl143_2] at c29b0)
     (try simp only [hl147_2] at c29b0)
     (try simp only [hl153_2] at c29b0)
     have c29b1:decide (1 < x4_2.length) = true:=decide_eq_true (by omega)
     (try simp only [hl143_2] at c29b1)
     (try simp only [hl147_2] at c29b1)
     (try simp only [hl153_2] at c29b1)
     clear c29
     replace H:=Option.bind_eq_some_iff.mp H
     obtain⟨t146,A300,H⟩:=H
     replace H:(if 0 ≤ t146 then (if t146 < (x4_2.length:Int) then ((spec_l08Without.f x4_2 t146).bind fun t149=>((spec_l08Least.f k2 t149).bind fun t152=>(if 0 ≤ t152 then (if t152 < (t149.length:Int) then ((spec_l08Without.f t149 t152).bind fun t155=>((some (([]:List Int):List Int)).bind fun y158=>(if y158.length + ((rd_T61 x4_2 t146).f2).length < 17592186044416 then ((some (y158 ++ ((rd_T61 x4_2 t146).f2):List Int)).bind fun y161=>(if y161.length + ((rd_T61 t149 t152).f2).length < 17592186044416 then (spec_HuffLens.l2 k2 t155 x6_2 0 x18_2 (y161 ++ ((rd_T61 t149 t152).f2)) ((rd_T61 x4_2 t146).f0) ((rd_T61 x4_2 t146).f1) ((rd_T61 x4_2 t146).f2) ((rd_T61 t149 t152).f0) ((rd_T61 t149 t152).f1) ((rd_T61 t149 t152).f2)) else (none))) else (none)))) else (none)) else (none)))) else (none)) else (none)) = some r:=H
     have A30:=mk0 A300
     clear A300
     by_cases c31:0 ≤ t146
     rotate_left
     ·rw [if_neg c31] at H
      exact absurd H (by simp)
     rw [if_pos c31] at H
     have c31b0:decide (0 ≤ t146) = true:=decide_eq_true c31
     clear c31
     by_cases c32:t146 < (x4_2.length:Int)
     rotate_left
     ·rw [if_neg c32] at H
      exact absurd H (by simp)
     rw [if_pos c32] at H
     have c32b0:decide (t146 < (x4_2.length:Int)) = true:=decide_eq_true c32
     (try simp only [hl143_2] at c32b0)
     (try simp only [hl147_2] at c32b0)
     (try simp only [hl153_2] at c32b0)
     clear c32
     replace H:=Option.bind_eq_some_iff.mp H
     obtain⟨t149,A330,H⟩:=H
     replace H:((spec_l08Least.f k2 t149).bind fun t152=>(if 0 ≤ t152 then (if t152 < (t149.length:Int) then ((spec_l08Without.f t149 t152).bind fun t155=>((some (([]:List Int):List Int)).bind fun y158=>(if y158.length + ((rd_T61 x4_2 t146).f2).length < 17592186044416 then ((some (y158 ++ ((rd_T61 x4_2 t146).f2):List Int)).bind fun y161=>(if y161.length + ((rd_T61 t149 t152).f2).length < 17592186044416 then (spec_HuffLens.l2 k2 t155 x6_2 0 x18_2 (y161 ++ ((rd_T61 t149 t152).f2)) ((rd_T61 x4_2 t146).f0) ((rd_T61 x4_2 t146).f1) ((rd_T61 x4_2 t146).f2) ((rd_T61 t149 t152).f0) ((rd_T61 t149 t152).f1) ((rd_T61 t149 t152).f2)) else (none))) else (none)))) else (none)) else (none))) = some r:=H
     have A33:=mk0 A330
     clear A330
     replace H:=Option.bind_eq_some_iff.mp H
     obtain⟨t152,A340,H⟩:=H
     replace H:(if 0 ≤ t152 then (if t152 < (t149.length:Int) then ((spec_l08Without.f t149 t152).bind fun t155=>((some (([]:List Int):List Int)).bind fun y158=>(if y158.length + ((rd_T61 x4_2 t146).f2).length < 17592186044416 then ((some (y158 ++ ((rd_T61 x4_2 t146).f2):List Int)).bind fun y161=>(if y161.length + ((rd_T61 t149 t152).f2).length < 17592186044416 then (spec_HuffLens.l2 k2 t155 x6_2 0 x18_2 (y161 ++ ((rd_T61 t149 t152).f2)) ((rd_T61 x4_2 t146).f0) ((rd_T61 x4_2 t146).f1) ((rd_T61 x4_2 t146).f2) ((rd_T61 t149 t152).f0) ((rd_T61 t149 t152).f1) ((rd_T61 t149 t152).f2)) else (none))) else (none)))) else (none)) else (none)) = some r:=H
     have A34:=mk0 A340
     clear A340
     by_cases c35:0 ≤ t152
     rotate_left
     ·rw [if_neg c35] at H
      exact absurd H (by simp)
     rw [if_pos c35] at H
     have c35b0:decide (0 ≤ t152) = true:=decide_eq_true c35
     clear c35
     by_cases c36:t152 < (t149.length:Int)
     rotate_left
     ·rw [if_neg c36] at H
      exact absurd H (by simp)
     rw [if_pos c36] at H
     have c36b0:decide (t152 < (t149.length:Int)) = true:=decide_eq_true c36
     (try simp only [hl143_2] at c36b0)
     (try simp only [hl147_2] at c36b0)
     (try simp only [hl153_2] at c36b0)
     clear c36
     replace H:=Option.bind_eq_some_iff.mp H
     obtain⟨t155,A370,H⟩:=H
     replace H:((some (([]:List Int):List Int)).bind fun y158=>(if y158.length + ((rd_T61 x4_2 t146).f2).length < 17592186044416 then ((some (y158 ++ ((rd_T61 x4_2 t146).f2):List Int)).bind fun y161=>(if y161.length + ((rd_T61 t149 t152).f2).length < 17592186044416 then (spec_HuffLens.l2 k2 t155 x6_2 0 x18_2 (y161 ++ ((rd_T61 t149 t152).f2)) ((rd_T61 x4_2 t146).f0) ((rd_T61 x4_2 t146).f1) ((rd_T61 x4_2 t146).f2) ((rd_T61 t149 t152).f0) ((rd_T61 t149 t152).f1) ((rd_T61 t149 t152).f2)) else (none))) else (none))) = some r:=H
     have A37:=mk0 A370
     clear A370
     obtain⟨y158,hy158⟩:∃ y_:List Int,y_ = (([]:List Int)):=⟨_,rfl⟩
     replace H:(if y158.length + ((rd_T61 x4_2 t146).f2).length < 17592186044416 then ((some (y158 ++ ((rd_T61 x4_2 t146).f2):List Int)).bind fun y161=>(if y161.length + ((rd_T61 t149 t152).f2).length < 17592186044416 then (spec_HuffLens.l2 k2 t155 x6_2 0 x18_2 (y161 ++ ((rd_T61 t149 t152).f2)) ((rd_T61 x4_2 t146).f0) ((rd_T61 x4_2 t146).f1) ((rd_T61 x4_2 t146).f2) ((rd_T61 t149 t152).f0) ((rd_T61 t149 t152).f1) ((rd_T61 t149 t152).f2)) else (none))) else (none)) = some r:=by first|(rw [hy158];with_reducible exact H)|(have H2_:=(Option.bind_some _ _).symm.trans H;rw [hy158];with_reducible exact H2_)|(have H2_:=(Option.bind_some _ _).symm.trans H;with_reducible exact H2_)|with_reducible exact H|(rw [hy158];exact H)|exact H
     have Ny158:=mk0 hy158
     clear hy158
     by_cases c38:y158.length + ((rd_T61 x4_2 t146).f2).length < 17592186044416
     rotate_left
     ·rw [if_neg c38] at H
      exact absurd H (by simp)
     rw [if_pos c38] at H
     have LMc38:=mk0 c38
     clear c38
     obtain⟨y161,hy161⟩:∃ y_:List Int,y_ = (y158 ++ ((rd_T61 x4_2 t146).f2)):=⟨_,rfl⟩
     replace H:(if y161.length + ((rd_T61 t149 t152).f2).length < 17592186044416 then (spec_HuffLens.l2 k2 t155 x6_2 0 x18_2 (y161 ++ ((rd_T61 t149 t152).f2)) ((rd_T61 x4_2 t146).f0) ((rd_T61 x4_2 t146).f1) ((rd_T61 x4_2 t146).f2) ((rd_T61 t149 t152).f0) ((rd_T61 t149 t152).f1) ((rd_T61 t149 t152).f2)) else (none)) = some r:=by first|(rw [hy161];with_reducible exact H)|(have H2_:=(Option.bind_some _ _).symm.trans H;rw [hy161];with_reducible exact H2_)|(have H2_:=(Option.bind_some _ _).symm.trans H;with_reducible exact H2_)|with_reducible exact H|(rw [hy161];exact H)|exact H
     have Ny161:=mk0 hy161
     clear hy161
     by_cases c39:y161.length + ((rd_T61 t149 t152).f2).length < 17592186044416
     rotate_left
     ·rw [if_neg c39] at H
      exact absurd H (by simp)
     rw [if_pos c39] at H
     have LMc39:=mk0 c39
     clear c39
     obtain⟨y164,hy164⟩:∃ y_:List Int,y_ = (y161 ++ ((rd_T61 t149 t152).f2)):=⟨_,rfl⟩
     replace H:(spec_HuffLens.l2 k2 t155 x6_2 0 x18_2 y164 ((rd_T61 x4_2 t146).f0) ((rd_T61 x4_2 t146).f1) ((rd_T61 x4_2 t146).f2) ((rd_T61 t149 t152).f0) ((rd_T61 t149 t152).f1) ((rd_T61 t149 t152).f2)) = some r:=by first|(rw [hy164];with_reducible exact H)|(have H2_:=(Option.bind_some _ _).symm.trans H;rw [hy164];with_reducible exact H2_)|(have H2_:=(Option.bind_some _ _).symm.trans H;with_reducible exact H2_)|with_reducible exact H|(rw [hy164];exact H)|exact H
     have Ny164:=mk0 hy164
     clear hy164
     have H':=mk0 H
     clear H
     obtain⟨Ao40,co40,eo40⟩:=Kd.N_slice HO_4.out
     subst eo40
     try go_wp2_with (first|((with_reducible refine gate_callee (f:=51) rfl ?_);refine goesL_ (some 61) rfl rfl Try.func51 (by kernel_rfl) rfl #[.slice Ao40 x4_2.length co40] rfl (by (try simp only [mA,mC,mN]);first|done|rfl|(simp only [List.length_drop,List.length_take];done)|(simp only [List.length_drop,List.length_take];rfl)) ?_;(with_reducible refine (spec_l08Least.calls k2 _ _ x4_2 t146 _ ?side1 ?side2 A30.out).mono ?_);(case side1=>exact kC (Kd.N_reads' HO_4.out).2.2);(case side2=>exact (Kd.N_reads' HO_4.out).2.1);rintro e w' ⟨rfl,⟨nd,rfl⟩⟩;refine⟨_,rfl,?_⟩;(try (rw [drewN_self wr];generalize hq_:World.drewN wr _ = wr;have n0_:Aside0 (Kd.R (Kd.int .i64) 3 wr w.heap.size (fun _=>True) v130 x18_2):=⟨by rw [← hq_];exact (rR HO_18.out)⟩;have n1_:Aside0 (Kd.N k61 61 wr w.heap.size (fun k_=>some k_ ≠ (v130:Value).ownBlock) (.slice Ao40 x4_2.length co40) x4_2):=⟨by rw [← hq_];exact (rN HO_4.out)⟩;have n2_:Aside0 (Below w.heap.size w wr):=⟨by rw [← hq_];exact (kB HB.out)⟩;clear HO_18 HO_4 HB hq_;have HO_18:=n0_;have HO_4:=n1_;have HB:=n2_;clear n0_ n1_ n2_));have p147:0 ≤ (t146:Int):=of_decide_eq_true (by first|(with_reducible assumption)|assumption);have q147:t146 < (x4_2.length:Int):=of_decide_eq_true (by first|(with_reducible assumption)|assumption);obtain⟨ad147,A147_2,c147_2,e147,hx147_0,hx147_1,hx147_2,hl147_2,hi147_2⟩:=at_T61 (Kd.N_reads' HO_4.out).2.2 t146 p147 q147;cases e147;obtain⟨ce147,hce147,hMe147,hcc147⟩:=Kd.N_get HO_4.out z61 t146 p147 (by first|exact q147|exact of_decide_eq_true (by first|(with_reducible assumption)|assumption)|(have e_:=(Kd.N_reads' HO_4.out).1;omega));obtain⟨ua147_2,uc147_2,rfl,ul147_2,ge147_2⟩:=k61_openF hMe147;have hv147_2:=hcc147 2 _ rfl;rw [add_field _ _ 2 (by omega)] at hv147_2;replace hv147_2:=Option.some.inj (hv147_2.symm.trans hx147_2);injection hv147_2 with hva_ hvn_ hvc_;rw [hva_] at ge147_2;rw [hvc_] at ul147_2;have HL147_2:=mk0 (show Kd.V (Kd.int .i64) 3 _ w.heap.size _ _ ((rd_T61 x4_2 t146).f2) from Kd.V_mk ul147_2 ge147_2);clear hva_ hvn_ hvc_ ge147_2 ul147_2 hcc147 hce147;have HR147_2:=mk0 hi147_2;have HC147_2:=mk0 hl147_2;clear hi147_2 hl147_2;replace p147:=eq_true p147;replace q147:=eq_true q147)|((with_reducible refine gate_dst (N:=8) rfl ?_);refine box_event ?hg (N:=8) ?hd (cs:=#[.int .i64 0,.int .i64 0,.slice none 0 0]) (t:=61) ?hr ?_;(case hd=>rfl);(case hg=>rfl);(case hr=>first|(go_simp;done)|(go_simp;rfl));intro gb148 hg w41 hbox hb;replace HO_4:=mk0 (Kd.N_below (Kd.N_elderB (rN HO_4.out) gb148 (Nat.le_of_eq hg.symm)) hb);replace HO_18:=mk0 (bR HO_18.out hb);replace HR147_2:=mk0 (Kd.C_below (by repeat (first|(with_reducible exact HR147_2.out)|(with_reducible first|apply aC|apply nC|apply dC)|exact HR147_2.out|exact (Kd.V_reads' HL147_2.out).2.2)) hb);replace HL147_2:=mk0 (Kd.V_below (Kd.V_elderB (rV HL147_2.out) gb148 (Nat.le_of_eq hg.symm)) hb);have BK148:=mk0 (hbox);have GW148:=mk0 ((by rw [hg];exact (kZ HB.out):w.heap.size ≤ gb148));have GE148:=mk0 ((by rw [hg];exact (kZ HB.out):w.heap.size ≤ gb148));replace HB:=mk0 (kS HB.out hb);clear hb hbox hg;obtain⟨hcz42_0,hcz42_1,hcz42_2,hfz42_0,hfz42_1,hfz42_2⟩:=cz3 BK148.out)|((with_reducible refine gate_store (t:=61) (p:=8) rfl ?_);refine store_event (t:=61) (p:=8) (v:=?vo_w43) (w1:=(((w41.setCell ⟨gb148,0,none⟩ (.int .i64 ((rd_T61 x4_2 t146).f0))).setCell ⟨gb148,1,none⟩ (.int .i64 ((rd_T61 x4_2 t146).f1))).setCell ⟨gb148,2,none⟩ (.slice A147_2 ((rd_T61 x4_2 t146).f2).length c147_2))) ?hg ?ho ?hn ?hr ?_;(case ho=>rfl);(case hg=>rfl);(case hn=>rfl);(case hr=>first|(go_simp;done)|(go_simp;rfl));intro w43 hw;have n0_:Aside0 (Kd.N k61 61 w43 w.heap.size (fun k_=>some k_ ≠ (v130:Value).ownBlock ∧ k_ ≠ gb148) (.slice (some ad147) x4_2.length co40) x4_2):=⟨(by rw [hw];exact (by (with_reducible repeat (first|apply aN|apply nN|apply dN));exact Kd.N_mono (Kd.N_far (p:=⟨gb148,2,none⟩) (Kd.N_far (p:=⟨gb148,1,none⟩) (Kd.N_far (p:=⟨gb148,0,none⟩) (Kd.N_mono HO_4.out (fun k_ hk=>(⟨hk,hk.2⟩:_ ∧ k_ ≠ gb148))) (by first|exact fun _ hk=>hk.2|(intro k_ hk;simp only [hk,ne_eq,and_self,not_false_eq_true])) (.int .i64 ((rd_T61 x4_2 t146).f0))) (by first|exact fun _ hk=>hk.2|(intro k_ hk;simp only [hk,ne_eq,and_self,not_false_eq_true])) (.int .i64 ((rd_T61 x4_2 t146).f1))) (by first|exact fun _ hk=>hk.2|(intro k_ hk;simp only [hk,ne_eq,and_self,not_false_eq_true])) (.slice A147_2 ((rd_T61 x4_2 t146).f2).length c147_2)) (by first|exact fun _ hk=>⟨hk.1.1,hk.1.2⟩|(intro k_ hk;simp only [hk,ne_eq,and_self,not_false_eq_true]))))⟩;have n1_:Aside0 (Kd.R (Kd.int .i64) 3 w43 w.heap.size (fun _=>True) v130 x18_2):=⟨(by rw [hw];exact (by (with_reducible repeat (first|apply aR|apply nR|apply dR));exact Kd.R_mono (Kd.R_far (p:=⟨gb148,2,none⟩) (Kd.R_far (p:=⟨gb148,1,none⟩) (Kd.R_far (p:=⟨gb148,0,none⟩) (Kd.R_types HO_18.out BK148.out (by decide)) (by first|exact fun _ hk=>hk.2|(intro k_ hk;simp only [hk,ne_eq,and_self,not_false_eq_true])) (.int .i64 ((rd_T61 x4_2 t146).f0))) (by first|exact fun _ hk=>hk.2|(intro k_ hk;simp only [hk,ne_eq,and_self,not_false_eq_true])) (.int .i64 ((rd_T61 x4_2 t146).f1))) (by first|exact fun _ hk=>hk.2|(intro k_ hk;simp only [hk,ne_eq,and_self,not_false_eq_true])) (.slice A147_2 ((rd_T61 x4_2 t146).f2).length c147_2)) (fun _ hk=>trivial)))⟩;have n2_:Aside0 (Kd.V (Kd.int .i64) 3 w43 w.heap.size (fun k_=>some k_ ≠ (.slice (some ad147) x4_2.length co40:Value).ownBlock ∧ some k_ ≠ (v130:Value).ownBlock ∧ k_ ≠ gb148) (.slice A147_2 ((rd_T61 x4_2 t146).f2).length c147_2) ((rd_T61 x4_2 t146).f2)):=⟨(by rw [hw];exact (by (with_reducible repeat (first|apply aV|apply nV|apply dV));exact Kd.V_mono (Kd.V_far (p:=⟨gb148,2,none⟩) (Kd.V_far (p:=⟨gb148,1,none⟩) (Kd.V_far (p:=⟨gb148,0,none⟩) (Kd.V_mono HL147_2.out (fun k_ hk=>(⟨hk,hk.2⟩:_ ∧ k_ ≠ gb148))) (by first|exact fun _ hk=>hk.2|(intro k_ hk;simp only [hk,ne_eq,and_self,not_false_eq_true])) (.int .i64 ((rd_T61 x4_2 t146).f0))) (by first|exact fun _ hk=>hk.2|(intro k_ hk;simp only [hk,ne_eq,and_self,not_false_eq_true])) (.int .i64 ((rd_T61 x4_2 t146).f1))) (by first|exact fun _ hk=>hk.2|(intro k_ hk;simp only [hk,ne_eq,and_self,not_false_eq_true])) (.slice A147_2 ((rd_T61 x4_2 t146).f2).length c147_2)) (by first|exact fun _ hk=>⟨hk.1.1.2,⟨hk.1.1.1,hk.1.2⟩⟩|(intro k_ hk;simp only [hk,ne_eq,and_self,not_false_eq_true]))))⟩;have n3_:Aside0 (w43.heap[gb148]? = some (.cells #[.int .i64 ((rd_T61 x4_2 t146).f0),.int .i64 ((rd_T61 x4_2 t146).f1),.slice A147_2 ((rd_T61 x4_2 t146).f2).length c147_2] 61 (0,0))):=⟨(by rw [hw];exact (by (with_reducible repeat (first|apply nB|apply dB|apply aB));refine blk_put (cs:=#[.int .i64 ((rd_T61 x4_2 t146).f0),.int .i64 ((rd_T61 x4_2 t146).f1),.slice none 0 0]) ?_ 2 _ rfl;(with_reducible repeat (first|apply nB|apply dB|apply aB));refine blk_put (cs:=#[.int .i64 ((rd_T61 x4_2 t146).f0),.int .i64 0,.slice none 0 0]) ?_ 1 _ rfl;(with_reducible repeat (first|apply nB|apply dB|apply aB));refine blk_put (cs:=#[.int .i64 0,.int .i64 0,.slice none 0 0]) ?_ 0 _ rfl;(with_reducible repeat (first|apply nB|apply dB|apply aB));exact BK148.out))⟩;have n4_:Aside0 (Below w.heap.size w w43):=⟨(by rw [hw];exact (kB HB.out))⟩;clear hw HO_4 HO_18 HL147_2 BK148 HB;have HO_4:=n0_;have HO_18:=n1_;have HL147_2:=n2_;have BK148:=n3_;have HB:=n4_;clear n0_ n1_ n2_ n3_ n4_)|((with_reducible refine gate_callee (f:=52) rfl ?_);refine goesL_ (some 68) rfl rfl Try.func52 (by kernel_rfl) rfl #[.slice (some ad147) x4_2.length co40,.int .i64 t146] rfl (by (try simp only [mA,mC,mN]);first|done|rfl|(simp only [List.length_drop,List.length_take];done)|(simp only [List.length_drop,List.length_take];rfl)) ?_;(with_reducible refine (spec_l08Without.calls (fun k_=>(some k_ ≠ (v130:Value).ownBlock ∧ k_ ≠ gb148)) _ _ x4_2 t146 t149 _ ?side1 A33.out).mono ?_);(case side1=>exact Kd.N_V (HO_4.out));rintro e w44 ⟨v150,rfl,ho0,hb⟩;refine⟨_,rfl,?_⟩;replace HO_4:=mk0 (Kd.N_elder' (rN HO_4.out) (Kd.N_base ho0) hb);have HO151:=mk0 (Kd.N_lower (Kd.N_mono (ok':=fun k_=>some k_ ≠ (v130:Value).ownBlock ∧ k_ ≠ gb148) ho0 (fun k_ hk_=>⟨Or.elim hk_ (fun hs_=>hs_.1) (fun hn_=>(Kd.fresh' (Kd.R_lt (rR HO_18.out)) k_ hn_)),Or.elim hk_ (fun hs_=>hs_.2) (fun hn_=>(Kd.freshB (g:=gb148) (kN BK148.out) k_ hn_))⟩)) (kZ HB.out));replace HO_18:=mk0 (bR HO_18.out hb);replace HR147_2:=mk0 (Kd.C_below (by repeat (first|(with_reducible exact HR147_2.out)|(with_reducible first|apply aC|apply nC|apply dC)|exact HR147_2.out|exact (Kd.V_reads' HL147_2.out).2.2)) hb);replace HL147_2:=mk0 (Kd.V_elder' (rV HL147_2.out) (Kd.N_base ho0) hb);replace BK148:=mk0 (kK BK148.out hb);replace HB:=mk0 (kS HB.out hb);(try clear hb);(try clear ho0);obtain⟨Ao45,co45,eo45⟩:=Kd.N_slice HO151.out;subst eo45)|((with_reducible refine gate_callee (f:=51) rfl ?_);refine goesL_ (some 70) rfl rfl Try.func51 (by kernel_rfl) rfl #[.slice Ao45 t149.length co45] rfl (by (try simp only [mA,mC,mN]);first|done|rfl|(simp only [List.length_drop,List.length_take];done)|(simp only [List.length_drop,List.length_take];rfl)) ?_;(with_reducible refine (spec_l08Least.calls k2 _ _ t149 t152 _ ?side1 ?side2 A34.out).mono ?_);(case side1=>exact kC (Kd.N_reads' HO151.out).2.2);(case side2=>exact (Kd.N_reads' HO151.out).2.1);rintro e w' ⟨rfl,⟨nd,rfl⟩⟩;refine⟨_,rfl,?_⟩;(try (rw [drewN_self w44];generalize hq_:World.drewN w44 _ = w44;have n0_:Aside0 (Kd.V (Kd.int .i64) 3 w44 w.heap.size (fun k_=>some k_ ≠ (.slice Ao45 t149.length co45:Value).ownBlock ∧ some k_ ≠ (v130:Value).ownBlock ∧ some k_ ≠ (.slice (some ad147) x4_2.length co40:Value).ownBlock ∧ k_ ≠ gb148) (.slice A147_2 ((rd_T61 x4_2 t146).f2).length c147_2) ((rd_T61 x4_2 t146).f2)):=⟨by rw [← hq_];exact (by (with_reducible repeat (first|apply aV|apply nV|apply dV));exact Kd.V_mono HL147_2.out (by first|exact fun _ hk=>⟨hk.2,⟨hk.1.2.1,⟨hk.1.1,hk.1.2.2⟩⟩⟩|(intro k_ hk;simp only [hk,ne_eq,and_self,not_false_eq_true])))⟩;have n1_:Aside0 (Kd.N k61 61 w44 w.heap.size (fun k_=>some k_ ≠ (v130:Value).ownBlock ∧ k_ ≠ gb148) (.slice Ao45 t149.length co45) t149):=⟨by rw [← hq_];exact (rN HO151.out)⟩;have n2_:Aside0 (Kd.R (Kd.int .i64) 3 w44 w.heap.size (fun _=>True) v130 x18_2):=⟨by rw [← hq_];exact (rR HO_18.out)⟩;have n3_:Aside0 (Kd.N k61 61 w44 w.heap.size (fun k_=>some k_ ≠ (.slice Ao45 t149.length co45:Value).ownBlock ∧ some k_ ≠ (v130:Value).ownBlock ∧ k_ ≠ gb148) (.slice (some ad147) x4_2.length co40) x4_2):=⟨by rw [← hq_];exact (by (with_reducible repeat (first|apply aN|apply nN|apply dN));exact Kd.N_mono HO_4.out (by first|exact fun _ hk=>⟨hk.2,⟨hk.1.1,hk.1.2⟩⟩|(intro k_ hk;simp only [hk,ne_eq,and_self,not_false_eq_true])))⟩;have n4_:Aside0 (w44.heap[gb148]? = some (.cells #[.int .i64 ((rd_T61 x4_2 t146).f0),.int .i64 ((rd_T61 x4_2 t146).f1),.slice A147_2 ((rd_T61 x4_2 t146).f2).length c147_2] 61 (0,0))):=⟨by rw [← hq_];exact (kN BK148.out)⟩;have n5_:Aside0 (Below w.heap.size w w44):=⟨by rw [← hq_];exact (kB HB.out)⟩;have n6_:Aside0 (Kd.C (Kd.int .i64) w44 A147_2 ((rd_T61 x4_2 t146).f2).length ((rd_T61 x4_2 t146).f2)):=⟨by rw [← hq_];exact (by repeat (first|(with_reducible exact HR147_2.out)|(with_reducible first|apply aC|apply nC|apply dC)|exact HR147_2.out|exact (Kd.V_reads' HL147_2.out).2.2))⟩;clear HL147_2 HO151 HO_18 HO_4 BK148 HB HR147_2 hq_;have HL147_2:=n0_;have HO151:=n1_;have HO_18:=n2_;have HO_4:=n3_;have BK148:=n4_;have HB:=n5_;have HR147_2:=n6_;clear n0_ n1_ n2_ n3_ n4_ n5_ n6_));have p153:0 ≤ (t152:Int):=of_decide_eq_true (by first|(with_reducible assumption)|assumption);have q153:t152 < (t149.length:Int):=of_decide_eq_true (by first|(with_reducible assumption)|assumption);obtain⟨ad153,A153_2,c153_2,e153,hx153_0,hx153_1,hx153_2,hl153_2,hi153_2⟩:=at_T61 (Kd.N_reads' HO151.out).2.2 t152 p153 q153;cases e153;obtain⟨ce153,hce153,hMe153,hcc153⟩:=Kd.N_get HO151.out z61 t152 p153 (by first|exact q153|exact of_decide_eq_true (by first|(with_reducible assumption)|assumption)|(have e_:=(Kd.N_reads' HO151.out).1;omega));obtain⟨ua153_2,uc153_2,rfl,ul153_2,ge153_2⟩:=k61_openF hMe153;have hv153_2:=hcc153 2 _ rfl;rw [add_field _ _ 2 (by omega)] at hv153_2;replace hv153_2:=Option.some.inj (hv153_2.symm.trans hx153_2);injection hv153_2 with hva_ hvn_ hvc_;rw [hva_] at ge153_2;rw [hvc_] at ul153_2;have HL153_2:=mk0 (show Kd.V (Kd.int .i64) 3 _ w.heap.size _ _ ((rd_T61 t149 t152).f2) from Kd.V_mk ul153_2 ge153_2);clear hva_ hvn_ hvc_ ge153_2 ul153_2 hcc153 hce153;have HR153_2:=mk0 hi153_2;have HC153_2:=mk0 hl153_2;clear hi153_2 hl153_2;replace p153:=eq_true p153;replace q153:=eq_true q153)|((with_reducible refine gate_dst (N:=10) rfl ?_);refine box_event ?hg (N:=10) ?hd (cs:=#[.int .i64 0,.int .i64 0,.slice none 0 0]) (t:=61) ?hr ?_;(case hd=>rfl);(case hg=>rfl);(case hr=>first|(go_simp;done)|(go_simp;rfl));intro gb154 hg w46 hbox hb;replace HO_4:=mk0 (Kd.N_below (Kd.N_elderB (rN HO_4.out) gb154 (Nat.le_of_eq hg.symm)) hb);replace HO_18:=mk0 (bR HO_18.out hb);replace HO151:=mk0 (Kd.N_below (Kd.N_elderB (rN HO151.out) gb154 (Nat.le_of_eq hg.symm)) hb);replace HR147_2:=mk0 (Kd.C_below (by repeat (first|(with_reducible exact HR147_2.out)|(with_reducible first|apply aC|apply nC|apply dC)|exact HR147_2.out|exact (Kd.V_reads' HL147_2.out).2.2)) hb);replace HL147_2:=mk0 (Kd.V_below (Kd.V_elderB (rV HL147_2.out) gb154 (Nat.le_of_eq hg.symm)) hb);replace HR153_2:=mk0 (Kd.C_below (by repeat (first|(with_reducible exact HR153_2.out)|(with_reducible first|apply aC|apply nC|apply dC)|exact HR153_2.out|exact (Kd.V_reads' HL153_2.out).2.2)) hb);replace HL153_2:=mk0 (Kd.V_below (Kd.V_elderB (rV HL153_2.out) gb154 (Nat.le_of_eq hg.symm)) hb);have BK154:=mk0 (hbox);have GW154:=mk0 ((by rw [hg];exact (kZ HB.out):w.heap.size ≤ gb154));have GE154:=mk0 ((by rw [hg];exact (kZ HB.out):w.heap.size ≤ gb154));replace HB:=mk0 (kS HB.out hb);have NB148_154:=mk0 ((by rw [hg];exact Nat.ne_of_lt (kL BK148.out):gb148 ≠ gb154));have NB154_148:=mk0 ((by rw [hg];exact Nat.ne_of_gt (kL BK148.out):gb154 ≠ gb148));replace BK148:=mk0 (kK BK148.out hb);clear hb hbox hg;have hnb47:=NB154_148.out;have hnc47:=NB148_154.out;obtain⟨hcz48_0,hcz48_1,hcz48_2,hfz48_0,hfz48_1,hfz48_2⟩:=cz3 BK154.out)|((with_reducible refine gate_store (t:=61) (p:=10) rfl ?_);refine store_event (t:=61) (p:=10) (v:=?vo_w49) (w1:=(((w46.setCell ⟨gb154,0,none⟩ (.int .i64 ((rd_T61 t149 t152).f0))).setCell ⟨gb154,1,none⟩ (.int .i64 ((rd_T61 t149 t152).f1))).setCell ⟨gb154,2,none⟩ (.slice A153_2 ((rd_T61 t149 t152).f2).length c153_2))) ?hg ?ho ?hn ?hr ?_;(case ho=>rfl);(case hg=>rfl);(case hn=>rfl);(case hr=>first|(go_simp;done)|(go_simp;rfl));intro w49 hw;have n0_:Aside0 (Kd.N k61 61 w49 w.heap.size (fun k_=>some k_ ≠ (v130:Value).ownBlock ∧ some k_ ≠ (.slice (some ad153) t149.length co45:Value).ownBlock ∧ k_ ≠ gb148 ∧ k_ ≠ gb154) (.slice (some ad147) x4_2.length co40) x4_2):=⟨(by rw [hw];exact (by (with_reducible repeat (first|apply aN|apply nN|apply dN));exact Kd.N_mono (Kd.N_far (p:=⟨gb154,2,none⟩) (Kd.N_far (p:=⟨gb154,1,none⟩) (Kd.N_far (p:=⟨gb154,0,none⟩) (Kd.N_mono HO_4.out (fun k_ hk=>(⟨hk,hk.2⟩:_ ∧ k_ ≠ gb154))) (by first|exact fun _ hk=>hk.2|(intro k_ hk;simp only [hk,ne_eq,and_self,not_false_eq_true])) (.int .i64 ((rd_T61 t149 t152).f0))) (by first|exact fun _ hk=>hk.2|(intro k_ hk;simp only [hk,ne_eq,and_self,not_false_eq_true])) (.int .i64 ((rd_T61 t149 t152).f1))) (by first|exact fun _ hk=>hk.2|(intro k_ hk;simp only [hk,ne_eq,and_self,not_false_eq_true])) (.slice A153_2 ((rd_T61 t149 t152).f2).length c153_2)) (by first|exact fun _ hk=>⟨hk.1.1.1.1,⟨hk.1.1.2,⟨hk.1.1.1.2,hk.1.2⟩⟩⟩|(intro k_ hk;simp only [hk,ne_eq,and_self,not_false_eq_true]))))⟩;have n1_:Aside0 (Kd.R (Kd.int .i64) 3 w49 w.heap.size (fun _=>True) v130 x18_2):=⟨(by rw [hw];exact (by (with_reducible repeat (first|apply aR|apply nR|apply dR));exact Kd.R_mono (Kd.R_far (p:=⟨gb154,2,none⟩) (Kd.R_far (p:=⟨gb154,1,none⟩) (Kd.R_far (p:=⟨gb154,0,none⟩) (Kd.R_types HO_18.out BK154.out (by decide)) (by first|exact fun _ hk=>hk.2|(intro k_ hk;simp only [hk,ne_eq,and_self,not_false_eq_true])) (.int .i64 ((rd_T61 t149 t152).f0))) (by first|exact fun _ hk=>hk.2|(intro k_ hk;simp only [hk,ne_eq,and_self,not_false_eq_true])) (.int .i64 ((rd_T61 t149 t152).f1))) (by first|exact fun _ hk=>hk.2|(intro k_ hk;simp only [hk,ne_eq,and_self,not_false_eq_true])) (.slice A153_2 ((rd_T61 t149 t152).f2).length c153_2)) (fun _ hk=>trivial)))⟩;have n2_:Aside0 (Kd.V (Kd.int .i64) 3 w49 w.heap.size (fun k_=>some k_ ≠ (.slice (some ad147) x4_2.length co40:Value).ownBlock ∧ some k_ ≠ (v130:Value).ownBlock ∧ some k_ ≠ (.slice (some ad153) t149.length co45:Value).ownBlock ∧ k_ ≠ gb148 ∧ k_ ≠ gb154) (.slice A147_2 ((rd_T61 x4_2 t146).f2).length c147_2) ((rd_T61 x4_2 t146).f2)):=⟨(by rw [hw];exact (by (with_reducible repeat (first|apply aV|apply nV|apply dV));exact Kd.V_mono (Kd.V_far (p:=⟨gb154,2,none⟩) (Kd.V_far (p:=⟨gb154,1,none⟩) (Kd.V_far (p:=⟨gb154,0,none⟩) (Kd.V_mono HL147_2.out (fun k_ hk=>(⟨hk,hk.2⟩:_ ∧ k_ ≠ gb154))) (by first|exact fun _ hk=>hk.2|(intro k_ hk;simp only [hk,ne_eq,and_self,not_false_eq_true])) (.int .i64 ((rd_T61 t149 t152).f0))) (by first|exact fun _ hk=>hk.2|(intro k_ hk;simp only [hk,ne_eq,and_self,not_false_eq_true])) (.int .i64 ((rd_T61 t149 t152).f1))) (by first|exact fun _ hk=>hk.2|(intro k_ hk;simp only [hk,ne_eq,and_self,not_false_eq_true])) (.slice A153_2 ((rd_T61 t149 t152).f2).length c153_2)) (by first|exact fun _ hk=>⟨hk.1.1.1.1,⟨hk.1.1.1.2.1,⟨hk.1.1.2,⟨hk.1.1.1.2.2,hk.1.2⟩⟩⟩⟩|(intro k_ hk;simp only [hk,ne_eq,and_self,not_false_eq_true]))))⟩;have n3_:Aside0 (Kd.N k61 61 w49 w.heap.size (fun k_=>some k_ ≠ (v130:Value).ownBlock ∧ k_ ≠ gb148 ∧ k_ ≠ gb154) (.slice (some ad153) t149.length co45) t149):=⟨(by rw [hw];exact (by (with_reducible repeat (first|apply aN|apply nN|apply dN));exact Kd.N_mono (Kd.N_far (p:=⟨gb154,2,none⟩) (Kd.N_far (p:=⟨gb154,1,none⟩) (Kd.N_far (p:=⟨gb154,0,none⟩) (Kd.N_mono HO151.out (fun k_ hk=>(⟨hk,hk.2⟩:_ ∧ k_ ≠ gb154))) (by first|exact fun _ hk=>hk.2|(intro k_ hk;simp only [hk,ne_eq,and_self,not_false_eq_true])) (.int .i64 ((rd_T61 t149 t152).f0))) (by first|exact fun _ hk=>hk.2|(intro k_ hk;simp only [hk,ne_eq,and_self,not_false_eq_true])) (.int .i64 ((rd_T61 t149 t152).f1))) (by first|exact fun _ hk=>hk.2|(intro k_ hk;simp only [hk,ne_eq,and_self,not_false_eq_true])) (.slice A153_2 ((rd_T61 t149 t152).f2).length c153_2)) (by first|exact fun _ hk=>⟨hk.1.1.1,⟨hk.1.1.2,hk.1.2⟩⟩|(intro k_ hk;simp only [hk,ne_eq,and_self,not_false_eq_true]))))⟩;have n4_:Aside0 (Kd.V (Kd.int .i64) 3 w49 w.heap.size (fun k_=>some k_ ≠ (v130:Value).ownBlock ∧ some k_ ≠ (.slice (some ad153) t149.length co45:Value).ownBlock ∧ k_ ≠ gb148 ∧ k_ ≠ gb154) (.slice A153_2 ((rd_T61 t149 t152).f2).length c153_2) ((rd_T61 t149 t152).f2)):=⟨(by rw [hw];exact (by (with_reducible repeat (first|apply aV|apply nV|apply dV));exact Kd.V_mono (Kd.V_far (p:=⟨gb154,2,none⟩) (Kd.V_far (p:=⟨gb154,1,none⟩) (Kd.V_far (p:=⟨gb154,0,none⟩) (Kd.V_mono HL153_2.out (fun k_ hk=>(⟨hk,hk.2⟩:_ ∧ k_ ≠ gb154))) (by first|exact fun _ hk=>hk.2|(intro k_ hk;simp only [hk,ne_eq,and_self,not_false_eq_true])) (.int .i64 ((rd_T61 t149 t152).f0))) (by first|exact fun _ hk=>hk.2|(intro k_ hk;simp only [hk,ne_eq,and_self,not_false_eq_true])) (.int .i64 ((rd_T61 t149 t152).f1))) (by first|exact fun _ hk=>hk.2|(intro k_ hk;simp only [hk,ne_eq,and_self,not_false_eq_true])) (.slice A153_2 ((rd_T61 t149 t152).f2).length c153_2)) (by first|exact fun _ hk=>⟨hk.1.1.1.1,⟨hk.1.1.2,⟨hk.1.1.1.2,hk.1.2⟩⟩⟩|(intro k_ hk;simp only [hk,ne_eq,and_self,not_false_eq_true]))))⟩;have n5_:Aside0 (w49.heap[gb148]? = some (.cells #[.int .i64 ((rd_T61 x4_2 t146).f0),.int .i64 ((rd_T61 x4_2 t146).f1),.slice A147_2 ((rd_T61 x4_2 t146).f2).length c147_2] 61 (0,0))):=⟨(by rw [hw];exact (by (with_reducible repeat (first|apply nB|apply dB|apply aB));refine blk_far ?_ NB148_154.out _;(with_reducible repeat (first|apply nB|apply dB|apply aB));refine blk_far ?_ NB148_154.out _;(with_reducible repeat (first|apply nB|apply dB|apply aB));refine blk_far ?_ NB148_154.out _;(with_reducible repeat (first|apply nB|apply dB|apply aB));exact BK148.out))⟩;have n6_:Aside0 (w49.heap[gb154]? = some (.cells #[.int .i64 ((rd_T61 t149 t152).f0),.int .i64 ((rd_T61 t149 t152).f1),.slice A153_2 ((rd_T61 t149 t152).f2).length c153_2] 61 (0,0))):=⟨(by rw [hw];exact (by (with_reducible repeat (first|apply nB|apply dB|apply aB));refine blk_put (cs:=#[.int .i64 ((rd_T61 t149 t152).f0),.int .i64 ((rd_T61 t149 t152).f1),.slice none 0 0]) ?_ 2 _ rfl;(with_reducible repeat (first|apply nB|apply dB|apply aB));refine blk_put (cs:=#[.int .i64 ((rd_T61 t149 t152).f0),.int .i64 0,.slice none 0 0]) ?_ 1 _ rfl;(with_reducible repeat (first|apply nB|apply dB|apply aB));refine blk_put (cs:=#[.int .i64 0,.int .i64 0,.slice none 0 0]) ?_ 0 _ rfl;(with_reducible repeat (first|apply nB|apply dB|apply aB));exact BK154.out))⟩;have n7_:Aside0 (Below w.heap.size w w49):=⟨(by rw [hw];exact (kB HB.out))⟩;clear hw HO_4 HO_18 HL147_2 HO151 HL153_2 BK148 BK154 HB;have HO_4:=n0_;have HO_18:=n1_;have HL147_2:=n2_;have HO151:=n3_;have HL153_2:=n4_;have BK148:=n5_;have BK154:=n6_;have HB:=n7_;clear n0_ n1_ n2_ n3_ n4_ n5_ n6_ n7_)|((with_reducible refine gate_callee (f:=52) rfl ?_);refine goesL_ (some 77) rfl rfl Try.func52 (by kernel_rfl) rfl #[.slice (some ad153) t149.length co45,.int .i64 t152] rfl (by (try simp only [mA,mC,mN]);first|done|rfl|(simp only [List.length_drop,List.length_take];done)|(simp only [List.length_drop,List.length_take];rfl)) ?_;(with_reducible refine (spec_l08Without.calls (fun k_=>(some k_ ≠ (v130:Value).ownBlock ∧ (k_ ≠ gb148 ∧ k_ ≠ gb154))) _ _ t149 t152 t155 _ ?side1 A37.out).mono ?_);(case side1=>exact Kd.N_V (HO151.out));rintro e w50 ⟨v156,rfl,ho0,hb⟩;refine⟨_,rfl,?_⟩;replace HO_4:=mk0 (Kd.N_elder' (rN HO_4.out) (Kd.N_base ho0) hb);replace HO151:=mk0 (Kd.N_elder' (rN HO151.out) (Kd.N_base ho0) hb);have HO157:=mk0 (Kd.N_lower (Kd.N_mono (ok':=fun k_=>some k_ ≠ (v130:Value).ownBlock ∧ k_ ≠ gb148 ∧ k_ ≠ gb154) ho0 (fun k_ hk_=>⟨Or.elim hk_ (fun hs_=>hs_.1) (fun hn_=>(Kd.fresh' (Kd.R_lt (rR HO_18.out)) k_ hn_)),Or.elim hk_ (fun hs_=>hs_.2.1) (fun hn_=>(Kd.freshB (g:=gb148) (kN BK148.out) k_ hn_)),Or.elim hk_ (fun hs_=>hs_.2.2) (fun hn_=>(Kd.freshB (g:=gb154) (kN BK154.out) k_ hn_))⟩)) (kZ HB.out));replace HO_18:=mk0 (bR HO_18.out hb);replace HR147_2:=mk0 (Kd.C_below (by repeat (first|(with_reducible exact HR147_2.out)|(with_reducible first|apply aC|apply nC|apply dC)|exact HR147_2.out|exact (Kd.V_reads' HL147_2.out).2.2)) hb);replace HL147_2:=mk0 (Kd.V_elder' (rV HL147_2.out) (Kd.N_base ho0) hb);replace BK148:=mk0 (kK BK148.out hb);replace HR153_2:=mk0 (Kd.C_below (by repeat (first|(with_reducible exact HR153_2.out)|(with_reducible first|apply aC|apply nC|apply dC)|exact HR153_2.out|exact (Kd.V_reads' HL153_2.out).2.2)) hb);replace HL153_2:=mk0 (Kd.V_elder' (rV HL153_2.out) (Kd.N_base ho0) hb);replace BK154:=mk0 (kK BK154.out hb);replace HB:=mk0 (kS HB.out hb);(try clear hb);(try clear ho0)))
     replace HO_4:=mk0 (dN HO_4.out)
     replace HO_18:=mk0 (dR HO_18.out)
     replace HL147_2:=mk0 (dV HL147_2.out)
     replace HO151:=mk0 (dN HO151.out)
     replace HL153_2:=mk0 (dV HL153_2.out)
     replace HO157:=mk0 (dN HO157.out)
     replace BK148:=mk0 (dB BK148.out)
     replace BK154:=mk0 (dB BK154.out)
     replace HR147_2:=mk0 (dC HR147_2.out)
     replace HR153_2:=mk0 (dC HR153_2.out)
     replace HB:=mk0 (dZ HB.out)
     refine start_ (n:=8) (S:=fun w'=>w'.cell? ⟨gb148,0,none⟩ = some (.int .i64 ((rd_T61 x4_2 t146).f0)) ∧ w'.cell? ⟨gb148,1,none⟩ = some (.int .i64 ((rd_T61 x4_2 t146).f1)) ∧ w'.cell? ⟨gb148,2,none⟩ = some (.slice A147_2 ((rd_T61 x4_2 t146).f2).length c147_2) ∧ w'.cell? ⟨gb154,0,none⟩ = some (.int .i64 ((rd_T61 t149 t152).f0)) ∧ w'.cell? ⟨gb154,1,none⟩ = some (.int .i64 ((rd_T61 t149 t152).f1)) ∧ w'.cell? ⟨gb154,2,none⟩ = some (.slice A153_2 ((rd_T61 t149 t152).f2).length c153_2)) (ds:=[]) spec_HuffLens.m0 (by kernel_rfl) rfl rfl ⟨(blk_cell BK148.out 0).trans rfl,(blk_cell BK148.out 1).trans rfl,(blk_cell BK148.out 2).trans rfl,(blk_cell BK154.out 0).trans rfl,(blk_cell BK154.out 1).trans rfl,(blk_cell BK154.out 2).trans rfl⟩ (fun hHeld=>?_);refine with_tabW spec_HuffLens.tab21 spec_HuffLens.bits21 (fun HT_ HW_=>?_)
     generalize w50.drew = w51 at HO_4 HO_18 HL147_2 HO151 HL153_2 HO157 BK148 BK154 HR147_2 HR153_2 HB hHeld ⊢
     refine pure_ (i:=1) (N:=some 79) (v:=?_) (a':=?_) spec_HuffLens.m1 rfl rfl (any_of HT_.out (by kernel_rfl)) (fun _ _ _ h=>h) (Or.inl ⟨by rfl,?_⟩) ?_ ?_
     rotate_left
     ·intro w'
      go_simp
      with_reducible rfl
     rotate_left
     ·simp only [Act.put,sA,sO,sS,i64_w,i32_w]
      rfl
     refine pure_ (i:=4) (N:=some 82) (v:=?_) (a':=?_) spec_HuffLens.m2 rfl rfl (any_of HT_.out (by kernel_rfl)) (fun _ _ _ h=>h) (Or.inl ⟨by rfl,?_⟩) ?_ ?_
     rotate_left
     ·intro w'
      go_simp
      with_reducible rfl
     rotate_left
     ·simp only [Act.put,sA,sO,sS,i64_w,i32_w]
      rfl
     refine take_ (i:=2) (N:=some 80) (v:=?_) (a':=?_) spec_HuffLens.m3 rfl rfl (take_ofW HT_.out HW_.out (by kernel_rfl)) (fun _ _ _ h=>h) (Or.inl ⟨by rfl,?_⟩) hHeld ?_ ?_
     rotate_left
     ·rintro w' ⟨s0,s1,s2,s3,s4,s5⟩
      go_simp
      with_reducible rfl
     rotate_left
     ·simp only [Act.put,sA,sO,sS,i64_w,i32_w]
      rfl
     refine take_ (i:=5) (N:=some 83) (v:=?_) (a':=?_) spec_HuffLens.m4 rfl rfl (take_ofW HT_.out HW_.out (by kernel_rfl)) (fun _ _ _ h=>h) (Or.inl ⟨by rfl,?_⟩) hHeld ?_ ?_
     rotate_left
     ·rintro w' ⟨s0,s1,s2,s3,s4,s5⟩
      go_simp
      with_reducible rfl
     rotate_left
     ·simp only [Act.put,sA,sO,sS,i64_w,i32_w]
      rfl
     refine one_ (i:=0) (N:=some 78) spec_HuffLens.m5 rfl rfl (one_of HT_.out (by kernel_rfl)) (by decide) (fun K hK=>?_)
     refine Kd.R_lit_step (Kd.int .i64) _ 3 ?hg (N:=78) ?hd (xs:=([]:List Int)) (inner:=[]) (ok:=fun _=>True) (okp:=fun _=>True) ?hr ?hp (fun _ hk=>hk) trivial (Below.refl _ _) (Nat.le_refl _) (by simp) ?_;(case hd=>rfl);(case hg=>rfl);(case hr=>first|(go_simp;done)|(go_simp;rfl));(case hp=>exact (Reps.none _ _))
     intro v159 w52 ho53 hb hg_ hnew_
     clear hg_ hnew_
     (first|rw [← Ny158.out] at ho53|(simp only [Int.reduceToNat] at ho53;rw [← Ny158.out] at ho53))
     replace HO_4:=mk0 (Kd.N_elder' (rN HO_4.out) (Kd.R_base ho53) hb)
     replace HO151:=mk0 (Kd.N_elder' (rN HO151.out) (Kd.R_base ho53) hb)
     replace HO157:=mk0 (Kd.N_elder' (rN HO157.out) (Kd.R_base ho53) hb)
     have HO160:=mk0 (Kd.R_lower (Kd.R_new' ho53 (Kd.R_lt (rR HO_18.out))) (kZ HB.out))
     replace HO_18:=mk0 (Kd.R_elder' (rR HO_18.out) (Kd.R_base ho53) hb)
     replace HR147_2:=mk0 (Kd.C_below (by repeat (first|(with_reducible exact HR147_2.out)|(with_reducible first|apply aC|apply nC|apply dC)|exact HR147_2.out|exact (Kd.V_reads' HL147_2.out).2.2)) hb)
     replace HL147_2:=mk0 (Kd.V_elder' (rV HL147_2.out) (Kd.R_base ho53) hb)
     replace BK148:=mk0 (kK BK148.out hb)
     replace HR153_2:=mk0 (Kd.C_below (by repeat (first|(with_reducible exact HR153_2.out)|(with_reducible first|apply aC|apply nC|apply dC)|exact HR153_2.out|exact (Kd.V_reads' HL153_2.out).2.2)) hb)
     replace HL153_2:=mk0 (Kd.V_elder' (rV HL153_2.out) (Kd.R_base ho53) hb)
     replace BK154:=mk0 (kK BK154.out hb)
     replace HB:=mk0 (kS HB.out hb)
     clear hb ho53
     refine hK.out _ _ ⟨(blk_cell BK148.out 0).trans rfl,(blk_cell BK148.out 1).trans rfl,(blk_cell BK148.out 2).trans rfl,(blk_cell BK154.out 0).trans rfl,(blk_cell BK154.out 1).trans rfl,(blk_cell BK154.out 2).trans rfl⟩ (fun hHeld=>?_)
     clear hK K
     refine norm_ (a':=?_) ?_ ?_
     rotate_left
     ·show Act.put _ (some 78) _ = _
      simp only [Act.put,sA,sO,sS,i64_w,i32_w]
      rfl
     refine one_ (i:=3) (N:=some 81) #[true,true,true,true,true,true,false,false] rfl rfl (one_of HT_.out (by kernel_rfl)) (by decide) (fun K hK=>?_)
     refine Kd.R_append_rows_step (Kd.int .i64) (w0:=w) w.heap.size (by rfl) (.tmp 78) (.tmp 80) 24 3 (.int .i64 0) 8 rfl Try.underlying24 info3 rfl (by decide) (by omega) v159 y158 ((rd_T61 x4_2 t146).f2) _ _ _ (fun k_=>some k_ ≠ (v130:Value).ownBlock) (fun _=>False) rfl rfl ?aO ?aR (fun _ _ h=>h) (fun _ h=>h.elim) ?aF ?aB ?aS ?aL ?_
     (case aR=>repeat (first|exact (by repeat (first|(with_reducible exact HR147_2.out)|(with_reducible first|apply aC|apply nC|apply dC)|exact HR147_2.out|exact (Kd.V_reads' HL147_2.out).2.2))|(with_reducible first|apply aC|apply nC|apply dC)))
     (case aB=>exact (kB HB.out))
     (case aF=>exact (fun k_ hk=>Kd.fresh' (Kd.R_lt (rR HO_18.out)) k_ hk))
     (case aO=>exact (by (with_reducible repeat (first|apply aR|apply nR|apply dR));exact Kd.R_mono HO160.out (by first|exact fun _ hk=>hk.2|(intro k_ hk;simp only [hk,ne_eq,and_self,not_false_eq_true]))))
     (case aS=>exact (kZ HB.out))
     (case aL=>have:=LMc38.out;omega)
     intro v162 w54 ho hb hg hat
     rw [← Ny161.out] at ho
     replace HO_4:=mk0 (Kd.N_afterv (ok:=(fun k_=>some k_ ≠ (v130:Value).ownBlock ∧ some k_ ≠ (.slice (some ad153) t149.length co45:Value).ownBlock ∧ some k_ ≠ (v156:Value).ownBlock ∧ k_ ≠ gb148 ∧ k_ ≠ gb154)) (by (with_reducible repeat (first|apply aN|apply nN|apply dN));exact Kd.N_mono HO_4.out (by first|exact fun _ hk=>⟨⟨hk.1.1.1,⟨hk.1.1.2.1,⟨hk.1.2,⟨hk.1.1.2.2.1,hk.1.1.2.2.2⟩⟩⟩⟩,hk.2⟩|(intro k_ hk;simp only [hk,ne_eq,and_self,not_false_eq_true]))) hg hat)
     replace HO_18:=mk0 (Kd.R_after (ok:=(fun _=>True)) (rR HO_18.out) hg hat)
     replace HL147_2:=mk0 (Kd.V_afterv (ok:=(fun k_=>some k_ ≠ (.slice (some ad147) x4_2.length co40:Value).ownBlock ∧ some k_ ≠ (v130:Value).ownBlock ∧ some k_ ≠ (.slice (some ad153) t149.length co45:Value).ownBlock ∧ some k_ ≠ (v156:Value).ownBlock ∧ k_ ≠ gb148 ∧ k_ ≠ gb154)) (by (with_reducible repeat (first|apply aV|apply nV|apply dV));exact Kd.V_mono HL147_2.out (by first|exact fun _ hk=>⟨⟨hk.1.1.1,⟨hk.1.1.2.1,⟨hk.1.1.2.2.1,⟨hk.1.2,⟨hk.1.1.2.2.2.1,hk.1.1.2.2.2.2⟩⟩⟩⟩⟩,hk.2⟩|(intro k_ hk;simp only [hk,ne_eq,and_self,not_false_eq_true]))) hg hat)
     replace BK148:=mk0 (blk_grown (kN BK148.out) hg (Kd.R_ne HO160.out BK148.out (by decide)))
     replace HO151:=mk0 (Kd.N_afterv (ok:=(fun k_=>some k_ ≠ (v130:Value).ownBlock ∧ some k_ ≠ (v156:Value).ownBlock ∧ k_ ≠ gb148 ∧ k_ ≠ gb154)) (by (with_reducible repeat (first|apply aN|apply nN|apply dN));exact Kd.N_mono HO151.out (by first|exact fun _ hk=>⟨⟨hk.1.1.1,⟨hk.1.2,⟨hk.1.1.2.1,hk.1.1.2.2⟩⟩⟩,hk.2⟩|(intro k_ hk;simp only [hk,ne_eq,and_self,not_false_eq_true]))) hg hat)
     replace HL153_2:=mk0 (Kd.V_afterv (ok:=(fun k_=>some k_ ≠ (v130:Value).ownBlock ∧ some k_ ≠ (.slice (some ad153) t149.length co45:Value).ownBlock ∧ some k_ ≠ (v156:Value).ownBlock ∧ k_ ≠ gb148 ∧ k_ ≠ gb154)) (by (with_reducible repeat (first|apply aV|apply nV|apply dV));exact Kd.V_mono HL153_2.out (by first|exact fun _ hk=>⟨⟨hk.1.1.1,⟨hk.1.1.2.1,⟨hk.1.2,⟨hk.1.1.2.2.1,hk.1.1.2.2.2⟩⟩⟩⟩,hk.2⟩|(intro k_ hk;simp only [hk,ne_eq,and_self,not_false_eq_true]))) hg hat)
     replace BK154:=mk0 (blk_grown (kN BK154.out) hg (Kd.R_ne HO160.out BK154.out (by decide)))
     replace HO157:=mk0 (Kd.N_afterv (ok:=(fun k_=>some k_ ≠ (v130:Value).ownBlock ∧ k_ ≠ gb148 ∧ k_ ≠ gb154)) (rN HO157.out) hg hat)
     replace HB:=mk0 (hb)
     have HO163:=mk0 (ho)
     clear HO160
     clear ho hb hg hat
     refine hK.out _ _ ⟨(blk_cell BK148.out 0).trans rfl,(blk_cell BK148.out 1).trans rfl,(blk_cell BK148.out 2).trans rfl,(blk_cell BK154.out 0).trans rfl,(blk_cell BK154.out 1).trans rfl,(blk_cell BK154.out 2).trans rfl⟩ (fun hHeld=>?_)
     clear hK K
     refine norm_ (a':=?_) ?_ ?_
     rotate_left
     ·show Act.put _ (some 81) _ = _
      simp only [Act.put,sA,sO,sS,i64_w,i32_w]
      rfl
     refine one_ (i:=6) (N:=some 84) #[true,true,true,true,true,true,true,false] rfl rfl (one_of HT_.out (by kernel_rfl)) (by decide) (fun K hK=>?_)
     refine Kd.R_append_rows_step (Kd.int .i64) (w0:=w) w.heap.size (by rfl) (.tmp 81) (.tmp 83) 24 3 (.int .i64 0) 8 rfl Try.underlying24 info3 rfl (by decide) (by omega) v162 y161 ((rd_T61 t149 t152).f2) _ _ _ (fun k_=>some k_ ≠ (v130:Value).ownBlock) (fun _=>False) rfl rfl ?aO ?aR (fun _ _ h=>h) (fun _ h=>h.elim) ?aF ?aB ?aS ?aL ?_
     (case aR=>repeat (first|exact ((Kd.V_reads' (rV HL153_2.out)).2.2)|(with_reducible first|apply aC|apply nC|apply dC)))
     (case aB=>exact (kB HB.out))
     (case aF=>exact (fun k_ hk=>Kd.fresh' (Kd.R_lt (rR HO_18.out)) k_ hk))
     (case aO=>exact (rR HO163.out))
     (case aS=>exact (kZ HB.out))
     (case aL=>have:=LMc39.out;omega)
     intro v165 w55 ho hb hg hat
     rw [← Ny164.out] at ho
     replace HO_4:=mk0 (Kd.N_afterv (ok:=(fun k_=>some k_ ≠ (v130:Value).ownBlock ∧ some k_ ≠ (.slice (some ad153) t149.length co45:Value).ownBlock ∧ some k_ ≠ (v156:Value).ownBlock ∧ k_ ≠ gb148 ∧ k_ ≠ gb154)) (rN HO_4.out) hg hat)
     replace HO_18:=mk0 (Kd.R_after (ok:=(fun _=>True)) (rR HO_18.out) hg hat)
     replace HL147_2:=mk0 (Kd.V_afterv (ok:=(fun k_=>some k_ ≠ (.slice (some ad147) x4_2.length co40:Value).ownBlock ∧ some k_ ≠ (v130:Value).ownBlock ∧ some k_ ≠ (.slice (some ad153) t149.length co45:Value).ownBlock ∧ some k_ ≠ (v156:Value).ownBlock ∧ k_ ≠ gb148 ∧ k_ ≠ gb154)) (rV HL147_2.out) hg hat)
     replace BK148:=mk0 (blk_grown (kN BK148.out) hg (Kd.R_ne HO163.out BK148.out (by decide)))
     replace HO151:=mk0 (Kd.N_afterv (ok:=(fun k_=>some k_ ≠ (v130:Value).ownBlock ∧ some k_ ≠ (v156:Value).ownBlock ∧ k_ ≠ gb148 ∧ k_ ≠ gb154)) (rN HO151.out) hg hat)
     replace HL153_2:=mk0 (Kd.V_afterv (ok:=(fun k_=>some k_ ≠ (v130:Value).ownBlock ∧ some k_ ≠ (.slice (some ad153) t149.length co45:Value).ownBlock ∧ some k_ ≠ (v156:Value).ownBlock ∧ k_ ≠ gb148 ∧ k_ ≠ gb154)) (rV HL153_2.out) hg hat)
     replace BK154:=mk0 (blk_grown (kN BK154.out) hg (Kd.R_ne HO163.out BK154.out (by decide)))
     replace HO157:=mk0 (Kd.N_afterv (ok:=(fun k_=>some k_ ≠ (v130:Value).ownBlock ∧ k_ ≠ gb148 ∧ k_ ≠ gb154)) (rN HO157.out) hg hat)
     replace HB:=mk0 (hb)
     have HO166:=mk0 (ho)
     clear HO163
     clear ho hb hg hat
     refine hK.out _ _ ⟨(blk_cell BK148.out 0).trans rfl,(blk_cell BK148.out 1).trans rfl,(blk_cell BK148.out 2).trans rfl,(blk_cell BK154.out 0).trans rfl,(blk_cell BK154.out 1).trans rfl,(blk_cell BK154.out 2).trans rfl⟩ (fun hHeld=>?_)
     clear hK K
     refine norm_ (a':=?_) ?_ ?_
     rotate_left
     ·show Act.put _ (some 84) _ = _
      simp only [Act.put,sA,sO,sS,i64_w,i32_w]
      rfl
     refine pure_ (i:=7) (N:=some 11) (v:=?_) (a':=?_) #[true,true,true,true,true,true,true,true] rfl rfl (any_of HT_.out (by kernel_rfl)) (fun _ _ _ h=>h) (Or.inl ⟨by rfl,?_⟩) ?_ ?_
     rotate_left
     ·intro w'
      go_simp
      with_reducible rfl
     rotate_left
     ·simp only [Act.put,sA,sO,sS,i64_w,i32_w]
      rfl
     refine done_ (done_of HT_.out (by kernel_rfl)) ?_
     try go_wp2
     go_loopg [12] k2 (fun kq v12 w'=>∃ (x12_3:Int) (x18_3:List Int),v12 = .int .i64 x12_3 ∧ Aside0 (spec_HuffLens.l2 kq t155 x6_2 x12_3 x18_3 y164 ((rd_T61 x4_2 t146).f0) ((rd_T61 x4_2 t146).f1) ((rd_T61 x4_2 t146).f2) ((rd_T61 t149 t152).f0) ((rd_T61 t149 t152).f1) ((rd_T61 t149 t152).f2) = some r) ∧ Aside0 (kq ≤ k2) ∧ Aside0 (Kd.N k61 61 w' w.heap.size (fun k_=>some k_ ≠ (v130:Value).ownBlock ∧ some k_ ≠ (v165:Value).ownBlock ∧ k_ ≠ gb148 ∧ k_ ≠ gb154) v156 t155) ∧ Aside0 (Kd.R (Kd.int .i64) 3 w' w.heap.size (fun k_=>some k_ ≠ (v165:Value).ownBlock) v130 x18_3) ∧ Aside0 (Kd.R (Kd.int .i64) 3 w' w.heap.size (fun k_=>some k_ ≠ (v130:Value).ownBlock) v165 y164) ∧ Aside0 (w'.heap[gb148]? = some (.cells #[.int .i64 ((rd_T61 x4_2 t146).f0),.int .i64 ((rd_T61 x4_2 t146).f1),(.slice A147_2 ((rd_T61 x4_2 t146).f2).length c147_2)] 61 (0,0))) ∧ Aside0 (w'.heap[gb154]? = some (.cells #[.int .i64 ((rd_T61 t149 t152).f0),.int .i64 ((rd_T61 t149 t152).f1),(.slice A153_2 ((rd_T61 t149 t152).f2).length c153_2)] 61 (0,0))) ∧ Aside0 (Below w.heap.size w w'))
     case atStart=>exact⟨(0),(x18_2),(by first|rfl|(simp;done)|(simp [*];done)),H',⟨Nat.le_refl _⟩,⟨by (with_reducible repeat (first|apply aN|apply nN|apply dN));exact Kd.N_mono HO157.out (by first|exact fun _ hk=>⟨hk.1.1,⟨hk.2,⟨hk.1.2.1,hk.1.2.2⟩⟩⟩|(intro k_ hk;simp only [hk,ne_eq,and_self,not_false_eq_true]))⟩,⟨by (with_reducible repeat (first|apply aR|apply nR|apply dR));exact Kd.R_mono HO_18.out (by first|exact fun _ hk=>hk.2|(intro k_ hk;simp only [hk,ne_eq,and_self,not_false_eq_true]))⟩,⟨rR HO166.out⟩,⟨kN BK148.out⟩,⟨kN BK154.out⟩,⟨kB HB.out⟩⟩
     case round =>
      clear H'
      try clear c1
      try clear p1
      try clear q1
      try clear hx1
      try clear qi1
      try clear c2
      try clear p2
      try clear q2
      try clear hx2
      try clear hf2
      try clear c3
      try clear c4
      try clear c4b0
      try clear c4b1
      try clear c5
      try clear c5b0
      try clear c5b1
      try clear p6
      try clear c10
      try clear c10b0
      try clear c11
      try clear c11b0
      try clear c12
      try clear c12b0
      try clear c13
      try clear p13
      try clear q13
      try clear hx13
      try clear c14
      try clear p14
      try clear q14
      try clear hx14
      try clear qi14
      try clear c15
      try clear p15
      try clear q15
      try clear hx15
      try clear c19
      try clear c19b0
      try clear c19b1
      try clear c20
      try clear c20b0
      try clear c20b1
      try clear c21
      try clear c21b0
      try clear c21b1
      try clear c22
      try clear c22b0
      try clear c23
      try clear c23b0
      try clear p24
      try clear q24
      try clear hx24
      try clear hf24
      try clear c29
      try clear c29b0
      try clear c29b1
      try clear c31
      try clear c31b0
      try clear c32
      try clear c32b0
      try clear c35
      try clear c35b0
      try clear c36
      try clear c36b0
      try clear c38
      try clear c39
      try clear c47
      try clear c50
      try clear c51
      try clear c52
      try clear hcz42_0
      try clear hcz42_1
      try clear hcz42_2
      try clear hcz48_0
      try clear hcz48_1
      try clear hcz48_2
      try clear hfz42_0
      try clear hfz42_1
      try clear hfz42_2
      try clear hfz48_0
      try clear hfz48_1
      try clear hfz48_2
      try clear hx135_0
      try clear hx136_0
      try clear hx143_0
      try clear hx143_1
      try clear hx143_2
      try clear hx144_0
      try clear hx147_0
      try clear hx147_1
      try clear hx147_2
      try clear hx153_0
      try clear hx153_1
      try clear hx153_2
      try clear hx24_0
      try clear p1
      try clear p13
      try clear p135
      try clear p136
      try clear p14
      try clear p143
      try clear p144
      try clear p147
      try clear p153
      try clear p2
      try clear p24
      try clear p6
      try clear q1
      try clear q13
      try clear q135
      try clear q136
      try clear q14
      try clear q143
      try clear q144
      try clear q147
      try clear q153
      try clear q2
      try clear q24
      obtain⟨x12_3,x18_3,rfl,HA,HK3,HO_4,HO_18,HO_84,BK148,BK154,HB⟩:=hrel
      cases gk with
      | zero=>exact absurd HA.out (by simp [spec_HuffLens.l2])
      | succ k3 =>
       have H:=HA.out
       clear HA
       simp only [spec_HuffLens.l2] at H
       by_cases c56:x12_3 < (y164.length:Int)
       rotate_left
       ·rw [if_neg c56] at H
        have c56b0:decide (x12_3 < (y164.length:Int)) = false:=decide_eq_false c56
        (try simp only [hl143_2] at c56b0)
        (try simp only [hl147_2] at c56b0)
        (try simp only [hl153_2] at c56b0)
        clear c56
        by_cases c65:t155.length < 3518437208883
        rotate_left
        ·rw [if_neg c65] at H
         exact absurd H (by simp)
        rw [if_pos c65] at H
        have LMc65:=mk0 c65
        clear c65
        obtain⟨y170,hy170⟩:∃ y_:List (S61),y_ = (t155 ++ [(⟨wrap64 (((rd_T61 x4_2 t146).f0) + ((rd_T61 t149 t152).f0)),x6_2,y164⟩:S61)]):=⟨_,rfl⟩
        replace H:(spec_HuffLens.l1 k3 y170 (wrap64 (x6_2 + 1)) x18_3) = some r:=by first|(rw [hy170];with_reducible exact H)|(have H2_:=(Option.bind_some _ _).symm.trans H;rw [hy170];with_reducible exact H2_)|(have H2_:=(Option.bind_some _ _).symm.trans H;with_reducible exact H2_)|with_reducible exact H|(rw [hy170];exact H)|exact H
        have Ny170:=mk0 hy170
        clear hy170
        have H':=mk0 H
        clear H
        obtain⟨Ao66,co66,eo66⟩:=Kd.R_slice HO_84.out
        subst eo66
        have hnb67:=NB148_154.out
        have hnc67:=NB154_148.out
        obtain⟨hcz68_0,hcz68_1,hcz68_2,hfz68_0,hfz68_1,hfz68_2⟩:=cz3 BK148.out
        obtain⟨hcz69_0,hcz69_1,hcz69_2,hfz69_0,hfz69_1,hfz69_2⟩:=cz3 BK154.out
        go_wp2_with (first|((with_reducible refine gate_builtin (b:=.append) (xs:=#[.tmp 100,.tmp 109]) rfl ?_);at_builtin;refine Kd.N_append k61 (w0:=w) w.heap.size rfl (.tmp 100) (.tmp 109) 59 61 (.agg #[(.int .i64 0),(.int .i64 0),(.slice none 0 0)]) 40 rfl Try.underlying59 info61 rfl (by decide) (by omega) v156 t155 (⟨wrap64 (((rd_T61 x4_2 t146).f0) + ((rd_T61 t149 t152).f0)),x6_2,y164⟩:S61) [.int .i64 (wrap64 (((rd_T61 x4_2 t146).f0) + ((rd_T61 t149 t152).f0))),.int .i64 x6_2,.slice Ao66 y164.length co66] (fun k_=>some k_ ≠ (v130:Value).ownBlock ∧ k_ ≠ gb148 ∧ k_ ≠ gb154) (fun k_=>((fun k_=>some k_ ≠ (v130:Value).ownBlock ∧ k_ ≠ gb148 ∧ k_ ≠ gb154)) k_ ∧ some k_ ≠ (v156:Value).ownBlock) rfl rfl ?aP (fun _ hk=>hk) ?aF ?aO ?aB ?aS ?aL ?_;(case aP=>exact (k61_mkF _ _ (⟨wrap64 (((rd_T61 x4_2 t146).f0) + ((rd_T61 t149 t152).f0)),x6_2,y164⟩:S61) (Kd.R_reads' (Kd.R_mono (ok':=(fun k_=>((fun k_=>some k_ ≠ (v130:Value).ownBlock ∧ k_ ≠ gb148 ∧ k_ ≠ gb154)) k_ ∧ some k_ ≠ (v156:Value).ownBlock)) (Kd.R_types (Kd.R_types (Kd.R_apart' (HO_84.out) (Kd.N_typed HO_4.out) (by decide)) BK148.out (by decide)) BK154.out (by decide)) (fun k_ hk=>⟨⟨hk.1.1.1,⟨hk.1.2,hk.2⟩⟩,hk.1.1.2⟩))).2.1 (Kd.R_F (Kd.R_mono (ok':=(fun k_=>((fun k_=>some k_ ≠ (v130:Value).ownBlock ∧ k_ ≠ gb148 ∧ k_ ≠ gb154)) k_ ∧ some k_ ≠ (v156:Value).ownBlock)) (Kd.R_types (Kd.R_types (Kd.R_apart' (HO_84.out) (Kd.N_typed HO_4.out) (by decide)) BK148.out (by decide)) BK154.out (by decide)) (fun k_ hk=>⟨⟨hk.1.1.1,⟨hk.1.2,hk.2⟩⟩,hk.1.1.2⟩)))));(case aB=>exact (kB HB.out));(case aF=>exact (fun k_ hk=>⟨Kd.fresh' (Kd.R_lt (rR HO_18.out)) k_ hk,Kd.freshB (g:=gb148) (kN BK148.out) k_ hk,Kd.freshB (g:=gb154) (kN BK154.out) k_ hk⟩));(case aO=>exact (by (with_reducible repeat (first|apply aN|apply nN|apply dN));exact Kd.N_mono HO_4.out (by first|exact fun _ hk=>⟨hk.1,⟨hk.2.2.1,hk.2.2.2⟩⟩|(intro k_ hk;simp only [hk,ne_eq,and_self,not_false_eq_true]))));(case aS=>exact (kZ HB.out));(case aL=>have:=LMc65.out;omega);intro v171 w70 ho hb hg hat;rw [← Ny170.out] at ho;replace HO_18:=mk0 (Kd.R_over' (rR HO_18.out) (Kd.N_typed (rN HO_4.out)) (by decide) hg);replace BK148:=mk0 (blk_grown (kN BK148.out) hg (Kd.N_away HO_4.out (by first|exact fun _ hk=>hk.2.2.1|(intro k_ hk;simp only [hk,ne_eq,and_self,not_false_eq_true]))));replace BK154:=mk0 (blk_grown (kN BK154.out) hg (Kd.N_away HO_4.out (by first|exact fun _ hk=>hk.2.2.2|(intro k_ hk;simp only [hk,ne_eq,and_self,not_false_eq_true]))));replace HB:=mk0 (hb);have HO172:=mk0 (ho);clear HO_4 HO_84 ho hb hg hat))
        go_roundg k3
        case measure=>have:=HK1.out;have:=HK2.out;have:=HK3.out;omega
        case rel=>exact⟨(y170),(wrap64 (x6_2 + 1)),(x18_3),(by first|rfl|(simp;done)|(simp [*];done)),H',⟨by have:=HK1.out;have:=HK2.out;have:=HK3.out;omega⟩,⟨by (with_reducible repeat (first|apply aN|apply nN|apply dN));exact Kd.N_mono HO172.out (by first|exact fun _ hk=>hk.1|(intro k_ hk;simp only [hk,ne_eq,and_self,not_false_eq_true]))⟩,⟨rR (Kd.R_mono HO_18.out (fun _ hk=>trivial))⟩,⟨kB HB.out⟩⟩
       rw [if_pos c56] at H
       have c56b0:decide (x12_3 < (y164.length:Int)) = true:=decide_eq_true c56
       (try simp only [hl143_2] at c56b0)
       (try simp only [hl147_2] at c56b0)
       (try simp only [hl153_2] at c56b0)
       clear c56
       by_cases c57:0 ≤ x12_3
       rotate_left
       ·rw [if_neg c57] at H
        exact absurd H (by simp)
       rw [if_pos c57] at H
       have c57b0:decide (0 ≤ x12_3) = true:=decide_eq_true c57
       clear c57
       by_cases c58:0 ≤ (rd y164 x12_3)
       rotate_left
       ·rw [if_neg c58] at H
        exact absurd H (by simp)
       rw [if_pos c58] at H
       have c58b0:decide (0 ≤ (rd y164 x12_3)) = true:=decide_eq_true c58
       clear c58
       by_cases c59:(rd y164 x12_3) < (x18_3.length:Int)
       rotate_left
       ·rw [if_neg c59] at H
        exact absurd H (by simp)
       rw [if_pos c59] at H
       have c59b0:decide ((rd y164 x12_3) < (x18_3.length:Int)) = true:=decide_eq_true c59
       (try simp only [hl143_2] at c59b0)
       (try simp only [hl147_2] at c59b0)
       (try simp only [hl153_2] at c59b0)
       clear c59
       obtain⟨y169,hy169⟩:∃ y_:List Int,y_ = (x18_3.set ((rd y164 x12_3):Int).toNat (wrap64 ((rd x18_3 (rd y164 x12_3)) + 1))):=⟨_,rfl⟩
       replace H:(spec_HuffLens.l2 k3 t155 x6_2 (wrap64 (x12_3 + 1)) y169 y164 ((rd_T61 x4_2 t146).f0) ((rd_T61 x4_2 t146).f1) ((rd_T61 x4_2 t146).f2) ((rd_T61 t149 t152).f0) ((rd_T61 t149 t152).f1) ((rd_T61 t149 t152).f2)) = some r:=by first|(rw [hy169];with_reducible exact H)|(have H2_:=(Option.bind_some _ _).symm.trans H;rw [hy169];with_reducible exact H2_)|(have H2_:=(Option.bind_some _ _).symm.trans H;with_reducible exact H2_)|with_reducible exact H|(rw [hy169];exact H)|exact H
       have Ny169:=mk0 hy169
       clear hy169
       have H':=mk0 H
       clear H
       obtain⟨Ao61,co61,eo61⟩:=Kd.R_slice HO_84.out
       subst eo61
       have p167:0 ≤ (x12_3:Int):=of_decide_eq_true (by first|(with_reducible assumption)|assumption)
       have q167:x12_3 < (y164.length:Int):=of_decide_eq_true (by first|(with_reducible assumption)|assumption)
       obtain⟨ad167,e167,hx167_0⟩:=Kd.at_int (Kd.R_reads' HO_84.out).2.2 x12_3 p167 q167
       cases e167
       replace p167:=eq_true p167
       replace q167:=eq_true q167
       obtain⟨Ao62,co62,eo62⟩:=Kd.R_slice HO_18.out
       subst eo62
       have p168:0 ≤ ((rd y164 x12_3):Int):=of_decide_eq_true (by first|(with_reducible assumption)|assumption)
       have q168:(rd y164 x12_3) < (x18_3.length:Int):=of_decide_eq_true (by first|(with_reducible assumption)|assumption)
       obtain⟨ad168,e168,hx168_0⟩:=Kd.at_int (Kd.R_reads' HO_18.out).2.2 (rd y164 x12_3) p168 q168
       cases e168
       replace p168:=eq_true p168
       replace q168:=eq_true q168
       have p60:0 ≤ ((rd y164 x12_3):Int):=of_decide_eq_true (by first|(with_reducible assumption)|assumption)
       have q60:((rd y164 x12_3):Int) < ((x18_3.length:Int):Int):=of_decide_eq_true (by first|(with_reducible assumption)|assumption)
       obtain⟨go60,co60,eo60,gb60,gl60,cl60,HG60⟩:=Kd.R_form HO_18.out (by omega)
       (first|cases eo60|(injection eo60 with ea_ en_ ec_;(first|subst ea_|(injection ea_ with ea_;subst ea_));subst ec_;clear en_))
       have GB60:=mk0 gb60
       have GG60:=mk0 HG60
       clear gb60 gl60 HG60
       (first|simp only [add_plain] at hx168_0|skip)
       obtain⟨hx60_0,hf60_0⟩:=Kd.R_celln 0 HO_18.out ((rd y164 x12_3):Int) p60 q60
       replace p60:=eq_true p60
       replace q60:=eq_true q60
       have HP63:=Kd.R_putg HO_18.out ((rd y164 x12_3):Int) (wrap64 ((rd x18_3 (rd y164 x12_3)) + 1))
       go_wp2_with (first|((with_reducible refine gate_store (t:=3) (p:=99) rfl ?_);refine store_event (t:=3) (p:=99) (v:=?vo_w64) (w1:=(wr.setCell ⟨go60,((rd y164 x12_3):Int).toNat,none⟩ (.int .i64 (wrap64 ((rd x18_3 (rd y164 x12_3)) + 1))))) ?hg ?ho ?hn ?hr ?_;(case ho=>rfl);(case hg=>rfl);(case hn=>rfl);(case hr=>first|(go_simp;done)|(go_simp;rfl));intro w64 hw;have hg:wr.grownBy w64 (some go60):=(by rw [hw];exact HP63.2);have hp_:Kd.R (Kd.int .i64) 3 w64 w.heap.size (fun k_=>some k_ ≠ (.slice (some ad167) y164.length co61:Value).ownBlock) (.slice (some ⟨go60,0,none⟩) x18_3.length co62) y169:=(by rw [hw,Ny169.out];exact HP63.1);clear HP63;replace HO_4:=mk0 (Kd.N_afterv (v:=(.slice (some ⟨go60,0,none⟩) x18_3.length co62)) (v1:=(.slice (some ⟨go60,0,none⟩) x18_3.length co62)) (ok:=(fun k_=>some k_ ≠ (.slice (some ad167) y164.length co61:Value).ownBlock ∧ k_ ≠ gb148 ∧ k_ ≠ gb154)) (by (with_reducible repeat (first|apply aN|apply nN|apply dN));exact Kd.N_mono HO_4.out (by first|exact fun _ hk=>⟨⟨hk.2.1,⟨hk.2.2.1,hk.2.2.2⟩⟩,hk.1⟩|(intro k_ hk;simp only [hk,ne_eq,and_self,not_false_eq_true]))) hg (.inl rfl));replace HO_84:=mk0 (Kd.R_after (v:=(.slice (some ⟨go60,0,none⟩) x18_3.length co62)) (v1:=(.slice (some ⟨go60,0,none⟩) x18_3.length co62)) (ok:=(fun _=>True)) (rR (Kd.R_mono HO_84.out (fun _ hk=>⟨trivial,hk⟩))) hg (.inl rfl));replace BK148:=mk0 (blk_grown (kN BK148.out) hg (Kd.R_ne HO_18.out BK148.out (by decide)));replace BK154:=mk0 (blk_grown (kN BK154.out) hg (Kd.R_ne HO_18.out BK154.out (by decide)));replace HO_18:=mk0 (hp_);replace HB:=mk0 ((by rw [hw];exact sZ (HB.out) GB60.out:Below w.heap.size w w64));clear hg hw hp_))
       go_roundg k3
       case measure=>have:=HK1.out;have:=HK2.out;have:=HK3.out;omega
       case rel=>exact⟨(wrap64 (x12_3 + 1)),(y169),(by first|rfl|(simp;done)|(simp [*];done)),H',⟨by have:=HK1.out;have:=HK2.out;have:=HK3.out;omega⟩,⟨by (with_reducible repeat (first|apply aN|apply nN|apply dN));exact Kd.N_mono HO_4.out (by first|exact fun _ hk=>⟨hk.2,⟨hk.1.1,⟨hk.1.2.1,hk.1.2.2⟩⟩⟩|(intro k_ hk;simp only [hk,ne_eq,and_self,not_false_eq_true]))⟩,⟨rR HO_18.out⟩,⟨by (with_reducible repeat (first|apply aR|apply nR|apply dR));exact Kd.R_mono HO_84.out (by first|exact fun _ hk=>hk.2|(intro k_ hk;simp only [hk,ne_eq,and_self,not_false_eq_true]))⟩,⟨kN BK148.out⟩,⟨kN BK154.out⟩,⟨kB HB.out⟩⟩
end Go.Proofs.Ytgjmmegmkdklbaa.QFnHuffBest
