-- A walk, made by walk.py, a program of this session's.
import Derived.Test.YtgjmmegmkdklbaaQFnHuffBackx0
namespace Go.Proofs.Ytgjmmegmkdklbaa.QFnHuffBack
open Go.RowKit Go.Proofs.YtgjmmegmkdklbaaW.PrintWords Go.Proofs.YtgjmmegmkdklbaaW.PrintLast Go.Proofs.YtgjmmegmkdklbaaW.PrintMore
attribute [local go_sem] max2_int min2_int max_two min_two max_three min_three max_four min_four   -- for this text's walks alone
set_option linter.unusedVariables false
set_option linter.unusedSimpArgs false

/-! ### impl_huffCodes: function 36 -/
mutual
def impl_huffCodes.l0 : Nat → List Int → Int → Int → Int → List Int → Option (List Int)
 | 0, _, _, _, _, _ => none
 | k + 1, x0, x4, x5, x6, x11 => if x6 ≤ 60 then (impl_huffCodes.l1 k x0 x4 x5 x6 x11 x0 (x0.length : Int) 0) else (some x11)
def impl_huffCodes.l1 : Nat → List Int → Int → Int → Int → List Int → List Int → Int → Int → Option (List Int)
 | 0, _, _, _, _, _, _, _, _ => none
 | k + 1, x0, x4, x5, x6, x11, x16, x17, x18 => if x18 < x17 then (if 0 ≤ x18 then (if x18 < (x16.length : Int) then (if (rd x16 x18) = x6 then (if 0 ≤ (wrap64 (x6 - x5)) then (if x18 < (x11.length : Int) then (impl_huffCodes.l1 k x0 (wrap64 ((shl .i64 x4 (wrap64 (x6 - x5))) + 1)) x6 x6 (x11.set (x18 : Int).toNat (shl .i64 x4 (wrap64 (x6 - x5)))) x16 x17 (wrap64 (x18 + 1))) else (none)) else (none)) else (impl_huffCodes.l1 k x0 x4 x5 x6 x11 x16 x17 (wrap64 (x18 + 1)))) else (none)) else (none)) else (impl_huffCodes.l0 k x0 x4 x5 (wrap64 (x6 + 1)) x11)
end
def impl_huffCodes.f (k : Nat) (l0 : List Int) : Option (List Int) := if 0 ≤ (l0.length : Int) then (if ((l0.length : Int) : Int).toNat ≤ 35184372088832 then (impl_huffCodes.l0 k l0 0 0 1 (List.replicate ((l0.length : Int) : Int).toNat 0)) else (none)) else (none)
theorem impl_huffCodes.mono_l : ∀ k, (∀ y0 y1 y2 y3 y4, LeO (impl_huffCodes.l0 k y0 y1 y2 y3 y4) (impl_huffCodes.l0 (k + 1) y0 y1 y2 y3 y4)) ∧ (∀ y0 y1 y2 y3 y4 y5 y6 y7, LeO (impl_huffCodes.l1 k y0 y1 y2 y3 y4 y5 y6 y7) (impl_huffCodes.l1 (k + 1) y0 y1 y2 y3 y4 y5 y6 y7))
 | 0 => ⟨fun _ _ _ _ _ r h => by simp [impl_huffCodes.l0] at h, fun _ _ _ _ _ _ _ _ r h => by simp [impl_huffCodes.l1] at h⟩
 | k + 1 => by
  obtain ⟨ih0, ih1⟩ := impl_huffCodes.mono_l k
  refine ⟨?_, ?_⟩
  ·intro y0 y1 y2 y3 y4
   unfold impl_huffCodes.l0
   repeat' first|(with_reducible first|exact ih0 _ _ _ _ _|exact ih1 _ _ _ _ _ _ _ _|exact LeO.refl _|exact LeO.none _|refine LeO.ite ?_ ?_|refine LeO.bind ?_ (fun _ => ?_))|exact LeO.none _|refine LeO.ite ?_ ?_|refine LeO.bind ?_ (fun _ => ?_)
  ·intro y0 y1 y2 y3 y4 y5 y6 y7
   unfold impl_huffCodes.l1
   repeat' first|(with_reducible first|exact ih0 _ _ _ _ _|exact ih1 _ _ _ _ _ _ _ _|exact LeO.refl _|exact LeO.none _|refine LeO.ite ?_ ?_|refine LeO.bind ?_ (fun _ => ?_))|exact LeO.none _|refine LeO.ite ?_ ?_|refine LeO.bind ?_ (fun _ => ?_)
theorem impl_huffCodes.mono : ∀ a0 k, LeO (impl_huffCodes.f k a0) (impl_huffCodes.f (k + 1) a0) := by
 intro a0 k
 obtain ⟨ih0, ih1⟩ := impl_huffCodes.mono_l k
 unfold impl_huffCodes.f
 repeat' first|(with_reducible first|exact ih0 _ _ _ _ _|exact ih1 _ _ _ _ _ _ _ _|exact LeO.refl _|exact LeO.none _|refine LeO.ite ?_ ?_|refine LeO.bind ?_ (fun _ => ?_))|exact LeO.none _|refine LeO.ite ?_ ?_|refine LeO.bind ?_ (fun _ => ?_)
set_option maxHeartbeats 8000000 in
set_option maxRecDepth 100000 in
theorem impl_huffCodes.calls (k : Nat) (A0 : Option Addr) (c0 : Nat) (l0 : List Int) (r : List Int) (w : World) (hr0 : Kd.C (Kd.int .i64) w A0 l0.length l0) (hc0 : l0.length ≤ c0) (h : impl_huffCodes.f k l0 = some r) :
  Calls Try.prog 36 #[.slice A0 l0.length c0] w fun e w' => ∃ v0_ : Value, e = .returned (v0_) ∧ Kd.R (Kd.int .i64) 3 w' w.heap.size (fun _ => True) v0_ r ∧ Below w.heap.size w w' := by
 have HR0:=mk0 hr0
 have HC0:=mk0 hc0
 clear hr0 hc0
 have HB:=mk0 (Below.refl w.heap.size w)
 have H:(if 0 ≤ (l0.length:Int) then (if ((l0.length:Int):Int).toNat ≤ 35184372088832 then (impl_huffCodes.l0 k l0 0 0 1 (List.replicate ((l0.length:Int):Int).toNat 0)) else (none)) else (none)) = some r:=h
 clear h
 by_cases c2:0 ≤ (l0.length:Int)
 ·rw [if_pos c2] at H
  have c2b0:=eq_true c2
  have c2b1:decide (0 ≤ (l0.length:Int)) = true:=decide_eq_true c2
  clear c2
  by_cases c3:((l0.length:Int):Int).toNat ≤ 35184372088832
  ·rw [if_pos c3] at H
   have c3b0:=eq_true c3
   have c3b1:decide (((l0.length:Int):Int).toNat ≤ 35184372088832) = true:=decide_eq_true c3
   clear c3
   obtain⟨y164,hy164⟩:∃ y_:List Int,y_ = (List.replicate ((l0.length:Int):Int).toNat 0):=⟨_,rfl⟩
   replace H:(impl_huffCodes.l0 k l0 0 0 1 y164) = some r:=by first|(rw [hy164];with_reducible exact H)|(have H2_:=(Option.bind_some _ _).symm.trans H;rw [hy164];with_reducible exact H2_)|(have H2_:=(Option.bind_some _ _).symm.trans H;with_reducible exact H2_)|with_reducible exact H|(rw [hy164];exact H)|exact H
   have Ny164:=mk0 hy164
   clear hy164
   have H':=mk0 H
   clear H
   go_enter Try.func36,Try.ntmps36
   go_wp2_with (first|((with_reducible refine gate_dst (N:=11) rfl ?_);refine Kd.R_make (Kd.int .i64) _ 3 rfl (N:=11) rfl 24 _ _ rfl (l0.length:Int) rfl rfl Try.underlying24 (.int .i64 0) 8 info3 rfl (by decide) (by omega) 0 (ok:=fun _=>True) (okp:=fun _=>True) rfl (fun _ hk=>hk) trivial (of_decide_eq_true (by first|(with_reducible assumption)|assumption)) (Nat.le_trans (Nat.mul_le_mul_right _ (of_decide_eq_true (by first|(with_reducible assumption)|assumption):(l0.length:Int).toNat ≤ 35184372088832)) (by omega)) (Below.refl _ _) (Nat.le_refl _) ?_;intro v165 w4 ho5 hb hg_ hnew_;clear hg_ hnew_;(first|rw [← Ny164.out] at ho5|(simp only [Int.reduceToNat] at ho5;rw [← Ny164.out] at ho5));have HO166:=mk0 (Kd.R_lower ho5 (kZ HB.out));replace HB:=mk0 (kS HB.out hb);clear hb ho5))
   go_loopg [4,5,6] k (fun kq v4 v5 v6 w'=>∃ (x4_1:Int) (x5_1:Int) (x6_1:Int) (x11_1:List Int),v4 = .int .i64 x4_1 ∧ v5 = .int .i64 x5_1 ∧ v6 = .int .i64 x6_1 ∧ Aside0 (impl_huffCodes.l0 kq l0 x4_1 x5_1 x6_1 x11_1 = some r) ∧ Aside0 (kq ≤ k) ∧ Aside0 (Kd.R (Kd.int .i64) 3 w' w.heap.size (fun _=>True) v165 x11_1) ∧ Aside0 (Below w.heap.size w w'))
   case atStart=>exact⟨(0),(0),(1),(y164),(by first|rfl|(simp;done)|(simp [*];done)),(by first|rfl|(simp;done)|(simp [*];done)),(by first|rfl|(simp;done)|(simp [*];done)),H',⟨Nat.le_refl _⟩,⟨rR HO166.out⟩,⟨kB HB.out⟩⟩
   case round =>
    clear H'
    try clear c2
    try clear c2b0
    try clear c2b1
    try clear p2
    try clear c3
    try clear c3b0
    try clear c3b1
    obtain⟨x4_1,x5_1,x6_1,x11_1,rfl,rfl,rfl,HA,HK1,HO_11,HB⟩:=hrel
    cases gk with
    | zero=>exact absurd HA.out (by simp [impl_huffCodes.l0])
    | succ k1 =>
     have H:=HA.out
     clear HA
     simp only [impl_huffCodes.l0] at H
     by_cases c6:x6_1 ≤ 60
     ·rw [if_pos c6] at H
      have c6b0:decide (x6_1 ≤ 60) = true:=decide_eq_true c6
      clear c6
      have H':=mk0 H
      clear H
      go_wp2
      go_loopg [4,5,18] k1 (fun kq v4 v5 v18 w'=>∃ (x4_2:Int) (x5_2:Int) (x11_2:List Int) (x18_2:Int),v4 = .int .i64 x4_2 ∧ v5 = .int .i64 x5_2 ∧ v18 = .int .i64 x18_2 ∧ Aside0 (impl_huffCodes.l1 kq l0 x4_2 x5_2 x6_1 x11_2 l0 (l0.length:Int) x18_2 = some r) ∧ Aside0 (kq ≤ k1) ∧ Aside0 (Kd.R (Kd.int .i64) 3 w' w.heap.size (fun _=>True) v165 x11_2) ∧ Aside0 (Below w.heap.size w w'))
      case atStart=>exact⟨(x4_1),(x5_1),(x11_1),(0),(by first|rfl|(simp;done)|(simp [*];done)),(by first|rfl|(simp;done)|(simp [*];done)),(by first|rfl|(simp;done)|(simp [*];done)),H',⟨Nat.le_refl _⟩,⟨rR HO_11.out⟩,⟨kB HB.out⟩⟩
      case round =>
       clear H'
       try clear c2
       try clear c2b0
       try clear c2b1
       try clear p2
       try clear c3
       try clear c3b0
       try clear c3b1
       try clear c6
       try clear c6b0
       try clear p2
       obtain⟨x4_2,x5_2,x11_2,x18_2,rfl,rfl,rfl,HA,HK2,HO_11,HB⟩:=hrel
       cases gk with
       | zero=>exact absurd HA.out (by simp [impl_huffCodes.l1])
       | succ k2 =>
        have H:=HA.out
        clear HA
        simp only [impl_huffCodes.l1] at H
        by_cases c7:x18_2 < (l0.length:Int)
        ·rw [if_pos c7] at H
         have c7b0:decide (x18_2 < (l0.length:Int)) = true:=decide_eq_true c7
         clear c7
         by_cases c8:0 ≤ x18_2
         ·rw [if_pos c8] at H
          have c8b0:decide (0 ≤ x18_2) = true:=decide_eq_true c8
          clear c8
          by_cases c9:x18_2 < (l0.length:Int)
          ·rw [if_pos c9] at H
           have c9b0:decide (x18_2 < (l0.length:Int)) = true:=decide_eq_true c9
           clear c9
           by_cases c10:(rd l0 x18_2) = x6_1
           ·rw [if_pos c10] at H
            have c10b0:((rd l0 x18_2) == x6_1) = true:=beq_iff_eq.mpr c10
            have c10b1:((rd l0 x18_2) != x6_1) = false:=bne_eq_false_iff_eq.mpr c10
            clear c10
            obtain⟨ji11,hji11⟩:∃ j_:Int,(wrap64 (x6_1 - x5_2)) = j_:=⟨_,rfl⟩
            replace H:(if 0 ≤ (ji11) then (if x18_2 < (x11_2.length:Int) then (impl_huffCodes.l1 k2 l0 (wrap64 ((shl .i64 x4_2 (ji11)) + 1)) x6_1 x6_1 (x11_2.set (x18_2:Int).toNat (shl .i64 x4_2 (ji11))) l0 (l0.length:Int) (wrap64 (x18_2 + 1))) else (none)) else (none)) = some r:=by first|(rw [hji11] at H;exact H)|(simp only [hji11] at H ⊢;exact H)
            have hji11w:(IntKind.i64.wrap (x6_1 - x5_2)) = ji11:=(i64_w _).trans hji11
            by_cases c12:0 ≤ (ji11)
            ·rw [if_pos c12] at H
             have c12b0:=eq_true c12
             have c12b1:decide (0 ≤ (ji11)) = true:=decide_eq_true c12
             clear c12
             obtain⟨ji13,hji13⟩:∃ j_:Int,(shl .i64 x4_2 (ji11)) = j_:=⟨_,rfl⟩
             replace H:(if x18_2 < (x11_2.length:Int) then (impl_huffCodes.l1 k2 l0 (wrap64 ((ji13) + 1)) x6_1 x6_1 (x11_2.set (x18_2:Int).toNat (ji13)) l0 (l0.length:Int) (wrap64 (x18_2 + 1))) else (none)) = some r:=by first|(rw [hji13] at H;exact H)|(simp only [hji13] at H ⊢;exact H)
             have hji13_:(IntKind.i64.wrap (x4_2 * 2 ^ min (ji11).toNat 64)) = ji13:=hji13
             have hji13z:(ji11) ≤ 64 → (IntKind.i64.wrap (x4_2 * 2 ^ (ji11).toNat)) = ji13:=shl_small hji13
             have hji13y:(wrap64 (x4_2 * 2 ^ min (ji11).toNat 64)) = ji13:=(i64_w _).symm.trans hji13_
             have hji13x:(ji11) ≤ 64 → (wrap64 (x4_2 * 2 ^ (ji11).toNat)) = ji13:=fun h_=>(i64_w _).symm.trans (hji13z h_)
             by_cases c14:x18_2 < (x11_2.length:Int)
             ·rw [if_pos c14] at H
              have c14b0:decide (x18_2 < (x11_2.length:Int)) = true:=decide_eq_true c14
              clear c14
              obtain⟨y168,hy168⟩:∃ y_:List Int,y_ = (x11_2.set (x18_2:Int).toNat (ji13)):=⟨_,rfl⟩
              replace H:(impl_huffCodes.l1 k2 l0 (wrap64 ((ji13) + 1)) x6_1 x6_1 y168 l0 (l0.length:Int) (wrap64 (x18_2 + 1))) = some r:=by first|(rw [hy168];with_reducible exact H)|(have H2_:=(Option.bind_some _ _).symm.trans H;rw [hy168];with_reducible exact H2_)|(have H2_:=(Option.bind_some _ _).symm.trans H;with_reducible exact H2_)|with_reducible exact H|(rw [hy168];exact H)|exact H
              have Ny168:=mk0 hy168
              clear hy168
              have H':=mk0 H
              clear H
              have p167:0 ≤ (x18_2:Int):=of_decide_eq_true (by first|(with_reducible assumption)|assumption)
              have q167:x18_2 < (l0.length:Int):=of_decide_eq_true (by first|(with_reducible assumption)|assumption)
              obtain⟨ad167,e167,hx167_0⟩:=Kd.at_int HR0.out x18_2 p167 q167
              cases e167
              replace hx167_0:=(HB.out.cell (World.block_lt_of_cell? w _ hx167_0)).trans hx167_0
              replace p167:=eq_true p167
              replace q167:=eq_true q167
              have p15:0 ≤ (x18_2:Int):=of_decide_eq_true (by first|(with_reducible assumption)|assumption)
              have q15:(x18_2:Int) < ((x11_2.length:Int):Int):=of_decide_eq_true (by first|(with_reducible assumption)|assumption)
              obtain⟨go15,co15,eo15,gb15,gl15,cl15,HG15⟩:=Kd.R_form HO_11.out (by omega)
              (first|cases eo15|(injection eo15 with ea_ en_ ec_;(first|subst ea_|(injection ea_ with ea_;subst ea_));subst ec_;clear en_))
              have GB15:=mk0 gb15
              have GG15:=mk0 HG15
              clear gb15 gl15 HG15
              obtain⟨hx15_0,hf15_0⟩:=Kd.R_celln 0 HO_11.out (x18_2:Int) p15 q15
              replace p15:=eq_true p15
              replace q15:=eq_true q15
              have HP16:=Kd.R_putg HO_11.out (x18_2:Int) ji13
              go_wp2_with (first|((with_reducible refine gate_store (t:=3) (p:=35) rfl ?_);refine store_event (t:=3) (p:=35) (v:=?vo_w17) (w1:=(wr.setCell ⟨go15,(x18_2:Int).toNat,none⟩ (.int .i64 ji13))) ?hg ?ho ?hn ?hr ?_;(case ho=>rfl);(case hg=>rfl);(case hn=>rfl);(case hr=>first|(go_simp;done)|(go_simp;rfl));intro w17 hw;have hg:wr.grownBy w17 (some go15):=(by rw [hw];exact HP16.2);have hp_:Kd.R (Kd.int .i64) 3 w17 w.heap.size (fun _=>True) (.slice (some ⟨go15,0,none⟩) x11_2.length co15) y168:=(by rw [hw,Ny168.out];exact HP16.1);clear HP16;replace HO_11:=mk0 (hp_);replace HB:=mk0 ((by rw [hw];exact sZ (HB.out) GB15.out:Below w.heap.size w w17));clear hg hw hp_))
              go_roundg k2
              case measure=>have:=HK1.out;have:=HK2.out;omega
              case rel=>exact⟨(wrap64 ((ji13) + 1)),(x6_1),(y168),(wrap64 (x18_2 + 1)),(by first|rfl|(simp;done)|(simp only [← hji13] <;> (first|rfl|simp))|(simp [*];done)),(by first|rfl|(simp;done)|(simp [*];done)),(by first|rfl|(simp;done)|(simp [*];done)),H',⟨by have:=HK1.out;have:=HK2.out;omega⟩,⟨rR HO_11.out⟩,⟨kB HB.out⟩⟩
             ·rw [if_neg c14] at H
              exact absurd H (by simp)
            ·rw [if_neg c12] at H
             exact absurd H (by simp)
           ·rw [if_neg c10] at H
            have c10b0:((rd l0 x18_2) == x6_1) = false:=beq_eq_false_iff_ne.mpr c10
            have c10b1:((rd l0 x18_2) != x6_1) = true:=bne_iff_ne.mpr c10
            have H':=mk0 H
            clear H
            have p167:0 ≤ (x18_2:Int):=of_decide_eq_true (by first|(with_reducible assumption)|assumption)
            have q167:x18_2 < (l0.length:Int):=of_decide_eq_true (by first|(with_reducible assumption)|assumption)
            obtain⟨ad167,e167,hx167_0⟩:=Kd.at_int HR0.out x18_2 p167 q167
            cases e167
            replace hx167_0:=(HB.out.cell (World.block_lt_of_cell? w _ hx167_0)).trans hx167_0
            replace p167:=eq_true p167
            replace q167:=eq_true q167
            go_wp2
            go_roundg k2
            case measure=>have:=HK1.out;have:=HK2.out;omega
            case rel=>exact⟨(x4_2),(x5_2),(x11_2),(wrap64 (x18_2 + 1)),(by first|rfl|(simp;done)|(simp [*];done)),(by first|rfl|(simp;done)|(simp [*];done)),(by first|rfl|(simp;done)|(simp [*];done)),H',⟨by have:=HK1.out;have:=HK2.out;omega⟩,⟨rR HO_11.out⟩,⟨kB HB.out⟩⟩
          ·rw [if_neg c9] at H
           exact absurd H (by simp)
         ·rw [if_neg c8] at H
          exact absurd H (by simp)
        ·rw [if_neg c7] at H
         have c7b0:decide (x18_2 < (l0.length:Int)) = false:=decide_eq_false c7
         clear c7
         have H':=mk0 H
         clear H
         go_wp2
         go_roundg k2
         case measure=>have:=HK1.out;have:=HK2.out;omega
         case rel=>exact⟨(x4_2),(x5_2),(wrap64 (x6_1 + 1)),(x11_2),(by first|rfl|(simp;done)|(simp [*];done)),(by first|rfl|(simp;done)|(simp [*];done)),(by first|rfl|(simp;done)|(simp [*];done)),H',⟨by have:=HK1.out;have:=HK2.out;omega⟩,⟨rR HO_11.out⟩,⟨kB HB.out⟩⟩
     ·rw [if_neg c6] at H
      have c6b0:decide (x6_1 ≤ 60) = false:=decide_eq_false c6
      clear c6
      obtain rfl:=Option.some.inj H
      go_wp2
      go_ret
      exact⟨_,by first|rfl|(simp [errW_none,errW_some] <;> rfl)|(simp [*,errW_none,errW_some] <;> rfl),rR HO_11.out,kB HB.out⟩
  ·rw [if_neg c3] at H
   exact absurd H (by simp)
 ·rw [if_neg c2] at H
  exact absurd H (by simp)

/-! ### impl_within: function 41 -/
def impl_within.f (a0 : Int) (a1 : Int) (a2 : Int) : Option (Bool) := if a1 ≤ a0 then (some (decide (a0 ≤ a2))) else (some false)
set_option maxHeartbeats 8000000 in
set_option maxRecDepth 100000 in
theorem impl_within.calls (a0 : Int) (a1 : Int) (a2 : Int) (r : Bool) (w : World) (h : impl_within.f a0 a1 a2 = some r) :
  Calls Try.prog 41 #[.int .i64 a0, .int .i64 a1, .int .i64 a2] w fun e w' => e = .returned (.bool r) ∧ Drawn0 w w' := by
 have H:(if a1 ≤ a0 then (some (decide (a0 ≤ a2))) else (some false)) = some r:=h
 clear h
 by_cases c4:a1 ≤ a0
 ·rw [if_pos c4] at H
  have c4b0:decide (a1 ≤ a0) = true:=decide_eq_true c4
  clear c4
  obtain rfl:=Option.some.inj H
  go_enter Try.func41,Try.ntmps41
  go_wp2
  go_ret
  exact⟨by first|rfl|(simp;done)|(simp [*];done),by repeat (first|exact Drawn0.refl _|apply Drawn0.step)⟩
 ·rw [if_neg c4] at H
  have c4b0:decide (a1 ≤ a0) = false:=decide_eq_false c4
  clear c4
  obtain rfl:=Option.some.inj H
  go_enter Try.func41,Try.ntmps41
  go_wp2
  go_ret
  exact⟨by first|rfl|(simp;done)|(simp [*];done),by repeat (first|exact Drawn0.refl _|apply Drawn0.step)⟩

/-! ### impl_digits: function 42 -/
def impl_digits.l0 : Nat → Int → List Int → Int → Int → Option (List Int)
 | 0, _, _, _, _ => none
 | k + 1, x0, x5, x6, x7 => if x7 < x6 then (if x5.length < 17592186044416 then (impl_digits.l0 k (x0 / 2) (x5 ++ [Go.bits .and .i64 x0 1]) x6 (wrap64 (x7 + 1))) else (none)) else (some x5)
def impl_digits.f (k : Nat) (a0 : Int) (a1 : Int) : Option (List Int) := impl_digits.l0 k a0 ([] : List Int) a1 0
theorem impl_digits.mono_l : ∀ k, (∀ y0 y1 y2 y3, LeO (impl_digits.l0 k y0 y1 y2 y3) (impl_digits.l0 (k + 1) y0 y1 y2 y3))
 | 0 => fun _ _ _ _ r h => by simp [impl_digits.l0] at h
 | k + 1 => by
  have ih0 := impl_digits.mono_l k
  ·intro y0 y1 y2 y3
   unfold impl_digits.l0
   repeat' first|(with_reducible first|exact ih0 _ _ _ _|exact LeO.refl _|exact LeO.none _|refine LeO.ite ?_ ?_|refine LeO.bind ?_ (fun _ => ?_))|exact LeO.none _|refine LeO.ite ?_ ?_|refine LeO.bind ?_ (fun _ => ?_)
theorem impl_digits.mono : ∀ a0 a1 k, LeO (impl_digits.f k a0 a1) (impl_digits.f (k + 1) a0 a1) := by
 intro a0 a1 k
 have ih0 := impl_digits.mono_l k
 unfold impl_digits.f
 repeat' first|(with_reducible first|exact ih0 _ _ _ _|exact LeO.refl _|exact LeO.none _|refine LeO.ite ?_ ?_|refine LeO.bind ?_ (fun _ => ?_))|exact LeO.none _|refine LeO.ite ?_ ?_|refine LeO.bind ?_ (fun _ => ?_)
set_option maxHeartbeats 8000000 in
set_option maxRecDepth 100000 in
theorem impl_digits.calls (k : Nat) (a0 : Int) (a1 : Int) (r : List Int) (w : World) (h : impl_digits.f k a0 a1 = some r) :
  Calls Try.prog 42 #[.int .i64 a0, .int .i64 a1] w fun e w' => ∃ v0_ : Value, e = .returned (v0_) ∧ Kd.R (Kd.int .i64) 3 w' w.heap.size (fun _ => True) v0_ r ∧ Below w.heap.size w w' := by
 have HB:=mk0 (Below.refl w.heap.size w)
 have H:(impl_digits.l0 k a0 ([]:List Int) a1 0) = some r:=h
 clear h
 have H':=mk0 H
 clear H
 go_enter Try.func42,Try.ntmps42
 go_wp2
 go_loopg [0,5,7] k (fun kq v0 v5 v7 w'=>∃ (x0_1:Int) (x5_1:List Int) (x7_1:Int),v0 = .int .i64 x0_1 ∧ v7 = .int .i64 x7_1 ∧ Aside0 (impl_digits.l0 kq x0_1 x5_1 a1 x7_1 = some r) ∧ Aside0 (kq ≤ k) ∧ Aside0 (Kd.R (Kd.int .i64) 3 w' w.heap.size (fun _=>True) v5 x5_1) ∧ Aside0 (Below w.heap.size w w'))
 case atStart=>exact⟨(a0),(([]:List Int)),(0),(by first|rfl|(simp;done)|(simp [*];done)),(by first|rfl|(simp;done)|(simp [*];done)),H',⟨Nat.le_refl _⟩,⟨by first|exact Kd.R_nil _ _ _ _ _|exact Kd.N_nil _ _ _ _ _|exact Kd.V_nil _ _ _ _ _|exact Kd.Q_nil _ _ _ _ _|exact Kd.S_nil _ _ _ _ _⟩,⟨kB HB.out⟩⟩
 case round =>
  clear H'
  try clear p2
  obtain⟨x0_1,x5_1,x7_1,rfl,rfl,HA,HK1,HO_5,HB⟩:=hrel
  cases gk with
  | zero=>exact absurd HA.out (by simp [impl_digits.l0])
  | succ k1 =>
   have H:=HA.out
   clear HA
   simp only [impl_digits.l0] at H
   by_cases c3:x7_1 < a1
   ·rw [if_pos c3] at H
    have c3b0:decide (x7_1 < a1) = true:=decide_eq_true c3
    clear c3
    by_cases c4:x5_1.length < 17592186044416
    ·rw [if_pos c4] at H
     have LMc4:=mk0 c4
     clear c4
     obtain⟨y169,hy169⟩:∃ y_:List Int,y_ = (x5_1 ++ [Go.bits .and .i64 x0_1 1]):=⟨_,rfl⟩
     replace H:(impl_digits.l0 k1 (x0_1 / 2) y169 a1 (wrap64 (x7_1 + 1))) = some r:=by first|(rw [hy169];with_reducible exact H)|(have H2_:=(Option.bind_some _ _).symm.trans H;rw [hy169];with_reducible exact H2_)|(have H2_:=(Option.bind_some _ _).symm.trans H;with_reducible exact H2_)|with_reducible exact H|(rw [hy169];exact H)|exact H
     have Ny169:=mk0 hy169
     clear hy169
     have H':=mk0 H
     clear H
     go_wp2_with (first|((with_reducible refine gate_builtin (b:=.append) (xs:=#[.tmp 9,.tmp 12]) rfl ?_);at_builtin;refine Kd.R_append (Kd.int .i64) (w0:=w) w.heap.size rfl (.tmp 9) (.tmp 12) 24 3 (.int .i64 0) 8 rfl Try.underlying24 info3 rfl (by decide) (by omega) u5 x5_1 (Go.bits .and .i64 x0_1 1) [.int .i64 (Go.bits .and .i64 x0_1 1)] (fun _=>True) (fun _=>False) rfl rfl ?aP (fun _ hk=>hk.elim) ?aF ?aO ?aB ?aS ?aL ?_;(case aP=>exact rfl);(case aB=>exact (kB HB.out));(case aF=>exact (fun _ _=>trivial));(case aO=>exact (rR HO_5.out));(case aS=>exact (kZ HB.out));(case aL=>have:=LMc4.out;omega);intro v170 w5 ho hb hg hat;rw [← Ny169.out] at ho;replace HB:=mk0 (hb);have HO171:=mk0 (ho);clear HO_5 ho hb hg hat))
     go_roundg k1
     case measure=>have:=HK1.out;omega
     case rel=>exact⟨(x0_1 / 2),(y169),(wrap64 (x7_1 + 1)),(by first|rfl|(simp;done)|(simp [*];done)),(by first|rfl|(simp;done)|(simp [*];done)),H',⟨by have:=HK1.out;omega⟩,⟨rR HO171.out⟩,⟨kB HB.out⟩⟩
    ·rw [if_neg c4] at H
     exact absurd H (by simp)
   ·rw [if_neg c3] at H
    have c3b0:decide (x7_1 < a1) = false:=decide_eq_false c3
    clear c3
    obtain rfl:=Option.some.inj H
    go_wp2
    go_ret
    exact⟨_,by first|rfl|(simp [errW_none,errW_some] <;> rfl)|(simp [*,errW_none,errW_some] <;> rfl),rR HO_5.out,kB HB.out⟩

/-! ### slices_Reverse_int_int: function 43 -/
def slices_Reverse_int_int.l0 : Nat → List Int → Int → Int → Option (List Int)
 | 0, _, _, _ => none
 | k + 1, x0, x2, x3 => if x2 < x3 then (if 0 ≤ x3 then (if x3 < (x0.length : Int) then (if 0 ≤ x2 then (if x2 < (x0.length : Int) then (slices_Reverse_int_int.l0 k ((x0.set (x2 : Int).toNat (rd x0 x3)).set (x3 : Int).toNat (rd x0 x2)) (wrap64 (x2 + 1)) (wrap64 (x3 - 1))) else (none)) else (none)) else (none)) else (none)) else (some x0)
def slices_Reverse_int_int.f (k : Nat) (l0 : List Int) : Option (List Int) := slices_Reverse_int_int.l0 k l0 0 (wrap64 ((l0.length : Int) - 1))
theorem slices_Reverse_int_int.mono_l : ∀ k, (∀ y0 y1 y2, LeO (slices_Reverse_int_int.l0 k y0 y1 y2) (slices_Reverse_int_int.l0 (k + 1) y0 y1 y2))
 | 0 => fun _ _ _ r h => by simp [slices_Reverse_int_int.l0] at h
 | k + 1 => by
  have ih0 := slices_Reverse_int_int.mono_l k
  ·intro y0 y1 y2
   unfold slices_Reverse_int_int.l0
   repeat' first|(with_reducible first|exact ih0 _ _ _|exact LeO.refl _|exact LeO.none _|refine LeO.ite ?_ ?_|refine LeO.bind ?_ (fun _ => ?_))|exact LeO.none _|refine LeO.ite ?_ ?_|refine LeO.bind ?_ (fun _ => ?_)
theorem slices_Reverse_int_int.mono : ∀ a0 k, LeO (slices_Reverse_int_int.f k a0) (slices_Reverse_int_int.f (k + 1) a0) := by
 intro a0 k
 have ih0 := slices_Reverse_int_int.mono_l k
 unfold slices_Reverse_int_int.f
 repeat' first|(with_reducible first|exact ih0 _ _ _|exact LeO.refl _|exact LeO.none _|refine LeO.ite ?_ ?_|refine LeO.bind ?_ (fun _ => ?_))|exact LeO.none _|refine LeO.ite ?_ ?_|refine LeO.bind ?_ (fun _ => ?_)
def slices_Reverse_int_int.T3 : Bool × List (List Nat × List Nat) := (true, [([], []), ([], []), ([], []), ([], []), ([], []), ([], []), ([4, 5], [4, 5]), ([6], [6]), ([], []), ([], []), ([8, 9], [8, 9]), ([10], [10]), ([0, 1, 0, 1, 4, 5, 6, 7, 11], [0, 1]), ([12, 7, 0, 1, 4, 5, 6, 7, 11], [7, 12]), ([2, 3, 0, 1, 2, 3, 4, 5, 6, 7, 8, 9, 10, 11, 12, 13], [2, 3]), ([14, 11, 13, 0, 1, 2, 3, 4, 5, 6, 7, 8, 9, 10, 11, 12, 13], [11, 14])])
def slices_Reverse_int_int.B3 : List Nat := [0, 0, 0, 0, 0, 0, 48, 112, 0, 0, 768, 1792, 4083, 8179, 16383, 32767]
theorem slices_Reverse_int_int.tab3 : rtab .any (opsOf Try.f43 3) = slices_Reverse_int_int.T3 := by kernel_rfl
theorem slices_Reverse_int_int.bits3 : waitsOk slices_Reverse_int_int.T3.2 slices_Reverse_int_int.B3 = true := by kernel_rfl
abbrev slices_Reverse_int_int.m0 : Array Bool := #[F,F,F,F,F,F,F,F,F,F,F,F,F,F,F,F]
abbrev slices_Reverse_int_int.m1 : Array Bool := #[T,F,F,F,F,F,F,F,F,F,F,F,F,F,F,F]
abbrev slices_Reverse_int_int.m2 : Array Bool := #[T,T,F,F,F,F,F,F,F,F,F,F,F,F,F,F]
abbrev slices_Reverse_int_int.m3 : Array Bool := #[T,T,T,F,F,F,F,F,F,F,F,F,F,F,F,F]
abbrev slices_Reverse_int_int.m4 : Array Bool := #[T,T,T,T,F,F,F,F,F,F,F,F,F,F,F,F]
abbrev slices_Reverse_int_int.m5 : Array Bool := #[T,T,T,T,T,F,F,F,F,F,F,F,F,F,F,F]
abbrev slices_Reverse_int_int.m6 : Array Bool := #[T,T,T,T,T,T,F,F,F,F,F,F,F,F,F,F]
abbrev slices_Reverse_int_int.m7 : Array Bool := #[T,T,T,T,T,T,T,F,F,F,F,F,F,F,F,F]
abbrev slices_Reverse_int_int.m8 : Array Bool := #[T,T,T,T,T,T,T,F,T,F,F,F,F,F,F,F]
abbrev slices_Reverse_int_int.m9 : Array Bool := #[T,T,T,T,T,T,T,F,T,T,F,F,F,F,F,F]
abbrev slices_Reverse_int_int.m10 : Array Bool := #[T,T,T,T,T,T,T,F,T,T,T,F,F,F,F,F]
abbrev slices_Reverse_int_int.m11 : Array Bool := #[T,T,T,T,T,T,T,T,T,T,T,F,F,F,F,F]
abbrev slices_Reverse_int_int.m12 : Array Bool := #[T,T,T,T,T,T,T,T,T,T,T,T,F,F,F,F]
abbrev slices_Reverse_int_int.m13 : Array Bool := #[T,T,T,T,T,T,T,T,T,T,T,T,T,F,F,F]
abbrev slices_Reverse_int_int.m14 : Array Bool := #[T,T,T,T,T,T,T,T,T,T,T,T,T,T,F,F]
abbrev slices_Reverse_int_int.m15 : Array Bool := #[T,T,T,T,T,T,T,T,T,T,T,T,T,T,T,F]
abbrev slices_Reverse_int_int.m16 : Array Bool := #[T,T,T,T,T,T,T,T,T,T,T,T,T,T,T,T]
set_option maxHeartbeats 8000000 in
set_option maxRecDepth 100000 in
theorem slices_Reverse_int_int.calls (k : Nat) (P0_ : Nat → Prop) (u9000_ : Value) (l0 : List Int) (r : List Int) (w0 w : World) (hB : Below w0.heap.size w0 w) (ho0 : Kd.R (Kd.int .i64) 3 w w0.heap.size P0_ u9000_ l0) (h : slices_Reverse_int_int.f k l0 = some r) :
  Calls Try.prog 43 #[u9000_] w fun e w' => e = .returned (.tuple #[]) ∧ Kd.R (Kd.int .i64) 3 w' w0.heap.size (fun k_ => (P0_ k_ ∨ w.heap.size ≤ k_)) u9000_ r ∧ Below w0.heap.size w0 w' ∧ Kept w w' (fun k_ => P0_ k_) := by
 have HO0:=mk0 (show Kd.R (Kd.int .i64) 3 w w0.heap.size (fun k_=>(P0_ k_ ∨ w.heap.size ≤ k_)) u9000_ l0 from Kd.R_mono ho0 (fun k_ hk=>(.inl hk)))
 have HK:=mk0 (Kept.refl w (fun k_=>P0_ k_))
 have HW0:=mk0 hB.size
 have HB:=mk0 hB
 clear hB
 have H:(slices_Reverse_int_int.l0 k l0 0 (wrap64 ((l0.length:Int) - 1))) = some r:=h
 clear h
 have H':=mk0 H
 clear H
 obtain⟨Ao2,co2,eo2⟩:=Kd.R_slice HO0.out
 subst eo2
 go_enter Try.func43,Try.ntmps43
 go_wp2
 go_loopg [2,3] k (fun kq v2 v3 w'=>∃ (x0_1:List Int) (x2_1:Int) (x3_1:Int),v2 = .int .i64 x2_1 ∧ v3 = .int .i64 x3_1 ∧ Aside0 (slices_Reverse_int_int.l0 kq x0_1 x2_1 x3_1 = some r) ∧ Aside0 (kq ≤ k) ∧ Aside0 (Kd.R (Kd.int .i64) 3 w' w0.heap.size (fun k_=>(P0_ k_ ∨ w.heap.size ≤ k_)) (.slice Ao2 l0.length co2) x0_1) ∧ Aside0 (Kept w w' (fun k_=>P0_ k_)) ∧ Aside0 (Below w0.heap.size w0 w'))
 case atStart=>exact⟨(l0),(0),(wrap64 ((l0.length:Int) - 1)),(by first|rfl|(simp;done)|(simp [*];done)),(by first|rfl|(simp;done)|(simp [*];done)),H',⟨Nat.le_refl _⟩,⟨rR HO0.out⟩,⟨by repeat (first|(with_reducible first|exact HK.out|apply Kept.alloc|apply Kept.drewN|apply Kept.drew)|exact HK.out)⟩,⟨kB HB.out⟩⟩
 case round =>
  clear H'
  try clear p2
  obtain⟨x0_1,x2_1,x3_1,rfl,rfl,HA,HK1,HO_0,HK,HB⟩:=hrel
  have hl0_1:=(Kd.R_reads' HO_0.out).1
  rw [hl0_1] at HO_0
  (try simp only [hl0_1])
  cases gk with
  | zero=>exact absurd HA.out (by simp [slices_Reverse_int_int.l0])
  | succ k1 =>
   have H:=HA.out
   clear HA
   simp only [slices_Reverse_int_int.l0] at H
   by_cases c3:x2_1 < x3_1
   rotate_left
   ·rw [if_neg c3] at H
    have c3b0:decide (x2_1 < x3_1) = false:=decide_eq_false c3
    clear c3
    obtain rfl:=Option.some.inj H
    go_wp2
    first|go_end0|((try simp only [Exit.inBlock,Exit.then]);refine bodyPost_ret (results_none rfl _ _ _) rfl ?_)
    exact⟨by first|rfl|(simp [errW_none,errW_some] <;> rfl)|(simp [*,errW_none,errW_some] <;> rfl),(by first|exact (rR HO_0.out)|(simp only [hl0_1];exact (rR HO_0.out))),kB HB.out,by repeat (first|(with_reducible first|exact HK.out|apply Kept.alloc|apply Kept.drewN|apply Kept.drew)|exact HK.out)⟩

   rw [if_pos c3] at H
   have c3b0:decide (x2_1 < x3_1) = true:=decide_eq_true c3
   clear c3
   by_cases c4:0 ≤ x3_1
   rotate_left
   ·rw [if_neg c4] at H
    exact absurd H (by simp)
   rw [if_pos c4] at H
   have c4b0:decide (0 ≤ x3_1) = true:=decide_eq_true c4
   clear c4
   by_cases c5:x3_1 < (x0_1.length:Int)
   rotate_left
   ·rw [if_neg c5] at H
    exact absurd H (by simp)
   rw [if_pos c5] at H
   have c5b0:decide (x3_1 < (x0_1.length:Int)) = true:=decide_eq_true c5
   (try simp only [hl0_1] at c5b0)
   clear c5
   by_cases c6:0 ≤ x2_1
   rotate_left
   ·rw [if_neg c6] at H
    exact absurd H (by simp)
   rw [if_pos c6] at H
   have c6b0:decide (0 ≤ x2_1) = true:=decide_eq_true c6
   clear c6
   by_cases c7:x2_1 < (x0_1.length:Int)
   rotate_left
   ·rw [if_neg c7] at H
    exact absurd H (by simp)
   rw [if_pos c7] at H
   have c7b0:decide (x2_1 < (x0_1.length:Int)) = true:=decide_eq_true c7
   (try simp only [hl0_1] at c7b0)
   clear c7
   obtain⟨y174,hy174⟩:∃ y_:List Int,y_ = (x0_1.set (x2_1:Int).toNat (rd x0_1 x3_1)):=⟨_,rfl⟩
   replace H:(slices_Reverse_int_int.l0 k1 (y174.set (x3_1:Int).toNat (rd x0_1 x2_1)) (wrap64 (x2_1 + 1)) (wrap64 (x3_1 - 1))) = some r:=by first|(rw [hy174];with_reducible exact H)|(have H2_:=(Option.bind_some _ _).symm.trans H;rw [hy174];with_reducible exact H2_)|(have H2_:=(Option.bind_some _ _).symm.trans H;with_reducible exact H2_)|with_reducible exact H|(rw [hy174];exact H)|exact H
   have Ny174:=mk0 hy174
   clear hy174
   obtain⟨y175,hy175⟩:∃ y_:List Int,y_ = (y174.set (x3_1:Int).toNat (rd x0_1 x2_1)):=⟨_,rfl⟩
   replace H:(slices_Reverse_int_int.l0 k1 y175 (wrap64 (x2_1 + 1)) (wrap64 (x3_1 - 1))) = some r:=by first|(rw [hy175];with_reducible exact H)|(have H2_:=(Option.bind_some _ _).symm.trans H;rw [hy175];with_reducible exact H2_)|(have H2_:=(Option.bind_some _ _).symm.trans H;with_reducible exact H2_)|with_reducible exact H|(rw [hy175];exact H)|exact H
   have Ny175:=mk0 hy175
   clear hy175
   have H':=mk0 H
   clear H
   try go_wp2
   replace HO_0:=mk0 (dR HO_0.out)
   replace HK:=mk0 (Kept.drew HK.out)
   replace HB:=mk0 (dZ HB.out)
   have p172:0 ≤ (x3_1:Int):=of_decide_eq_true (by first|(with_reducible assumption)|assumption)
   have q172:x3_1 < (x0_1.length:Int):=of_decide_eq_true (by first|(with_reducible assumption)|assumption)
   obtain⟨ad172,e172,hx172_0⟩:=Kd.at_int (Kd.R_reads' HO_0.out).2.2 x3_1 p172 q172
   cases e172
   replace p172:=eq_true p172
   replace q172:=eq_true q172
   have p173:0 ≤ (x2_1:Int):=of_decide_eq_true (by first|(with_reducible assumption)|assumption)
   have q173:x2_1 < (x0_1.length:Int):=of_decide_eq_true (by first|(with_reducible assumption)|assumption)
   obtain⟨ad173,e173,hx173_0⟩:=Kd.at_int (Kd.R_reads' HO_0.out).2.2 x2_1 p173 q173
   obtain rfl:ad172 = ad173:=(by injection e173)
   replace p173:=eq_true p173
   replace q173:=eq_true q173
   have p8:0 ≤ (x2_1:Int):=of_decide_eq_true (by first|(with_reducible assumption)|assumption)
   have q8:(x2_1:Int) < ((x0_1.length:Int):Int):=of_decide_eq_true (by first|(with_reducible assumption)|assumption)
   obtain⟨go8,co8,eo8,gb8,gl8,cl8,HG8⟩:=Kd.R_form HO_0.out (by omega)
   (first|cases eo8|(injection eo8 with ea_ en_ ec_;(first|subst ea_|(injection ea_ with ea_;subst ea_));subst ec_;clear en_))
   have GB8:=mk0 gb8
   have GG8:=mk0 HG8
   clear gb8 gl8 HG8
   have HMgo8:=mk0 (show (P0_ go8 ∨ w.heap.size ≤ go8) from (HO_0.out.1 _ rfl))
   (first|simp only [add_plain] at hx172_0|skip)
   (first|simp only [add_plain] at hx173_0|skip)
   obtain⟨hx8_0,hf8_0⟩:=Kd.R_celln 0 HO_0.out (x2_1:Int) p8 q8
   replace p8:=eq_true p8
   replace q8:=eq_true q8
   have HP11:=Kd.R_putn HO_0.out (x2_1:Int) (rd x0_1 x3_1)
   rw [← Ny174.out] at HP11
   have HQ11:=mk0 HP11
   clear HP11
   have p9:0 ≤ (x3_1:Int):=of_decide_eq_true (by first|(with_reducible assumption)|assumption)
   have q9:(x3_1:Int) < ((x0_1.length:Int):Int):=of_decide_eq_true (by first|(with_reducible assumption)|assumption)
   obtain⟨hx9_0,hf9_0⟩:=Kd.R_celln 0 HQ11.out (x3_1:Int) p9 q9
   replace p9:=eq_true p9
   replace q9:=eq_true q9
   have HP12:=Kd.R_putn HQ11.out (x3_1:Int) (rd x0_1 x2_1)
   rw [← Ny175.out] at HP12
   have HQ12:=mk0 HP12
   clear HP12
   refine start_ (n:=16) (S:=fun w'=>w'.cell? ⟨go8,(x3_1).toNat,none⟩ = some (.int .i64 (rd x0_1 x3_1)) ∧ w'.cell? ⟨go8,(x2_1).toNat,none⟩ = some (.int .i64 (rd x0_1 x2_1))) (ds:=[13,15]) slices_Reverse_int_int.m0 (by kernel_rfl) rfl rfl ⟨hx172_0,hx173_0⟩ (fun hHeld=>?_);refine with_tabW slices_Reverse_int_int.tab3 slices_Reverse_int_int.bits3 (fun HT_ HW_=>?_)
   generalize wr.drew = w10 at HO_0 HK HB GG8 HQ11 HQ12 hf8_0 hf9_0 hx172_0 hx173_0 hx8_0 hx9_0 hHeld ⊢
   refine pure_ (i:=0) (N:=some 14) (v:=?_) (a':=?_) slices_Reverse_int_int.m1 rfl rfl (any_of HT_.out (by kernel_rfl)) (fun _ _ _ h=>h) (Or.inl ⟨by rfl,?_⟩) ?_ ?_
   rotate_left
   ·intro w'
    go_simp
    with_reducible rfl
   rotate_left
   ·simp only [Act.put,sA,sO,sS,i64_w,i32_w]
    rfl
   refine pure_ (i:=1) (N:=some 15) (v:=?_) (a':=?_) slices_Reverse_int_int.m2 rfl rfl (any_of HT_.out (by kernel_rfl)) (fun _ _ _ h=>h) (Or.inl ⟨by rfl,?_⟩) ?_ ?_
   rotate_left
   ·intro w'
    go_simp
    with_reducible rfl
   rotate_left
   ·simp only [Act.put,sA,sO,sS,i64_w,i32_w]
    rfl
   refine pure_ (i:=2) (N:=some 16) (v:=?_) (a':=?_) slices_Reverse_int_int.m3 rfl rfl (any_of HT_.out (by kernel_rfl)) (fun _ _ _ h=>h) (Or.inl ⟨by rfl,?_⟩) ?_ ?_
   rotate_left
   ·intro w'
    go_simp
    with_reducible rfl
   rotate_left
   ·simp only [Act.put,sA,sO,sS,i64_w,i32_w]
    rfl
   refine pure_ (i:=3) (N:=some 17) (v:=?_) (a':=?_) slices_Reverse_int_int.m4 rfl rfl (any_of HT_.out (by kernel_rfl)) (fun _ _ _ h=>h) (Or.inl ⟨by rfl,?_⟩) ?_ ?_
   rotate_left
   ·intro w'
    go_simp
    with_reducible rfl
   rotate_left
   ·simp only [Act.put,sA,sO,sS,i64_w,i32_w]
    rfl
   refine pure_ (i:=4) (N:=some 18) (v:=?_) (a':=?_) slices_Reverse_int_int.m5 rfl rfl (any_of HT_.out (by kernel_rfl)) (fun _ _ _ h=>h) (Or.inl ⟨by rfl,?_⟩) ?_ ?_
   rotate_left
   ·intro w'
    go_simp
    with_reducible rfl
   rotate_left
   ·simp only [Act.put,sA,sO,sS,i64_w,i32_w]
    rfl
   refine pure_ (i:=5) (N:=some 19) (v:=?_) (a':=?_) slices_Reverse_int_int.m6 rfl rfl (any_of HT_.out (by kernel_rfl)) (fun _ _ _ h=>h) (Or.inl ⟨by rfl,?_⟩) ?_ ?_
   rotate_left
   ·intro w'
    go_simp
    with_reducible rfl
   rotate_left
   ·simp only [Act.put,sA,sO,sS,i64_w,i32_w]
    rfl
   refine pure_ (i:=6) (N:=some 20) (v:=?_) (a':=?_) slices_Reverse_int_int.m7 rfl rfl (any_of HT_.out (by kernel_rfl)) (fun _ _ _ h=>h) (Or.inl ⟨by rfl,?_⟩) ?_ ?_
   rotate_left
   ·intro w'
    go_simp
    with_reducible rfl
   rotate_left
   ·simp only [Act.put,sA,sO,sS,i64_w,i32_w]
    rfl
   refine pure_ (i:=8) (N:=some 22) (v:=?_) (a':=?_) slices_Reverse_int_int.m8 rfl rfl (any_of HT_.out (by kernel_rfl)) (fun _ _ _ h=>h) (Or.inl ⟨by rfl,?_⟩) ?_ ?_
   rotate_left
   ·intro w'
    go_simp
    with_reducible rfl
   rotate_left
   ·simp only [Act.put,sA,sO,sS,i64_w,i32_w]
    rfl
   refine pure_ (i:=9) (N:=some 23) (v:=?_) (a':=?_) slices_Reverse_int_int.m9 rfl rfl (any_of HT_.out (by kernel_rfl)) (fun _ _ _ h=>h) (Or.inl ⟨by rfl,?_⟩) ?_ ?_
   rotate_left
   ·intro w'
    go_simp
    with_reducible rfl
   rotate_left
   ·simp only [Act.put,sA,sO,sS,i64_w,i32_w]
    rfl
   refine pure_ (i:=10) (N:=some 24) (v:=?_) (a':=?_) slices_Reverse_int_int.m10 rfl rfl (any_of HT_.out (by kernel_rfl)) (fun _ _ _ h=>h) (Or.inl ⟨by rfl,?_⟩) ?_ ?_
   rotate_left
   ·intro w'
    go_simp
    with_reducible rfl
   rotate_left
   ·simp only [Act.put,sA,sO,sS,i64_w,i32_w]
    rfl
   refine take_ (i:=7) (N:=some 21) (v:=?_) (a':=?_) slices_Reverse_int_int.m11 rfl rfl (take_ofW HT_.out HW_.out (by kernel_rfl)) (fun _ _ _ h=>h) (Or.inl ⟨by rfl,?_⟩) hHeld ?_ ?_
   rotate_left
   ·rintro w' ⟨s0,s1⟩
    go_simp
    with_reducible rfl
   rotate_left
   ·simp only [Act.put,sA,sO,sS,i64_w,i32_w]
    rfl
   refine take_ (i:=11) (N:=some 25) (v:=?_) (a':=?_) slices_Reverse_int_int.m12 rfl rfl (take_ofW HT_.out HW_.out (by kernel_rfl)) (fun _ _ _ h=>h) (Or.inl ⟨by rfl,?_⟩) hHeld ?_ ?_
   rotate_left
   ·rintro w' ⟨s0,s1⟩
    go_simp
    with_reducible rfl
   rotate_left
   ·simp only [Act.put,sA,sO,sS,i64_w,i32_w]
    rfl
   refine pure_ (i:=12) (N:=some 26) (v:=?_) (a':=?_) slices_Reverse_int_int.m13 rfl rfl (any_of HT_.out (by kernel_rfl)) (fun _ _ _ h=>h) (Or.inl ⟨by rfl,?_⟩) ?_ ?_
   rotate_left
   ·intro w'
    go_simp
    with_reducible rfl
   rotate_left
   ·simp only [Act.put,sA,sO,sS,i64_w,i32_w]
    rfl
   refine last_ (i:=13) (N:=none) slices_Reverse_int_int.m14 rfl rfl (one_of HT_.out (by kernel_rfl)) (by decide) (fun K hK=>?_)
   refine skip_ (w1:=?_) (by rfl) rfl ?_ ?_
   rotate_left
   ·go_simp
    rfl
   refine hK.out _ _ ?_
   clear hK K
   refine pure_ (i:=14) (N:=some 27) (v:=?_) (a':=?_) slices_Reverse_int_int.m15 rfl rfl (any_of HT_.out (by kernel_rfl)) (fun _ _ _ h=>h) (Or.inl ⟨by rfl,?_⟩) ?_ ?_
   rotate_left
   ·intro w'
    go_simp
    with_reducible rfl
   rotate_left
   ·simp only [Act.put,sA,sO,sS,i64_w,i32_w]
    rfl
   refine last_ (i:=15) (N:=none) slices_Reverse_int_int.m16 rfl rfl (one_of HT_.out (by kernel_rfl)) (by decide) (fun K hK=>?_)
   refine skip_ (w1:=?_) (by rfl) rfl ?_ ?_
   rotate_left
   ·go_simp
    rfl
   refine hK.out _ _ ?_
   clear hK K
   refine done_ (done_of HT_.out (by kernel_rfl)) ?_
   try go_wp2
   (try simp only [← hl0_1])
   go_roundg k1
   case measure=>have:=HK1.out;omega
   case rel=>exact⟨(y175),(wrap64 (x2_1 + 1)),(wrap64 (x3_1 - 1)),(by first|rfl|(simp;done)|(simp [*];done)),(by first|rfl|(simp;done)|(simp [*];done)),H',⟨by have:=HK1.out;omega⟩,⟨by (try simp only [hl0_1]);(with_reducible repeat (first|apply aR|apply nR|apply dR));exact HQ12.out⟩,⟨by repeat (first|(with_reducible first|exact HK.out|apply Kept.alloc|apply Kept.drewN|apply Kept.drew|refine Kept.setCell ?_ HMgo8.out _|refine Kept.setCell ?_ HMgo8.out _)|exact HK.out)⟩,⟨kB HB.out⟩⟩
end Go.Proofs.Ytgjmmegmkdklbaa.QFnHuffBack
