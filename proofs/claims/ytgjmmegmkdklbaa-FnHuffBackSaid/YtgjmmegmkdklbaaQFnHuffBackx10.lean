-- A walk, made by walk.py, a program of this session's.
import Derived.Test.YtgjmmegmkdklbaaQFnHuffBackx0
import Derived.Test.YtgjmmegmkdklbaaQFnHuffBackx1
import Derived.Test.YtgjmmegmkdklbaaQFnHuffBackx3
import Derived.Test.YtgjmmegmkdklbaaQFnHuffBackx5
import Derived.Test.YtgjmmegmkdklbaaQFnHuffBackx6
import Derived.Test.YtgjmmegmkdklbaaQFnHuffBackx9
namespace Go.Proofs.Ytgjmmegmkdklbaa.QFnHuffBack
open Go.RowKit Go.Proofs.YtgjmmegmkdklbaaW.PrintWords Go.Proofs.YtgjmmegmkdklbaaW.PrintLast Go.Proofs.YtgjmmegmkdklbaaW.PrintMore
attribute [local go_sem] max2_int min2_int max_two min_two max_three min_three max_four min_four   -- for this text's walks alone
set_option linter.unusedVariables false
set_option linter.unusedSimpArgs false

/-! ### spec_l01Cur_symbolsOf: function 64 -/
mutual
def spec_l01Cur_symbolsOf.l0 : Nat → List Int → List Int → Int → List Int → Int → Int → Option (List Int × Int × Int)
 | 0, _, _, _, _, _, _ => none
 | k + 1, x1, x5, x6, x1000, x1001, x1002 => if x6 < (x1.length : Int) then (if 0 ≤ x6 then (if (rd x1 x6) > 0 then (if x5.length < 17592186044416 then (spec_l01Cur_symbolsOf.l0 k x1 (x5 ++ [x6]) (wrap64 (x6 + 1)) x1000 x1001 x1002) else (none)) else (spec_l01Cur_symbolsOf.l0 k x1 x5 (wrap64 (x6 + 1)) x1000 x1001 x1002)) else (none)) else ((spec_l01Cur_pick.f x1000 x1001 x1002 20).bind fun bt417 => (spec_l01Cur_symbolsOf.l1 k x5 (([] : List Int)) bt417.1 x1000 bt417.2.1 bt417.2.2))
def spec_l01Cur_symbolsOf.j2 : Nat → List Int → List Int → Int → Int → Option (List Int × Int × Int)
 | 0, _, _, _, _ => none
 | k + 1, x7, x1000, x1001, x1002 => (spec_l01Cur_once.f x1000 x1001 x1002 9).bind fun bt427 => (if bt427.1 = true then ((spec_l01Cur_raw.f x1000 bt427.2.1 bt427.2.2).bind fun bt430 => ((spec_l01Cur_pick.f x1000 bt430.2.1 bt430.2.2 12).bind fun bt433 => ((some (([bt430.1, bt433.1] : List Int) : List Int)).bind fun y436 => ((spec_l01Cur_pick.f x1000 bt433.2.1 bt433.2.2 2).bind fun bt439 => (if 0 ≤ bt439.1 then (if bt439.1 < (y436.length : Int) then (if x7.length < 17592186044416 then (some ((x7 ++ [rd y436 bt439.1]), bt439.2.1, bt439.2.2)) else (none)) else (none)) else (none)))))) else (some (x7, bt427.2.1, bt427.2.2)))
def spec_l01Cur_symbolsOf.l1 : Nat → List Int → List Int → Int → List Int → Int → Int → Option (List Int × Int × Int)
 | 0, _, _, _, _, _, _ => none
 | k + 1, x5, x7, x8, x1000, x1001, x1002 => if x8 > 0 then (if (x5.length : Int) > 0 then ((spec_l01Cur_pick.f x1000 x1001 x1002 (mn 200 (x5.length : Int))).bind fun bt420 => (if 0 ≤ bt420.1 then (if bt420.1 < (x5.length : Int) then (if x7.length < 17592186044416 then (spec_l01Cur_symbolsOf.l1 k x5 (x7 ++ [rd x5 bt420.1]) (wrap64 (x8 - 1)) x1000 bt420.2.1 bt420.2.2) else (none)) else (none)) else (none))) else (spec_l01Cur_symbolsOf.j2 k x7 x1000 x1001 x1002)) else (spec_l01Cur_symbolsOf.j2 k x7 x1000 x1001 x1002)
end
def spec_l01Cur_symbolsOf.f (k : Nat) (s0_0 : List Int) (s0_1 : Int) (s0_2 : Int) (l1 : List Int) : Option (List Int × Int × Int) := spec_l01Cur_symbolsOf.l0 k l1 (([] : List Int)) 0 s0_0 s0_1 s0_2
theorem spec_l01Cur_symbolsOf.mono_l : ∀ k, (∀ y0 y1 y2 y3 y4 y5, LeO (spec_l01Cur_symbolsOf.l0 k y0 y1 y2 y3 y4 y5) (spec_l01Cur_symbolsOf.l0 (k + 1) y0 y1 y2 y3 y4 y5)) ∧ (∀ y0 y1 y2 y3, LeO (spec_l01Cur_symbolsOf.j2 k y0 y1 y2 y3) (spec_l01Cur_symbolsOf.j2 (k + 1) y0 y1 y2 y3)) ∧ (∀ y0 y1 y2 y3 y4 y5, LeO (spec_l01Cur_symbolsOf.l1 k y0 y1 y2 y3 y4 y5) (spec_l01Cur_symbolsOf.l1 (k + 1) y0 y1 y2 y3 y4 y5))
 | 0 => ⟨fun _ _ _ _ _ _ r h => by simp [spec_l01Cur_symbolsOf.l0] at h, fun _ _ _ _ r h => by simp [spec_l01Cur_symbolsOf.j2] at h, fun _ _ _ _ _ _ r h => by simp [spec_l01Cur_symbolsOf.l1] at h⟩
 | k + 1 => by
  obtain ⟨ih0, ih1, ih2⟩ := spec_l01Cur_symbolsOf.mono_l k
  refine ⟨?_, ?_, ?_⟩
  ·intro y0 y1 y2 y3 y4 y5
   unfold spec_l01Cur_symbolsOf.l0
   repeat' first|(with_reducible first|exact ih0 _ _ _ _ _ _|exact ih1 _ _ _ _|exact ih2 _ _ _ _ _ _|exact LeO.refl _|exact LeO.none _|refine LeO.ite ?_ ?_|refine LeO.bind ?_ (fun _ => ?_))|exact LeO.none _|refine LeO.ite ?_ ?_|refine LeO.bind ?_ (fun _ => ?_)
  ·intro y0 y1 y2 y3
   unfold spec_l01Cur_symbolsOf.j2
   repeat' first|(with_reducible first|exact ih0 _ _ _ _ _ _|exact ih1 _ _ _ _|exact ih2 _ _ _ _ _ _|exact LeO.refl _|exact LeO.none _|refine LeO.ite ?_ ?_|refine LeO.bind ?_ (fun _ => ?_))|exact LeO.none _|refine LeO.ite ?_ ?_|refine LeO.bind ?_ (fun _ => ?_)
  ·intro y0 y1 y2 y3 y4 y5
   unfold spec_l01Cur_symbolsOf.l1
   repeat' first|(with_reducible first|exact ih0 _ _ _ _ _ _|exact ih1 _ _ _ _|exact ih2 _ _ _ _ _ _|exact LeO.refl _|exact LeO.none _|refine LeO.ite ?_ ?_|refine LeO.bind ?_ (fun _ => ?_))|exact LeO.none _|refine LeO.ite ?_ ?_|refine LeO.bind ?_ (fun _ => ?_)
theorem spec_l01Cur_symbolsOf.mono : ∀ a0 a1 a2 a3 k, LeO (spec_l01Cur_symbolsOf.f k a0 a1 a2 a3) (spec_l01Cur_symbolsOf.f (k + 1) a0 a1 a2 a3) := by
 intro a0 a1 a2 a3 k
 obtain ⟨ih0, ih1, ih2⟩ := spec_l01Cur_symbolsOf.mono_l k
 unfold spec_l01Cur_symbolsOf.f
 repeat' first|(with_reducible first|exact ih0 _ _ _ _ _ _|exact ih1 _ _ _ _|exact ih2 _ _ _ _ _ _|exact LeO.refl _|exact LeO.none _|refine LeO.ite ?_ ?_|refine LeO.bind ?_ (fun _ => ?_))|exact LeO.none _|refine LeO.ite ?_ ?_|refine LeO.bind ?_ (fun _ => ?_)
set_option maxHeartbeats 8000000 in
set_option maxRecDepth 100000 in
theorem spec_l01Cur_symbolsOf.calls (k : Nat) (g : Nat) (s0_0 : List Int) (s0_1 : Int) (s0_2 : Int) (A1 : Option Addr) (c1 : Nat) (l1 : List Int) (r1 : List Int) (r2 : Int) (r3 : Int) (w0 w : World) (hI : IsS80 w0 w g s0_0 s0_1 s0_2) (hB : Below w0.heap.size w0 w) (hr1 : Kd.C (Kd.int .i64) w A1 l1.length l1) (hc1 : l1.length ≤ c1) (hf1 : ∀ ad, A1 = some ad → 0 < l1.length → ad.block ≠ g) (h : spec_l01Cur_symbolsOf.f k s0_0 s0_1 s0_2 l1 = some (r1, r2, r3)) :
  Calls Try.prog 64 #[.pointer (some ⟨g, 0, none⟩), .slice A1 l1.length c1] w fun e w' => ∃ v0_ : Value, e = .returned (v0_) ∧ Kd.R (Kd.int .i64) 3 w' w.heap.size (fun _ => True) v0_ r1 ∧ IsS80 w0 w' g s0_0 r2 r3 ∧ Below w0.heap.size w0 w' ∧ KeepBut w w' g none := by
 have HR1:=mk0 hr1
 have HC1:=mk0 hc1
 clear hr1 hc1
 have HI0:=mk0 hI
 have HK:=mk0 (KeepBut.refl w g none)
 have HL:=mk0 hB.size
 clear hI
 have HW0:=mk0 hB.size
 have HB:=mk0 hB
 clear hB
 have H:(spec_l01Cur_symbolsOf.l0 k l1 (([]:List Int)) 0 s0_0 s0_1 s0_2) = some (r1,r2,r3):=h
 clear h
 obtain⟨y407,hy407⟩:∃ y_:List Int,y_ = (([]:List Int)):=⟨_,rfl⟩
 replace H:(spec_l01Cur_symbolsOf.l0 k l1 y407 0 s0_0 s0_1 s0_2) = some (r1,r2,r3):=by first|(rw [hy407];with_reducible exact H)|(have H2_:=(Option.bind_some _ _).symm.trans H;rw [hy407];with_reducible exact H2_)|(have H2_:=(Option.bind_some _ _).symm.trans H;with_reducible exact H2_)|with_reducible exact H|(rw [hy407];exact H)|exact H
 have Ny407:=mk0 hy407
 clear hy407
 have H':=mk0 H
 clear H
 go_enter Try.func64,Try.ntmps64
 go_wp2_with (first|((with_reducible refine gate_dst (N:=9) rfl ?_);(try (refine gate_guard (by rfl) ?_;dsimp only));refine Kd.R_lit (Kd.int .i64) _ 3 ?hg (N:=9) ?hd (xs:=([]:List Int)) (inner:=[]) (ok:=fun _=>True) (okp:=fun _=>True) ?hr ?hp (fun _ hk=>hk) trivial (Below.refl _ _) (Nat.le_refl _) (by simp) ?_;(case hd=>rfl);(case hg=>rfl);(case hr=>first|(go_simp;done)|(go_simp;rfl));(case hp=>exact (Reps.none _ _));intro v408 w3 ho4 hb hg_ hnew_;clear hg_ hnew_;(first|rw [← Ny407.out] at ho4|(simp only [Int.reduceToNat] at ho4;rw [← Ny407.out] at ho4));have HO409:=mk0 (Kd.R_lower ho4 (keep_size (w:=w) (g:=g) (row:=none) (by repeat (first|(with_reducible first|exact HK.out|apply KeepBut.set_|apply keep_drewN|apply keep_drew|apply keep_alloc)|exact HK.out))));replace HK:=mk0 (KeepBut.trans (by repeat (first|(with_reducible first|exact HK.out|apply KeepBut.set_|apply keep_drewN|apply keep_drew|apply keep_alloc)|exact HK.out)) (KeepBut.of_below hb g none) (.inl rfl));replace HB:=mk0 (below_step (by repeat (first|(with_reducible first|exact HB.out|apply aZ|apply nZ|apply dZ|refine sZ ?_ (IsS80.ge HI0.out))|exact HB.out)) hb);replace HI0:=mk0 (IsS80.below (by repeat (first|(with_reducible first|exact HI0.out|apply IsS80.alloc|apply IsS80.drewN|apply IsS80.drew|apply IsS80.set_1|apply IsS80.set_2)|exact HI0.out)) hb);clear hb ho4))
 go_loopg [5,6] k (fun kq v5 v6 w'=>∃ (x5_1:List Int) (x6_1:Int),v6 = .int .i64 x6_1 ∧ Aside0 (spec_l01Cur_symbolsOf.l0 kq l1 x5_1 x6_1 s0_0 s0_1 s0_2 = some (r1,r2,r3)) ∧ Aside0 (kq ≤ k) ∧ Aside0 (Kd.R (Kd.int .i64) 3 w' w.heap.size (fun _=>True) v5 x5_1) ∧ Aside0 (IsS80 w0 w' g s0_0 s0_1 s0_2) ∧ Aside0 (KeepBut w w' g none) ∧ Aside0 (Below w0.heap.size w0 w'))
 case atStart=>exact⟨(y407),(0),(by first|rfl|(simp;done)|(simp [*];done)),H',⟨Nat.le_refl _⟩,⟨rR HO409.out⟩,⟨by repeat (first|(with_reducible first|exact HI0.out|apply IsS80.alloc|apply IsS80.drewN|apply IsS80.drew|apply IsS80.set_1|apply IsS80.set_2)|exact HI0.out)⟩,⟨by repeat (first|(with_reducible first|exact HK.out|apply KeepBut.set_|apply keep_drewN|apply keep_drew|apply keep_alloc)|exact HK.out)⟩,⟨by repeat (first|(with_reducible first|exact HB.out|apply aZ|apply nZ|apply dZ|refine sZ ?_ (IsS80.ge HI0.out))|exact HB.out)⟩⟩
 case round =>
  clear H'
  try clear c1
  try clear p2
  obtain⟨x5_1,x6_1,rfl,HA,HK1,HO_5,HI0,HK,HB⟩:=hrel
  cases gk with
  | zero=>exact absurd HA.out (by simp [spec_l01Cur_symbolsOf.l0])
  | succ k1 =>
   have H:=HA.out
   clear HA
   simp only [spec_l01Cur_symbolsOf.l0] at H
   by_cases c5:x6_1 < (l1.length:Int)
   ·rw [if_pos c5] at H
    have c5b0:decide (x6_1 < (l1.length:Int)) = true:=decide_eq_true c5
    clear c5
    by_cases c6:0 ≤ x6_1
    rotate_left
    ·rw [if_neg c6] at H
     exact absurd H (by simp)
    rw [if_pos c6] at H
    have c6b0:decide (0 ≤ x6_1) = true:=decide_eq_true c6
    clear c6
    by_cases c7:(rd l1 x6_1) > 0
    rotate_left
    ·rw [if_neg c7] at H
     have c7b0:decide (0 < (rd l1 x6_1)) = false:=decide_eq_false c7
     clear c7
     have H':=mk0 H
     clear H
     have p410:0 ≤ (x6_1:Int):=of_decide_eq_true (by first|(with_reducible assumption)|assumption)
     have q410:x6_1 < (l1.length:Int):=of_decide_eq_true (by first|(with_reducible assumption)|assumption)
     obtain⟨ad410,e410,hx410_0⟩:=Kd.at_int HR1.out x6_1 p410 q410
     cases e410
     replace hx410_0:=keep_cell HK.out hx410_0 (by first|(rw [add_block];exact hf1 _ rfl (by omega))|exact hf1 _ rfl (by omega)|exact hf1 ad410 rfl (by omega))
     replace p410:=eq_true p410
     replace q410:=eq_true q410
     go_wp2
     go_roundg k1
     case measure=>have:=HK1.out;omega
     case rel=>exact⟨(x5_1),(wrap64 (x6_1 + 1)),(by first|rfl|(simp;done)|(simp [*];done)),H',⟨by have:=HK1.out;omega⟩,⟨rR HO_5.out⟩,⟨by repeat (first|(with_reducible first|exact HI0.out|apply IsS80.alloc|apply IsS80.drewN|apply IsS80.drew|apply IsS80.set_1|apply IsS80.set_2)|exact HI0.out)⟩,⟨by repeat (first|(with_reducible first|exact HK.out|apply KeepBut.set_|apply keep_drewN|apply keep_drew|apply keep_alloc)|exact HK.out)⟩,⟨by repeat (first|(with_reducible first|exact HB.out|apply aZ|apply nZ|apply dZ|refine sZ ?_ (IsS80.ge HI0.out))|exact HB.out)⟩⟩
    rw [if_pos c7] at H
    have c7b0:decide (0 < (rd l1 x6_1)) = true:=decide_eq_true c7
    clear c7
    by_cases c8:x5_1.length < 17592186044416
    rotate_left
    ·rw [if_neg c8] at H
     exact absurd H (by simp)
    rw [if_pos c8] at H
    have LMc8:=mk0 c8
    clear c8
    obtain⟨y411,hy411⟩:∃ y_:List Int,y_ = (x5_1 ++ [x6_1]):=⟨_,rfl⟩
    replace H:(spec_l01Cur_symbolsOf.l0 k1 l1 y411 (wrap64 (x6_1 + 1)) s0_0 s0_1 s0_2) = some (r1,r2,r3):=by first|(rw [hy411];with_reducible exact H)|(have H2_:=(Option.bind_some _ _).symm.trans H;rw [hy411];with_reducible exact H2_)|(have H2_:=(Option.bind_some _ _).symm.trans H;with_reducible exact H2_)|with_reducible exact H|(rw [hy411];exact H)|exact H
    have Ny411:=mk0 hy411
    clear hy411
    have H':=mk0 H
    clear H
    have p410:0 ≤ (x6_1:Int):=of_decide_eq_true (by first|(with_reducible assumption)|assumption)
    have q410:x6_1 < (l1.length:Int):=of_decide_eq_true (by first|(with_reducible assumption)|assumption)
    obtain⟨ad410,e410,hx410_0⟩:=Kd.at_int HR1.out x6_1 p410 q410
    cases e410
    replace hx410_0:=keep_cell HK.out hx410_0 (by first|(rw [add_block];exact hf1 _ rfl (by omega))|exact hf1 _ rfl (by omega)|exact hf1 ad410 rfl (by omega))
    replace p410:=eq_true p410
    replace q410:=eq_true q410
    go_wp2_with (first|((with_reducible refine gate_builtin (b:=.append) (xs:=#[.tmp 21,.tmp 23]) rfl ?_);(try (refine gate_guard (by rfl) ?_;dsimp only));at_builtin;refine Kd.R_append (Kd.int .i64) w.heap.size rfl (.tmp 21) (.tmp 23) 24 3 (.int .i64 0) 8 rfl Try.underlying24 info3 rfl (by decide) (by omega) u5 x5_1 x6_1 [.int .i64 x6_1] (fun _=>True) (fun _=>False) rfl rfl ?aP (fun _ hk=>hk.elim) ?aF ?aO (Below.refl _ _) ?aS ?aL ?_;(case aP=>exact rfl);(case aF=>exact (fun _ _=>trivial));(case aO=>exact (rR HO_5.out));(case aS=>exact (keep_size (w:=w) (g:=g) (row:=none) (by repeat (first|(with_reducible first|exact HK.out|apply KeepBut.set_|apply keep_drewN|apply keep_drew|apply keep_alloc)|exact HK.out))));(case aL=>have:=LMc8.out;omega);intro v412 w9 ho hb hg hat;rw [← Ny411.out] at ho;replace HB:=mk0 (below_weaken (by repeat (first|(with_reducible first|exact HB.out|apply aZ|apply nZ|apply dZ|refine sZ ?_ (IsS80.ge HI0.out))|exact HB.out)) HL.out hb);replace HI0:=mk0 (IsS80.grown (by repeat (first|(with_reducible first|exact HI0.out|apply IsS80.alloc|apply IsS80.drewN|apply IsS80.drew|apply IsS80.set_1|apply IsS80.set_2)|exact HI0.out)) hg (IsS80.own_ne HI0.out HO_5.out (by decide)));replace HK:=mk0 (KeepBut.trans (by repeat (first|(with_reducible first|exact HK.out|apply KeepBut.set_|apply keep_drewN|apply keep_drew|apply keep_alloc)|exact HK.out)) (KeepBut.of_grown hg g) (Kd.R_base2 HO_5.out));have HO413:=mk0 (ho);clear HO_5 ho hb hg hat))
    go_roundg k1
    case measure=>have:=HK1.out;omega
    case rel=>exact⟨(y411),(wrap64 (x6_1 + 1)),(by first|rfl|(simp;done)|(simp [*];done)),H',⟨by have:=HK1.out;omega⟩,⟨rR HO413.out⟩,⟨by repeat (first|(with_reducible first|exact HI0.out|apply IsS80.alloc|apply IsS80.drewN|apply IsS80.drew|apply IsS80.set_1|apply IsS80.set_2)|exact HI0.out)⟩,⟨by repeat (first|(with_reducible first|exact HK.out|apply KeepBut.set_|apply keep_drewN|apply keep_drew|apply keep_alloc)|exact HK.out)⟩,⟨by repeat (first|(with_reducible first|exact HB.out|apply aZ|apply nZ|apply dZ|refine sZ ?_ (IsS80.ge HI0.out))|exact HB.out)⟩⟩
   rw [if_neg c5] at H
   have c5b0:decide (x6_1 < (l1.length:Int)) = false:=decide_eq_false c5
   clear c5
   obtain⟨y414,hy414⟩:∃ y_:List Int,y_ = (([]:List Int)):=⟨_,rfl⟩
   replace H:((spec_l01Cur_pick.f s0_0 s0_1 s0_2 20).bind fun bt417=>(spec_l01Cur_symbolsOf.l1 k1 x5_1 y414 bt417.1 s0_0 bt417.2.1 bt417.2.2)) = some (r1,r2,r3):=by first|(rw [hy414];with_reducible exact H)|(have H2_:=(Option.bind_some _ _).symm.trans H;rw [hy414];with_reducible exact H2_)|(have H2_:=(Option.bind_some _ _).symm.trans H;with_reducible exact H2_)|with_reducible exact H|(rw [hy414];exact H)|exact H
   have Ny414:=mk0 hy414
   clear hy414
   replace H:=Option.bind_eq_some_iff.mp H
   obtain⟨⟨t417,t418,t419⟩,A100,H⟩:=H
   replace H:(spec_l01Cur_symbolsOf.l1 k1 x5_1 y414 t417 s0_0 t418 t419) = some (r1,r2,r3):=H
   have A10:=mk0 A100
   clear A100
   have HC11:=mk0 H
   clear H
   go_upto_block 2 with (first|((with_reducible refine gate_dst (N:=25) rfl ?_);(try (refine gate_guard (by rfl) ?_;dsimp only));refine Kd.R_lit (Kd.int .i64) _ 3 ?hg (N:=25) ?hd (xs:=([]:List Int)) (inner:=[]) (ok:=fun _=>True) (okp:=fun _=>True) ?hr ?hp (fun _ hk=>hk) trivial (Below.refl _ _) (Nat.le_refl _) (by simp) ?_;(case hd=>rfl);(case hg=>rfl);(case hr=>first|(go_simp;done)|(go_simp;rfl));(case hp=>exact (Reps.none _ _));intro v415 w12 ho13 hb hg_ hnew_;clear hg_ hnew_;(first|rw [← Ny414.out] at ho13|(simp only [Int.reduceToNat] at ho13;rw [← Ny414.out] at ho13));have HO416:=mk0 (Kd.R_lower (Kd.R_new' ho13 (Kd.R_lt (rR HO_5.out))) (keep_size (w:=w) (g:=g) (row:=none) (by repeat (first|(with_reducible first|exact HK.out|apply KeepBut.set_|apply keep_drewN|apply keep_drew|apply keep_alloc)|exact HK.out))));replace HO_5:=mk0 (Kd.R_elder' (rR HO_5.out) (Kd.R_base ho13) hb);replace HK:=mk0 (KeepBut.trans (by repeat (first|(with_reducible first|exact HK.out|apply KeepBut.set_|apply keep_drewN|apply keep_drew|apply keep_alloc)|exact HK.out)) (KeepBut.of_below hb g none) (.inl rfl));replace HB:=mk0 (below_step (by repeat (first|(with_reducible first|exact HB.out|apply aZ|apply nZ|apply dZ|refine sZ ?_ (IsS80.ge HI0.out))|exact HB.out)) hb);replace HI0:=mk0 (IsS80.below (by repeat (first|(with_reducible first|exact HI0.out|apply IsS80.alloc|apply IsS80.drewN|apply IsS80.drew|apply IsS80.set_1|apply IsS80.set_2)|exact HI0.out)) hb);clear hb ho13)|((with_reducible refine gate_callee (f:=65) rfl ?_);refine goesL_ (some 27) rfl rfl Try.func65 (by kernel_rfl) rfl #[.pointer (some ⟨g,0,none⟩),.int .i64 20] rfl (by (try simp only [mA,mC,mN]);first|done|rfl|(simp only [List.length_drop,List.length_take];done)|(simp only [List.length_drop,List.length_take];rfl)) ?_;(with_reducible refine (spec_l01Cur_pick.calls g s0_0 s0_1 s0_2 20 t417 t418 t419 w0 _ ?side1 ?side2 A10.out).mono ?_);(case side1=>repeat (first|(with_reducible first|exact HI0.out|apply IsS80.alloc|apply IsS80.drewN|apply IsS80.drew|apply IsS80.set_1|apply IsS80.set_2)|exact HI0.out));(case side2=>repeat (first|(with_reducible first|exact HB.out|apply aZ|apply nZ|apply dZ|refine sZ ?_ (IsS80.ge HI0.out))|exact HB.out));rintro e w14 ⟨rfl,hi,hb,hk⟩;refine⟨_,rfl,?_⟩;replace HO_5:=mk0 (Kd.R_mono (Kd.R_keep (IsS80.apart (show IsS80 w0 _ g s0_0 s0_1 s0_2 from by repeat (first|(with_reducible first|exact HI0.out|apply IsS80.alloc|apply IsS80.drewN|apply IsS80.drew|apply IsS80.set_1|apply IsS80.set_2)|exact HI0.out)) (rR HO_5.out) (by decide)) hk (fun _ h=>h.2)) (fun _ h=>h.1));replace HO416:=mk0 (Kd.R_mono (Kd.R_keep (IsS80.apart (show IsS80 w0 _ g s0_0 s0_1 s0_2 from by repeat (first|(with_reducible first|exact HI0.out|apply IsS80.alloc|apply IsS80.drewN|apply IsS80.drew|apply IsS80.set_1|apply IsS80.set_2)|exact HI0.out)) (rR HO416.out) (by decide)) hk (fun _ h=>h.2)) (fun _ h=>h.1));replace HK:=mk0 (KeepBut.trans (by repeat (first|(with_reducible first|exact HK.out|apply KeepBut.set_|apply keep_drewN|apply keep_drew|apply keep_alloc)|exact HK.out)) hk (.inl rfl));replace HB:=mk0 (hb);replace HI0:=mk0 (hi);(try clear hb);(try clear hk);(try clear hi)))
   (try simp only [Act.put,sA,sO,sS])
   go_cut [7] (fun v7 wc=>∃ (kq:Nat) (x7_10:List Int) (x1001_10:Int) (x1002_10:Int),Aside0 (spec_l01Cur_symbolsOf.j2 kq x7_10 s0_0 x1001_10 x1002_10 = some (r1,r2,r3)) ∧ Aside0 (kq ≤ k1) ∧ Aside0 (Kd.R (Kd.int .i64) 3 wc w.heap.size (fun _=>True) v7 x7_10) ∧ Aside0 (IsS80 w0 wc g s0_0 x1001_10 x1002_10) ∧ Aside0 (KeepBut w wc g none) ∧ Aside0 (Below w0.heap.size w0 wc))
   case first =>
    have H:=HC11.out
    clear HC11
    have H':=mk0 H
    clear H
    go_wp2
    go_loopg [7,8] k1 (fun kq v7 v8 w'=>∃ (x7_2:List Int) (x8_2:Int) (x1001_2:Int) (x1002_2:Int),v8 = .int .i64 x8_2 ∧ Aside0 (spec_l01Cur_symbolsOf.l1 kq x5_1 x7_2 x8_2 s0_0 x1001_2 x1002_2 = some (r1,r2,r3)) ∧ Aside0 (kq ≤ k1) ∧ Aside0 (Kd.R (Kd.int .i64) 3 w' w.heap.size (fun k_=>some k_ ≠ (v7:Value).ownBlock) u5 x5_1) ∧ Aside0 (Kd.R (Kd.int .i64) 3 w' w.heap.size (fun k_=>some k_ ≠ (u5:Value).ownBlock) v7 x7_2) ∧ Aside0 (IsS80 w0 w' g s0_0 x1001_2 x1002_2) ∧ Aside0 (KeepBut w w' g none) ∧ Aside0 (Below w0.heap.size w0 w'))
    case atStart=>exact⟨(y414),(t417),(t418),(t419),(by first|rfl|(simp;done)|(simp [*];done)),H',⟨Nat.le_refl _⟩,⟨by (with_reducible repeat (first|apply aR|apply nR|apply dR));exact Kd.R_mono HO_5.out (by first|exact fun _ hk=>hk.2|(intro k_ hk;simp only [hk,ne_eq,and_self,not_false_eq_true]))⟩,⟨by (with_reducible repeat (first|apply aR|apply nR|apply dR));exact Kd.R_mono HO416.out (by first|exact fun _ hk=>hk.2|(intro k_ hk;simp only [hk,ne_eq,and_self,not_false_eq_true]))⟩,⟨by repeat (first|(with_reducible first|exact HI0.out|apply IsS80.alloc|apply IsS80.drewN|apply IsS80.drew|apply IsS80.set_1|apply IsS80.set_2)|exact HI0.out)⟩,⟨by repeat (first|(with_reducible first|exact HK.out|apply KeepBut.set_|apply keep_drewN|apply keep_drew|apply keep_alloc)|exact HK.out)⟩,⟨by repeat (first|(with_reducible first|exact HB.out|apply aZ|apply nZ|apply dZ|refine sZ ?_ (IsS80.ge HI0.out))|exact HB.out)⟩⟩
    case round =>
     clear H'
     try clear c1
     try clear p2
     try clear p4
     try clear q4
     try clear hx4
     try clear c5
     try clear c5b0
     try clear c6
     try clear c6b0
     try clear p6
     try clear c7
     try clear c7b0
     try clear c8
     try clear hx410_0
     try clear p2
     try clear p410
     try clear q410
     obtain⟨x7_2,x8_2,x1001_2,x1002_2,rfl,HA,HK2,HO_5,HO_7,HI0,HK,HB⟩:=hrel
     cases gk with
     | zero=>exact absurd HA.out (by simp [spec_l01Cur_symbolsOf.l1])
     | succ k2 =>
      have H:=HA.out
      clear HA
      simp only [spec_l01Cur_symbolsOf.l1] at H
      by_cases c15:x8_2 > 0
      rotate_left
      ·rw [if_neg c15] at H
       have c15b0:decide (0 < x8_2) = false:=decide_eq_false c15
       clear c15
       (first|rw [c15b0]|(simp only [i64_w,i32_w];rw [c15b0])|skip)
       have H':=mk0 H
       clear H
       go_wp2
       go_meet
       case rel=>exact⟨_,(x7_2),(x1001_2),(x1002_2),H',⟨by have:=HK1.out;have:=HK2.out;first|omega|exact Nat.le_refl _⟩,⟨rR (Kd.R_mono HO_7.out (fun _ hk=>trivial))⟩,⟨by repeat (first|(with_reducible first|exact HI0.out|apply IsS80.alloc|apply IsS80.drewN|apply IsS80.drew|apply IsS80.set_1|apply IsS80.set_2)|exact HI0.out)⟩,⟨by repeat (first|(with_reducible first|exact HK.out|apply KeepBut.set_|apply keep_drewN|apply keep_drew|apply keep_alloc)|exact HK.out)⟩,⟨by repeat (first|(with_reducible first|exact HB.out|apply aZ|apply nZ|apply dZ|refine sZ ?_ (IsS80.ge HI0.out))|exact HB.out)⟩⟩
      rw [if_pos c15] at H
      have c15b0:decide (0 < x8_2) = true:=decide_eq_true c15
      clear c15
      (first|rw [c15b0]|(simp only [i64_w,i32_w];rw [c15b0])|skip)
      by_cases c16:(x5_1.length:Int) > 0
      rotate_left
      ·rw [if_neg c16] at H
       have c16b0:decide (0 < (x5_1.length:Int)) = false:=decide_eq_false c16
       have c16b1:decide (0 < x5_1.length) = false:=decide_eq_false (by omega)
       clear c16
       have H':=mk0 H
       clear H
       obtain⟨Ao25,co25,eo25⟩:=Kd.R_slice HO_5.out
       subst eo25
       go_wp2
       go_meet
       case rel=>exact⟨_,(x7_2),(x1001_2),(x1002_2),H',⟨by have:=HK1.out;have:=HK2.out;first|omega|exact Nat.le_refl _⟩,⟨rR (Kd.R_mono HO_7.out (fun _ hk=>trivial))⟩,⟨by repeat (first|(with_reducible first|exact HI0.out|apply IsS80.alloc|apply IsS80.drewN|apply IsS80.drew|apply IsS80.set_1|apply IsS80.set_2)|exact HI0.out)⟩,⟨by repeat (first|(with_reducible first|exact HK.out|apply KeepBut.set_|apply keep_drewN|apply keep_drew|apply keep_alloc)|exact HK.out)⟩,⟨by repeat (first|(with_reducible first|exact HB.out|apply aZ|apply nZ|apply dZ|refine sZ ?_ (IsS80.ge HI0.out))|exact HB.out)⟩⟩
      rw [if_pos c16] at H
      have c16b0:decide (0 < (x5_1.length:Int)) = true:=decide_eq_true c16
      have c16b1:decide (0 < x5_1.length) = true:=decide_eq_true (by omega)
      clear c16
      obtain⟨ji17,hji17⟩:∃ j_:Int,(mn 200 (x5_1.length:Int)) = j_:=⟨_,rfl⟩
      replace H:((spec_l01Cur_pick.f s0_0 x1001_2 x1002_2 (ji17)).bind fun bt420=>(if 0 ≤ bt420.1 then (if bt420.1 < (x5_1.length:Int) then (if x7_2.length < 17592186044416 then (spec_l01Cur_symbolsOf.l1 k2 x5_1 (x7_2 ++ [rd x5_1 bt420.1]) (wrap64 (x8_2 - 1)) s0_0 bt420.2.1 bt420.2.2) else (none)) else (none)) else (none))) = some (r1,r2,r3):=by first|(rw [hji17] at H;exact H)|(simp only [hji17] at H ⊢;exact H)
      have hji17_:(if (x5_1.length:Int) < 200 then (x5_1.length:Int) else 200) = ji17:=hji17
      replace H:=Option.bind_eq_some_iff.mp H
      obtain⟨⟨t420,t421,t422⟩,A180,H⟩:=H
      replace H:(if 0 ≤ t420 then (if t420 < (x5_1.length:Int) then (if x7_2.length < 17592186044416 then (spec_l01Cur_symbolsOf.l1 k2 x5_1 (x7_2 ++ [rd x5_1 t420]) (wrap64 (x8_2 - 1)) s0_0 t421 t422) else (none)) else (none)) else (none)) = some (r1,r2,r3):=H
      have A18:=mk0 A180
      clear A180
      by_cases c19:0 ≤ t420
      rotate_left
      ·rw [if_neg c19] at H
       exact absurd H (by simp)
      rw [if_pos c19] at H
      have c19b0:decide (0 ≤ t420) = true:=decide_eq_true c19
      clear c19
      by_cases c20:t420 < (x5_1.length:Int)
      rotate_left
      ·rw [if_neg c20] at H
       exact absurd H (by simp)
      rw [if_pos c20] at H
      have c20b0:decide (t420 < (x5_1.length:Int)) = true:=decide_eq_true c20
      clear c20
      by_cases c21:x7_2.length < 17592186044416
      rotate_left
      ·rw [if_neg c21] at H
       exact absurd H (by simp)
      rw [if_pos c21] at H
      have LMc21:=mk0 c21
      clear c21
      obtain⟨y424,hy424⟩:∃ y_:List Int,y_ = (x7_2 ++ [rd x5_1 t420]):=⟨_,rfl⟩
      replace H:(spec_l01Cur_symbolsOf.l1 k2 x5_1 y424 (wrap64 (x8_2 - 1)) s0_0 t421 t422) = some (r1,r2,r3):=by first|(rw [hy424];with_reducible exact H)|(have H2_:=(Option.bind_some _ _).symm.trans H;rw [hy424];with_reducible exact H2_)|(have H2_:=(Option.bind_some _ _).symm.trans H;with_reducible exact H2_)|with_reducible exact H|(rw [hy424];exact H)|exact H
      have Ny424:=mk0 hy424
      clear hy424
      have H':=mk0 H
      clear H
      obtain⟨Ao22,co22,eo22⟩:=Kd.R_slice HO_5.out
      subst eo22
      go_wp2_with (first|((with_reducible refine gate_callee (f:=65) rfl ?_);refine goesL_ (some 43) rfl rfl Try.func65 (by kernel_rfl) rfl #[.pointer (some ⟨g,0,none⟩),.int .i64 ji17] rfl (by (try simp only [mA,mC,mN]);first|done|(simp only [hji17];rfl)|rfl|(simp only [List.length_drop,List.length_take];done)|(simp only [List.length_drop,List.length_take];rfl)) ?_;(with_reducible refine (spec_l01Cur_pick.calls g s0_0 x1001_2 x1002_2 ji17 t420 t421 t422 w0 _ ?side1 ?side2 A18.out).mono ?_);(case side1=>repeat (first|(with_reducible first|exact HI0.out|apply IsS80.alloc|apply IsS80.drewN|apply IsS80.drew|apply IsS80.set_1|apply IsS80.set_2)|exact HI0.out));(case side2=>repeat (first|(with_reducible first|exact HB.out|apply aZ|apply nZ|apply dZ|refine sZ ?_ (IsS80.ge HI0.out))|exact HB.out));rintro e w23 ⟨rfl,hi,hb,hk⟩;refine⟨_,rfl,?_⟩;replace HO_5:=mk0 (Kd.R_mono (Kd.R_keep (IsS80.apart (show IsS80 w0 _ g s0_0 x1001_2 x1002_2 from by repeat (first|(with_reducible first|exact HI0.out|apply IsS80.alloc|apply IsS80.drewN|apply IsS80.drew|apply IsS80.set_1|apply IsS80.set_2)|exact HI0.out)) (rR HO_5.out) (by decide)) hk (fun _ h=>h.2)) (fun _ h=>h.1));replace HO_7:=mk0 (Kd.R_mono (Kd.R_keep (IsS80.apart (show IsS80 w0 _ g s0_0 x1001_2 x1002_2 from by repeat (first|(with_reducible first|exact HI0.out|apply IsS80.alloc|apply IsS80.drewN|apply IsS80.drew|apply IsS80.set_1|apply IsS80.set_2)|exact HI0.out)) (rR HO_7.out) (by decide)) hk (fun _ h=>h.2)) (fun _ h=>h.1));replace HK:=mk0 (KeepBut.trans (by repeat (first|(with_reducible first|exact HK.out|apply KeepBut.set_|apply keep_drewN|apply keep_drew|apply keep_alloc)|exact HK.out)) hk (.inl rfl));replace HB:=mk0 (hb);replace HI0:=mk0 (hi);(try clear hb);(try clear hk);(try clear hi);have p423:0 ≤ (t420:Int):=of_decide_eq_true (by first|(with_reducible assumption)|assumption);have q423:t420 < (x5_1.length:Int):=of_decide_eq_true (by first|(with_reducible assumption)|assumption);obtain⟨ad423,e423,hx423_0⟩:=Kd.at_int (Kd.R_reads' HO_5.out).2.2 t420 p423 q423;cases e423;replace p423:=eq_true p423;replace q423:=eq_true q423)|((with_reducible refine gate_builtin (b:=.append) (xs:=#[.tmp 37,.tmp 46]) rfl ?_);(try (refine gate_guard (by rfl) ?_;dsimp only));at_builtin;refine Kd.R_append (Kd.int .i64) w.heap.size rfl (.tmp 37) (.tmp 46) 24 3 (.int .i64 0) 8 rfl Try.underlying24 info3 rfl (by decide) (by omega) u7 x7_2 (rd x5_1 t420) [.int .i64 (rd x5_1 t420)] (fun k_=>some k_ ≠ (.slice (some ad423) x5_1.length co22:Value).ownBlock) (fun _=>False) rfl rfl ?aP (fun _ hk=>hk.elim) ?aF ?aO (Below.refl _ _) ?aS ?aL ?_;(case aP=>exact rfl);(case aF=>exact (fun k_ hk=>Kd.fresh' (Kd.R_lt (rR HO_5.out)) k_ hk));(case aO=>exact (rR HO_7.out));(case aS=>exact (keep_size (w:=w) (g:=g) (row:=none) (by repeat (first|(with_reducible first|exact HK.out|apply KeepBut.set_|apply keep_drewN|apply keep_drew|apply keep_alloc)|exact HK.out))));(case aL=>have:=LMc21.out;omega);intro v425 w24 ho hb hg hat;rw [← Ny424.out] at ho;replace HO_5:=mk0 (Kd.R_after (ok:=(fun _=>True)) (rR (Kd.R_mono HO_5.out (fun _ hk=>⟨trivial,hk⟩))) hg hat);replace HB:=mk0 (below_weaken (by repeat (first|(with_reducible first|exact HB.out|apply aZ|apply nZ|apply dZ|refine sZ ?_ (IsS80.ge HI0.out))|exact HB.out)) HL.out hb);replace HI0:=mk0 (IsS80.grown (by repeat (first|(with_reducible first|exact HI0.out|apply IsS80.alloc|apply IsS80.drewN|apply IsS80.drew|apply IsS80.set_1|apply IsS80.set_2)|exact HI0.out)) hg (IsS80.own_ne HI0.out HO_7.out (by decide)));replace HK:=mk0 (KeepBut.trans (by repeat (first|(with_reducible first|exact HK.out|apply KeepBut.set_|apply keep_drewN|apply keep_drew|apply keep_alloc)|exact HK.out)) (KeepBut.of_grown hg g) (Kd.R_base2 HO_7.out));have HO426:=mk0 (ho);clear HO_7 ho hb hg hat))
      go_roundg k2
      case measure=>have:=HK1.out;have:=HK2.out;omega
      case rel=>exact⟨(y424),(wrap64 (x8_2 - 1)),(t421),(t422),(by first|rfl|(simp;done)|(simp [*];done)),H',⟨by have:=HK1.out;have:=HK2.out;omega⟩,⟨by (with_reducible repeat (first|apply aR|apply nR|apply dR));exact Kd.R_mono HO_5.out (by first|exact fun _ hk=>hk.2|(intro k_ hk;simp only [hk,ne_eq,and_self,not_false_eq_true]))⟩,⟨rR HO426.out⟩,⟨by repeat (first|(with_reducible first|exact HI0.out|apply IsS80.alloc|apply IsS80.drewN|apply IsS80.drew|apply IsS80.set_1|apply IsS80.set_2)|exact HI0.out)⟩,⟨by repeat (first|(with_reducible first|exact HK.out|apply KeepBut.set_|apply keep_drewN|apply keep_drew|apply keep_alloc)|exact HK.out)⟩,⟨by repeat (first|(with_reducible first|exact HB.out|apply aZ|apply nZ|apply dZ|refine sZ ?_ (IsS80.ge HI0.out))|exact HB.out)⟩⟩
   case rest =>
    clear HC11
    try clear c1
    try clear c2
    try clear p2
    try clear p4
    try clear q4
    try clear hx4
    try clear c5
    try clear c5b0
    try clear c6
    try clear c6b0
    try clear p6
    try clear c7
    try clear c7b0
    try clear c8
    try clear c15
    try clear c15b0
    try clear c16
    try clear c16b0
    try clear c16b1
    try clear c19
    try clear c19b0
    try clear c20
    try clear c20b0
    try clear c21
    try clear hx410_0
    try clear hx423_0
    try clear p2
    try clear p4
    try clear p410
    try clear p423
    try clear p6
    try clear q4
    try clear q410
    try clear q423
    obtain⟨kq,x7_10,x1001_10,x1002_10,HA,HJ10,HO_7,HI0,HK,HB⟩:=hcut
    cases kq with
    | zero=>exact absurd HA.out (by simp [spec_l01Cur_symbolsOf.j2])
    | succ kj10 =>
     have H:=HA.out
     clear HA
     simp only [spec_l01Cur_symbolsOf.j2] at H
     replace H:=Option.bind_eq_some_iff.mp H
     obtain⟨⟨t427,t428,t429⟩,A260,H⟩:=H
     replace H:(if t427 = true then ((spec_l01Cur_raw.f s0_0 t428 t429).bind fun bt430=>((spec_l01Cur_pick.f s0_0 bt430.2.1 bt430.2.2 12).bind fun bt433=>((some (([bt430.1,bt433.1]:List Int):List Int)).bind fun y436=>((spec_l01Cur_pick.f s0_0 bt433.2.1 bt433.2.2 2).bind fun bt439=>(if 0 ≤ bt439.1 then (if bt439.1 < (y436.length:Int) then (if x7_10.length < 17592186044416 then (some ((x7_10 ++ [rd y436 bt439.1]),bt439.2.1,bt439.2.2)) else (none)) else (none)) else (none)))))) else (some (x7_10,t428,t429))) = some (r1,r2,r3):=H
     have A26:=mk0 A260
     clear A260
     by_cases c27:t427 = true
     rotate_left
     ·replace c27:=Bool.eq_false_iff.mpr c27
      subst c27
      have H1:(some (x7_10,t428,t429)) = some (r1,r2,r3):=by rw [if_neg (show ¬ (false = true) by decide)] at H;exact H
      clear H
      have H:=H1
      clear H1
      simp only [Option.some.injEq,Prod.mk.injEq] at H
      obtain⟨rfl,rfl,rfl⟩:=H
      go_wp2_with (first|((with_reducible refine gate_callee (f:=49) rfl ?_);refine goesL_ (some 49) rfl rfl Try.func49 (by kernel_rfl) rfl #[.pointer (some ⟨g,0,none⟩),.int .i64 9] rfl (by (try simp only [mA,mC,mN]);first|done|rfl|(simp only [List.length_drop,List.length_take];done)|(simp only [List.length_drop,List.length_take];rfl)) ?_;(with_reducible refine (spec_l01Cur_once.calls g s0_0 x1001_10 x1002_10 9 false t428 t429 w0 _ ?side1 ?side2 A26.out).mono ?_);(case side1=>repeat (first|(with_reducible first|exact HI0.out|apply IsS80.alloc|apply IsS80.drewN|apply IsS80.drew|apply IsS80.set_1|apply IsS80.set_2)|exact HI0.out));(case side2=>repeat (first|(with_reducible first|exact HB.out|apply aZ|apply nZ|apply dZ|refine sZ ?_ (IsS80.ge HI0.out))|exact HB.out));rintro e w42 ⟨rfl,hi,hb,hk⟩;refine⟨_,rfl,?_⟩;replace HO_7:=mk0 (Kd.R_mono (Kd.R_keep (IsS80.apart (show IsS80 w0 _ g s0_0 x1001_10 x1002_10 from by repeat (first|(with_reducible first|exact HI0.out|apply IsS80.alloc|apply IsS80.drewN|apply IsS80.drew|apply IsS80.set_1|apply IsS80.set_2)|exact HI0.out)) (rR HO_7.out) (by decide)) hk (fun _ h=>h.2)) (fun _ h=>h.1));replace HK:=mk0 (KeepBut.trans (by repeat (first|(with_reducible first|exact HK.out|apply KeepBut.set_|apply keep_drewN|apply keep_drew|apply keep_alloc)|exact HK.out)) hk (.inl rfl));replace HB:=mk0 (hb);replace HI0:=mk0 (hi);(try clear hb);(try clear hk);(try clear hi)))
      go_ret
      exact⟨_,by first|rfl|(simp [errW_none,errW_some] <;> rfl)|(simp [*,errW_none,errW_some] <;> rfl),rR HO_7.out,by repeat (first|(with_reducible first|exact HI0.out|apply IsS80.alloc|apply IsS80.drewN|apply IsS80.drew|apply IsS80.set_1|apply IsS80.set_2)|exact HI0.out),by repeat (first|(with_reducible first|exact HB.out|apply aZ|apply nZ|apply dZ|refine sZ ?_ (IsS80.ge HI0.out))|exact HB.out),by repeat (first|(with_reducible first|exact HK.out|apply KeepBut.set_|apply keep_drewN|apply keep_drew|apply keep_alloc)|exact HK.out)⟩

     subst c27
     have H1:((spec_l01Cur_raw.f s0_0 t428 t429).bind fun bt430=>((spec_l01Cur_pick.f s0_0 bt430.2.1 bt430.2.2 12).bind fun bt433=>((some (([bt430.1,bt433.1]:List Int):List Int)).bind fun y436=>((spec_l01Cur_pick.f s0_0 bt433.2.1 bt433.2.2 2).bind fun bt439=>(if 0 ≤ bt439.1 then (if bt439.1 < (y436.length:Int) then (if x7_10.length < 17592186044416 then (some ((x7_10 ++ [rd y436 bt439.1]),bt439.2.1,bt439.2.2)) else (none)) else (none)) else (none)))))) = some (r1,r2,r3):=by rw [if_pos rfl] at H;exact H
     clear H
     have H:=H1
     clear H1
     replace H:=Option.bind_eq_some_iff.mp H
     obtain⟨⟨t430,t431,t432⟩,A280,H⟩:=H
     replace H:((spec_l01Cur_pick.f s0_0 t431 t432 12).bind fun bt433=>((some (([t430,bt433.1]:List Int):List Int)).bind fun y436=>((spec_l01Cur_pick.f s0_0 bt433.2.1 bt433.2.2 2).bind fun bt439=>(if 0 ≤ bt439.1 then (if bt439.1 < (y436.length:Int) then (if x7_10.length < 17592186044416 then (some ((x7_10 ++ [rd y436 bt439.1]),bt439.2.1,bt439.2.2)) else (none)) else (none)) else (none))))) = some (r1,r2,r3):=H
     have A28:=mk0 A280
     clear A280
     replace H:=Option.bind_eq_some_iff.mp H
     obtain⟨⟨t433,t434,t435⟩,A290,H⟩:=H
     replace H:((some (([t430,t433]:List Int):List Int)).bind fun y436=>((spec_l01Cur_pick.f s0_0 t434 t435 2).bind fun bt439=>(if 0 ≤ bt439.1 then (if bt439.1 < (y436.length:Int) then (if x7_10.length < 17592186044416 then (some ((x7_10 ++ [rd y436 bt439.1]),bt439.2.1,bt439.2.2)) else (none)) else (none)) else (none)))) = some (r1,r2,r3):=H
     have A29:=mk0 A290
     clear A290
     obtain⟨y436,hy436⟩:∃ y_:List Int,y_ = (([t430,t433]:List Int)):=⟨_,rfl⟩
     replace H:((spec_l01Cur_pick.f s0_0 t434 t435 2).bind fun bt439=>(if 0 ≤ bt439.1 then (if bt439.1 < (y436.length:Int) then (if x7_10.length < 17592186044416 then (some ((x7_10 ++ [rd y436 bt439.1]),bt439.2.1,bt439.2.2)) else (none)) else (none)) else (none))) = some (r1,r2,r3):=by first|(rw [hy436];with_reducible exact H)|(have H2_:=(Option.bind_some _ _).symm.trans H;rw [hy436];with_reducible exact H2_)|(have H2_:=(Option.bind_some _ _).symm.trans H;with_reducible exact H2_)|with_reducible exact H|(rw [hy436];exact H)|exact H
     have Ny436:=mk0 hy436
     clear hy436
     replace H:=Option.bind_eq_some_iff.mp H
     obtain⟨⟨t439,t440,t441⟩,A300,H⟩:=H
     replace H:(if 0 ≤ t439 then (if t439 < (y436.length:Int) then (if x7_10.length < 17592186044416 then (some ((x7_10 ++ [rd y436 t439]),t440,t441)) else (none)) else (none)) else (none)) = some (r1,r2,r3):=H
     have A30:=mk0 A300
     clear A300
     by_cases c31:0 ≤ t439
     rotate_left
     ·rw [if_neg c31] at H
      exact absurd H (by simp)
     rw [if_pos c31] at H
     have c31b0:decide (0 ≤ t439) = true:=decide_eq_true c31
     clear c31
     by_cases c32:t439 < (y436.length:Int)
     rotate_left
     ·rw [if_neg c32] at H
      exact absurd H (by simp)
     rw [if_pos c32] at H
     have c32b0:decide (t439 < (y436.length:Int)) = true:=decide_eq_true c32
     clear c32
     by_cases c33:x7_10.length < 17592186044416
     rotate_left
     ·rw [if_neg c33] at H
      exact absurd H (by simp)
     rw [if_pos c33] at H
     have LMc33:=mk0 c33
     clear c33
     obtain⟨y443,hy443⟩:∃ y_:List Int,y_ = (x7_10 ++ [rd y436 t439]):=⟨_,rfl⟩
     replace H:(some (y443,t440,t441)) = some (r1,r2,r3):=by first|(rw [hy443];with_reducible exact H)|(have H2_:=(Option.bind_some _ _).symm.trans H;rw [hy443];with_reducible exact H2_)|(have H2_:=(Option.bind_some _ _).symm.trans H;with_reducible exact H2_)|with_reducible exact H|(rw [hy443];exact H)|exact H
     have Ny443:=mk0 hy443
     clear hy443
     simp only [Option.some.injEq,Prod.mk.injEq] at H
     obtain⟨rfl,rfl,rfl⟩:=H
     go_wp2_with (first|((with_reducible refine gate_callee (f:=49) rfl ?_);refine goesL_ (some 49) rfl rfl Try.func49 (by kernel_rfl) rfl #[.pointer (some ⟨g,0,none⟩),.int .i64 9] rfl (by (try simp only [mA,mC,mN]);first|done|rfl|(simp only [List.length_drop,List.length_take];done)|(simp only [List.length_drop,List.length_take];rfl)) ?_;(with_reducible refine (spec_l01Cur_once.calls g s0_0 x1001_10 x1002_10 9 true t428 t429 w0 _ ?side1 ?side2 A26.out).mono ?_);(case side1=>repeat (first|(with_reducible first|exact HI0.out|apply IsS80.alloc|apply IsS80.drewN|apply IsS80.drew|apply IsS80.set_1|apply IsS80.set_2)|exact HI0.out));(case side2=>repeat (first|(with_reducible first|exact HB.out|apply aZ|apply nZ|apply dZ|refine sZ ?_ (IsS80.ge HI0.out))|exact HB.out));rintro e w34 ⟨rfl,hi,hb,hk⟩;refine⟨_,rfl,?_⟩;replace HO_7:=mk0 (Kd.R_mono (Kd.R_keep (IsS80.apart (show IsS80 w0 _ g s0_0 x1001_10 x1002_10 from by repeat (first|(with_reducible first|exact HI0.out|apply IsS80.alloc|apply IsS80.drewN|apply IsS80.drew|apply IsS80.set_1|apply IsS80.set_2)|exact HI0.out)) (rR HO_7.out) (by decide)) hk (fun _ h=>h.2)) (fun _ h=>h.1));replace HK:=mk0 (KeepBut.trans (by repeat (first|(with_reducible first|exact HK.out|apply KeepBut.set_|apply keep_drewN|apply keep_drew|apply keep_alloc)|exact HK.out)) hk (.inl rfl));replace HB:=mk0 (hb);replace HI0:=mk0 (hi);(try clear hb);(try clear hk);(try clear hi))|((with_reducible refine gate_callee (f:=66) rfl ?_);refine goesL_ (some 52) rfl rfl Try.func66 (by kernel_rfl) rfl #[.pointer (some ⟨g,0,none⟩)] rfl (by (try simp only [mA,mC,mN]);first|done|rfl|(simp only [List.length_drop,List.length_take];done)|(simp only [List.length_drop,List.length_take];rfl)) ?_;(with_reducible refine (spec_l01Cur_raw.calls g s0_0 t428 t429 t430 t431 t432 w0 _ ?side1 ?side2 A28.out).mono ?_);(case side1=>repeat (first|(with_reducible first|exact HI0.out|apply IsS80.alloc|apply IsS80.drewN|apply IsS80.drew|apply IsS80.set_1|apply IsS80.set_2)|exact HI0.out));(case side2=>repeat (first|(with_reducible first|exact HB.out|apply aZ|apply nZ|apply dZ|refine sZ ?_ (IsS80.ge HI0.out))|exact HB.out));rintro e w35 ⟨rfl,hi,hb,hk⟩;refine⟨_,rfl,?_⟩;replace HO_7:=mk0 (Kd.R_mono (Kd.R_keep (IsS80.apart (show IsS80 w0 _ g s0_0 t428 t429 from by repeat (first|(with_reducible first|exact HI0.out|apply IsS80.alloc|apply IsS80.drewN|apply IsS80.drew|apply IsS80.set_1|apply IsS80.set_2)|exact HI0.out)) (rR HO_7.out) (by decide)) hk (fun _ h=>h.2)) (fun _ h=>h.1));replace HK:=mk0 (KeepBut.trans (by repeat (first|(with_reducible first|exact HK.out|apply KeepBut.set_|apply keep_drewN|apply keep_drew|apply keep_alloc)|exact HK.out)) hk (.inl rfl));replace HB:=mk0 (hb);replace HI0:=mk0 (hi);(try clear hb);(try clear hk);(try clear hi))|((with_reducible refine gate_callee (f:=65) rfl ?_);refine goesL_ (some 54) rfl rfl Try.func65 (by kernel_rfl) rfl #[.pointer (some ⟨g,0,none⟩),.int .i64 12] rfl (by (try simp only [mA,mC,mN]);first|done|rfl|(simp only [List.length_drop,List.length_take];done)|(simp only [List.length_drop,List.length_take];rfl)) ?_;(with_reducible refine (spec_l01Cur_pick.calls g s0_0 t431 t432 12 t433 t434 t435 w0 _ ?side1 ?side2 A29.out).mono ?_);(case side1=>repeat (first|(with_reducible first|exact HI0.out|apply IsS80.alloc|apply IsS80.drewN|apply IsS80.drew|apply IsS80.set_1|apply IsS80.set_2)|exact HI0.out));(case side2=>repeat (first|(with_reducible first|exact HB.out|apply aZ|apply nZ|apply dZ|refine sZ ?_ (IsS80.ge HI0.out))|exact HB.out));rintro e w36 ⟨rfl,hi,hb,hk⟩;refine⟨_,rfl,?_⟩;replace HO_7:=mk0 (Kd.R_mono (Kd.R_keep (IsS80.apart (show IsS80 w0 _ g s0_0 t431 t432 from by repeat (first|(with_reducible first|exact HI0.out|apply IsS80.alloc|apply IsS80.drewN|apply IsS80.drew|apply IsS80.set_1|apply IsS80.set_2)|exact HI0.out)) (rR HO_7.out) (by decide)) hk (fun _ h=>h.2)) (fun _ h=>h.1));replace HK:=mk0 (KeepBut.trans (by repeat (first|(with_reducible first|exact HK.out|apply KeepBut.set_|apply keep_drewN|apply keep_drew|apply keep_alloc)|exact HK.out)) hk (.inl rfl));replace HB:=mk0 (hb);replace HI0:=mk0 (hi);(try clear hb);(try clear hk);(try clear hi))|((with_reducible refine gate_dst (N:=55) rfl ?_);(try (refine gate_guard (by rfl) ?_;dsimp only));refine Kd.R_lit (Kd.int .i64) _ 3 ?hg (N:=55) ?hd (xs:=([t430,t433]:List Int)) (inner:=[.int .i64 t430,.int .i64 t433]) (ok:=fun _=>True) (okp:=fun _=>True) ?hr ?hp (fun _ hk=>hk) trivial (Below.refl _ _) (Nat.le_refl _) (by simp) ?_;(case hd=>rfl);(case hg=>rfl);(case hr=>first|(go_simp;done)|(go_simp;rfl));(case hp=>exact (Reps.one (show Kd.M (Kd.int .i64) _ _ _ t430 [.int .i64 t430] from rfl) (Reps.one (show Kd.M (Kd.int .i64) _ _ _ t433 [.int .i64 t433] from rfl) (Reps.none _ _))));intro v437 w37 ho38 hb hg_ hnew_;clear hg_ hnew_;(first|rw [← Ny436.out] at ho38|(simp only [Int.reduceToNat] at ho38;rw [← Ny436.out] at ho38));have HO438:=mk0 (Kd.R_lower (Kd.R_new' ho38 (Kd.R_lt (rR HO_7.out))) (keep_size (w:=w) (g:=g) (row:=none) (by repeat (first|(with_reducible first|exact HK.out|apply KeepBut.set_|apply keep_drewN|apply keep_drew|apply keep_alloc)|exact HK.out))));replace HO_7:=mk0 (Kd.R_elder' (rR HO_7.out) (Kd.R_base ho38) hb);replace HK:=mk0 (KeepBut.trans (by repeat (first|(with_reducible first|exact HK.out|apply KeepBut.set_|apply keep_drewN|apply keep_drew|apply keep_alloc)|exact HK.out)) (KeepBut.of_below hb g none) (.inl rfl));replace HB:=mk0 (below_step (by repeat (first|(with_reducible first|exact HB.out|apply aZ|apply nZ|apply dZ|refine sZ ?_ (IsS80.ge HI0.out))|exact HB.out)) hb);replace HI0:=mk0 (IsS80.below (by repeat (first|(with_reducible first|exact HI0.out|apply IsS80.alloc|apply IsS80.drewN|apply IsS80.drew|apply IsS80.set_1|apply IsS80.set_2)|exact HI0.out)) hb);clear hb ho38)|((with_reducible refine gate_callee (f:=65) rfl ?_);refine goesL_ (some 57) rfl rfl Try.func65 (by kernel_rfl) rfl #[.pointer (some ⟨g,0,none⟩),.int .i64 2] rfl (by (try simp only [mA,mC,mN]);first|done|rfl|(simp only [List.length_drop,List.length_take];done)|(simp only [List.length_drop,List.length_take];rfl)) ?_;(with_reducible refine (spec_l01Cur_pick.calls g s0_0 t434 t435 2 t439 t440 t441 w0 _ ?side1 ?side2 A30.out).mono ?_);(case side1=>repeat (first|(with_reducible first|exact HI0.out|apply IsS80.alloc|apply IsS80.drewN|apply IsS80.drew|apply IsS80.set_1|apply IsS80.set_2)|exact HI0.out));(case side2=>repeat (first|(with_reducible first|exact HB.out|apply aZ|apply nZ|apply dZ|refine sZ ?_ (IsS80.ge HI0.out))|exact HB.out));rintro e w39 ⟨rfl,hi,hb,hk⟩;refine⟨_,rfl,?_⟩;replace HO_7:=mk0 (Kd.R_mono (Kd.R_keep (IsS80.apart (show IsS80 w0 _ g s0_0 t434 t435 from by repeat (first|(with_reducible first|exact HI0.out|apply IsS80.alloc|apply IsS80.drewN|apply IsS80.drew|apply IsS80.set_1|apply IsS80.set_2)|exact HI0.out)) (rR HO_7.out) (by decide)) hk (fun _ h=>h.2)) (fun _ h=>h.1));replace HO438:=mk0 (Kd.R_mono (Kd.R_keep (IsS80.apart (show IsS80 w0 _ g s0_0 t434 t435 from by repeat (first|(with_reducible first|exact HI0.out|apply IsS80.alloc|apply IsS80.drewN|apply IsS80.drew|apply IsS80.set_1|apply IsS80.set_2)|exact HI0.out)) (rR HO438.out) (by decide)) hk (fun _ h=>h.2)) (fun _ h=>h.1));replace HK:=mk0 (KeepBut.trans (by repeat (first|(with_reducible first|exact HK.out|apply KeepBut.set_|apply keep_drewN|apply keep_drew|apply keep_alloc)|exact HK.out)) hk (.inl rfl));replace HB:=mk0 (hb);replace HI0:=mk0 (hi);(try clear hb);(try clear hk);(try clear hi);obtain⟨Ao40,co40,eo40⟩:=Kd.R_slice HO438.out;subst eo40;have p442:0 ≤ (t439:Int):=of_decide_eq_true (by first|(with_reducible assumption)|assumption);have q442:t439 < (y436.length:Int):=of_decide_eq_true (by first|(with_reducible assumption)|assumption);obtain⟨ad442,e442,hx442_0⟩:=Kd.at_int (Kd.R_reads' HO438.out).2.2 t439 p442 q442;cases e442;replace p442:=eq_true p442;replace q442:=eq_true q442)|((with_reducible refine gate_builtin (b:=.append) (xs:=#[.tmp 50,.tmp 60]) rfl ?_);(try (refine gate_guard (by rfl) ?_;dsimp only));at_builtin;refine Kd.R_append (Kd.int .i64) w.heap.size rfl (.tmp 50) (.tmp 60) 24 3 (.int .i64 0) 8 rfl Try.underlying24 info3 rfl (by decide) (by omega) u7 x7_10 (rd y436 t439) [.int .i64 (rd y436 t439)] (fun k_=>some k_ ≠ (.slice (some ad442) y436.length co40:Value).ownBlock) (fun _=>False) rfl rfl ?aP (fun _ hk=>hk.elim) ?aF ?aO (Below.refl _ _) ?aS ?aL ?_;(case aP=>exact rfl);(case aF=>exact (fun k_ hk=>Kd.fresh' (Kd.R_lt (rR HO438.out)) k_ hk));(case aO=>exact (by (with_reducible repeat (first|apply aR|apply nR|apply dR));exact Kd.R_mono HO_7.out (by first|exact fun _ hk=>hk.2|(intro k_ hk;simp only [hk,ne_eq,and_self,not_false_eq_true]))));(case aS=>exact (keep_size (w:=w) (g:=g) (row:=none) (by repeat (first|(with_reducible first|exact HK.out|apply KeepBut.set_|apply keep_drewN|apply keep_drew|apply keep_alloc)|exact HK.out))));(case aL=>have:=LMc33.out;omega);intro v444 w41 ho hb hg hat;rw [← Ny443.out] at ho;replace HO438:=mk0 (Kd.R_after (ok:=(fun _=>True)) (rR HO438.out) hg hat);replace HB:=mk0 (below_weaken (by repeat (first|(with_reducible first|exact HB.out|apply aZ|apply nZ|apply dZ|refine sZ ?_ (IsS80.ge HI0.out))|exact HB.out)) HL.out hb);replace HI0:=mk0 (IsS80.grown (by repeat (first|(with_reducible first|exact HI0.out|apply IsS80.alloc|apply IsS80.drewN|apply IsS80.drew|apply IsS80.set_1|apply IsS80.set_2)|exact HI0.out)) hg (IsS80.own_ne HI0.out HO_7.out (by decide)));replace HK:=mk0 (KeepBut.trans (by repeat (first|(with_reducible first|exact HK.out|apply KeepBut.set_|apply keep_drewN|apply keep_drew|apply keep_alloc)|exact HK.out)) (KeepBut.of_grown hg g) (Kd.R_base2 HO_7.out));have HO445:=mk0 (ho);clear HO_7 ho hb hg hat))
     go_ret
     exact⟨_,by first|rfl|(simp [errW_none,errW_some] <;> rfl)|(simp [*,errW_none,errW_some] <;> rfl),rR (Kd.R_mono HO445.out (fun _ hk=>trivial)),by repeat (first|(with_reducible first|exact HI0.out|apply IsS80.alloc|apply IsS80.drewN|apply IsS80.drew|apply IsS80.set_1|apply IsS80.set_2)|exact HI0.out),by repeat (first|(with_reducible first|exact HB.out|apply aZ|apply nZ|apply dZ|refine sZ ?_ (IsS80.ge HI0.out))|exact HB.out),by repeat (first|(with_reducible first|exact HK.out|apply KeepBut.set_|apply keep_drewN|apply keep_drew|apply keep_alloc)|exact HK.out)⟩
/-! ### spec_DrawHuffWrite: function 32 -/
def spec_DrawHuffWrite.f (k : Nat) (l0 : List Int) : Option (List Int × List Int) := (spec_l01Open.f l0).bind fun bt446 => ((spec_l01Cur_lensOf.f k bt446.1 bt446.2.1 bt446.2.2).bind fun bt450 => ((spec_l01Cur_symbolsOf.f k bt446.1 bt450.2.1 bt450.2.2 bt450.1).bind fun bt455 => (some (bt455.1, bt450.1))))
theorem spec_DrawHuffWrite.mono : ∀ a0 k, LeO (spec_DrawHuffWrite.f k a0) (spec_DrawHuffWrite.f (k + 1) a0) := by
 intro a0 k
 unfold spec_DrawHuffWrite.f
 repeat' first|(with_reducible first|exact spec_l01Cur_lensOf.mono _ _ _ _|exact spec_l01Cur_symbolsOf.mono _ _ _ _ _|exact LeO.refl _|exact LeO.none _|refine LeO.ite ?_ ?_|refine LeO.bind ?_ (fun _ => ?_))|exact LeO.none _|refine LeO.ite ?_ ?_|refine LeO.bind ?_ (fun _ => ?_)
set_option maxHeartbeats 8000000 in
set_option maxRecDepth 100000 in
theorem spec_DrawHuffWrite.calls (k : Nat) (A0 : Option Addr) (c0 : Nat) (l0 : List Int) (r1 : List Int) (r2 : List Int) (w : World) (hr0 : Kd.C (Kd.int .u8) w A0 l0.length l0) (hc0 : l0.length ≤ c0) (h : spec_DrawHuffWrite.f k l0 = some (r1, r2)) :
  Calls Try.prog 32 #[.slice A0 l0.length c0] w fun e w' => ∃ v0_ v1_ : Value, e = .returned (.tuple #[v0_, v1_]) ∧ Kd.R (Kd.int .i64) 3 w' w.heap.size (fun k_ => some k_ ≠ (v1_ : Value).ownBlock) v0_ r1 ∧ Kd.R (Kd.int .i64) 3 w' w.heap.size (fun k_ => some k_ ≠ (v0_ : Value).ownBlock) v1_ r2 ∧ Below w.heap.size w w' := by
 have HR0:=mk0 hr0
 have HC0:=mk0 hc0
 clear hr0 hc0
 have HB:=mk0 (Below.refl w.heap.size w)
 have H:((spec_l01Open.f l0).bind fun bt446=>((spec_l01Cur_lensOf.f k bt446.1 bt446.2.1 bt446.2.2).bind fun bt450=>((spec_l01Cur_symbolsOf.f k bt446.1 bt450.2.1 bt450.2.2 bt450.1).bind fun bt455=>(some (bt455.1,bt450.1))))) = some (r1,r2):=h
 clear h
 replace H:=Option.bind_eq_some_iff.mp H
 obtain⟨⟨t446,t447,t448⟩,A20,H⟩:=H
 replace H:((spec_l01Cur_lensOf.f k t446 t447 t448).bind fun bt450=>((spec_l01Cur_symbolsOf.f k t446 bt450.2.1 bt450.2.2 bt450.1).bind fun bt455=>(some (bt455.1,bt450.1)))) = some (r1,r2):=H
 have A2:=mk0 A20
 clear A20
 replace H:=Option.bind_eq_some_iff.mp H
 obtain⟨⟨t450,t453,t454⟩,A30,H⟩:=H
 replace H:((spec_l01Cur_symbolsOf.f k t446 t453 t454 t450).bind fun bt455=>(some (bt455.1,t450))) = some (r1,r2):=H
 have A3:=mk0 A30
 clear A30
 replace H:=Option.bind_eq_some_iff.mp H
 obtain⟨⟨t455,t458,t459⟩,A40,H⟩:=H
 replace H:(some (t455,t450)) = some (r1,r2):=H
 have A4:=mk0 A40
 clear A40
 simp only [Option.some.injEq,Prod.mk.injEq] at H
 obtain⟨rfl,rfl⟩:=H
 go_enter Try.func32,Try.ntmps32
 go_wp2_with (first|((with_reducible refine gate_callee (f:=33) rfl ?_);refine goesL_ (some 7) rfl rfl Try.func33 (by kernel_rfl) rfl #[.slice A0 l0.length c0] rfl (by (try simp only [mA,mC,mN]);first|done|rfl|(simp only [List.length_drop,List.length_take];done)|(simp only [List.length_drop,List.length_take];rfl)) ?_;(with_reducible refine (spec_l01Open.calls _ _ l0 t446 t447 t448 w _ ?side1 ?side2 ?side3 A2.out).mono ?_);(case side1=>repeat (first|(with_reducible first|exact HB.out|apply aZ|apply nZ|apply dZ)|exact HB.out));(case side2=>exact HR0.out);(case side3=>exact HC0.out);rintro e w5 ⟨g449,rfl,hi,hb,hb2⟩;refine⟨_,rfl,?_⟩;replace HB:=mk0 (hb);have HI449:=mk0 (hi);(try clear hb);(try clear hb2);(try clear hi))|((with_reducible refine gate_callee (f:=34) rfl ?_);refine goesL_ (some 9) rfl rfl Try.func34 (by kernel_rfl) rfl #[.pointer (some ⟨g449,0,none⟩)] rfl (by (try simp only [mA,mC,mN]);first|done|rfl|(simp only [List.length_drop,List.length_take];done)|(simp only [List.length_drop,List.length_take];rfl)) ?_;(with_reducible refine (spec_l01Cur_lensOf.calls k g449 t446 t447 t448 t450 t453 t454 w _ ?side1 ?side2 A3.out).mono ?_);(case side1=>repeat (first|(with_reducible first|exact HI449.out|apply IsS80.alloc|apply IsS80.drewN|apply IsS80.drew|apply IsS80.set_1|apply IsS80.set_2)|exact HI449.out));(case side2=>repeat (first|(with_reducible first|exact HB.out|apply aZ|apply nZ|apply dZ|refine sZ ?_ (IsS80.ge HI449.out))|exact HB.out));rintro e w6 ⟨v451,rfl,ho0,hi,hb,hk⟩;refine⟨_,rfl,?_⟩;have HO452:=mk0 (Kd.R_lower ho0 (below_size (by repeat (first|(with_reducible first|exact HB.out|apply aZ|apply nZ|apply dZ|refine sZ ?_ (IsS80.ge HI449.out))|exact HB.out))));replace HB:=mk0 (hb);replace HI449:=mk0 (hi);(try clear hb);(try clear hk);(try clear hi);(try clear ho0);obtain⟨Ao7,co7,eo7⟩:=Kd.R_slice HO452.out;subst eo7)|((with_reducible refine gate_callee (f:=64) rfl ?_);refine goesL_ (some 12) rfl rfl Try.func64 (by kernel_rfl) rfl #[.pointer (some ⟨g449,0,none⟩),.slice Ao7 t450.length co7] rfl (by (try simp only [mA,mC,mN]);first|done|rfl|(simp only [List.length_drop,List.length_take];done)|(simp only [List.length_drop,List.length_take];rfl)) ?_;(with_reducible refine (spec_l01Cur_symbolsOf.calls k g449 t446 t453 t454 _ _ t450 t455 t458 t459 w _ ?side1 ?side2 ?side3 ?side4 ?side5 A4.out).mono ?_);(case side1=>repeat (first|(with_reducible first|exact HI449.out|apply IsS80.alloc|apply IsS80.drewN|apply IsS80.drew|apply IsS80.set_1|apply IsS80.set_2)|exact HI449.out));(case side2=>repeat (first|(with_reducible first|exact HB.out|apply aZ|apply nZ|apply dZ|refine sZ ?_ (IsS80.ge HI449.out))|exact HB.out));(case side3=>exact kC (Kd.R_reads' HO452.out).2.2);(case side4=>exact (Kd.R_reads' HO452.out).2.1);(case side5=>exact far_slice (IsS80.own_ne HI449.out HO452.out (by decide)));rintro e w8 ⟨v456,rfl,ho0,hi,hb,hk⟩;refine⟨_,rfl,?_⟩;have HO457:=mk0 (Kd.R_lower (Kd.R_new' ho0 (Kd.R_lt (rR HO452.out))) (below_size (by repeat (first|(with_reducible first|exact HB.out|apply aZ|apply nZ|apply dZ|refine sZ ?_ (IsS80.ge HI449.out))|exact HB.out))));replace HO452:=mk0 (Kd.R_mono (Kd.R_told (Kd.R_oldK (IsS80.apart (show IsS80 w _ g449 t446 t453 t454 from by repeat (first|(with_reducible first|exact HI449.out|apply IsS80.alloc|apply IsS80.drewN|apply IsS80.drew|apply IsS80.set_1|apply IsS80.set_2)|exact HI449.out)) (rR HO452.out) (by decide)) hk) (Kd.R_base ho0)) (fun _ h_=>h_.1));replace HB:=mk0 (hb);replace HI449:=mk0 (hi);(try clear hb);(try clear hk);(try clear hi);(try clear ho0)))
 go_ret2
 exact⟨_,_,by first|rfl|(simp [errW_none,errW_some] <;> rfl)|(simp [*,errW_none,errW_some] <;> rfl),by (with_reducible repeat (first|apply aR|apply nR|apply dR));exact Kd.R_mono HO457.out (by first|exact fun _ hk=>hk.2|(intro k_ hk;simp only [hk,ne_eq,and_self,not_false_eq_true])),by (with_reducible repeat (first|apply aR|apply nR|apply dR));exact Kd.R_mono HO452.out (by first|exact fun _ hk=>hk.2|(intro k_ hk;simp only [hk,ne_eq,and_self,not_false_eq_true])),by repeat (first|(with_reducible first|exact HB.out|apply aZ|apply nZ|apply dZ|refine sZ ?_ (IsS80.ge HI449.out))|exact HB.out)⟩

/-! ### laws_FnHuffBack: function 7 -/
mutual
def laws_FnHuffBack.j0 : Nat → List Int → List Int → Bool → Bool → Bool → Int → List Int → Option (Bool)
 | 0, _, _, _, _, _, _, _ => none
 | k + 1, x3, x4, x6, x8, x38, x479000, x479001 => if x38 = true then (some (x8 == x6)) else ((impl_HuffRead.f k x479000 x479001 x4 (x3.length : Int)).bind fun bt479 => (laws_FnHuffBack.l0 k x3 x4 bt479.2 0 0 bt479.1 x479000 x479001))
def laws_FnHuffBack.l0 : Nat → List Int → List Int → Bool → Int → Int → List Int → Int → List Int → Option (Bool)
 | 0, _, _, _, _, _, _, _, _ => none
 | k + 1, x3, x4, x10, x11, x12, x48, x479000, x479001 => if x12 < (x3.length : Int) then (if 0 ≤ x12 then (if 0 ≤ (rd x3 x12) then (if (rd x3 x12) < (x4.length : Int) then (laws_FnHuffBack.l0 k x3 x4 x10 (wrap64 (x11 + (rd x4 (rd x3 x12)))) (wrap64 (x12 + 1)) x48 x479000 x479001) else (none)) else (none)) else (none)) else (if x10 = true then ((laws_same.f k x48 x3).bind fun t485 => (if t485 = true then (some (x479000 == x11)) else (some false))) else (some false))
end
def laws_FnHuffBack.f (k : Nat) (l0 : List Int) : Option (Bool) := (laws_big.f l0).bind fun t460 => (if t460 = true then (some true) else ((spec_DrawHuffWrite.f k l0).bind fun bt461 => ((spec_HuffWrite.f k bt461.1 bt461.2).bind fun bt467 => ((impl_HuffWrite.f k bt461.1 bt461.2).bind fun bt473 => (if (bt473.2.2 != bt467.2.2) = true then (laws_FnHuffBack.j0 k bt461.1 bt461.2 bt467.2.2 bt473.2.2 true bt473.1 bt473.2.1) else (laws_FnHuffBack.j0 k bt461.1 bt461.2 bt467.2.2 bt473.2.2 (!bt473.2.2) bt473.1 bt473.2.1))))))
theorem laws_FnHuffBack.mono_l : ∀ k, (∀ y0 y1 y2 y3 y4 y5 y6, LeO (laws_FnHuffBack.j0 k y0 y1 y2 y3 y4 y5 y6) (laws_FnHuffBack.j0 (k + 1) y0 y1 y2 y3 y4 y5 y6)) ∧ (∀ y0 y1 y2 y3 y4 y5 y6 y7, LeO (laws_FnHuffBack.l0 k y0 y1 y2 y3 y4 y5 y6 y7) (laws_FnHuffBack.l0 (k + 1) y0 y1 y2 y3 y4 y5 y6 y7))
 | 0 => ⟨fun _ _ _ _ _ _ _ r h => by simp [laws_FnHuffBack.j0] at h, fun _ _ _ _ _ _ _ _ r h => by simp [laws_FnHuffBack.l0] at h⟩
 | k + 1 => by
  obtain ⟨ih0, ih1⟩ := laws_FnHuffBack.mono_l k
  refine ⟨?_, ?_⟩
  ·intro y0 y1 y2 y3 y4 y5 y6
   unfold laws_FnHuffBack.j0
   repeat' first|(with_reducible first|exact ih0 _ _ _ _ _ _ _|exact ih1 _ _ _ _ _ _ _ _|exact impl_HuffRead.mono _ _ _ _ _|exact impl_HuffWrite.mono _ _ _|exact laws_same.mono _ _ _|exact spec_DrawHuffWrite.mono _ _|exact spec_HuffWrite.mono _ _ _|exact LeO.refl _|exact LeO.none _|refine LeO.ite ?_ ?_|refine LeO.bind ?_ (fun _ => ?_))|exact LeO.none _|refine LeO.ite ?_ ?_|refine LeO.bind ?_ (fun _ => ?_)
  ·intro y0 y1 y2 y3 y4 y5 y6 y7
   unfold laws_FnHuffBack.l0
   repeat' first|(with_reducible first|exact ih0 _ _ _ _ _ _ _|exact ih1 _ _ _ _ _ _ _ _|exact impl_HuffRead.mono _ _ _ _ _|exact impl_HuffWrite.mono _ _ _|exact laws_same.mono _ _ _|exact spec_DrawHuffWrite.mono _ _|exact spec_HuffWrite.mono _ _ _|exact LeO.refl _|exact LeO.none _|refine LeO.ite ?_ ?_|refine LeO.bind ?_ (fun _ => ?_))|exact LeO.none _|refine LeO.ite ?_ ?_|refine LeO.bind ?_ (fun _ => ?_)
theorem laws_FnHuffBack.mono : ∀ a0 k, LeO (laws_FnHuffBack.f k a0) (laws_FnHuffBack.f (k + 1) a0) := by
 intro a0 k
 obtain ⟨ih0, ih1⟩ := laws_FnHuffBack.mono_l k
 unfold laws_FnHuffBack.f
 repeat' first|(with_reducible first|exact ih0 _ _ _ _ _ _ _|exact ih1 _ _ _ _ _ _ _ _|exact impl_HuffRead.mono _ _ _ _ _|exact impl_HuffWrite.mono _ _ _|exact laws_same.mono _ _ _|exact spec_DrawHuffWrite.mono _ _|exact spec_HuffWrite.mono _ _ _|exact LeO.refl _|exact LeO.none _|refine LeO.ite ?_ ?_|refine LeO.bind ?_ (fun _ => ?_))|exact LeO.none _|refine LeO.ite ?_ ?_|refine LeO.bind ?_ (fun _ => ?_)
set_option maxHeartbeats 8000000 in
set_option maxRecDepth 100000 in
theorem laws_FnHuffBack.calls (k : Nat) (A0 : Option Addr) (c0 : Nat) (l0 : List Int) (r : Bool) (w : World) (hr0 : Kd.C (Kd.int .u8) w A0 l0.length l0) (hc0 : l0.length ≤ c0) (h : laws_FnHuffBack.f k l0 = some r) :
  Calls Try.prog 7 #[.slice A0 l0.length c0] w fun e w' => e = .returned (.bool r) ∧ Below w.heap.size w w' := by
 have hu30:=Try.underlying30
 have HR0:=mk0 hr0
 have HC0:=mk0 hc0
 clear hr0 hc0
 have HB:=mk0 (Below.refl w.heap.size w)
 have H:((laws_big.f l0).bind fun t460=>(if t460 = true then (some true) else ((spec_DrawHuffWrite.f k l0).bind fun bt461=>((spec_HuffWrite.f k bt461.1 bt461.2).bind fun bt467=>((impl_HuffWrite.f k bt461.1 bt461.2).bind fun bt473=>(if (bt473.2.2 != bt467.2.2) = true then (laws_FnHuffBack.j0 k bt461.1 bt461.2 bt467.2.2 bt473.2.2 true bt473.1 bt473.2.1) else (laws_FnHuffBack.j0 k bt461.1 bt461.2 bt467.2.2 bt473.2.2 (!bt473.2.2) bt473.1 bt473.2.1))))))) = some r:=h
 clear h
 replace H:=Option.bind_eq_some_iff.mp H
 obtain⟨t460,A20,H⟩:=H
 replace H:(if t460 = true then (some true) else ((spec_DrawHuffWrite.f k l0).bind fun bt461=>((spec_HuffWrite.f k bt461.1 bt461.2).bind fun bt467=>((impl_HuffWrite.f k bt461.1 bt461.2).bind fun bt473=>(if (bt473.2.2 != bt467.2.2) = true then (laws_FnHuffBack.j0 k bt461.1 bt461.2 bt467.2.2 bt473.2.2 true bt473.1 bt473.2.1) else (laws_FnHuffBack.j0 k bt461.1 bt461.2 bt467.2.2 bt473.2.2 (!bt473.2.2) bt473.1 bt473.2.1)))))) = some r:=H
 have A2:=mk0 A20
 clear A20
 by_cases c3:t460 = true
 ·subst c3
  have H1:(some true) = some r:=by rw [if_pos rfl] at H;exact H
  clear H
  have H:=H1
  clear H1
  obtain rfl:=Option.some.inj H
  go_enter Try.func7,Try.ntmps7
  go_wp2_with (first|((with_reducible refine gate_callee (f:=8) rfl ?_);refine goesL_ (some 14) rfl rfl Try.func8 (by kernel_rfl) rfl #[.slice A0 l0.length c0] rfl (by (try simp only [mA,mC,mN]);first|done|rfl|(simp only [List.length_drop,List.length_take];done)|(simp only [List.length_drop,List.length_take];rfl)) ?_;(with_reducible refine (laws_big.calls _ _ l0 true _ ?side1 ?side2 A2.out).mono ?_);(case side1=>repeat (first|exact HR0.out|(with_reducible first|apply aC|apply nC|apply dC)));(case side2=>exact HC0.out);rintro e w' ⟨rfl,⟨nd,rfl⟩⟩;refine⟨_,rfl,?_⟩))
  go_ret
  exact⟨by first|rfl|(simp [errW_none,errW_some] <;> rfl)|(simp [*,errW_none,errW_some] <;> rfl),kB HB.out⟩
 replace c3:=Bool.eq_false_iff.mpr c3
 subst c3
 have H1:((spec_DrawHuffWrite.f k l0).bind fun bt461=>((spec_HuffWrite.f k bt461.1 bt461.2).bind fun bt467=>((impl_HuffWrite.f k bt461.1 bt461.2).bind fun bt473=>(if (bt473.2.2 != bt467.2.2) = true then (laws_FnHuffBack.j0 k bt461.1 bt461.2 bt467.2.2 bt473.2.2 true bt473.1 bt473.2.1) else (laws_FnHuffBack.j0 k bt461.1 bt461.2 bt467.2.2 bt473.2.2 (!bt473.2.2) bt473.1 bt473.2.1))))) = some r:=by rw [if_neg (show ¬ (false = true) by decide)] at H;exact H
 clear H
 have H:=H1
 clear H1
 replace H:=Option.bind_eq_some_iff.mp H
 obtain⟨⟨t461,t462⟩,A40,H⟩:=H
 replace H:((spec_HuffWrite.f k t461 t462).bind fun bt467=>((impl_HuffWrite.f k t461 t462).bind fun bt473=>(if (bt473.2.2 != bt467.2.2) = true then (laws_FnHuffBack.j0 k t461 t462 bt467.2.2 bt473.2.2 true bt473.1 bt473.2.1) else (laws_FnHuffBack.j0 k t461 t462 bt467.2.2 bt473.2.2 (!bt473.2.2) bt473.1 bt473.2.1)))) = some r:=H
 have A4:=mk0 A40
 clear A40
 replace H:=Option.bind_eq_some_iff.mp H
 obtain⟨⟨t467,t468,t471⟩,A50,H⟩:=H
 replace H:((impl_HuffWrite.f k t461 t462).bind fun bt473=>(if (bt473.2.2 != t471) = true then (laws_FnHuffBack.j0 k t461 t462 t471 bt473.2.2 true bt473.1 bt473.2.1) else (laws_FnHuffBack.j0 k t461 t462 t471 bt473.2.2 (!bt473.2.2) bt473.1 bt473.2.1))) = some r:=H
 have A5:=mk0 A50
 clear A50
 replace H:=Option.bind_eq_some_iff.mp H
 obtain⟨⟨t473,t474,t477⟩,A60,H⟩:=H
 replace H:(if (t477 != t471) = true then (laws_FnHuffBack.j0 k t461 t462 t471 t477 true t473 t474) else (laws_FnHuffBack.j0 k t461 t462 t471 t477 (!t477) t473 t474)) = some r:=H
 have A6:=mk0 A60
 clear A60
 have HC7:=mk0 H
 clear H
 go_enter Try.func7,Try.ntmps7
 go_upto_region 6 with (first|((with_reducible refine gate_callee (f:=8) rfl ?_);refine goesL_ (some 14) rfl rfl Try.func8 (by kernel_rfl) rfl #[.slice A0 l0.length c0] rfl (by (try simp only [mA,mC,mN]);first|done|rfl|(simp only [List.length_drop,List.length_take];done)|(simp only [List.length_drop,List.length_take];rfl)) ?_;(with_reducible refine (laws_big.calls _ _ l0 false _ ?side1 ?side2 A2.out).mono ?_);(case side1=>repeat (first|exact HR0.out|(with_reducible first|apply aC|apply nC|apply dC)));(case side2=>exact HC0.out);rintro e w' ⟨rfl,⟨nd,rfl⟩⟩;refine⟨_,rfl,?_⟩)|((with_reducible refine gate_callee (f:=32) rfl ?_);refine goesL_ (some 17) rfl rfl Try.func32 (by kernel_rfl) rfl #[.slice A0 l0.length c0] rfl (by (try simp only [mA,mC,mN]);first|done|rfl|(simp only [List.length_drop,List.length_take];done)|(simp only [List.length_drop,List.length_take];rfl)) ?_;(with_reducible refine (spec_DrawHuffWrite.calls k _ _ l0 t461 t462 _ ?side1 ?side2 A4.out).mono ?_);(case side1=>repeat (first|exact HR0.out|(with_reducible first|apply aC|apply nC|apply dC)));(case side2=>exact HC0.out);rintro e w8 ⟨v463,v465,rfl,ho0,ho1,hb⟩;refine⟨_,rfl,?_⟩;have HO464:=mk0 (Kd.R_lower ho0 (kZ HB.out));have HO466:=mk0 (Kd.R_lower ho1 (kZ HB.out));replace HB:=mk0 (kS HB.out hb);(try clear hb);(try clear ho0);(try clear ho1);obtain⟨Ao9,co9,eo9⟩:=Kd.R_slice HO464.out;subst eo9;obtain⟨Ao10,co10,eo10⟩:=Kd.R_slice HO466.out;subst eo10)|((with_reducible refine gate_callee (f:=12) rfl ?_);refine goesL_ (some 23) rfl rfl Try.func12 (by kernel_rfl) rfl #[.slice Ao9 t461.length co9,.slice Ao10 t462.length co10] rfl (by (try simp only [mA,mC,mN]);first|done|rfl|(simp only [List.length_drop,List.length_take];done)|(simp only [List.length_drop,List.length_take];rfl)) ?_;(with_reducible refine (spec_HuffWrite.calls k _ _ t461 _ _ t462 t467 t468 t471 _ ?side1 ?side2 ?side3 ?side4 A5.out).mono ?_);(case side1=>exact kC (Kd.R_reads' HO464.out).2.2);(case side2=>exact (Kd.R_reads' HO464.out).2.1);(case side3=>exact kC (Kd.R_reads' HO466.out).2.2);(case side4=>exact (Kd.R_reads' HO466.out).2.1);rintro e w11 ⟨v469,rfl,ho0,hb⟩;refine⟨_,rfl,?_⟩;replace HO464:=mk0 (bR HO464.out hb);replace HO466:=mk0 (bR HO466.out hb);have HO470:=mk0 (Kd.R_lower ho0 (kZ HB.out));replace HB:=mk0 (kS HB.out hb);(try clear hb);(try clear ho0))|((with_reducible refine gate_dst (N:=5) rfl ?_);refine box_event ?hg (N:=5) ?hd (cs:=#[.int .i64 0,.slice none 0 0]) (t:=30) ?hr ?_;(case hd=>rfl);(case hg=>rfl);(case hr=>first|(go_simp;done)|(go_simp;rfl));intro gb472 hg w12 hbox hb;replace HO464:=mk0 (bR HO464.out hb);replace HO466:=mk0 (bR HO466.out hb);replace HO470:=mk0 (bR HO470.out hb);have BK472:=mk0 (hbox);have GW472:=mk0 ((by rw [hg];exact (kZ HB.out):w.heap.size ≤ gb472));have GE472:=mk0 ((by rw [hg];exact (kZ HB.out):w.heap.size ≤ gb472));replace HB:=mk0 (kS HB.out hb);clear hb hbox hg;obtain⟨hcz13_0,hcz13_1,hfz13_0,hfz13_1⟩:=cz2 BK472.out;obtain⟨Ao14,co14,eo14⟩:=Kd.R_slice HO470.out;subst eo14)|((with_reducible refine gate_callee (f:=14) rfl ?_);refine goesL_ (some 29) rfl rfl Try.func14 (by kernel_rfl) rfl #[.slice Ao9 t461.length co9,.slice Ao10 t462.length co10] rfl (by (try simp only [mA,mC,mN]);first|done|rfl|(simp only [List.length_drop,List.length_take];done)|(simp only [List.length_drop,List.length_take];rfl)) ?_;(with_reducible refine (impl_HuffWrite.calls k _ _ t461 _ _ t462 t473 t474 t477 _ ?side1 ?side2 ?side3 ?side4 A6.out).mono ?_);(case side1=>refine (Kd.R_reads' (e:=3) (base:=w.heap.size) (ok:=fun k_=>some k_ ≠ (.slice Ao10 t462.length co10:Value).ownBlock) (n:=t461.length) (c:=co9) ?_).2.2;exact (by (with_reducible repeat (first|apply aR|apply nR|apply dR));exact (Kd.R_mono (Kd.R_far (p:=⟨gb472,1,none⟩) (Kd.R_far (p:=⟨gb472,0,none⟩) (Kd.R_types HO464.out BK472.out (by decide)) (by first|exact fun _ hk=>hk.2|(intro k_ hk;simp only [hk,ne_eq,and_self,not_false_eq_true])) (.int .i64 t467)) (by first|exact fun _ hk=>hk.2|(intro k_ hk;simp only [hk,ne_eq,and_self,not_false_eq_true])) (.slice Ao14 t468.length co14)) (fun _ h_=>h_.1))));(case side2=>exact (Kd.R_reads' HO464.out).2.1);(case side3=>refine (Kd.R_reads' (e:=3) (base:=w.heap.size) (ok:=fun k_=>some k_ ≠ (.slice Ao9 t461.length co9:Value).ownBlock) (n:=t462.length) (c:=co10) ?_).2.2;exact (by (with_reducible repeat (first|apply aR|apply nR|apply dR));exact (Kd.R_mono (Kd.R_far (p:=⟨gb472,1,none⟩) (Kd.R_far (p:=⟨gb472,0,none⟩) (Kd.R_types HO466.out BK472.out (by decide)) (by first|exact fun _ hk=>hk.2|(intro k_ hk;simp only [hk,ne_eq,and_self,not_false_eq_true])) (.int .i64 t467)) (by first|exact fun _ hk=>hk.2|(intro k_ hk;simp only [hk,ne_eq,and_self,not_false_eq_true])) (.slice Ao14 t468.length co14)) (fun _ h_=>h_.1))));(case side4=>exact (Kd.R_reads' HO466.out).2.1);rintro e w15 ⟨v475,rfl,ho0,hb⟩;refine⟨_,rfl,?_⟩;replace HO464:=mk0 (Kd.R_below (by (with_reducible repeat (first|apply aR|apply nR|apply dR));exact (Kd.R_mono (Kd.R_far (p:=⟨gb472,1,none⟩) (Kd.R_far (p:=⟨gb472,0,none⟩) (Kd.R_types HO464.out BK472.out (by decide)) (by first|exact fun _ hk=>hk.2|(intro k_ hk;simp only [hk,ne_eq,and_self,not_false_eq_true])) (.int .i64 t467)) (by first|exact fun _ hk=>hk.2|(intro k_ hk;simp only [hk,ne_eq,and_self,not_false_eq_true])) (.slice Ao14 t468.length co14)) (fun _ h_=>h_.1))) hb);replace HO466:=mk0 (Kd.R_below (by (with_reducible repeat (first|apply aR|apply nR|apply dR));exact (Kd.R_mono (Kd.R_far (p:=⟨gb472,1,none⟩) (Kd.R_far (p:=⟨gb472,0,none⟩) (Kd.R_types HO466.out BK472.out (by decide)) (by first|exact fun _ hk=>hk.2|(intro k_ hk;simp only [hk,ne_eq,and_self,not_false_eq_true])) (.int .i64 t467)) (by first|exact fun _ hk=>hk.2|(intro k_ hk;simp only [hk,ne_eq,and_self,not_false_eq_true])) (.slice Ao14 t468.length co14)) (fun _ h_=>h_.1))) hb);have HO476:=mk0 (Kd.R_lower (Kd.R_new' ho0 (Kd.R_lt (by (with_reducible repeat (first|apply aR|apply nR|apply dR));exact (Kd.R_mono (Kd.R_far (p:=⟨gb472,1,none⟩) (Kd.R_far (p:=⟨gb472,0,none⟩) (Kd.R_types HO470.out BK472.out (by decide)) (by first|exact fun _ hk=>hk.2|(intro k_ hk;simp only [hk,ne_eq,and_self,not_false_eq_true])) (.int .i64 t467)) (by first|exact fun _ hk=>hk.2|(intro k_ hk;simp only [hk,ne_eq,and_self,not_false_eq_true])) (.slice Ao14 t468.length co14)) (fun _ h_=>h_.1))))) (kZ HB.out));replace HO470:=mk0 (Kd.R_elder' (by (with_reducible repeat (first|apply aR|apply nR|apply dR));exact (Kd.R_mono (Kd.R_far (p:=⟨gb472,1,none⟩) (Kd.R_far (p:=⟨gb472,0,none⟩) (Kd.R_types HO470.out BK472.out (by decide)) (by first|exact fun _ hk=>hk.2|(intro k_ hk;simp only [hk,ne_eq,and_self,not_false_eq_true])) (.int .i64 t467)) (by first|exact fun _ hk=>hk.2|(intro k_ hk;simp only [hk,ne_eq,and_self,not_false_eq_true])) (.slice Ao14 t468.length co14)) (fun _ h_=>h_.1))) (Kd.R_base ho0) hb);replace BK472:=mk0 (blk_below (g:=gb472) (o:=.cells #[.int .i64 t467,.slice Ao14 t468.length co14] 30 (0,0)) (by (with_reducible repeat (first|apply nB|apply dB|apply aB));refine blk_put (cs:=#[.int .i64 t467,.slice none 0 0]) ?_ 1 _ rfl;(with_reducible repeat (first|apply nB|apply dB|apply aB));refine blk_put (cs:=#[.int .i64 0,.slice none 0 0]) ?_ 0 _ rfl;(with_reducible repeat (first|apply nB|apply dB|apply aB));exact BK472.out) hb);replace HB:=mk0 (kS HB.out hb);(try clear hb);(try clear ho0))|((with_reducible refine gate_dst (N:=7) rfl ?_);refine box_event ?hg (N:=7) ?hd (cs:=#[.int .i64 0,.slice none 0 0]) (t:=30) ?hr ?_;(case hd=>rfl);(case hg=>rfl);(case hr=>first|(go_simp;done)|(go_simp;rfl));intro gb478 hg w16 hbox hb;replace HO464:=mk0 (bR HO464.out hb);replace HO466:=mk0 (bR HO466.out hb);replace HO470:=mk0 (bR HO470.out hb);replace HO476:=mk0 (bR HO476.out hb);have BK478:=mk0 (hbox);have GW478:=mk0 ((by rw [hg];exact (kZ HB.out):w.heap.size ≤ gb478));have GE478:=mk0 ((by rw [hg];exact (kZ HB.out):w.heap.size ≤ gb478));replace HB:=mk0 (kS HB.out hb);have NB472_478:=mk0 ((by rw [hg];exact Nat.ne_of_lt (kL BK472.out):gb472 ≠ gb478));have NB478_472:=mk0 ((by rw [hg];exact Nat.ne_of_gt (kL BK472.out):gb478 ≠ gb472));replace BK472:=mk0 (kK BK472.out hb);clear hb hbox hg;have hnb17:=NB478_472.out;have hnc17:=NB472_478.out;obtain⟨hcz18_0,hcz18_1,hfz18_0,hfz18_1⟩:=cz2 BK478.out;obtain⟨Ao19,co19,eo19⟩:=Kd.R_slice HO476.out;subst eo19))
 (try simp only [Act.put,sA,sO,sS])
 go_cut [38] (fun v38 wc=>∃ (kq:Nat) (x38_6:Bool),v38 = .bool x38_6 ∧ Aside0 (laws_FnHuffBack.j0 kq t461 t462 t471 t477 x38_6 t473 t474 = some r) ∧ Aside0 (kq ≤ k) ∧ Aside0 (Kd.R (Kd.int .i64) 3 wc w.heap.size (fun k_=>some k_ ≠ ((.slice Ao10 t462.length co10):Value).ownBlock) (.slice Ao9 t461.length co9) t461) ∧ Aside0 (Kd.R (Kd.int .i64) 3 wc w.heap.size (fun k_=>some k_ ≠ ((.slice Ao9 t461.length co9):Value).ownBlock) (.slice Ao10 t462.length co10) t462) ∧ Aside0 (Kd.R (Kd.int .u64) 82 wc w.heap.size (fun k_=>some k_ ≠ ((.slice Ao19 t474.length co19):Value).ownBlock) (.slice Ao14 t468.length co14) t468) ∧ Aside0 (Kd.R (Kd.int .u64) 82 wc w.heap.size (fun k_=>some k_ ≠ ((.slice Ao14 t468.length co14):Value).ownBlock) (.slice Ao19 t474.length co19) t474) ∧ Aside0 (wc.heap[gb472]? = some (.cells #[.int .i64 t467,(.slice Ao14 t468.length co14)] 30 (0,0))) ∧ Aside0 (wc.heap[gb478]? = some (.cells #[.int .i64 t473,(.slice Ao19 t474.length co19)] 30 (0,0))) ∧ Aside0 (Below w.heap.size w wc))
 case first =>
  have H:=HC7.out
  clear HC7
  by_cases c20:(t477 != t471) = true
  rotate_left
  ·rw [if_neg c20] at H
   have c20b0:(t477 != t471) = false:=by simpa using c20
   (try (have c20b1:decide (t477 = t471) = true:=by simpa using c20))
   (try (have c20b2:(t477 == t471) = true:=by simpa using c20))
   clear c20
   (first|rw [c20b0]|(simp only [i64_w,i32_w];rw [c20b0])|skip)
   have H':=mk0 H
   clear H
   go_wp2
   go_meet
   case rel=>exact⟨_,(!t477),(by first|rfl|(simp;done)|(simp [*];done)),H',⟨by first|omega|exact Nat.le_refl _⟩,⟨by (with_reducible repeat (first|apply aR|apply nR|apply dR));exact Kd.R_mono (Kd.R_far (p:=⟨gb478,1,none⟩) (Kd.R_far (p:=⟨gb478,0,none⟩) (Kd.R_types HO464.out BK478.out (by decide)) (by first|exact fun _ hk=>hk.2|(intro k_ hk;simp only [hk,ne_eq,and_self,not_false_eq_true])) (.int .i64 t473)) (by first|exact fun _ hk=>hk.2|(intro k_ hk;simp only [hk,ne_eq,and_self,not_false_eq_true])) (.slice Ao19 t474.length co19)) (by first|exact fun _ hk=>hk.1|(intro k_ hk;simp only [hk,ne_eq,and_self,not_false_eq_true]))⟩,⟨by (with_reducible repeat (first|apply aR|apply nR|apply dR));exact Kd.R_mono (Kd.R_far (p:=⟨gb478,1,none⟩) (Kd.R_far (p:=⟨gb478,0,none⟩) (Kd.R_types HO466.out BK478.out (by decide)) (by first|exact fun _ hk=>hk.2|(intro k_ hk;simp only [hk,ne_eq,and_self,not_false_eq_true])) (.int .i64 t473)) (by first|exact fun _ hk=>hk.2|(intro k_ hk;simp only [hk,ne_eq,and_self,not_false_eq_true])) (.slice Ao19 t474.length co19)) (by first|exact fun _ hk=>hk.1|(intro k_ hk;simp only [hk,ne_eq,and_self,not_false_eq_true]))⟩,⟨by (with_reducible repeat (first|apply aR|apply nR|apply dR));exact Kd.R_mono (Kd.R_far (p:=⟨gb478,1,none⟩) (Kd.R_far (p:=⟨gb478,0,none⟩) (Kd.R_types HO470.out BK478.out (by decide)) (by first|exact fun _ hk=>hk.2|(intro k_ hk;simp only [hk,ne_eq,and_self,not_false_eq_true])) (.int .i64 t473)) (by first|exact fun _ hk=>hk.2|(intro k_ hk;simp only [hk,ne_eq,and_self,not_false_eq_true])) (.slice Ao19 t474.length co19)) (by first|exact fun _ hk=>hk.1.2|(intro k_ hk;simp only [hk,ne_eq,and_self,not_false_eq_true]))⟩,⟨by (with_reducible repeat (first|apply aR|apply nR|apply dR));exact Kd.R_mono (Kd.R_far (p:=⟨gb478,1,none⟩) (Kd.R_far (p:=⟨gb478,0,none⟩) (Kd.R_types HO476.out BK478.out (by decide)) (by first|exact fun _ hk=>hk.2|(intro k_ hk;simp only [hk,ne_eq,and_self,not_false_eq_true])) (.int .i64 t473)) (by first|exact fun _ hk=>hk.2|(intro k_ hk;simp only [hk,ne_eq,and_self,not_false_eq_true])) (.slice Ao19 t474.length co19)) (by first|exact fun _ hk=>hk.1.2|(intro k_ hk;simp only [hk,ne_eq,and_self,not_false_eq_true]))⟩,⟨by (with_reducible repeat (first|apply nB|apply dB|apply aB));refine blk_far ?_ NB472_478.out _;(with_reducible repeat (first|apply nB|apply dB|apply aB));refine blk_far ?_ NB472_478.out _;(with_reducible repeat (first|apply nB|apply dB|apply aB));exact BK472.out⟩,⟨by (with_reducible repeat (first|apply nB|apply dB|apply aB));refine blk_put (cs:=#[.int .i64 t473,.slice none 0 0]) ?_ 1 _ rfl;(with_reducible repeat (first|apply nB|apply dB|apply aB));refine blk_put (cs:=#[.int .i64 0,.slice none 0 0]) ?_ 0 _ rfl;(with_reducible repeat (first|apply nB|apply dB|apply aB));exact BK478.out⟩,⟨kB HB.out⟩⟩
  rw [if_pos c20] at H
  have c20b0:(t477 != t471) = true:=c20
  (try (have c20b1:decide (t477 = t471) = false:=by simpa using c20))
  (try (have c20b2:(t477 == t471) = false:=by simpa using c20))
  (try (have c20b3:¬ (t477 = t471):=by simpa using c20))
  clear c20
  (first|rw [c20b0]|(simp only [i64_w,i32_w];rw [c20b0])|skip)
  have H':=mk0 H
  clear H
  go_wp2
  go_meet
  case rel=>exact⟨_,(true),(by first|rfl|(simp;done)|(simp [*];done)),H',⟨by first|omega|exact Nat.le_refl _⟩,⟨by (with_reducible repeat (first|apply aR|apply nR|apply dR));exact Kd.R_mono (Kd.R_far (p:=⟨gb478,1,none⟩) (Kd.R_far (p:=⟨gb478,0,none⟩) (Kd.R_types HO464.out BK478.out (by decide)) (by first|exact fun _ hk=>hk.2|(intro k_ hk;simp only [hk,ne_eq,and_self,not_false_eq_true])) (.int .i64 t473)) (by first|exact fun _ hk=>hk.2|(intro k_ hk;simp only [hk,ne_eq,and_self,not_false_eq_true])) (.slice Ao19 t474.length co19)) (by first|exact fun _ hk=>hk.1|(intro k_ hk;simp only [hk,ne_eq,and_self,not_false_eq_true]))⟩,⟨by (with_reducible repeat (first|apply aR|apply nR|apply dR));exact Kd.R_mono (Kd.R_far (p:=⟨gb478,1,none⟩) (Kd.R_far (p:=⟨gb478,0,none⟩) (Kd.R_types HO466.out BK478.out (by decide)) (by first|exact fun _ hk=>hk.2|(intro k_ hk;simp only [hk,ne_eq,and_self,not_false_eq_true])) (.int .i64 t473)) (by first|exact fun _ hk=>hk.2|(intro k_ hk;simp only [hk,ne_eq,and_self,not_false_eq_true])) (.slice Ao19 t474.length co19)) (by first|exact fun _ hk=>hk.1|(intro k_ hk;simp only [hk,ne_eq,and_self,not_false_eq_true]))⟩,⟨by (with_reducible repeat (first|apply aR|apply nR|apply dR));exact Kd.R_mono (Kd.R_far (p:=⟨gb478,1,none⟩) (Kd.R_far (p:=⟨gb478,0,none⟩) (Kd.R_types HO470.out BK478.out (by decide)) (by first|exact fun _ hk=>hk.2|(intro k_ hk;simp only [hk,ne_eq,and_self,not_false_eq_true])) (.int .i64 t473)) (by first|exact fun _ hk=>hk.2|(intro k_ hk;simp only [hk,ne_eq,and_self,not_false_eq_true])) (.slice Ao19 t474.length co19)) (by first|exact fun _ hk=>hk.1.2|(intro k_ hk;simp only [hk,ne_eq,and_self,not_false_eq_true]))⟩,⟨by (with_reducible repeat (first|apply aR|apply nR|apply dR));exact Kd.R_mono (Kd.R_far (p:=⟨gb478,1,none⟩) (Kd.R_far (p:=⟨gb478,0,none⟩) (Kd.R_types HO476.out BK478.out (by decide)) (by first|exact fun _ hk=>hk.2|(intro k_ hk;simp only [hk,ne_eq,and_self,not_false_eq_true])) (.int .i64 t473)) (by first|exact fun _ hk=>hk.2|(intro k_ hk;simp only [hk,ne_eq,and_self,not_false_eq_true])) (.slice Ao19 t474.length co19)) (by first|exact fun _ hk=>hk.1.2|(intro k_ hk;simp only [hk,ne_eq,and_self,not_false_eq_true]))⟩,⟨by (with_reducible repeat (first|apply nB|apply dB|apply aB));refine blk_far ?_ NB472_478.out _;(with_reducible repeat (first|apply nB|apply dB|apply aB));refine blk_far ?_ NB472_478.out _;(with_reducible repeat (first|apply nB|apply dB|apply aB));exact BK472.out⟩,⟨by (with_reducible repeat (first|apply nB|apply dB|apply aB));refine blk_put (cs:=#[.int .i64 t473,.slice none 0 0]) ?_ 1 _ rfl;(with_reducible repeat (first|apply nB|apply dB|apply aB));refine blk_put (cs:=#[.int .i64 0,.slice none 0 0]) ?_ 0 _ rfl;(with_reducible repeat (first|apply nB|apply dB|apply aB));exact BK478.out⟩,⟨kB HB.out⟩⟩
 case rest =>
  clear HC7
  try clear c1
  try clear c2
  try clear p2
  try clear c3
  try clear c7
  try clear c8
  try clear c12
  try clear c14
  try clear c17
  try clear c20
  try clear c20b0
  try clear c20b1
  try clear c20b2
  try clear hcz13_0
  try clear hcz13_1
  try clear hcz18_0
  try clear hcz18_1
  try clear hfz13_0
  try clear hfz13_1
  try clear hfz18_0
  try clear hfz18_1
  obtain⟨kq,x38_6,rfl,HA,HJ6,HO_3,HO_4,HO_473001,HO_479001,BK472,BK478,HB⟩:=hcut
  cases kq with
  | zero=>exact absurd HA.out (by simp [laws_FnHuffBack.j0])
  | succ kj6 =>
   have H:=HA.out
   clear HA
   simp only [laws_FnHuffBack.j0] at H
   by_cases c21:x38_6 = true
   ·subst c21
    have H1:(some (t477 == t471)) = some r:=by rw [if_pos rfl] at H;exact H
    clear H
    have H:=H1
    clear H1
    obtain rfl:=Option.some.inj H
    go_wp2
    go_ret
    exact⟨by first|rfl|(simp [errW_none,errW_some] <;> rfl)|(simp [*,errW_none,errW_some] <;> rfl),kB HB.out⟩
   replace c21:=Bool.eq_false_iff.mpr c21
   subst c21
   have H1:((impl_HuffRead.f kj6 t473 t474 t462 (t461.length:Int)).bind fun bt479=>(laws_FnHuffBack.l0 kj6 t461 t462 bt479.2 0 0 bt479.1 t473 t474)) = some r:=by rw [if_neg (show ¬ (false = true) by decide)] at H;exact H
   clear H
   have H:=H1
   clear H1
   replace H:=Option.bind_eq_some_iff.mp H
   obtain⟨⟨t479,t482⟩,A220,H⟩:=H
   replace H:(laws_FnHuffBack.l0 kj6 t461 t462 t482 0 0 t479 t473 t474) = some r:=H
   have A22:=mk0 A220
   clear A220
   have H':=mk0 H
   clear H
   have hnb23:=NB478_472.out
   have hnc23:=NB472_478.out
   obtain⟨hcz24_0,hcz24_1,hfz24_0,hfz24_1⟩:=cz2 BK478.out
   go_wp2_with (first|((with_reducible refine gate_callee (f:=30) rfl ?_);refine goesL_ (some 47) rfl rfl Try.func30 (by kernel_rfl) rfl #[.agg #[.int .i64 t473,.slice Ao19 t474.length co19],.slice Ao10 t462.length co10,.int .i64 (t461.length:Int)] rfl (by (try simp only [mA,mC,mN]);first|done|rfl|(simp only [List.length_drop,List.length_take];done)|(simp only [List.length_drop,List.length_take];rfl)) ?_;(with_reducible refine (impl_HuffRead.calls kj6 t473 _ _ t474 _ _ t462 (t461.length:Int) t479 t482 _ ?side1 ?side2 ?side3 ?side4 A22.out).mono ?_);(case side1=>exact kC (Kd.R_reads' HO_479001.out).2.2);(case side2=>exact (Kd.R_reads' HO_479001.out).2.1);(case side3=>exact kC (Kd.R_reads' HO_4.out).2.2);(case side4=>exact (Kd.R_reads' HO_4.out).2.1);rintro e w25 ⟨v480,rfl,ho0,hb⟩;refine⟨_,rfl,?_⟩;replace HO_473001:=mk0 (bR HO_473001.out hb);replace HO_479001:=mk0 (bR HO_479001.out hb);have HO481:=mk0 (Kd.R_lower (Kd.R_new' (Kd.R_new' ho0 (Kd.R_lt (rR HO_3.out))) (Kd.R_lt (rR HO_4.out))) (kZ HB.out));replace HO_3:=mk0 (Kd.R_elder' (rR HO_3.out) (Kd.R_base ho0) hb);replace HO_4:=mk0 (Kd.R_elder' (rR HO_4.out) (Kd.R_base ho0) hb);replace BK472:=mk0 (kK BK472.out hb);replace BK478:=mk0 (kK BK478.out hb);replace HB:=mk0 (kS HB.out hb);(try clear hb);(try clear ho0)))
   go_loopg [11,12] kj6 (fun kq v11 v12 w'=>∃ (x11_2:Int) (x12_2:Int),v11 = .int .i64 x11_2 ∧ v12 = .int .i64 x12_2 ∧ Aside0 (laws_FnHuffBack.l0 kq t461 t462 t482 x11_2 x12_2 t479 t473 t474 = some r) ∧ Aside0 (kq ≤ kj6) ∧ Aside0 (Kd.R (Kd.int .i64) 3 w' w.heap.size (fun k_=>some k_ ≠ ((.slice Ao10 t462.length co10):Value).ownBlock ∧ some k_ ≠ (v480:Value).ownBlock) (.slice Ao9 t461.length co9) t461) ∧ Aside0 (Kd.R (Kd.int .i64) 3 w' w.heap.size (fun k_=>some k_ ≠ ((.slice Ao9 t461.length co9):Value).ownBlock ∧ some k_ ≠ (v480:Value).ownBlock) (.slice Ao10 t462.length co10) t462) ∧ Aside0 (Kd.R (Kd.int .i64) 3 w' w.heap.size (fun k_=>some k_ ≠ ((.slice Ao9 t461.length co9):Value).ownBlock ∧ some k_ ≠ ((.slice Ao10 t462.length co10):Value).ownBlock) v480 t479) ∧ Aside0 (Kd.R (Kd.int .u64) 82 w' w.heap.size (fun k_=>some k_ ≠ ((.slice Ao19 t474.length co19):Value).ownBlock) (.slice Ao14 t468.length co14) t468) ∧ Aside0 (Kd.R (Kd.int .u64) 82 w' w.heap.size (fun k_=>some k_ ≠ ((.slice Ao14 t468.length co14):Value).ownBlock) (.slice Ao19 t474.length co19) t474) ∧ Aside0 (w'.heap[gb472]? = some (.cells #[.int .i64 t467,(.slice Ao14 t468.length co14)] 30 (0,0))) ∧ Aside0 (w'.heap[gb478]? = some (.cells #[.int .i64 t473,(.slice Ao19 t474.length co19)] 30 (0,0))) ∧ Aside0 (Below w.heap.size w w'))
   case atStart=>exact⟨(0),(0),(by first|rfl|(simp;done)|(simp [*];done)),(by first|rfl|(simp;done)|(simp [*];done)),H',⟨Nat.le_refl _⟩,⟨rR HO_3.out⟩,⟨rR HO_4.out⟩,⟨by (with_reducible repeat (first|apply aR|apply nR|apply dR));exact Kd.R_mono HO481.out (by first|exact fun _ hk=>⟨hk.1.2,hk.2⟩|(intro k_ hk;simp only [hk,ne_eq,and_self,not_false_eq_true]))⟩,⟨rR HO_473001.out⟩,⟨rR HO_479001.out⟩,⟨kN BK472.out⟩,⟨kN BK478.out⟩,⟨kB HB.out⟩⟩
   case round =>
    clear H'
    try clear c1
    try clear c2
    try clear p2
    try clear c3
    try clear c7
    try clear c8
    try clear c12
    try clear c14
    try clear c17
    try clear c20
    try clear c20b0
    try clear c20b1
    try clear c20b2
    try clear c21
    try clear c23
    try clear hcz13_0
    try clear hcz13_1
    try clear hcz18_0
    try clear hcz18_1
    try clear hcz24_0
    try clear hcz24_1
    try clear hfz13_0
    try clear hfz13_1
    try clear hfz18_0
    try clear hfz18_1
    try clear hfz24_0
    try clear hfz24_1
    try clear p2
    obtain⟨x11_2,x12_2,rfl,rfl,HA,HK2,HO_3,HO_4,HO_48,HO_473001,HO_479001,BK472,BK478,HB⟩:=hrel
    cases gk with
    | zero=>exact absurd HA.out (by simp [laws_FnHuffBack.l0])
    | succ k2 =>
     have H:=HA.out
     clear HA
     simp only [laws_FnHuffBack.l0] at H
     by_cases c26:x12_2 < (t461.length:Int)
     ·rw [if_pos c26] at H
      have c26b0:decide (x12_2 < (t461.length:Int)) = true:=decide_eq_true c26
      clear c26
      by_cases c27:0 ≤ x12_2
      rotate_left
      ·rw [if_neg c27] at H
       exact absurd H (by simp)
      rw [if_pos c27] at H
      have c27b0:decide (0 ≤ x12_2) = true:=decide_eq_true c27
      clear c27
      by_cases c28:0 ≤ (rd t461 x12_2)
      rotate_left
      ·rw [if_neg c28] at H
       exact absurd H (by simp)
      rw [if_pos c28] at H
      have c28b0:decide (0 ≤ (rd t461 x12_2)) = true:=decide_eq_true c28
      clear c28
      by_cases c29:(rd t461 x12_2) < (t462.length:Int)
      rotate_left
      ·rw [if_neg c29] at H
       exact absurd H (by simp)
      rw [if_pos c29] at H
      have c29b0:decide ((rd t461 x12_2) < (t462.length:Int)) = true:=decide_eq_true c29
      clear c29
      have H':=mk0 H
      clear H
      have p483:0 ≤ (x12_2:Int):=of_decide_eq_true (by first|(with_reducible assumption)|assumption)
      have q483:x12_2 < (t461.length:Int):=of_decide_eq_true (by first|(with_reducible assumption)|assumption)
      obtain⟨ad483,e483,hx483_0⟩:=Kd.at_int (Kd.R_reads' HO_3.out).2.2 x12_2 p483 q483
      cases e483
      replace p483:=eq_true p483
      replace q483:=eq_true q483
      have p484:0 ≤ ((rd t461 x12_2):Int):=of_decide_eq_true (by first|(with_reducible assumption)|assumption)
      have q484:(rd t461 x12_2) < (t462.length:Int):=of_decide_eq_true (by first|(with_reducible assumption)|assumption)
      obtain⟨ad484,e484,hx484_0⟩:=Kd.at_int (Kd.R_reads' HO_4.out).2.2 (rd t461 x12_2) p484 q484
      cases e484
      replace p484:=eq_true p484
      replace q484:=eq_true q484
      go_wp2
      go_roundg k2
      case measure=>have:=HJ6.out;have:=HK2.out;omega
      case rel=>exact⟨(wrap64 (x11_2 + (rd t462 (rd t461 x12_2)))),(wrap64 (x12_2 + 1)),(by first|rfl|(simp;done)|(simp [*];done)),(by first|rfl|(simp;done)|(simp [*];done)),H',⟨by have:=HJ6.out;have:=HK2.out;omega⟩,⟨rR HO_3.out⟩,⟨rR HO_4.out⟩,⟨rR HO_48.out⟩,⟨rR HO_473001.out⟩,⟨rR HO_479001.out⟩,⟨kN BK472.out⟩,⟨kN BK478.out⟩,⟨kB HB.out⟩⟩
     rw [if_neg c26] at H
     have c26b0:decide (x12_2 < (t461.length:Int)) = false:=decide_eq_false c26
     clear c26
     by_cases c30:t482 = true
     rotate_left
     ·replace c30:=Bool.eq_false_iff.mpr c30
      subst c30
      have H1:(some false) = some r:=by rw [if_neg (show ¬ (false = true) by decide)] at H;exact H
      clear H
      have H:=H1
      clear H1
      obtain rfl:=Option.some.inj H
      go_wp2
      go_ret
      exact⟨by first|rfl|(simp [errW_none,errW_some] <;> rfl)|(simp [*,errW_none,errW_some] <;> rfl),kB HB.out⟩

     subst c30
     have H1:((laws_same.f k2 t479 t461).bind fun t485=>(if t485 = true then (some (t473 == x11_2)) else (some false))) = some r:=by rw [if_pos rfl] at H;exact H
     clear H
     have H:=H1
     clear H1
     replace H:=Option.bind_eq_some_iff.mp H
     obtain⟨t485,A310,H⟩:=H
     replace H:(if t485 = true then (some (t473 == x11_2)) else (some false)) = some r:=H
     have A31:=mk0 A310
     clear A310
     by_cases c32:t485 = true
     rotate_left
     ·replace c32:=Bool.eq_false_iff.mpr c32
      subst c32
      have H1:(some false) = some r:=by rw [if_neg (show ¬ (false = true) by decide)] at H;exact H
      clear H
      have H:=H1
      clear H1
      obtain rfl:=Option.some.inj H
      obtain⟨Ao36,co36,eo36⟩:=Kd.R_slice HO_48.out
      subst eo36
      go_wp2_with (first|(go_at_call 23;(with_reducible refine (laws_same.calls k2 _ _ t479 _ _ t461 false _ ?side1 ?side2 ?side3 ?side4 A31.out).mono ?_);(case side1=>exact kC (Kd.R_reads' HO_48.out).2.2);(case side2=>exact (Kd.R_reads' HO_48.out).2.1);(case side3=>exact kC (Kd.R_reads' HO_3.out).2.2);(case side4=>exact (Kd.R_reads' HO_3.out).2.1);rintro e w' ⟨rfl,⟨nd,rfl⟩⟩))
      go_ret
      exact⟨by first|rfl|(simp [errW_none,errW_some] <;> rfl)|(simp [*,errW_none,errW_some] <;> rfl),kB HB.out⟩
     subst c32
     have H1:(some (t473 == x11_2)) = some r:=by rw [if_pos rfl] at H;exact H
     clear H
     have H:=H1
     clear H1
     obtain rfl:=Option.some.inj H
     obtain⟨Ao33,co33,eo33⟩:=Kd.R_slice HO_48.out
     subst eo33
     go_wp2_with (first|(go_at_call 23;(with_reducible refine (laws_same.calls k2 _ _ t479 _ _ t461 true _ ?side1 ?side2 ?side3 ?side4 A31.out).mono ?_);(case side1=>exact kC (Kd.R_reads' HO_48.out).2.2);(case side2=>exact (Kd.R_reads' HO_48.out).2.1);(case side3=>exact kC (Kd.R_reads' HO_3.out).2.2);(case side4=>exact (Kd.R_reads' HO_3.out).2.1);rintro e w' ⟨rfl,⟨nd,rfl⟩⟩;have hnb34:=NB478_472.out;have hnc34:=NB472_478.out;obtain⟨hcz35_0,hcz35_1,hfz35_0,hfz35_1⟩:=cz2 BK478.out))
     go_ret
     exact⟨by first|rfl|(simp [errW_none,errW_some] <;> rfl)|(simp [*,errW_none,errW_some] <;> rfl),kB HB.out⟩
/-- THE ONE PURE STATEMENT of laws_FnHuffBack: yours. -/
def laws_FnHuffBack.Pure : Prop := ∀ (l0 : List Int), l0.length ≤ maxLen → l0.length * 1 ≤ 140737488351232 → (∀ x ∈ l0, (Lit.int .u8 x).wf = true) → ∃ k, laws_FnHuffBack.f k l0 = some true
theorem laws_FnHuffBack.walk (P : laws_FnHuffBack.Pure) (a0 : Option Addr) (len0 cap0 : Nat) (z0 : List Int) (w : World) (w0 : (a0 = none ∧ len0 = 0 ∧ cap0 = 0 ∧ z0 = []) ∨ ∃ x, a0 = some x ∧ len0 ≤ cap0 ∧ cap0 ≤ maxLen ∧ z0.length = cap0 ∧ (∀ i, i < z0.length → w.cell? (x.add i) = some (.int .u8 (z0.getD i 0))) ∧ ∀ n ∈ z0, (Lit.int .u8 n).wf = true) (y0 : len0 * 1 ≤ 140737488351232) :
    Calls Try.prog 7 #[.slice a0 len0 cap0] w fun e w' => e = .returned (.bool true) ∧ Below w.heap.size w w' := by
  obtain ⟨l0, rfl, hr0, hm0, hw0, hc0⟩ := ReadsInt.ofRowC w0
  obtain ⟨k, h⟩ := P l0 hm0 y0 hw0
  refine (laws_FnHuffBack.calls k _ _ l0 true w (Kd.C_of_reads (d := (0 : Int)) (h1 := fun _ => rfl) hr0) hc0 h).mono ?_
  rintro e w' ⟨rfl, hd⟩
  exact ⟨rfl, hd⟩

end Go.Proofs.Ytgjmmegmkdklbaa.QFnHuffBack
