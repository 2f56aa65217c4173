-- A walk, made by walk.py, a program of this session's.
import Derived.Test.YtamdhfjnalglfaaQFnExactWaveListx0
namespace Go.Proofs.Ytamdhfjnalglfaa.QFnExactWaveList
open Go.RowKit Go.Proofs.YtamdhfjnalglfaaW.PrintWords Go.Proofs.YtamdhfjnalglfaaW.PrintLast Go.Proofs.YtamdhfjnalglfaaW.PrintMore
attribute [local go_sem] max2_int min2_int max_two min_two max_three min_three max_four min_four   -- for this text's walks alone
set_option linter.unusedVariables false
set_option linter.unusedSimpArgs false

/-! ### laws_markIntS: function 32 -/
def laws_markIntS.l0 : Nat → List Int → Int → Int → Option (Int × List Int)
 | 0, _, _, _ => none
 | k + 1, x0, x1, x5 => if x5 < (x0.length : Int) then (if 0 ≤ x5 then (laws_markIntS.l0 k (x0.set (x5 : Int).toNat x1) (wrap64 (x1 + 1)) (wrap64 (x5 + 1))) else (none)) else (some (x1, x0))
def laws_markIntS.f (k : Nat) (l0 : List Int) (a1 : Int) : Option (Int × List Int) := laws_markIntS.l0 k l0 a1 0
theorem laws_markIntS.mono_l : ∀ k, (∀ y0 y1 y2, LeO (laws_markIntS.l0 k y0 y1 y2) (laws_markIntS.l0 (k + 1) y0 y1 y2))
 | 0 => fun _ _ _ r h => by simp [laws_markIntS.l0] at h
 | k + 1 => by
  have ih0 := laws_markIntS.mono_l k
  ·intro y0 y1 y2
   unfold laws_markIntS.l0
   repeat' first|(with_reducible first|exact ih0 _ _ _|exact LeO.refl _|exact LeO.none _|refine LeO.ite ?_ ?_|refine LeO.bind ?_ (fun _ => ?_))|exact LeO.none _|refine LeO.ite ?_ ?_|refine LeO.bind ?_ (fun _ => ?_)
theorem laws_markIntS.mono : ∀ a0 a1 k, LeO (laws_markIntS.f k a0 a1) (laws_markIntS.f (k + 1) a0 a1) := by
 intro a0 a1 k
 have ih0 := laws_markIntS.mono_l k
 unfold laws_markIntS.f
 repeat' first|(with_reducible first|exact ih0 _ _ _|exact LeO.refl _|exact LeO.none _|refine LeO.ite ?_ ?_|refine LeO.bind ?_ (fun _ => ?_))|exact LeO.none _|refine LeO.ite ?_ ?_|refine LeO.bind ?_ (fun _ => ?_)
set_option maxHeartbeats 8000000 in
set_option maxRecDepth 100000 in
theorem laws_markIntS.calls (k : Nat) (P0_ : Nat → Prop) (u9000_ : Value) (l0 : List Int) (a1 : Int) (r1 : Int) (r2 : List Int) (w0 w : World) (hB : Below w0.heap.size w0 w) (ho0 : Kd.R (Kd.int .i64) 3 w w0.heap.size P0_ u9000_ l0) (h : laws_markIntS.f k l0 a1 = some (r1, r2)) :
  Calls Try.prog 32 #[u9000_, .int .i64 a1] w fun e w' => e = .returned (.int .i64 r1) ∧ Kd.R (Kd.int .i64) 3 w' w0.heap.size (fun k_ => (P0_ k_ ∨ w.heap.size ≤ k_)) u9000_ r2 ∧ Below w0.heap.size w0 w' ∧ Kept w w' (fun k_ => P0_ k_) := by
 have HO0:=mk0 (show Kd.R (Kd.int .i64) 3 w w0.heap.size (fun k_=>(P0_ k_ ∨ w.heap.size ≤ k_)) u9000_ l0 from Kd.R_mono ho0 (fun k_ hk=>(.inl hk)))
 have HK:=mk0 (Kept.refl w (fun k_=>P0_ k_))
 have HW0:=mk0 hB.size
 have HB:=mk0 hB
 clear hB
 have H:(laws_markIntS.l0 k l0 a1 0) = some (r1,r2):=h
 clear h
 have H':=mk0 H
 clear H
 go_enter Try.func32,Try.ntmps32
 go_wp2
 go_loopg [1,5] k (fun kq v1 v5 w'=>∃ (x0_1:List Int) (x1_1:Int) (x5_1:Int),v1 = .int .i64 x1_1 ∧ v5 = .int .i64 x5_1 ∧ Aside0 (laws_markIntS.l0 kq x0_1 x1_1 x5_1 = some (r1,r2)) ∧ Aside0 (kq ≤ k) ∧ Aside0 (Kd.R (Kd.int .i64) 3 w' w0.heap.size (fun k_=>(P0_ k_ ∨ w.heap.size ≤ k_)) u9000_ x0_1) ∧ Aside0 (Kept w w' (fun k_=>P0_ k_)) ∧ Aside0 (Below w0.heap.size w0 w'))
 case atStart=>exact⟨(l0),(a1),(0),(by first|rfl|(simp;done)|(simp [*];done)),(by first|rfl|(simp;done)|(simp [*];done)),H',⟨Nat.le_refl _⟩,⟨by (with_reducible repeat (first|apply aR|apply nR|apply dR));exact HO0.out⟩,⟨by repeat (first|(with_reducible first|exact HK.out|apply Kept.alloc|apply Kept.drewN|apply Kept.drew)|exact HK.out)⟩,⟨by repeat (first|(with_reducible first|exact HB.out|apply aZ|apply nZ|apply dZ)|exact HB.out)⟩⟩
 case round =>
  clear H'
  try clear p2
  obtain⟨x0_1,x1_1,x5_1,rfl,rfl,HA,HK1,HO_0,HK,HB⟩:=hrel
  cases gk with
  | zero=>exact absurd HA.out (by simp [laws_markIntS.l0])
  | succ k1 =>
   have H:=HA.out
   clear HA
   simp only [laws_markIntS.l0] at H
   by_cases c3:x5_1 < (x0_1.length:Int)
   ·rw [if_pos c3] at H
    have c3b0:decide (x5_1 < (x0_1.length:Int)) = true:=decide_eq_true c3
    clear c3
    by_cases c4:0 ≤ x5_1
    ·rw [if_pos c4] at H
     have c4b0:decide (0 ≤ x5_1) = true:=decide_eq_true c4
     clear c4
     obtain⟨y280,hy280⟩:∃ y_:List Int,y_ = (x0_1.set (x5_1:Int).toNat x1_1):=⟨_,rfl⟩
     replace H:(laws_markIntS.l0 k1 y280 (wrap64 (x1_1 + 1)) (wrap64 (x5_1 + 1))) = some (r1,r2):=by first|(rw [hy280];with_reducible exact H)|(have H2_:=(Option.bind_some _ _).symm.trans H;rw [hy280];with_reducible exact H2_)|(have H2_:=(Option.bind_some _ _).symm.trans H;with_reducible exact H2_)|with_reducible exact H|(rw [hy280];exact H)|exact H
     have Ny280:=mk0 hy280
     clear hy280
     have H':=mk0 H
     clear H
     obtain⟨Ao6,co6,eo6⟩:=Kd.R_slice HO_0.out
     subst eo6
     have p5:0 ≤ (x5_1:Int):=of_decide_eq_true (by first|(with_reducible assumption)|assumption)
     have q5:(x5_1:Int) < ((x0_1.length:Int):Int):=of_decide_eq_true (by first|(with_reducible assumption)|assumption)
     obtain⟨go5,co5,eo5,gb5,gl5,cl5,HG5⟩:=Kd.R_form HO_0.out (by omega)
     (first|cases eo5|(injection eo5 with ea_ en_ ec_;(first|subst ea_|(injection ea_ with ea_;subst ea_));subst ec_;clear en_))
     have GB5:=mk0 gb5
     have GG5:=mk0 HG5
     clear gb5 gl5 HG5
     have HMgo5:=mk0 (show (P0_ go5 ∨ w.heap.size ≤ go5) from (HO_0.out.1 _ rfl))
     obtain⟨hx5_0,hf5_0⟩:=Kd.R_celln 0 HO_0.out (x5_1:Int) p5 q5
     replace p5:=eq_true p5
     replace q5:=eq_true q5
     have HP7:=Kd.R_putg HO_0.out (x5_1:Int) x1_1
     go_wp2_with (first|((with_reducible refine gate_store (t:=3) (p:=15) rfl ?_);refine store_event (t:=3) (p:=15) (v:=?vo_w8) (w1:=(wr.setCell ⟨go5,(x5_1:Int).toNat,none⟩ (.int .i64 x1_1))) ?hg ?ho ?hn ?hr ?_;(case ho=>rfl);(case hg=>rfl);(case hn=>rfl);(case hr=>first|(go_simp;done)|(go_simp;rfl));intro w8 hw;have hg:wr.grownBy w8 (some go5):=(by rw [hw];exact HP7.2);have hp_:Kd.R (Kd.int .i64) 3 w8 w0.heap.size (fun k_=>(P0_ k_ ∨ w.heap.size ≤ k_)) (.slice (some ⟨go5,0,none⟩) x0_1.length co6) y280:=(by rw [hw,Ny280.out];exact HP7.1);clear HP7;have n0_:=mk0 (hp_);have n1_:=mk0 ((by rw [hw];exact sZ (HB.out) GB5.out:Below w0.heap.size w0 w8));have n2_:=mk0 (Kept.of_grown (S:=(fun k_=>P0_ k_)) hg (by repeat (first|(with_reducible first|exact HK.out|apply Kept.alloc|apply Kept.drewN|apply Kept.drew)|exact HK.out)) (fun k_ e_=>(HO_0.out.1 k_ e_)));clear HO_0 HB HK;have HO_0:=n0_;have HB:=n1_;have HK:=n2_;clear n0_ n1_ n2_ hg hw hp_))
     go_roundg k1
     case measure=>have:=HK1.out;omega
     case rel=>exact⟨(y280),(wrap64 (x1_1 + 1)),(wrap64 (x5_1 + 1)),(by first|rfl|(simp;done)|(simp [*];done)),(by first|rfl|(simp;done)|(simp [*];done)),H',⟨by have:=HK1.out;omega⟩,⟨by (with_reducible repeat (first|apply aR|apply nR|apply dR));exact HO_0.out⟩,⟨by repeat (first|(with_reducible first|exact HK.out|apply Kept.alloc|apply Kept.drewN|apply Kept.drew)|exact HK.out)⟩,⟨by repeat (first|(with_reducible first|exact HB.out|apply aZ|apply nZ|apply dZ)|exact HB.out)⟩⟩
    ·rw [if_neg c4] at H
     exact absurd H (by simp)
   ·rw [if_neg c3] at H
    have c3b0:decide (x5_1 < (x0_1.length:Int)) = false:=decide_eq_false c3
    clear c3
    simp only [Option.some.injEq,Prod.mk.injEq] at H
    obtain⟨rfl,rfl⟩:=H
    obtain⟨Ao9,co9,eo9⟩:=Kd.R_slice HO_0.out
    subst eo9
    go_wp2
    go_ret
    exact⟨by first|rfl|(simp [errW_none,errW_some] <;> rfl)|(simp [*,errW_none,errW_some] <;> rfl),by (with_reducible repeat (first|apply aR|apply nR|apply dR));exact HO_0.out,by repeat (first|(with_reducible first|exact HB.out|apply aZ|apply nZ|apply dZ)|exact HB.out),by repeat (first|(with_reducible first|exact HK.out|apply Kept.alloc|apply Kept.drewN|apply Kept.drew)|exact HK.out)⟩

/-! ### laws_markUint64S: function 73 -/
def laws_markUint64S.l0 : Nat → List Int → Int → Int → Option (Int × List Int)
 | 0, _, _, _ => none
 | k + 1, x0, x1, x5 => if x5 < (x0.length : Int) then (if 0 ≤ x5 then (laws_markUint64S.l0 k (x0.set (x5 : Int).toNat (IntKind.u64.wrap (x1))) (wrap64 (x1 + 1)) (wrap64 (x5 + 1))) else (none)) else (some (x1, x0))
def laws_markUint64S.f (k : Nat) (l0 : List Int) (a1 : Int) : Option (Int × List Int) := laws_markUint64S.l0 k l0 a1 0
theorem laws_markUint64S.mono_l : ∀ k, (∀ y0 y1 y2, LeO (laws_markUint64S.l0 k y0 y1 y2) (laws_markUint64S.l0 (k + 1) y0 y1 y2))
 | 0 => fun _ _ _ r h => by simp [laws_markUint64S.l0] at h
 | k + 1 => by
  have ih0 := laws_markUint64S.mono_l k
  ·intro y0 y1 y2
   unfold laws_markUint64S.l0
   repeat' first|(with_reducible first|exact ih0 _ _ _|exact LeO.refl _|exact LeO.none _|refine LeO.ite ?_ ?_|refine LeO.bind ?_ (fun _ => ?_))|exact LeO.none _|refine LeO.ite ?_ ?_|refine LeO.bind ?_ (fun _ => ?_)
theorem laws_markUint64S.mono : ∀ a0 a1 k, LeO (laws_markUint64S.f k a0 a1) (laws_markUint64S.f (k + 1) a0 a1) := by
 intro a0 a1 k
 have ih0 := laws_markUint64S.mono_l k
 unfold laws_markUint64S.f
 repeat' first|(with_reducible first|exact ih0 _ _ _|exact LeO.refl _|exact LeO.none _|refine LeO.ite ?_ ?_|refine LeO.bind ?_ (fun _ => ?_))|exact LeO.none _|refine LeO.ite ?_ ?_|refine LeO.bind ?_ (fun _ => ?_)
set_option maxHeartbeats 8000000 in
set_option maxRecDepth 100000 in
theorem laws_markUint64S.calls (k : Nat) (P0_ : Nat → Prop) (u9000_ : Value) (l0 : List Int) (a1 : Int) (r1 : Int) (r2 : List Int) (w0 w : World) (hB : Below w0.heap.size w0 w) (ho0 : Kd.R (Kd.int .u64) 84 w w0.heap.size P0_ u9000_ l0) (h : laws_markUint64S.f k l0 a1 = some (r1, r2)) :
  Calls Try.prog 73 #[u9000_, .int .i64 a1] w fun e w' => e = .returned (.int .i64 r1) ∧ Kd.R (Kd.int .u64) 84 w' w0.heap.size (fun k_ => (P0_ k_ ∨ w.heap.size ≤ k_)) u9000_ r2 ∧ Below w0.heap.size w0 w' ∧ Kept w w' (fun k_ => P0_ k_) := by
 have HO0:=mk0 (show Kd.R (Kd.int .u64) 84 w w0.heap.size (fun k_=>(P0_ k_ ∨ w.heap.size ≤ k_)) u9000_ l0 from Kd.R_mono ho0 (fun k_ hk=>(.inl hk)))
 have HK:=mk0 (Kept.refl w (fun k_=>P0_ k_))
 have HW0:=mk0 hB.size
 have HB:=mk0 hB
 clear hB
 have H:(laws_markUint64S.l0 k l0 a1 0) = some (r1,r2):=h
 clear h
 have H':=mk0 H
 clear H
 go_enter Try.func73,Try.ntmps73
 go_wp2
 go_loopg [1,5] k (fun kq v1 v5 w'=>∃ (x0_1:List Int) (x1_1:Int) (x5_1:Int),v1 = .int .i64 x1_1 ∧ v5 = .int .i64 x5_1 ∧ Aside0 (laws_markUint64S.l0 kq x0_1 x1_1 x5_1 = some (r1,r2)) ∧ Aside0 (kq ≤ k) ∧ Aside0 (Kd.R (Kd.int .u64) 84 w' w0.heap.size (fun k_=>(P0_ k_ ∨ w.heap.size ≤ k_)) u9000_ x0_1) ∧ Aside0 (Kept w w' (fun k_=>P0_ k_)) ∧ Aside0 (Below w0.heap.size w0 w'))
 case atStart=>exact⟨(l0),(a1),(0),(by first|rfl|(simp;done)|(simp [*];done)),(by first|rfl|(simp;done)|(simp [*];done)),H',⟨Nat.le_refl _⟩,⟨by (with_reducible repeat (first|apply aR|apply nR|apply dR));exact HO0.out⟩,⟨by repeat (first|(with_reducible first|exact HK.out|apply Kept.alloc|apply Kept.drewN|apply Kept.drew)|exact HK.out)⟩,⟨by repeat (first|(with_reducible first|exact HB.out|apply aZ|apply nZ|apply dZ)|exact HB.out)⟩⟩
 case round =>
  clear H'
  try clear p2
  obtain⟨x0_1,x1_1,x5_1,rfl,rfl,HA,HK1,HO_0,HK,HB⟩:=hrel
  cases gk with
  | zero=>exact absurd HA.out (by simp [laws_markUint64S.l0])
  | succ k1 =>
   have H:=HA.out
   clear HA
   simp only [laws_markUint64S.l0] at H
   by_cases c3:x5_1 < (x0_1.length:Int)
   ·rw [if_pos c3] at H
    have c3b0:decide (x5_1 < (x0_1.length:Int)) = true:=decide_eq_true c3
    clear c3
    by_cases c4:0 ≤ x5_1
    ·rw [if_pos c4] at H
     have c4b0:decide (0 ≤ x5_1) = true:=decide_eq_true c4
     clear c4
     obtain⟨y281,hy281⟩:∃ y_:List Int,y_ = (x0_1.set (x5_1:Int).toNat (IntKind.u64.wrap (x1_1))):=⟨_,rfl⟩
     replace H:(laws_markUint64S.l0 k1 y281 (wrap64 (x1_1 + 1)) (wrap64 (x5_1 + 1))) = some (r1,r2):=by first|(rw [hy281];with_reducible exact H)|(have H2_:=(Option.bind_some _ _).symm.trans H;rw [hy281];with_reducible exact H2_)|(have H2_:=(Option.bind_some _ _).symm.trans H;with_reducible exact H2_)|with_reducible exact H|(rw [hy281];exact H)|exact H
     have Ny281:=mk0 hy281
     clear hy281
     have H':=mk0 H
     clear H
     obtain⟨Ao6,co6,eo6⟩:=Kd.R_slice HO_0.out
     subst eo6
     have p5:0 ≤ (x5_1:Int):=of_decide_eq_true (by first|(with_reducible assumption)|assumption)
     have q5:(x5_1:Int) < ((x0_1.length:Int):Int):=of_decide_eq_true (by first|(with_reducible assumption)|assumption)
     obtain⟨go5,co5,eo5,gb5,gl5,cl5,HG5⟩:=Kd.R_form HO_0.out (by omega)
     (first|cases eo5|(injection eo5 with ea_ en_ ec_;(first|subst ea_|(injection ea_ with ea_;subst ea_));subst ec_;clear en_))
     have GB5:=mk0 gb5
     have GG5:=mk0 HG5
     clear gb5 gl5 HG5
     have HMgo5:=mk0 (show (P0_ go5 ∨ w.heap.size ≤ go5) from (HO_0.out.1 _ rfl))
     obtain⟨hx5_0,hf5_0⟩:=Kd.R_celln 0 HO_0.out (x5_1:Int) p5 q5
     replace p5:=eq_true p5
     replace q5:=eq_true q5
     have HP7:=Kd.R_putg HO_0.out (x5_1:Int) (IntKind.u64.wrap (x1_1))
     go_wp2_with (first|((with_reducible refine gate_store (t:=84) (p:=16) rfl ?_);refine store_event (t:=84) (p:=16) (v:=?vo_w8) (w1:=(wr.setCell ⟨go5,(x5_1:Int).toNat,none⟩ (.int .u64 (IntKind.u64.wrap (x1_1))))) ?hg ?ho ?hn ?hr ?_;(case ho=>rfl);(case hg=>rfl);(case hn=>rfl);(case hr=>first|(go_simp;done)|(go_simp;rfl));intro w8 hw;have hg:wr.grownBy w8 (some go5):=(by rw [hw];exact HP7.2);have hp_:Kd.R (Kd.int .u64) 84 w8 w0.heap.size (fun k_=>(P0_ k_ ∨ w.heap.size ≤ k_)) (.slice (some ⟨go5,0,none⟩) x0_1.length co6) y281:=(by rw [hw,Ny281.out];exact HP7.1);clear HP7;have n0_:=mk0 (hp_);have n1_:=mk0 ((by rw [hw];exact sZ (HB.out) GB5.out:Below w0.heap.size w0 w8));have n2_:=mk0 (Kept.of_grown (S:=(fun k_=>P0_ k_)) hg (by repeat (first|(with_reducible first|exact HK.out|apply Kept.alloc|apply Kept.drewN|apply Kept.drew)|exact HK.out)) (fun k_ e_=>(HO_0.out.1 k_ e_)));clear HO_0 HB HK;have HO_0:=n0_;have HB:=n1_;have HK:=n2_;clear n0_ n1_ n2_ hg hw hp_))
     go_roundg k1
     case measure=>have:=HK1.out;omega
     case rel=>exact⟨(y281),(wrap64 (x1_1 + 1)),(wrap64 (x5_1 + 1)),(by first|rfl|(simp;done)|(simp [*];done)),(by first|rfl|(simp;done)|(simp [*];done)),H',⟨by have:=HK1.out;omega⟩,⟨by (with_reducible repeat (first|apply aR|apply nR|apply dR));exact HO_0.out⟩,⟨by repeat (first|(with_reducible first|exact HK.out|apply Kept.alloc|apply Kept.drewN|apply Kept.drew)|exact HK.out)⟩,⟨by repeat (first|(with_reducible first|exact HB.out|apply aZ|apply nZ|apply dZ)|exact HB.out)⟩⟩
    ·rw [if_neg c4] at H
     exact absurd H (by simp)
   ·rw [if_neg c3] at H
    have c3b0:decide (x5_1 < (x0_1.length:Int)) = false:=decide_eq_false c3
    clear c3
    simp only [Option.some.injEq,Prod.mk.injEq] at H
    obtain⟨rfl,rfl⟩:=H
    obtain⟨Ao9,co9,eo9⟩:=Kd.R_slice HO_0.out
    subst eo9
    go_wp2
    go_ret
    exact⟨by first|rfl|(simp [errW_none,errW_some] <;> rfl)|(simp [*,errW_none,errW_some] <;> rfl),by (with_reducible repeat (first|apply aR|apply nR|apply dR));exact HO_0.out,by repeat (first|(with_reducible first|exact HB.out|apply aZ|apply nZ|apply dZ)|exact HB.out),by repeat (first|(with_reducible first|exact HK.out|apply Kept.alloc|apply Kept.drewN|apply Kept.drew)|exact HK.out)⟩

-- NOT PRINTED: function 58 (laws_markBitsS)


/-! ### laws_markBitsS: function 58 (by hand) -/
def laws_markBitsS.l0 : Nat → List S64 → Int → Int → Option (Int × List S64)
 | 0, _, _, _ => none
 | k + 1, x0, x1, x5 => if x5 < (x0.length : Int) then (if 0 ≤ x5 then ((laws_markUint64S.f k (x0.getD x5.toNat z64).f1 (wrap64 (x1 + 1))).bind fun t => laws_markBitsS.l0 k (x0.set x5.toNat (⟨x1, t.2⟩ : S64)) t.1 (wrap64 (x5 + 1))) else none) else some (x1, x0)
def laws_markBitsS.f (k : Nat) (l0 : List S64) (a1 : Int) : Option (Int × List S64) := laws_markBitsS.l0 k l0 a1 0
theorem laws_markBitsS.mono_l : ∀ k, (∀ y0 y1 y2, LeO (laws_markBitsS.l0 k y0 y1 y2) (laws_markBitsS.l0 (k + 1) y0 y1 y2))
 | 0 => fun _ _ _ r h => by simp [laws_markBitsS.l0] at h
 | k + 1 => by
  have ih0 := laws_markBitsS.mono_l k
  intro y0 y1 y2
  unfold laws_markBitsS.l0
  repeat' first|(with_reducible first|exact ih0 _ _ _|exact laws_markUint64S.mono _ _ _|exact LeO.refl _|exact LeO.none _|refine LeO.ite ?_ ?_|refine LeO.bind ?_ (fun _ => ?_))|exact LeO.none _|refine LeO.ite ?_ ?_|refine LeO.bind ?_ (fun _ => ?_)
theorem laws_markBitsS.mono : ∀ a0 a1 k, LeO (laws_markBitsS.f k a0 a1) (laws_markBitsS.f (k + 1) a0 a1) := fun a0 a1 k => laws_markBitsS.mono_l k a0 a1 0
set_option maxHeartbeats 8000000 in
set_option maxRecDepth 100000 in
theorem laws_markBitsS.calls (k : Nat) (P0_ : Nat → Prop) (u : Value) (l0 : List S64) (a1 : Int) (r1 : Int) (r2 : List S64) (w0 w : World) (hB : Below w0.heap.size w0 w) (ho0 : Kd.S k64 64 w w0.heap.size P0_ u l0) (h : laws_markBitsS.f k l0 a1 = some (r1, r2)) :
  Calls Try.prog 58 #[u, .int .i64 a1] w fun e w' => e = .returned (.int .i64 r1) ∧ Kd.S k64 64 w' w0.heap.size (fun k_ => P0_ k_ ∨ w.heap.size ≤ k_) u r2 ∧ Below w0.heap.size w0 w' ∧ Kept w w' (fun k_ => P0_ k_) := by
 have HO_0 := Aside0.mk (Kd.S_mono (ok' := fun k_ => P0_ k_ ∨ w.heap.size ≤ k_) ho0 (fun k_ hk => .inl hk))
 have HK := Aside0.mk (Kept.refl w (fun k_ => P0_ k_))
 have HB := Aside0.mk hB
 clear hB ho0
 have H' := Aside0.mk (show laws_markBitsS.l0 k l0 a1 0 = some (r1, r2) from h)
 clear h
 go_enter Try.func58, Try.ntmps58
 go_wp2
 go_loopg [1,5] k (fun kq v1 v5 w'=>∃ (x0_1:List S64) (x1_1:Int) (x5_1:Int),v1 = .int .i64 x1_1 ∧ v5 = .int .i64 x5_1 ∧ Aside0 (laws_markBitsS.l0 kq x0_1 x1_1 x5_1 = some (r1, r2)) ∧ Aside0 (kq ≤ k) ∧ Aside0 (Kd.S k64 64 w' w0.heap.size (fun k_=>(P0_ k_ ∨ w.heap.size ≤ k_)) u x0_1) ∧ Aside0 (Kept w w' (fun k_=>P0_ k_)) ∧ Aside0 (Below w0.heap.size w0 w'))
 case atStart => exact ⟨l0, a1, 0, rfl, rfl, H', ⟨Nat.le_refl _⟩, ⟨by (with_reducible repeat (first|apply Kd.S_alloc|apply Kd.S_drewN|apply Kd.S_drew)); exact HO_0.out⟩, ⟨by repeat (first|(with_reducible first|exact HK.out|apply Kept.alloc|apply Kept.drewN|apply Kept.drew)|exact HK.out)⟩, ⟨by repeat (first|(with_reducible first|exact HB.out|apply below_alloc|apply pw_below_drewN|apply below_drew1)|exact HB.out)⟩⟩
 case round =>
  clear H' HO_0 HK HB
  obtain ⟨x0_1, x1_1, x5_1, rfl, rfl, HA, HK1, HO_0, HK, HB⟩ := hrel
  cases gk with
  | zero => exact absurd HA.out (by simp [laws_markBitsS.l0])
  | succ k1 =>
   have H := HA.out
   clear HA
   simp only [laws_markBitsS.l0] at H
   by_cases c3 : x5_1 < (x0_1.length : Int)
   rotate_left
   · rw [if_neg c3] at H
     have c3b0 : decide (x5_1 < (x0_1.length:Int)) = false := decide_eq_false c3
     clear c3
     obtain ⟨rfl, rfl⟩ := Prod.mk.inj (Option.some.inj H)
     obtain ⟨Ao, co, eo⟩ := Kd.S_slice HO_0.out
     subst eo
     go_wp2
     go_ret
     exact ⟨rfl, by (with_reducible repeat (first|apply Kd.S_alloc|apply Kd.S_drewN|apply Kd.S_drew)); exact HO_0.out, by repeat (first|(with_reducible first|exact HB.out|apply below_alloc|apply pw_below_drewN|apply below_drew1)|exact HB.out), by repeat (first|(with_reducible first|exact HK.out|apply Kept.alloc|apply Kept.drewN|apply Kept.drew)|exact HK.out)⟩
   rw [if_pos c3] at H
   by_cases c4 : 0 ≤ x5_1
   rotate_left
   · rw [if_neg c4] at H
     exact absurd H (by simp)
   rw [if_pos c4] at H
   obtain ⟨⟨t1, t2⟩, A1, H⟩ := Option.bind_eq_some_iff.mp H
   have AM := Aside0.mk A1
   have H' := Aside0.mk (show laws_markBitsS.l0 k1 (x0_1.set x5_1.toNat (⟨x1_1, t2⟩ : S64)) t1 (wrap64 (x5_1 + 1)) = some (r1, r2) from H)
   clear A1 H
   have c3b0 : decide (x5_1 < (x0_1.length:Int)) = true := decide_eq_true c3
   have c4b0 : decide (0 ≤ x5_1) = true := decide_eq_true c4
   obtain ⟨Ao, co, eo⟩ := Kd.S_slice HO_0.out
   subst eo
   obtain ⟨go5, co5, eo5, gb5, gl5, cl5, HG5⟩ := Kd.S_form HO_0.out (by omega)
   (first|cases eo5|(injection eo5 with ea_ en_ ec_;(first|subst ea_|(injection ea_ with ea_;subst ea_));subst ec_;clear en_))
   have GB5 := Aside0.mk gb5
   have GG5 := Aside0.mk HG5
   clear gb5 gl5 HG5
   obtain ⟨oki5, ce5, hcl5, hM5, hcc5, hfr5, hoki5, hH5⟩ := Kd.S_elem HO_0.out z64 x5_1 c4 c3
   obtain ⟨ve5, rfl, ge5⟩ := k64_openM hM5
   have hx5_0 := hcc5 0 _ rfl
   (try simp only [show (k64).sz = 2 from rfl,Nat.mul_one,Nat.add_zero] at hx5_0)
   have hx5_1 := hcc5 1 _ rfl
   (try simp only [show (k64).sz = 2 from rfl,Nat.mul_one,Nat.add_zero] at hx5_1)
   have hf5_0 := hfr5 0
   (try simp only [show (k64).sz = 2 from rfl,Nat.mul_one,Nat.add_zero] at hf5_0)
   have hf5_1 := hfr5 1
   (try simp only [show (k64).sz = 2 from rfl,Nat.mul_one,Nat.add_zero] at hf5_1)
   have HP5 := Kd.S_seg0 hH5 c4 c3 (seg := [.int .i64 x1_1]) (j := 0) (show 1 ≤ 2 from by decide) (x' := (⟨x1_1, (x0_1.getD x5_1.toNat z64).f1⟩ : S64)) (k64_mkM _ _ _ (⟨x1_1, (x0_1.getD x5_1.toNat z64).f1⟩ : S64) ge5) (fun _ hk => hk)
   have c3' := Aside0.mk c3
   have c4' := Aside0.mk c4
   have p5 := eq_true c4
   have q5 := eq_true c3
   clear hcl5 hcc5 hfr5 hM5 hoki5 hH5 ge5 c3 c4
   go_wp2_with (first
     | ((with_reducible refine gate_store (t:=3) (p:=16) rfl ?_);refine store_event (t:=3) (p:=16) (v:=?vo_w8) (w1:=(wr.setCell ⟨go5,(x5_1:Int).toNat * 2,none⟩ (.int .i64 x1_1))) ?hg ?ho ?hn ?hr ?_;(case ho=>rfl);(case hg=>rfl);(case hn=>rfl);(case hr=>first|(go_simp;done)|(go_simp;rfl));intro w8 hw;have hg:wr.grownBy w8 (some go5):=(by rw [hw];exact HP5.2);have hp_:Kd.S k64 64 w8 w0.heap.size (fun k_=>(P0_ k_ ∨ w.heap.size ≤ k_)) (.slice (some ⟨go5,0,none⟩) x0_1.length co) (x0_1.set x5_1.toNat (⟨x1_1, (x0_1.getD x5_1.toNat z64).f1⟩ : S64)):=(by rw [hw];exact HP5.1);clear HP5;have n1_:=Aside0.mk ((by rw [hw];exact below_set (HB.out) GB5.out:Below w0.heap.size w0 w8));have n2_:=Aside0.mk (Kept.of_grown (S:=(fun k_=>P0_ k_)) hg (by repeat (first|(with_reducible first|exact HK.out|apply Kept.alloc|apply Kept.drewN|apply Kept.drew)|exact HK.out)) (fun k_ e_=>(Kd.S_R HO_0.out).1 k_ e_));clear HO_0 HB HK hx5_0 hx5_1 hf5_0 hf5_1;have HO_0:=Aside0.mk hp_;have HB:=n1_;have HK:=n2_;clear n1_ n2_ hg hw hp_;
        obtain ⟨oki6, ce6, hcl6, hM6, hcc6, hfr6, hoki6, hH6⟩ := Kd.S_elem HO_0.out z64 x5_1 c4'.out c3'.out;
        have hM7 : (k64).M w8 w0.heap.size oki6 (⟨x1_1, (x0_1.getD x5_1.toNat z64).f1⟩ : S64) ce6 := (by have hl_ := c3'.out; have h0_ := c4'.out; rw [show (x0_1.set x5_1.toNat (⟨x1_1, (x0_1.getD x5_1.toNat z64).f1⟩ : S64)).getD x5_1.toNat z64 = (⟨x1_1, (x0_1.getD x5_1.toNat z64).f1⟩ : S64) from (by rw [List.getD_eq_getElem?_getD, List.getElem?_set_self (by omega)]; rfl)] at hM6; exact hM6);
        obtain ⟨ve6, rfl, ge6⟩ := k64_openM hM7;
        have hx6_1 := hcc6 1 _ rfl;
        (try simp only [show (k64).sz = 2 from rfl,Nat.mul_one,Nat.add_zero] at hx6_1);
        have HH6 := Aside0.mk hH6; have HE6 := Aside0.mk ge6; have HI6 := Aside0.mk hoki6; clear hcl6 hM6 hM7 hcc6 hfr6 hoki6 hH6 ge6)
     | ((with_reducible refine gate_callee (f:=73) rfl ?_);refine goesL_ (some 25) rfl rfl Try.func73 (by kernel_rfl) rfl #[ve6, .int .i64 (wrap64 (x1_1 + 1))] rfl (by (try simp only [List.map_toArray,List.map_cons,List.map_nil]);first|done|rfl) ?_;(with_reducible refine (laws_markUint64S.calls k1 oki6 ve6 (x0_1.getD x5_1.toNat z64).f1 (wrap64 (x1_1 + 1)) t1 t2 w0 _ ?side1 ?side2 AM.out).mono ?_);(case side1=>exact (by repeat (first|(with_reducible first|exact HB.out|apply below_alloc|apply pw_below_drewN|apply below_drew1)|exact HB.out)));(case side2=>exact (by (with_reducible repeat (first|apply Kd.R_alloc|apply Kd.R_drewN|apply Kd.R_drew)); exact HE6.out));rintro e w9 ⟨rfl,hr,hb,hk⟩;refine⟨_,rfl,?_⟩;
        have n0_ := Aside0.mk (Kd.H_back (Kd.H_kept HH6.out hk (fun k_ _ hn => hn)) (k64_mkM _ _ _ (⟨x1_1, t2⟩ : S64) (Kd.R_mono (Kd.R_tight rfl hr) (fun k_ e_ => HE6.out.1 k_ e_.symm))) (fun _ h_ => h_));
        have n1_ := Aside0.mk hb; have n2_ := Aside0.mk (Kept.then_ (by repeat (first|(with_reducible first|exact HK.out|apply Kept.alloc|apply Kept.drewN|apply Kept.drew)|exact HK.out)) hk (fun k_ h_ => (HI6.out k_ h_).1));
        clear HO_0 HB HK HH6 HE6 hr hb hk; have HO_0 := n0_; have HB := n1_; have HK := n2_; clear n0_ n1_ n2_))
   go_roundg k1
   case measure => have := HK1.out; omega
   case rel => exact ⟨x0_1.set x5_1.toNat (⟨x1_1, t2⟩ : S64), t1, wrap64 (x5_1 + 1), rfl, rfl, H', ⟨by have := HK1.out; omega⟩, ⟨by (with_reducible repeat (first|apply Kd.S_alloc|apply Kd.S_drewN|apply Kd.S_drew)); have h_ := HO_0.out; rw [List.set_set] at h_; exact h_⟩, ⟨by repeat (first|(with_reducible first|exact HK.out|apply Kept.alloc|apply Kept.drewN|apply Kept.drew)|exact HK.out)⟩, ⟨by repeat (first|(with_reducible first|exact HB.out|apply below_alloc|apply pw_below_drewN|apply below_drew1)|exact HB.out)⟩⟩

/-! ### laws_markWave: function 31 (by hand) -/
def MarkedW (u1 : Value) (l1 : List Int) (u2 : Value) (l2 : List S64) (w0 w' : World) : Prop := ∃ (z1 : List Int) (z2 : List S64), z1.length = l1.length ∧ z2.length = l2.length ∧ Kd.R (Kd.int .i64) 3 w' w0.heap.size (fun k_ => some k_ = u1.ownBlock) u1 z1 ∧ Kd.S k64 64 w' w0.heap.size (fun _ => True) u2 z2
def laws_markWave.f (k : Nat) (a0_0 : Int) (l1 : List Int) (l2 : List S64) (a1 : Int) : Option Int := (laws_markIntS.f k l1 a1).bind fun t => (laws_markBitsS.f k l2 t.1).bind fun t2 => if t.2.length = l1.length ∧ t2.2.length = l2.length then some t2.1 else none
theorem laws_markWave.mono : ∀ a0 a1 a2 a3 k, LeO (laws_markWave.f k a0 a1 a2 a3) (laws_markWave.f (k + 1) a0 a1 a2 a3) := by
  intro a0 a1 a2 a3 k
  unfold laws_markWave.f
  exact LeO.bind (laws_markIntS.mono _ _ _) (fun t => LeO.bind (laws_markBitsS.mono _ _ _) (fun _ => LeO.refl _))
set_option maxHeartbeats 8000000 in
set_option maxRecDepth 100000 in
theorem laws_markWave.calls (k : Nat) (a0_0 : Int) (P1_ : Nat → Prop) (u1 : Value) (l1 : List Int) (P2_ : Nat → Prop) (u2 : Value) (l2 : List S64) (a1 : Int) (r1 : Int) (w0 w : World) (hB : Below w0.heap.size w0 w) (ho1 : Kd.R (Kd.int .i64) 3 w w0.heap.size P1_ u1 l1) (ho2 : Kd.S k64 64 w w0.heap.size P2_ u2 l2) (hd : ∀ k_, P1_ k_ → ¬ P2_ k_) (h : laws_markWave.f k a0_0 l1 l2 a1 = some r1) :
  Calls Try.prog 31 #[.agg #[.int .i64 a0_0, u1, u2], .int .i64 a1] w fun e w' => e = .returned (.int .i64 r1) ∧ MarkedW u1 l1 u2 l2 w0 w' ∧ Below w0.heap.size w0 w' ∧ Kept w w' (fun k_ => P1_ k_ ∨ P2_ k_) := by
 have HD := Aside0.mk (fun k_ (e_ : some k_ = u1.ownBlock) => hd k_ (ho1.1 k_ e_.symm))
 have HP1 := Aside0.mk (fun k_ (e_ : some k_ = u1.ownBlock) => ho1.1 k_ e_.symm)
 have HL1 := Aside0.mk (Kd.R_lt ho1)
 have H1 := Aside0.mk (Kd.R_tight rfl ho1)
 have H2 := Aside0.mk (Kd.S_bound ho2)
 have HB := Aside0.mk hB
 clear hB ho1 ho2 hd
 unfold laws_markWave.f at h
 obtain ⟨⟨t1, t2⟩, A1, h⟩ := Option.bind_eq_some_iff.mp h
 obtain ⟨⟨t3, t4⟩, A2, h⟩ := Option.bind_eq_some_iff.mp h
 split at h
 case isFalse => cases h
 rename_i hlen
 obtain rfl := Option.some.inj h
 have AM := Aside0.mk A1
 have AN := Aside0.mk (show laws_markBitsS.f k l2 t1 = some (t3, t4) from A2)
 have HLEN := Aside0.mk hlen
 clear h A1 A2 hlen
 obtain ⟨B1, c1, e1⟩ := Kd.R_slice H1.out
 subst e1
 obtain ⟨B2, c2, e2⟩ := Kd.S_slice H2.out
 subst e2
 have S1 := Aside0.mk (show ∀ k_, some k_ = (Value.slice B1 l1.length c1).ownBlock → k_ < w.heap.size from fun k_ e_ => HL1.out k_ e_.symm)
 go_enter Try.func31, Try.ntmps31
 go_wp2_with (first
   | ((with_reducible refine gate_dst (N:=2) rfl ?_);refine box_event ?hg (N:=2) ?hd (cs:=#[.int .i64 a0_0, .slice B1 l1.length c1, .slice B2 l2.length c2]) (t:=30) ?hr ?_;(case hd=>rfl);(case hg=>rfl);(case hr=>first|(go_simp;done)|(go_simp;rfl));intro gb hg w6 hbox hb;
      have BK := Aside0.mk hbox; have GN := Aside0.mk (show ¬ some gb = (Value.slice B1 l1.length c1).ownBlock from fun e_ => by have := S1.out gb e_; omega); have h1_ := Kd.R_below H1.out hb; have h2_ := Kd.S_below H2.out hb; have hb_ := below_step HB.out hb; have hk_ := Kept.of_below hb (fun k_ => P1_ k_ ∨ P2_ k_);
      clear H1 H2 HB; have H1 := Aside0.mk h1_; have H2 := Aside0.mk h2_; have HB := Aside0.mk hb_; have HK := Aside0.mk hk_; clear h1_ h2_ hb_ hk_ hb hg;
      have hx_1 : w6.cell? ⟨gb, 1, none⟩ = some (.slice B1 l1.length c1) := (blk_cell hbox 1).trans rfl; have hx_2 : w6.cell? ⟨gb, 2, none⟩ = some (.slice B2 l2.length c2) := (blk_cell hbox 2).trans rfl; clear hbox)
   | ((with_reducible refine gate_callee (f:=32) rfl ?_);refine goesL_ (some 8) rfl rfl Try.func32 (by kernel_rfl) rfl #[.slice B1 l1.length c1, .int .i64 a1] rfl (by (try simp only [List.map_toArray,List.map_cons,List.map_nil]);first|done|rfl) ?_;(with_reducible refine (laws_markIntS.calls k (fun k_ => some k_ = (Value.slice B1 l1.length c1).ownBlock) _ l1 a1 t1 t2 w0 _ ?side1 ?side2 AM.out).mono ?_);(case side1=>exact (by repeat (first|(with_reducible first|exact HB.out|apply below_alloc|apply pw_below_drewN|apply below_drew1)|exact HB.out)));(case side2=>exact (by (with_reducible repeat (first|apply Kd.R_alloc|apply Kd.R_drewN|apply Kd.R_drew)); exact H1.out));rintro e w7 ⟨rfl,hr,hb,hk⟩;refine⟨_,rfl,?_⟩;
      have bk_ := blk_kept BK.out hk GN.out; have r1_ := Kd.R_tight rfl hr; have tl_ := Kd.R_typed hr; have h2_ := Kd.S_mono (ok' := fun k_ => P2_ k_ ∧ ¬ some k_ = (Value.slice B1 l1.length c1).ownBlock) (Kd.S_kept H2.out hk (fun k_ hk2_ e_ => HD.out k_ e_ hk2_.1)) (fun k_ hk2_ => ⟨hk2_.1, fun e_ => HD.out k_ e_ hk2_.1⟩); have hk_ := Kept.then_ (S := fun k_ => P1_ k_ ∨ P2_ k_) (by repeat (first|(with_reducible first|exact HK.out|apply Kept.alloc|apply Kept.drewN|apply Kept.drew)|exact HK.out)) hk (fun k_ e_ => .inl (.inl (HP1.out k_ e_)));
      clear H1 H2 HB HK BK hr hk; have H2 := Aside0.mk h2_; have HB := Aside0.mk hb; have HK := Aside0.mk hk_; have R1 := Aside0.mk r1_; clear h2_ hb hk_ r1_ tl_;
      have hx7_2 : w7.cell? ⟨gb, 2, none⟩ = some (.slice B2 l2.length c2) := (blk_cell bk_ 2).trans rfl; clear bk_)
   | ((with_reducible refine gate_callee (f:=58) rfl ?_);refine goesL_ (some 12) rfl rfl Try.func58 (by kernel_rfl) rfl #[.slice B2 l2.length c2, .int .i64 t1] rfl (by (try simp only [List.map_toArray,List.map_cons,List.map_nil]);first|done|rfl) ?_;(with_reducible refine (laws_markBitsS.calls k (fun k_ => P2_ k_ ∧ ¬ some k_ = (Value.slice B1 l1.length c1).ownBlock) _ l2 t1 t3 t4 w0 _ ?side1 ?side2 AN.out).mono ?_);(case side1=>exact (by repeat (first|(with_reducible first|exact HB.out|apply below_alloc|apply pw_below_drewN|apply below_drew1)|exact HB.out)));(case side2=>exact (by (with_reducible repeat (first|apply Kd.S_alloc|apply Kd.S_drewN|apply Kd.S_drew)); exact H2.out));rintro e w8 ⟨rfl,hs,hb,hk⟩;refine⟨_,rfl,?_⟩; have r1_ := Kd.R_kept R1.out hk (fun k_ e_ h_ => h_.2 e_); have s_ := Kd.S_mono hs (fun _ _ => trivial);
      have hk_ := Kept.then_ (S := fun k_ => P1_ k_ ∨ P2_ k_) (by repeat (first|(with_reducible first|exact HK.out|apply Kept.alloc|apply Kept.drewN|apply Kept.drew)|exact HK.out)) hk (fun k_ e_ => .inl (.inr e_.1));
      clear H2 HB HK hk R1 hs; have R1 := Aside0.mk r1_; have S2 := Aside0.mk s_; clear r1_ s_; have HB := Aside0.mk hb; have HK := Aside0.mk hk_; clear hb hk_))
 go_ret
 exact ⟨rfl, ⟨t2, t4, HLEN.out.1, HLEN.out.2, by (with_reducible repeat (first|apply Kd.R_alloc|apply Kd.R_drewN|apply Kd.R_drew)); exact R1.out, by (with_reducible repeat (first|apply Kd.S_alloc|apply Kd.S_drewN|apply Kd.S_drew)); exact S2.out⟩, by repeat (first|(with_reducible first|exact HB.out|apply below_alloc|apply pw_below_drewN|apply below_drew1)|exact HB.out), by repeat (first|(with_reducible first|exact HK.out|apply Kept.alloc|apply Kept.drewN|apply Kept.drew)|exact HK.out)⟩

theorem markW_row {α : Type} {d : Kd α} {e base : Nat} {ok : Nat → Prop} {W W2 : World} {u v : Value} {xs : List α} {E2 : List Nat} (h : Kd.R d e W base ok v xs) (hk : Kept W W2 (fun k_ => some k_ = u.ownBlock ∨ ∃ q, q ∈ E2 ∧ ∃ cells, W.heap[k_]? = some (.cells cells q (0, 0)))) (h1 : ∀ k, ok k → ¬ some k = u.ownBlock) (h2 : ∀ q, q ∈ e :: d.E → ∀ q', q' ∈ E2 → q ≠ q') : Kd.R d e W2 base ok v xs :=
  Kd.R_mono (Kd.R_kept (Kd.R_bound h) hk (fun k h_ hs => hs.elim (fun e_ => h1 k h_.1 e_) (fun ⟨q, hq, c, hc⟩ => by
    obtain ⟨_, _, _, q', hq', c', hc'⟩ := h_
    rw [hc] at hc'
    injection hc' with e1
    injection e1 with _ e2
    exact h2 q' hq' q hq e2.symm))) (fun _ h_ => h_.1)
theorem markW_blk {W W2 : World} {u : Value} {E2 : List Nat} {g t tu : Nat} {cs : Array Value} (hb : W.heap[g]? = some (.cells cs t (0, 0))) (hk : Kept W W2 (fun k_ => some k_ = u.ownBlock ∨ ∃ q, q ∈ E2 ∧ ∃ cells, W.heap[k_]? = some (.cells cells q (0, 0)))) (hu : ∀ k, u.ownBlock = some k → ∃ cells, W.heap[k]? = some (.cells cells tu (0, 0))) (h1 : t ≠ tu) (h2 : ∀ q', q' ∈ E2 → t ≠ q') : W2.heap[g]? = some (.cells cs t (0, 0)) :=
  blk_kept hb hk (fun hs => hs.elim (fun e_ => by
    obtain ⟨c, hc⟩ := hu g e_.symm
    rw [hb] at hc
    injection hc with e1
    injection e1 with _ e2
    exact h1 e2) (fun ⟨q, hq, c, hc⟩ => by
    rw [hb] at hc
    injection hc with e1
    injection e1 with _ e2
    exact h2 q hq e2))

/-! ### laws_heldIntS: function 33 -/
def laws_heldIntS.l0 : Nat → List Int → Int → Int → Option (Int)
 | 0, _, _, _ => none
 | k + 1, x0, x1, x5 => if x5 < (x0.length : Int) then (if 0 ≤ x5 then (if (rd x0 x5) = x1 then (laws_heldIntS.l0 k x0 (wrap64 (x1 + 1)) (wrap64 (x5 + 1))) else (some (-1))) else (none)) else (some x1)
def laws_heldIntS.f (k : Nat) (l0 : List Int) (a1 : Int) : Option (Int) := laws_heldIntS.l0 k l0 a1 0
theorem laws_heldIntS.mono_l : ∀ k, (∀ y0 y1 y2, LeO (laws_heldIntS.l0 k y0 y1 y2) (laws_heldIntS.l0 (k + 1) y0 y1 y2))
 | 0 => fun _ _ _ r h => by simp [laws_heldIntS.l0] at h
 | k + 1 => by
  have ih0 := laws_heldIntS.mono_l k
  ·intro y0 y1 y2
   unfold laws_heldIntS.l0
   repeat' first|(with_reducible first|exact ih0 _ _ _|exact LeO.refl _|exact LeO.none _|refine LeO.ite ?_ ?_|refine LeO.bind ?_ (fun _ => ?_))|exact LeO.none _|refine LeO.ite ?_ ?_|refine LeO.bind ?_ (fun _ => ?_)
theorem laws_heldIntS.mono : ∀ a0 a1 k, LeO (laws_heldIntS.f k a0 a1) (laws_heldIntS.f (k + 1) a0 a1) := by
 intro a0 a1 k
 have ih0 := laws_heldIntS.mono_l k
 unfold laws_heldIntS.f
 repeat' first|(with_reducible first|exact ih0 _ _ _|exact LeO.refl _|exact LeO.none _|refine LeO.ite ?_ ?_|refine LeO.bind ?_ (fun _ => ?_))|exact LeO.none _|refine LeO.ite ?_ ?_|refine LeO.bind ?_ (fun _ => ?_)
set_option maxHeartbeats 8000000 in
set_option maxRecDepth 100000 in
theorem laws_heldIntS.calls (k : Nat) (A0 : Option Addr) (c0 : Nat) (l0 : List Int) (a1 : Int) (r : Int) (w : World) (hr0 : Kd.C (Kd.int .i64) w A0 l0.length l0) (hc0 : l0.length ≤ c0) (h : laws_heldIntS.f k l0 a1 = some r) :
  Calls Try.prog 33 #[.slice A0 l0.length c0, .int .i64 a1] w fun e w' => e = .returned (.int .i64 r) ∧ Drawn0 w w' := by
 have HR0:=mk0 hr0
 have HC0:=mk0 hc0
 clear hr0 hc0
 have H:(laws_heldIntS.l0 k l0 a1 0) = some r:=h
 clear h
 have H':=mk0 H
 clear H
 go_enter Try.func33,Try.ntmps33
 go_wp2
 go_loopg [1,5] k (fun kq v1 v5 w'=>∃ (x1_1:Int) (x5_1:Int),v1 = .int .i64 x1_1 ∧ v5 = .int .i64 x5_1 ∧ Aside0 (laws_heldIntS.l0 kq l0 x1_1 x5_1 = some r) ∧ Aside0 (kq ≤ k) ∧ Drawn0 w w')
 case atStart=>exact⟨(a1),(0),(by first|rfl|(simp;done)|(simp [*];done)),(by first|rfl|(simp;done)|(simp [*];done)),H',⟨Nat.le_refl _⟩,by repeat (first|exact Drawn0.refl _|apply Drawn0.step)⟩
 case round =>
  clear H'
  try clear p2
  obtain⟨x1_1,x5_1,rfl,rfl,HA,HK1,⟨m1,rfl⟩⟩:=hrel
  cases gk with
  | zero=>exact absurd HA.out (by simp [laws_heldIntS.l0])
  | succ k1 =>
   have H:=HA.out
   clear HA
   simp only [laws_heldIntS.l0] at H
   by_cases c3:x5_1 < (l0.length:Int)
   ·rw [if_pos c3] at H
    have c3b0:decide (x5_1 < (l0.length:Int)) = true:=decide_eq_true c3
    clear c3
    by_cases c4:0 ≤ x5_1
    ·rw [if_pos c4] at H
     have c4b0:decide (0 ≤ x5_1) = true:=decide_eq_true c4
     clear c4
     by_cases c5:(rd l0 x5_1) = x1_1
     ·rw [if_pos c5] at H
      have c5b0:((rd l0 x5_1) == x1_1) = true:=beq_iff_eq.mpr c5
      have c5b1:((rd l0 x5_1) != x1_1) = false:=bne_eq_false_iff_eq.mpr c5
      clear c5
      have H':=mk0 H
      clear H
      have p282:0 ≤ (x5_1:Int):=of_decide_eq_true (by first|(with_reducible assumption)|assumption)
      have q282:x5_1 < (l0.length:Int):=of_decide_eq_true (by first|(with_reducible assumption)|assumption)
      obtain⟨ad282,e282,hx282_0⟩:=Kd.at_int HR0.out x5_1 p282 q282
      cases e282
      replace p282:=eq_true p282
      replace q282:=eq_true q282
      go_wp2
      go_roundg k1
      case measure=>have:=HK1.out;omega
      case rel=>exact⟨(wrap64 (x1_1 + 1)),(wrap64 (x5_1 + 1)),(by first|rfl|(simp;done)|(simp [*];done)),(by first|rfl|(simp;done)|(simp [*];done)),H',⟨by have:=HK1.out;omega⟩,by repeat (first|exact Drawn0.refl _|apply Drawn0.step)⟩
     ·rw [if_neg c5] at H
      have c5b0:((rd l0 x5_1) == x1_1) = false:=beq_eq_false_iff_ne.mpr c5
      have c5b1:((rd l0 x5_1) != x1_1) = true:=bne_iff_ne.mpr c5
      obtain rfl:=Option.some.inj H
      have p282:0 ≤ (x5_1:Int):=of_decide_eq_true (by first|(with_reducible assumption)|assumption)
      have q282:x5_1 < (l0.length:Int):=of_decide_eq_true (by first|(with_reducible assumption)|assumption)
      obtain⟨ad282,e282,hx282_0⟩:=Kd.at_int HR0.out x5_1 p282 q282
      cases e282
      replace p282:=eq_true p282
      replace q282:=eq_true q282
      go_wp2
      go_ret
      exact⟨by first|rfl|(simp;done)|(simp [*];done),by repeat (first|exact Drawn0.refl _|apply Drawn0.step)⟩
    ·rw [if_neg c4] at H
     exact absurd H (by simp)
   ·rw [if_neg c3] at H
    have c3b0:decide (x5_1 < (l0.length:Int)) = false:=decide_eq_false c3
    clear c3
    obtain rfl:=Option.some.inj H
    go_wp2
    go_ret
    exact⟨by first|rfl|(simp;done)|(simp [*];done),by repeat (first|exact Drawn0.refl _|apply Drawn0.step)⟩

end Go.Proofs.Ytamdhfjnalglfaa.QFnExactWaveList
