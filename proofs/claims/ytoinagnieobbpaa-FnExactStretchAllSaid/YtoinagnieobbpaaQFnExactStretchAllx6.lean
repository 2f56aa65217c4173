-- A walk, made by walk.py, a program of this session's.
import Derived.Test.YtoinagnieobbpaaQFnExactStretchAllx0
import Derived.Test.YtoinagnieobbpaaQFnExactStretchAllx1
import Derived.Test.YtoinagnieobbpaaQFnExactStretchAllx3
import Derived.Test.YtoinagnieobbpaaQFnExactStretchAllx5
namespace Go.Proofs.Ytoinagnieobbpaa.QFnExactStretchAll
open Go.RowKit Go.Proofs.YtoinagnieobbpaaW.PrintWords Go.Proofs.YtoinagnieobbpaaW.PrintLast Go.Proofs.YtoinagnieobbpaaW.PrintMore
attribute [local go_sem] max2_int min2_int max_two min_two max_three min_three max_four min_four   -- for this text's walks alone
set_option linter.unusedVariables false
set_option linter.unusedSimpArgs false

/-! ### laws_markStretchS: function 28 -/
def laws_markStretchS.l0 : Nat → List (S27) → Int → Int → Option (Int × (List (S27)))
 | 0, _, _, _ => none
 | k + 1, x0, x1, x5 => if x5 < (x0.length : Int) then (if 0 ≤ x5 then ((some (x0.set (x5 : Int).toNat (⟨x1, (rd_T27 x0 x5).f1, (rd_T27 x0 x5).f2⟩ : S27) : List (S27))).bind fun y255 => ((some (y255.set (x5 : Int).toNat (⟨(rd_T27 y255 x5).f0, wrap64 (x1 + 1), (rd_T27 y255 x5).f2⟩ : S27) : List (S27))).bind fun y256 => (laws_markStretchS.l0 k (y256.set (x5 : Int).toNat (⟨(rd_T27 y256 x5).f0, (rd_T27 y256 x5).f1, wrap64 ((wrap64 (x1 + 1)) + 1)⟩ : S27)) (wrap64 ((wrap64 ((wrap64 (x1 + 1)) + 1)) + 1)) (wrap64 (x5 + 1))))) else (none)) else (some (x1, x0))
def laws_markStretchS.f (k : Nat) (l0 : List (S27)) (a1 : Int) : Option (Int × (List (S27))) := laws_markStretchS.l0 k l0 a1 0
theorem laws_markStretchS.mono_l : ∀ k, (∀ y0 y1 y2, LeO (laws_markStretchS.l0 k y0 y1 y2) (laws_markStretchS.l0 (k + 1) y0 y1 y2))
 | 0 => fun _ _ _ r h => by simp [laws_markStretchS.l0] at h
 | k + 1 => by
  have ih0 := laws_markStretchS.mono_l k
  ·intro y0 y1 y2
   unfold laws_markStretchS.l0
   repeat' first|(with_reducible first|exact ih0 _ _ _|exact LeO.refl _|exact LeO.none _|refine LeO.ite ?_ ?_|refine LeO.bind ?_ (fun _ => ?_))|exact LeO.none _|refine LeO.ite ?_ ?_|refine LeO.bind ?_ (fun _ => ?_)
theorem laws_markStretchS.mono : ∀ a0 a1 k, LeO (laws_markStretchS.f k a0 a1) (laws_markStretchS.f (k + 1) a0 a1) := by
 intro a0 a1 k
 have ih0 := laws_markStretchS.mono_l k
 unfold laws_markStretchS.f
 repeat' first|(with_reducible first|exact ih0 _ _ _|exact LeO.refl _|exact LeO.none _|refine LeO.ite ?_ ?_|refine LeO.bind ?_ (fun _ => ?_))|exact LeO.none _|refine LeO.ite ?_ ?_|refine LeO.bind ?_ (fun _ => ?_)
set_option maxHeartbeats 8000000 in
set_option maxRecDepth 100000 in
theorem laws_markStretchS.calls (k : Nat) (P0_ : Nat → Prop) (u9000_ : Value) (l0 : List (S27)) (a1 : Int) (r1 : Int) (r2 : List (S27)) (w0 w : World) (hB : Below w0.heap.size w0 w) (ho0 : Kd.R k27 27 w w0.heap.size P0_ u9000_ l0) (h : laws_markStretchS.f k l0 a1 = some (r1, r2)) :
  Calls Try.prog 28 #[u9000_, .int .i64 a1] w fun e w' => e = .returned (.int .i64 r1) ∧ Kd.R k27 27 w' w0.heap.size (fun k_ => (P0_ k_ ∨ w.heap.size ≤ k_)) u9000_ r2 ∧ Below w0.heap.size w0 w' ∧ Kept w w' (fun k_ => P0_ k_) := by
 have HO0:=mk0 (show Kd.R k27 27 w w0.heap.size (fun k_=>(P0_ k_ ∨ w.heap.size ≤ k_)) u9000_ l0 from Kd.R_mono ho0 (fun k_ hk=>(.inl hk)))
 have HK:=mk0 (Kept.refl w (fun k_=>P0_ k_))
 have HW0:=mk0 hB.size
 have HB:=mk0 hB
 clear hB
 have H:(laws_markStretchS.l0 k l0 a1 0) = some (r1,r2):=h
 clear h
 have H':=mk0 H
 clear H
 go_enter Try.func28,Try.ntmps28
 go_wp2
 go_loopg [1,5] k (fun kq v1 v5 w'=>∃ (x0_1:List (S27)) (x1_1:Int) (x5_1:Int),v1 = .int .i64 x1_1 ∧ v5 = .int .i64 x5_1 ∧ Aside0 (laws_markStretchS.l0 kq x0_1 x1_1 x5_1 = some (r1,r2)) ∧ Aside0 (kq ≤ k) ∧ Aside0 (Kd.R k27 27 w' w0.heap.size (fun k_=>(P0_ k_ ∨ w.heap.size ≤ k_)) u9000_ x0_1) ∧ Aside0 (Kept w w' (fun k_=>P0_ k_)) ∧ Aside0 (Below w0.heap.size w0 w'))
 case atStart=>exact⟨(l0),(a1),(0),(by first|rfl|(simp;done)|(simp [*];done)),(by first|rfl|(simp;done)|(simp [*];done)),H',⟨Nat.le_refl _⟩,⟨rR HO0.out⟩,⟨by repeat (first|(with_reducible first|exact HK.out|apply Kept.alloc|apply Kept.drewN|apply Kept.drew)|exact HK.out)⟩,⟨kB HB.out⟩⟩
 case round =>
  clear H'
  try clear c2
  try clear p2
  obtain⟨x0_1,x1_1,x5_1,rfl,rfl,HA,HK1,HO_0,HK,HB⟩:=hrel
  cases gk with
  | zero=>exact absurd HA.out (by simp [laws_markStretchS.l0])
  | succ k1 =>
   have H:=HA.out
   clear HA
   simp only [laws_markStretchS.l0] at H
   by_cases c3:x5_1 < (x0_1.length:Int)
   rotate_left
   ·rw [if_neg c3] at H
    have c3b0:decide (x5_1 < (x0_1.length:Int)) = false:=decide_eq_false c3
    clear c3
    simp only [Option.some.injEq,Prod.mk.injEq] at H
    obtain⟨rfl,rfl⟩:=H
    obtain⟨Ao15,co15,eo15⟩:=Kd.R_slice HO_0.out
    subst eo15
    go_wp2
    go_ret
    exact⟨by first|rfl|(simp [errW_none,errW_some] <;> rfl)|(simp [*,errW_none,errW_some] <;> rfl),rR HO_0.out,kB HB.out,by repeat (first|(with_reducible first|exact HK.out|apply Kept.alloc|apply Kept.drewN|apply Kept.drew)|exact HK.out)⟩

   rw [if_pos c3] at H
   have c3b0:decide (x5_1 < (x0_1.length:Int)) = true:=decide_eq_true c3
   clear c3
   by_cases c4:0 ≤ x5_1
   rotate_left
   ·rw [if_neg c4] at H
    exact absurd H (by simp)
   rw [if_pos c4] at H
   have c4b0:decide (0 ≤ x5_1) = true:=decide_eq_true c4
   clear c4
   obtain⟨y255,hy255⟩:∃ y_:List (S27),y_ = (x0_1.set (x5_1:Int).toNat (⟨x1_1,(rd_T27 x0_1 x5_1).f1,(rd_T27 x0_1 x5_1).f2⟩:S27)):=⟨_,rfl⟩
   replace H:((some (y255.set (x5_1:Int).toNat (⟨(rd_T27 y255 x5_1).f0,wrap64 (x1_1 + 1),(rd_T27 y255 x5_1).f2⟩:S27):List (S27))).bind fun y256=>(laws_markStretchS.l0 k1 (y256.set (x5_1:Int).toNat (⟨(rd_T27 y256 x5_1).f0,(rd_T27 y256 x5_1).f1,wrap64 ((wrap64 (x1_1 + 1)) + 1)⟩:S27)) (wrap64 ((wrap64 ((wrap64 (x1_1 + 1)) + 1)) + 1)) (wrap64 (x5_1 + 1)))) = some (r1,r2):=by first|(rw [hy255];with_reducible exact H)|(have H2_:=(Option.bind_some _ _).symm.trans H;rw [hy255];with_reducible exact H2_)|(have H2_:=(Option.bind_some _ _).symm.trans H;with_reducible exact H2_)|with_reducible exact H|(rw [hy255];exact H)|exact H
   have Ny255:=mk0 hy255
   clear hy255
   obtain⟨y256,hy256⟩:∃ y_:List (S27),y_ = (y255.set (x5_1:Int).toNat (⟨(rd_T27 y255 x5_1).f0,wrap64 (x1_1 + 1),(rd_T27 y255 x5_1).f2⟩:S27)):=⟨_,rfl⟩
   replace H:(laws_markStretchS.l0 k1 (y256.set (x5_1:Int).toNat (⟨(rd_T27 y256 x5_1).f0,(rd_T27 y256 x5_1).f1,wrap64 ((wrap64 (x1_1 + 1)) + 1)⟩:S27)) (wrap64 ((wrap64 ((wrap64 (x1_1 + 1)) + 1)) + 1)) (wrap64 (x5_1 + 1))) = some (r1,r2):=by first|(rw [hy256];with_reducible exact H)|(have H2_:=(Option.bind_some _ _).symm.trans H;rw [hy256];with_reducible exact H2_)|(have H2_:=(Option.bind_some _ _).symm.trans H;with_reducible exact H2_)|with_reducible exact H|(rw [hy256];exact H)|exact H
   have Ny256:=mk0 hy256
   clear hy256
   obtain⟨y257,hy257⟩:∃ y_:List (S27),y_ = (y256.set (x5_1:Int).toNat (⟨(rd_T27 y256 x5_1).f0,(rd_T27 y256 x5_1).f1,wrap64 ((wrap64 (x1_1 + 1)) + 1)⟩:S27)):=⟨_,rfl⟩
   replace H:(laws_markStretchS.l0 k1 y257 (wrap64 ((wrap64 ((wrap64 (x1_1 + 1)) + 1)) + 1)) (wrap64 (x5_1 + 1))) = some (r1,r2):=by first|(rw [hy257];with_reducible exact H)|(have H2_:=(Option.bind_some _ _).symm.trans H;rw [hy257];with_reducible exact H2_)|(have H2_:=(Option.bind_some _ _).symm.trans H;with_reducible exact H2_)|with_reducible exact H|(rw [hy257];exact H)|exact H
   have Ny257:=mk0 hy257
   clear hy257
   have H':=mk0 H
   clear H
   obtain⟨Ao8,co8,eo8⟩:=Kd.R_slice HO_0.out
   subst eo8
   have p5:0 ≤ (x5_1:Int):=of_decide_eq_true (by first|(with_reducible assumption)|assumption)
   have q5:(x5_1:Int) < ((x0_1.length:Int):Int):=of_decide_eq_true (by first|(with_reducible assumption)|assumption)
   obtain⟨go5,co5,eo5,gb5,gl5,cl5,HG5⟩:=Kd.R_form HO_0.out (by omega)
   (first|cases eo5|(injection eo5 with ea_ en_ ec_;(first|subst ea_|(injection ea_ with ea_;subst ea_));subst ec_;clear en_))
   have GB5:=mk0 gb5
   have GG5:=mk0 HG5
   clear gb5 gl5 HG5
   have HMgo5:=mk0 (show (P0_ go5 ∨ w.heap.size ≤ go5) from (HO_0.out.1 _ rfl))
   obtain⟨ce5,hcl5,hM5,hcc5,hfr5⟩:=Kd.R_elem HO_0.out z27 (x5_1:Int) p5 q5
   obtain rfl:=k27_openM hM5
   have hx5_0:wr.cell? ⟨go5,(x5_1:Int).toNat * 3,none⟩ = some (.int .i64 ((rd_T27 x0_1 x5_1).f0)):=hcc5 0 _ rfl
   have hx5_1:wr.cell? ⟨go5,(x5_1:Int).toNat * 3 + 1,none⟩ = some (.int .i64 ((rd_T27 x0_1 x5_1).f1)):=hcc5 1 _ rfl
   have hx5_2:wr.cell? ⟨go5,(x5_1:Int).toNat * 3 + 2,none⟩ = some (.int .i64 ((rd_T27 x0_1 x5_1).f2)):=hcc5 2 _ rfl
   have hf5_0:wr.frozen? ⟨go5,(x5_1:Int).toNat * 3,none⟩ = false:=hfr5 0
   have hf5_1:wr.frozen? ⟨go5,(x5_1:Int).toNat * 3 + 1,none⟩ = false:=hfr5 1
   have hf5_2:wr.frozen? ⟨go5,(x5_1:Int).toNat * 3 + 2,none⟩ = false:=hfr5 2
   clear hcl5 hcc5 hfr5;(try clear hM5)
   replace p5:=eq_true p5
   replace q5:=eq_true q5
   have HX9:=mk0 (show Kd.R k27 27 wr w0.heap.size (fun k_=>(P0_ k_ ∨ w.heap.size ≤ k_)) (.slice (some ⟨go5,0,none⟩) x0_1.length co8) x0_1 from (rR HO_0.out))
   obtain⟨ce9,hcl9,hM9,hcc9,hfr9⟩:=Kd.R_elem HX9.out z27 (x5_1:Int) (of_decide_eq_true (by first|(with_reducible assumption)|assumption)) (by have h_:(x5_1:Int) < ((x0_1.length:Int):Int):=of_decide_eq_true (by first|(with_reducible assumption)|assumption);first|exact h_|(have e_:=(Kd.R_reads' HO_0.out).1;omega)|simpa using h_)
   obtain rfl:=k27_openM hM9
   have HP9:=Kd.R_seg HX9.out (x5_1:Int) (of_decide_eq_true (by first|(with_reducible assumption)|assumption)) (by have h_:(x5_1:Int) < ((x0_1.length:Int):Int):=of_decide_eq_true (by first|(with_reducible assumption)|assumption);first|exact h_|(have e_:=(Kd.R_reads' HO_0.out).1;omega)|simpa using h_) (seg:=[.int .i64 x1_1]) (j:=0) hcl9 hcc9 (show 1 ≤ 3 from by decide) (x':=(⟨x1_1,(rd_T27 x0_1 x5_1).f1,(rd_T27 x0_1 x5_1).f2⟩:S27)) (k27_mkM _ _ _ (⟨x1_1,(rd_T27 x0_1 x5_1).f1,(rd_T27 x0_1 x5_1).f2⟩:S27) ) (fun _ hk=>hk)
   have hx9_0:=hcc9 0 _ rfl
   (try simp only [show (k27).sz = 3 from rfl,Nat.mul_one,Nat.add_zero] at hx9_0)
   have hf9_0:=hfr9 0
   (try simp only [show (k27).sz = 3 from rfl,Nat.mul_one,Nat.add_zero] at hf9_0)
   clear hcl9 hcc9 hfr9;(try clear hM9)
   go_wp2_with (first|((with_reducible refine gate_store (t:=3) (p:=16) rfl ?_);refine store_event (t:=3) (p:=16) (v:=?vo_w10) (w1:=(wr.setCell ⟨go5,(x5_1:Int).toNat * 3,none⟩ (.int .i64 x1_1))) ?hg ?ho ?hn ?hr ?_;(case ho=>rfl);(case hg=>rfl);(case hn=>rfl);(case hr=>first|(go_simp;done)|(go_simp;rfl));intro w10 hw;have hg:wr.grownBy w10 (some go5):=(by rw [hw];exact HP9.2);have hp_:Kd.R k27 27 w10 w0.heap.size (fun k_=>(P0_ k_ ∨ w.heap.size ≤ k_)) (.slice (some ⟨go5,0,none⟩) x0_1.length co8) y255:=(by rw [hw,Ny255.out];exact HP9.1);clear HP9;replace HB:=mk0 ((by rw [hw];exact sZ (HB.out) GB5.out:Below w0.heap.size w0 w10));replace HK:=mk0 (Kept.of_grown (S:=(fun k_=>P0_ k_)) hg (by repeat (first|(with_reducible first|exact HK.out|apply Kept.alloc|apply Kept.drewN|apply Kept.drew)|exact HK.out)) (fun k_ e_=>(HO_0.out.1 k_ e_)));replace HO_0:=mk0 (hp_);clear hg hw hp_;have p6:0 ≤ (x5_1:Int):=of_decide_eq_true (by first|(with_reducible assumption)|assumption);have q6:(x5_1:Int) < ((x0_1.length:Int):Int):=of_decide_eq_true (by first|(with_reducible assumption)|assumption);obtain⟨ce6,hcl6,hM6,hcc6,hfr6⟩:=Kd.R_elem HO_0.out z27 (x5_1:Int) p6 q6;obtain rfl:=k27_openM hM6;have hx6_0:w10.cell? ⟨go5,(x5_1:Int).toNat * 3,none⟩ = some (.int .i64 ((rd_T27 y255 x5_1).f0)):=hcc6 0 _ rfl;have hx6_1:w10.cell? ⟨go5,(x5_1:Int).toNat * 3 + 1,none⟩ = some (.int .i64 ((rd_T27 y255 x5_1).f1)):=hcc6 1 _ rfl;have hx6_2:w10.cell? ⟨go5,(x5_1:Int).toNat * 3 + 2,none⟩ = some (.int .i64 ((rd_T27 y255 x5_1).f2)):=hcc6 2 _ rfl;have hf6_0:w10.frozen? ⟨go5,(x5_1:Int).toNat * 3,none⟩ = false:=hfr6 0;have hf6_1:w10.frozen? ⟨go5,(x5_1:Int).toNat * 3 + 1,none⟩ = false:=hfr6 1;have hf6_2:w10.frozen? ⟨go5,(x5_1:Int).toNat * 3 + 2,none⟩ = false:=hfr6 2;clear hcl6 hcc6 hfr6;(try clear hM6);replace p6:=eq_true p6;replace q6:=eq_true q6;have HX11:=mk0 (show Kd.R k27 27 w10 w0.heap.size (fun k_=>(P0_ k_ ∨ w.heap.size ≤ k_)) (.slice (some ⟨go5,0,none⟩) x0_1.length co8) y255 from (rR HO_0.out));obtain⟨ce11,hcl11,hM11,hcc11,hfr11⟩:=Kd.R_elem HX11.out z27 (x5_1:Int) (of_decide_eq_true (by first|(with_reducible assumption)|assumption)) (by have h_:(x5_1:Int) < ((x0_1.length:Int):Int):=of_decide_eq_true (by first|(with_reducible assumption)|assumption);first|exact h_|(have e_:=(Kd.R_reads' HO_0.out).1;omega)|simpa using h_);obtain rfl:=k27_openM hM11;have HP11:=Kd.R_seg HX11.out (x5_1:Int) (of_decide_eq_true (by first|(with_reducible assumption)|assumption)) (by have h_:(x5_1:Int) < ((x0_1.length:Int):Int):=of_decide_eq_true (by first|(with_reducible assumption)|assumption);first|exact h_|(have e_:=(Kd.R_reads' HO_0.out).1;omega)|simpa using h_) (seg:=[.int .i64 (wrap64 (x1_1 + 1))]) (j:=1) hcl11 hcc11 (show 2 ≤ 3 from by decide) (x':=(⟨(rd_T27 y255 x5_1).f0,wrap64 (x1_1 + 1),(rd_T27 y255 x5_1).f2⟩:S27)) (k27_mkM _ _ _ (⟨(rd_T27 y255 x5_1).f0,wrap64 (x1_1 + 1),(rd_T27 y255 x5_1).f2⟩:S27) ) (fun _ hk=>hk);have hx11_1:=hcc11 1 _ rfl;(try simp only [show (k27).sz = 3 from rfl,Nat.mul_one,Nat.add_zero] at hx11_1);have hf11_1:=hfr11 1;(try simp only [show (k27).sz = 3 from rfl,Nat.mul_one,Nat.add_zero] at hf11_1);clear hcl11 hcc11 hfr11;(try clear hM11))|((with_reducible refine gate_store (t:=3) (p:=23) rfl ?_);refine store_event (t:=3) (p:=23) (v:=?vo_w12) (w1:=(w10.setCell ⟨go5,(x5_1:Int).toNat * 3 + 1,none⟩ (.int .i64 (wrap64 (x1_1 + 1))))) ?hg ?ho ?hn ?hr ?_;(case ho=>rfl);(case hg=>rfl);(case hn=>rfl);(case hr=>first|(go_simp;done)|(go_simp;rfl));intro w12 hw;have hg:w10.grownBy w12 (some go5):=(by rw [hw];exact HP11.2);have hp_:Kd.R k27 27 w12 w0.heap.size (fun k_=>(P0_ k_ ∨ w.heap.size ≤ k_)) (.slice (some ⟨go5,0,none⟩) x0_1.length co8) y256:=(by rw [hw,Ny256.out];exact HP11.1);clear HP11;replace HB:=mk0 ((by rw [hw];exact sZ (HB.out) GB5.out:Below w0.heap.size w0 w12));replace HK:=mk0 (Kept.of_grown (S:=(fun k_=>P0_ k_)) hg (by repeat (first|(with_reducible first|exact HK.out|apply Kept.alloc|apply Kept.drewN|apply Kept.drew)|exact HK.out)) (fun k_ e_=>(HO_0.out.1 k_ e_)));replace HO_0:=mk0 (hp_);clear hg hw hp_;have p7:0 ≤ (x5_1:Int):=of_decide_eq_true (by first|(with_reducible assumption)|assumption);have q7:(x5_1:Int) < ((x0_1.length:Int):Int):=of_decide_eq_true (by first|(with_reducible assumption)|assumption);obtain⟨ce7,hcl7,hM7,hcc7,hfr7⟩:=Kd.R_elem HO_0.out z27 (x5_1:Int) p7 q7;obtain rfl:=k27_openM hM7;have hx7_0:w12.cell? ⟨go5,(x5_1:Int).toNat * 3,none⟩ = some (.int .i64 ((rd_T27 y256 x5_1).f0)):=hcc7 0 _ rfl;have hx7_1:w12.cell? ⟨go5,(x5_1:Int).toNat * 3 + 1,none⟩ = some (.int .i64 ((rd_T27 y256 x5_1).f1)):=hcc7 1 _ rfl;have hx7_2:w12.cell? ⟨go5,(x5_1:Int).toNat * 3 + 2,none⟩ = some (.int .i64 ((rd_T27 y256 x5_1).f2)):=hcc7 2 _ rfl;have hf7_0:w12.frozen? ⟨go5,(x5_1:Int).toNat * 3,none⟩ = false:=hfr7 0;have hf7_1:w12.frozen? ⟨go5,(x5_1:Int).toNat * 3 + 1,none⟩ = false:=hfr7 1;have hf7_2:w12.frozen? ⟨go5,(x5_1:Int).toNat * 3 + 2,none⟩ = false:=hfr7 2;clear hcl7 hcc7 hfr7;(try clear hM7);replace p7:=eq_true p7;replace q7:=eq_true q7;have HX13:=mk0 (show Kd.R k27 27 w12 w0.heap.size (fun k_=>(P0_ k_ ∨ w.heap.size ≤ k_)) (.slice (some ⟨go5,0,none⟩) x0_1.length co8) y256 from (rR HO_0.out));obtain⟨ce13,hcl13,hM13,hcc13,hfr13⟩:=Kd.R_elem HX13.out z27 (x5_1:Int) (of_decide_eq_true (by first|(with_reducible assumption)|assumption)) (by have h_:(x5_1:Int) < ((x0_1.length:Int):Int):=of_decide_eq_true (by first|(with_reducible assumption)|assumption);first|exact h_|(have e_:=(Kd.R_reads' HO_0.out).1;omega)|simpa using h_);obtain rfl:=k27_openM hM13;have HP13:=Kd.R_seg HX13.out (x5_1:Int) (of_decide_eq_true (by first|(with_reducible assumption)|assumption)) (by have h_:(x5_1:Int) < ((x0_1.length:Int):Int):=of_decide_eq_true (by first|(with_reducible assumption)|assumption);first|exact h_|(have e_:=(Kd.R_reads' HO_0.out).1;omega)|simpa using h_) (seg:=[.int .i64 (wrap64 ((wrap64 (x1_1 + 1)) + 1))]) (j:=2) hcl13 hcc13 (show 3 ≤ 3 from by decide) (x':=(⟨(rd_T27 y256 x5_1).f0,(rd_T27 y256 x5_1).f1,wrap64 ((wrap64 (x1_1 + 1)) + 1)⟩:S27)) (k27_mkM _ _ _ (⟨(rd_T27 y256 x5_1).f0,(rd_T27 y256 x5_1).f1,wrap64 ((wrap64 (x1_1 + 1)) + 1)⟩:S27) ) (fun _ hk=>hk);have hx13_2:=hcc13 2 _ rfl;(try simp only [show (k27).sz = 3 from rfl,Nat.mul_one,Nat.add_zero] at hx13_2);have hf13_2:=hfr13 2;(try simp only [show (k27).sz = 3 from rfl,Nat.mul_one,Nat.add_zero] at hf13_2);clear hcl13 hcc13 hfr13;(try clear hM13))|((with_reducible refine gate_store (t:=3) (p:=30) rfl ?_);refine store_event (t:=3) (p:=30) (v:=?vo_w14) (w1:=(w12.setCell ⟨go5,(x5_1:Int).toNat * 3 + 2,none⟩ (.int .i64 (wrap64 ((wrap64 (x1_1 + 1)) + 1))))) ?hg ?ho ?hn ?hr ?_;(case ho=>rfl);(case hg=>rfl);(case hn=>rfl);(case hr=>first|(go_simp;done)|(go_simp;rfl));intro w14 hw;have hg:w12.grownBy w14 (some go5):=(by rw [hw];exact HP13.2);have hp_:Kd.R k27 27 w14 w0.heap.size (fun k_=>(P0_ k_ ∨ w.heap.size ≤ k_)) (.slice (some ⟨go5,0,none⟩) x0_1.length co8) y257:=(by rw [hw,Ny257.out];exact HP13.1);clear HP13;replace HB:=mk0 ((by rw [hw];exact sZ (HB.out) GB5.out:Below w0.heap.size w0 w14));replace HK:=mk0 (Kept.of_grown (S:=(fun k_=>P0_ k_)) hg (by repeat (first|(with_reducible first|exact HK.out|apply Kept.alloc|apply Kept.drewN|apply Kept.drew)|exact HK.out)) (fun k_ e_=>(HO_0.out.1 k_ e_)));replace HO_0:=mk0 (hp_);clear hg hw hp_))
   go_roundg k1
   case measure=>have:=HK1.out;omega
   case rel=>exact⟨(y257),(wrap64 ((wrap64 ((wrap64 (x1_1 + 1)) + 1)) + 1)),(wrap64 (x5_1 + 1)),(by first|rfl|(simp;done)|(simp [*];done)),(by first|rfl|(simp;done)|(simp [*];done)),H',⟨by have:=HK1.out;omega⟩,⟨rR HO_0.out⟩,⟨by repeat (first|(with_reducible first|exact HK.out|apply Kept.alloc|apply Kept.drewN|apply Kept.drew)|exact HK.out)⟩,⟨kB HB.out⟩⟩
/-! ### laws_heldStretchS: function 29 -/
def laws_heldStretchS.l0 : Nat → List (S27) → Int → Int → Option (Int)
 | 0, _, _, _ => none
 | k + 1, x0, x1, x5 => if x5 < (x0.length : Int) then (if 0 ≤ x5 then (if ((rd_T27 x0 x5).f0) = x1 then (if ((rd_T27 x0 x5).f1) = (wrap64 (x1 + 1)) then (if ((rd_T27 x0 x5).f2) = (wrap64 ((wrap64 (x1 + 1)) + 1)) then (laws_heldStretchS.l0 k x0 (wrap64 ((wrap64 ((wrap64 (x1 + 1)) + 1)) + 1)) (wrap64 (x5 + 1))) else (some (-1))) else (some (-1))) else (some (-1))) else (none)) else (some x1)
def laws_heldStretchS.f (k : Nat) (l0 : List (S27)) (a1 : Int) : Option (Int) := laws_heldStretchS.l0 k l0 a1 0
theorem laws_heldStretchS.mono_l : ∀ k, (∀ y0 y1 y2, LeO (laws_heldStretchS.l0 k y0 y1 y2) (laws_heldStretchS.l0 (k + 1) y0 y1 y2))
 | 0 => fun _ _ _ r h => by simp [laws_heldStretchS.l0] at h
 | k + 1 => by
  have ih0 := laws_heldStretchS.mono_l k
  ·intro y0 y1 y2
   unfold laws_heldStretchS.l0
   repeat' first|(with_reducible first|exact ih0 _ _ _|exact LeO.refl _|exact LeO.none _|refine LeO.ite ?_ ?_|refine LeO.bind ?_ (fun _ => ?_))|exact LeO.none _|refine LeO.ite ?_ ?_|refine LeO.bind ?_ (fun _ => ?_)
theorem laws_heldStretchS.mono : ∀ a0 a1 k, LeO (laws_heldStretchS.f k a0 a1) (laws_heldStretchS.f (k + 1) a0 a1) := by
 intro a0 a1 k
 have ih0 := laws_heldStretchS.mono_l k
 unfold laws_heldStretchS.f
 repeat' first|(with_reducible first|exact ih0 _ _ _|exact LeO.refl _|exact LeO.none _|refine LeO.ite ?_ ?_|refine LeO.bind ?_ (fun _ => ?_))|exact LeO.none _|refine LeO.ite ?_ ?_|refine LeO.bind ?_ (fun _ => ?_)
set_option maxHeartbeats 8000000 in
set_option maxRecDepth 100000 in
theorem laws_heldStretchS.calls (k : Nat) (A0 : Option Addr) (c0 : Nat) (l0 : List (S27)) (a1 : Int) (r : Int) (w : World) (hr0 : Kd.C k27 w A0 l0.length l0) (hc0 : l0.length ≤ c0) (h : laws_heldStretchS.f k l0 a1 = some r) :
  Calls Try.prog 29 #[.slice A0 l0.length c0, .int .i64 a1] w fun e w' => e = .returned (.int .i64 r) ∧ Drawn0 w w' := by
 have HR0:=mk0 hr0
 have HC0:=mk0 hc0
 clear hr0 hc0
 have H:(laws_heldStretchS.l0 k l0 a1 0) = some r:=h
 clear h
 have H':=mk0 H
 clear H
 go_enter Try.func29,Try.ntmps29
 go_wp2
 go_loopg [1,5] k (fun kq v1 v5 w'=>∃ (x1_1:Int) (x5_1:Int),v1 = .int .i64 x1_1 ∧ v5 = .int .i64 x5_1 ∧ Aside0 (laws_heldStretchS.l0 kq l0 x1_1 x5_1 = some r) ∧ Aside0 (kq ≤ k) ∧ Drawn0 w w')
 case atStart=>exact⟨(a1),(0),(by first|rfl|(simp;done)|(simp [*];done)),(by first|rfl|(simp;done)|(simp [*];done)),H',⟨Nat.le_refl _⟩,by repeat (first|exact Drawn0.refl _|apply Drawn0.step)⟩
 case round =>
  clear H'
  try clear c2
  try clear p2
  obtain⟨x1_1,x5_1,rfl,rfl,HA,HK1,⟨m1,rfl⟩⟩:=hrel
  cases gk with
  | zero=>exact absurd HA.out (by simp [laws_heldStretchS.l0])
  | succ k1 =>
   have H:=HA.out
   clear HA
   simp only [laws_heldStretchS.l0] at H
   by_cases c3:x5_1 < (l0.length:Int)
   ·rw [if_pos c3] at H
    have c3b0:decide (x5_1 < (l0.length:Int)) = true:=decide_eq_true c3
    clear c3
    by_cases c4:0 ≤ x5_1
    ·rw [if_pos c4] at H
     have c4b0:decide (0 ≤ x5_1) = true:=decide_eq_true c4
     clear c4
     by_cases c5:((rd_T27 l0 x5_1).f0) = x1_1
     ·rw [if_pos c5] at H
      have c5b0:(((rd_T27 l0 x5_1).f0) == x1_1) = true:=beq_iff_eq.mpr c5
      have c5b1:(((rd_T27 l0 x5_1).f0) != x1_1) = false:=bne_eq_false_iff_eq.mpr c5
      clear c5
      by_cases c6:((rd_T27 l0 x5_1).f1) = (wrap64 (x1_1 + 1))
      ·rw [if_pos c6] at H
       have c6b0:(((rd_T27 l0 x5_1).f1) == (wrap64 (x1_1 + 1))) = true:=beq_iff_eq.mpr c6
       have c6b1:(((rd_T27 l0 x5_1).f1) != (wrap64 (x1_1 + 1))) = false:=bne_eq_false_iff_eq.mpr c6
       clear c6
       by_cases c7:((rd_T27 l0 x5_1).f2) = (wrap64 ((wrap64 (x1_1 + 1)) + 1))
       ·rw [if_pos c7] at H
        have c7b0:(((rd_T27 l0 x5_1).f2) == (wrap64 ((wrap64 (x1_1 + 1)) + 1))) = true:=beq_iff_eq.mpr c7
        have c7b1:(((rd_T27 l0 x5_1).f2) != (wrap64 ((wrap64 (x1_1 + 1)) + 1))) = false:=bne_eq_false_iff_eq.mpr c7
        clear c7
        have H':=mk0 H
        clear H
        have p258:0 ≤ (x5_1:Int):=of_decide_eq_true (by first|(with_reducible assumption)|assumption)
        have q258:x5_1 < (l0.length:Int):=of_decide_eq_true (by first|(with_reducible assumption)|assumption)
        obtain⟨ad258,e258,hx258_0,hx258_1,hx258_2⟩:=at_T27 HR0.out x5_1 p258 q258
        cases e258
        replace p258:=eq_true p258
        replace q258:=eq_true q258
        have p259:0 ≤ (x5_1:Int):=of_decide_eq_true (by first|(with_reducible assumption)|assumption)
        have q259:x5_1 < (l0.length:Int):=of_decide_eq_true (by first|(with_reducible assumption)|assumption)
        obtain⟨ad259,e259,hx259_0,hx259_1,hx259_2⟩:=at_T27 HR0.out x5_1 p259 q259
        obtain rfl:ad258 = ad259:=(by injection e259)
        replace p259:=eq_true p259
        replace q259:=eq_true q259
        have p260:0 ≤ (x5_1:Int):=of_decide_eq_true (by first|(with_reducible assumption)|assumption)
        have q260:x5_1 < (l0.length:Int):=of_decide_eq_true (by first|(with_reducible assumption)|assumption)
        obtain⟨ad260,e260,hx260_0,hx260_1,hx260_2⟩:=at_T27 HR0.out x5_1 p260 q260
        obtain rfl:ad258 = ad260:=(by injection e260)
        replace p260:=eq_true p260
        replace q260:=eq_true q260
        go_wp2
        go_roundg k1
        case measure=>have:=HK1.out;omega
        case rel=>exact⟨(wrap64 ((wrap64 ((wrap64 (x1_1 + 1)) + 1)) + 1)),(wrap64 (x5_1 + 1)),(by first|rfl|(simp;done)|(simp [*];done)),(by first|rfl|(simp;done)|(simp [*];done)),H',⟨by have:=HK1.out;omega⟩,by repeat (first|exact Drawn0.refl _|apply Drawn0.step)⟩
       ·rw [if_neg c7] at H
        have c7b0:(((rd_T27 l0 x5_1).f2) == (wrap64 ((wrap64 (x1_1 + 1)) + 1))) = false:=beq_eq_false_iff_ne.mpr c7
        have c7b1:(((rd_T27 l0 x5_1).f2) != (wrap64 ((wrap64 (x1_1 + 1)) + 1))) = true:=bne_iff_ne.mpr c7
        obtain rfl:=Option.some.inj H
        have p258:0 ≤ (x5_1:Int):=of_decide_eq_true (by first|(with_reducible assumption)|assumption)
        have q258:x5_1 < (l0.length:Int):=of_decide_eq_true (by first|(with_reducible assumption)|assumption)
        obtain⟨ad258,e258,hx258_0,hx258_1,hx258_2⟩:=at_T27 HR0.out x5_1 p258 q258
        cases e258
        replace p258:=eq_true p258
        replace q258:=eq_true q258
        have p259:0 ≤ (x5_1:Int):=of_decide_eq_true (by first|(with_reducible assumption)|assumption)
        have q259:x5_1 < (l0.length:Int):=of_decide_eq_true (by first|(with_reducible assumption)|assumption)
        obtain⟨ad259,e259,hx259_0,hx259_1,hx259_2⟩:=at_T27 HR0.out x5_1 p259 q259
        obtain rfl:ad258 = ad259:=(by injection e259)
        replace p259:=eq_true p259
        replace q259:=eq_true q259
        have p260:0 ≤ (x5_1:Int):=of_decide_eq_true (by first|(with_reducible assumption)|assumption)
        have q260:x5_1 < (l0.length:Int):=of_decide_eq_true (by first|(with_reducible assumption)|assumption)
        obtain⟨ad260,e260,hx260_0,hx260_1,hx260_2⟩:=at_T27 HR0.out x5_1 p260 q260
        obtain rfl:ad258 = ad260:=(by injection e260)
        replace p260:=eq_true p260
        replace q260:=eq_true q260
        go_wp2
        go_ret
        exact⟨by first|rfl|(simp;done)|(simp [*];done),by repeat (first|exact Drawn0.refl _|apply Drawn0.step)⟩
      ·rw [if_neg c6] at H
       have c6b0:(((rd_T27 l0 x5_1).f1) == (wrap64 (x1_1 + 1))) = false:=beq_eq_false_iff_ne.mpr c6
       have c6b1:(((rd_T27 l0 x5_1).f1) != (wrap64 (x1_1 + 1))) = true:=bne_iff_ne.mpr c6
       obtain rfl:=Option.some.inj H
       have p258:0 ≤ (x5_1:Int):=of_decide_eq_true (by first|(with_reducible assumption)|assumption)
       have q258:x5_1 < (l0.length:Int):=of_decide_eq_true (by first|(with_reducible assumption)|assumption)
       obtain⟨ad258,e258,hx258_0,hx258_1,hx258_2⟩:=at_T27 HR0.out x5_1 p258 q258
       cases e258
       replace p258:=eq_true p258
       replace q258:=eq_true q258
       have p259:0 ≤ (x5_1:Int):=of_decide_eq_true (by first|(with_reducible assumption)|assumption)
       have q259:x5_1 < (l0.length:Int):=of_decide_eq_true (by first|(with_reducible assumption)|assumption)
       obtain⟨ad259,e259,hx259_0,hx259_1,hx259_2⟩:=at_T27 HR0.out x5_1 p259 q259
       obtain rfl:ad258 = ad259:=(by injection e259)
       replace p259:=eq_true p259
       replace q259:=eq_true q259
       go_wp2
       go_ret
       exact⟨by first|rfl|(simp;done)|(simp [*];done),by repeat (first|exact Drawn0.refl _|apply Drawn0.step)⟩
     ·rw [if_neg c5] at H
      have c5b0:(((rd_T27 l0 x5_1).f0) == x1_1) = false:=beq_eq_false_iff_ne.mpr c5
      have c5b1:(((rd_T27 l0 x5_1).f0) != x1_1) = true:=bne_iff_ne.mpr c5
      obtain rfl:=Option.some.inj H
      have p258:0 ≤ (x5_1:Int):=of_decide_eq_true (by first|(with_reducible assumption)|assumption)
      have q258:x5_1 < (l0.length:Int):=of_decide_eq_true (by first|(with_reducible assumption)|assumption)
      obtain⟨ad258,e258,hx258_0,hx258_1,hx258_2⟩:=at_T27 HR0.out x5_1 p258 q258
      cases e258
      replace p258:=eq_true p258
      replace q258:=eq_true q258
      go_wp2
      go_ret
      exact⟨by first|rfl|(simp;done)|(simp [*];done),by repeat (first|exact Drawn0.refl _|apply Drawn0.step)⟩
    ·rw [if_neg c4] at H
     exact absurd H (by simp)
   ·rw [if_neg c3] at H
    have c3b0:decide (x5_1 < (l0.length:Int)) = false:=decide_eq_false c3
    clear c3
    obtain rfl:=Option.some.inj H
    go_wp2
    go_ret
    exact⟨by first|rfl|(simp;done)|(simp [*];done),by repeat (first|exact Drawn0.refl _|apply Drawn0.step)⟩

/-! ### laws_FnExactStretchAll: function 7 -/
def laws_FnExactStretchAll.j0 : Nat → List Int → List (S27) → List (S27) → Bool → Option (Bool)
 | 0, _, _, _, _ => none
 | k + 1, x0, x3, x5, x39 => if x39 = true then (some false) else ((laws_markStretchS.f k x5 1).bind fun bt281 => ((laws_heldStretchS.f k bt281.2 1).bind fun t283 => (if t283 < 0 then (some false) else (if t283 = bt281.1 then ((laws_toByteS.f k x0).bind fun t284 => ((impl_StretchAll.f k t284).bind fun t287 => ((laws_eqStretchS.f k t287 x3).bind fun t290 => (if t290 = true then ((laws_heldStretchS.f k bt281.2 1).bind fun t291 => (if t291 < 0 then (some false) else (if t291 = bt281.1 then (some true) else (some false)))) else (some false))))) else (some false)))))
def laws_FnExactStretchAll.f (k : Nat) (l0 : List Int) : Option (Bool) := if (l0.length : Int) > 1048576 then (some true) else ((laws_toByteS.f k l0).bind fun t261 => ((spec_StretchAll.f k t261).bind fun t264 => ((laws_toByteS.f k l0).bind fun t267 => ((impl_StretchAll.f k t267).bind fun t270 => ((laws_eqStretchS.f k t270 t264).bind fun t273 => (if t273 = true then ((laws_toByteS.f k l0).bind fun t274 => ((laws_eqByteS.f k t267 t274).bind fun t277 => (if t277 = true then ((laws_markByteS.f k t267 1).bind fun bt278 => (if bt278.1 < 0 then (laws_FnExactStretchAll.j0 k l0 t264 t270 true) else ((laws_eqStretchS.f k t270 t264).bind fun t280 => (laws_FnExactStretchAll.j0 k l0 t264 t270 (!t280))))) else (some false)))) else (some false)))))))
theorem laws_FnExactStretchAll.mono_l : ∀ k, (∀ y0 y1 y2 y3, LeO (laws_FnExactStretchAll.j0 k y0 y1 y2 y3) (laws_FnExactStretchAll.j0 (k + 1) y0 y1 y2 y3))
 | 0 => fun _ _ _ _ r h => by simp [laws_FnExactStretchAll.j0] at h
 | k + 1 => by
  have ih0 := laws_FnExactStretchAll.mono_l k
  ·intro y0 y1 y2 y3
   unfold laws_FnExactStretchAll.j0
   repeat' first|(with_reducible first|exact ih0 _ _ _ _|exact impl_StretchAll.mono _ _|exact laws_eqByteS.mono _ _ _|exact laws_eqStretchS.mono _ _ _|exact laws_heldStretchS.mono _ _ _|exact laws_markByteS.mono _ _ _|exact laws_markStretchS.mono _ _ _|exact laws_toByteS.mono _ _|exact spec_StretchAll.mono _ _|exact LeO.refl _|exact LeO.none _|refine LeO.ite ?_ ?_|refine LeO.bind ?_ (fun _ => ?_))|exact LeO.none _|refine LeO.ite ?_ ?_|refine LeO.bind ?_ (fun _ => ?_)
theorem laws_FnExactStretchAll.mono : ∀ a0 k, LeO (laws_FnExactStretchAll.f k a0) (laws_FnExactStretchAll.f (k + 1) a0) := by
 intro a0 k
 have ih0 := laws_FnExactStretchAll.mono_l k
 unfold laws_FnExactStretchAll.f
 repeat' first|(with_reducible first|exact ih0 _ _ _ _|exact impl_StretchAll.mono _ _|exact laws_eqByteS.mono _ _ _|exact laws_eqStretchS.mono _ _ _|exact laws_heldStretchS.mono _ _ _|exact laws_markByteS.mono _ _ _|exact laws_markStretchS.mono _ _ _|exact laws_toByteS.mono _ _|exact spec_StretchAll.mono _ _|exact LeO.refl _|exact LeO.none _|refine LeO.ite ?_ ?_|refine LeO.bind ?_ (fun _ => ?_))|exact LeO.none _|refine LeO.ite ?_ ?_|refine LeO.bind ?_ (fun _ => ?_)
set_option maxHeartbeats 8000000 in
set_option maxRecDepth 100000 in
theorem laws_FnExactStretchAll.calls (k : Nat) (A0 : Option Addr) (c0 : Nat) (l0 : List Int) (r : Bool) (w : World) (hr0 : Kd.C (Kd.int .u8) w A0 l0.length l0) (hc0 : l0.length ≤ c0) (h : laws_FnExactStretchAll.f k l0 = some r) :
  Calls Try.prog 7 #[.slice A0 l0.length c0] w fun e w' => e = .returned (.bool r) ∧ Below w.heap.size w w' := by
 have HR0:=mk0 hr0
 have HC0:=mk0 hc0
 clear hr0 hc0
 have HB:=mk0 (Below.refl w.heap.size w)
 have H:(if (l0.length:Int) > 1048576 then (some true) else ((laws_toByteS.f k l0).bind fun t261=>((spec_StretchAll.f k t261).bind fun t264=>((laws_toByteS.f k l0).bind fun t267=>((impl_StretchAll.f k t267).bind fun t270=>((laws_eqStretchS.f k t270 t264).bind fun t273=>(if t273 = true then ((laws_toByteS.f k l0).bind fun t274=>((laws_eqByteS.f k t267 t274).bind fun t277=>(if t277 = true then ((laws_markByteS.f k t267 1).bind fun bt278=>(if bt278.1 < 0 then (laws_FnExactStretchAll.j0 k l0 t264 t270 true) else ((laws_eqStretchS.f k t270 t264).bind fun t280=>(laws_FnExactStretchAll.j0 k l0 t264 t270 (!t280))))) else (some false)))) else (some false)))))))) = some r:=h
 clear h
 by_cases c2:(l0.length:Int) > 1048576
 ·rw [if_pos c2] at H
  have c2b0:decide (1048576 < (l0.length:Int)) = true:=decide_eq_true c2
  have c2b1:decide (1048576 < l0.length) = true:=decide_eq_true (by omega)
  clear c2
  obtain rfl:=Option.some.inj H
  go_enter Try.func7,Try.ntmps7
  go_wp2
  go_ret
  exact⟨by first|rfl|(simp [errW_none,errW_some] <;> rfl)|(simp [*,errW_none,errW_some] <;> rfl),kB HB.out⟩
 rw [if_neg c2] at H
 have c2b0:decide (1048576 < (l0.length:Int)) = false:=decide_eq_false c2
 have c2b1:decide (1048576 < l0.length) = false:=decide_eq_false (by omega)
 clear c2
 replace H:=Option.bind_eq_some_iff.mp H
 obtain⟨t261,A30,H⟩:=H
 replace H:((spec_StretchAll.f k t261).bind fun t264=>((laws_toByteS.f k l0).bind fun t267=>((impl_StretchAll.f k t267).bind fun t270=>((laws_eqStretchS.f k t270 t264).bind fun t273=>(if t273 = true then ((laws_toByteS.f k l0).bind fun t274=>((laws_eqByteS.f k t267 t274).bind fun t277=>(if t277 = true then ((laws_markByteS.f k t267 1).bind fun bt278=>(if bt278.1 < 0 then (laws_FnExactStretchAll.j0 k l0 t264 t270 true) else ((laws_eqStretchS.f k t270 t264).bind fun t280=>(laws_FnExactStretchAll.j0 k l0 t264 t270 (!t280))))) else (some false)))) else (some false)))))) = some r:=H
 have A3:=mk0 A30
 clear A30
 replace H:=Option.bind_eq_some_iff.mp H
 obtain⟨t264,A40,H⟩:=H
 replace H:((laws_toByteS.f k l0).bind fun t267=>((impl_StretchAll.f k t267).bind fun t270=>((laws_eqStretchS.f k t270 t264).bind fun t273=>(if t273 = true then ((laws_toByteS.f k l0).bind fun t274=>((laws_eqByteS.f k t267 t274).bind fun t277=>(if t277 = true then ((laws_markByteS.f k t267 1).bind fun bt278=>(if bt278.1 < 0 then (laws_FnExactStretchAll.j0 k l0 t264 t270 true) else ((laws_eqStretchS.f k t270 t264).bind fun t280=>(laws_FnExactStretchAll.j0 k l0 t264 t270 (!t280))))) else (some false)))) else (some false))))) = some r:=H
 have A4:=mk0 A40
 clear A40
 replace H:=Option.bind_eq_some_iff.mp H
 obtain⟨t267,A50,H⟩:=H
 replace H:((impl_StretchAll.f k t267).bind fun t270=>((laws_eqStretchS.f k t270 t264).bind fun t273=>(if t273 = true then ((laws_toByteS.f k l0).bind fun t274=>((laws_eqByteS.f k t267 t274).bind fun t277=>(if t277 = true then ((laws_markByteS.f k t267 1).bind fun bt278=>(if bt278.1 < 0 then (laws_FnExactStretchAll.j0 k l0 t264 t270 true) else ((laws_eqStretchS.f k t270 t264).bind fun t280=>(laws_FnExactStretchAll.j0 k l0 t264 t270 (!t280))))) else (some false)))) else (some false)))) = some r:=H
 have A5:=mk0 A50
 clear A50
 replace H:=Option.bind_eq_some_iff.mp H
 obtain⟨t270,A60,H⟩:=H
 replace H:((laws_eqStretchS.f k t270 t264).bind fun t273=>(if t273 = true then ((laws_toByteS.f k l0).bind fun t274=>((laws_eqByteS.f k t267 t274).bind fun t277=>(if t277 = true then ((laws_markByteS.f k t267 1).bind fun bt278=>(if bt278.1 < 0 then (laws_FnExactStretchAll.j0 k l0 t264 t270 true) else ((laws_eqStretchS.f k t270 t264).bind fun t280=>(laws_FnExactStretchAll.j0 k l0 t264 t270 (!t280))))) else (some false)))) else (some false))) = some r:=H
 have A6:=mk0 A60
 clear A60
 replace H:=Option.bind_eq_some_iff.mp H
 obtain⟨t273,A70,H⟩:=H
 replace H:(if t273 = true then ((laws_toByteS.f k l0).bind fun t274=>((laws_eqByteS.f k t267 t274).bind fun t277=>(if t277 = true then ((laws_markByteS.f k t267 1).bind fun bt278=>(if bt278.1 < 0 then (laws_FnExactStretchAll.j0 k l0 t264 t270 true) else ((laws_eqStretchS.f k t270 t264).bind fun t280=>(laws_FnExactStretchAll.j0 k l0 t264 t270 (!t280))))) else (some false)))) else (some false)) = some r:=H
 have A7:=mk0 A70
 clear A70
 by_cases c8:t273 = true
 rotate_left
 ·replace c8:=Bool.eq_false_iff.mpr c8
  subst c8
  have H1:(some false) = some r:=by rw [if_neg (show ¬ (false = true) by decide)] at H;exact H
  clear H
  have H:=H1
  clear H1
  obtain rfl:=Option.some.inj H
  go_enter Try.func7,Try.ntmps7
  go_wp2_with (first|((with_reducible refine gate_callee (f:=12) rfl ?_);refine goesL_ (some 14) rfl rfl Try.func12 (by kernel_rfl) rfl #[.slice A0 l0.length c0] rfl (by (try simp only [mA,mC,mN]);first|done|rfl|(simp only [List.length_drop,List.length_take];done)|(simp only [List.length_drop,List.length_take];rfl)) ?_;(with_reducible refine (laws_toByteS.calls k _ _ l0 t261 _ ?side1 ?side2 A3.out).mono ?_);(case side1=>repeat (first|exact HR0.out|(with_reducible first|apply aC|apply nC|apply dC)));(case side2=>exact HC0.out);rintro e w78 ⟨v262,rfl,ho0,hb⟩;refine⟨_,rfl,?_⟩;have HO263:=mk0 (Kd.R_lower ho0 (kZ HB.out));replace HB:=mk0 (kS HB.out hb);(try clear hb);(try clear ho0);obtain⟨Ao79,co79,eo79⟩:=Kd.R_slice HO263.out;subst eo79)|((with_reducible refine gate_callee (f:=25) rfl ?_);refine goesL_ (some 15) rfl rfl Try.func25 (by kernel_rfl) rfl #[.slice Ao79 t261.length co79] rfl (by (try simp only [mA,mC,mN]);first|done|rfl|(simp only [List.length_drop,List.length_take];done)|(simp only [List.length_drop,List.length_take];rfl)) ?_;(with_reducible refine (spec_StretchAll.calls k _ _ t261 t264 _ ?side1 ?side2 A4.out).mono ?_);(case side1=>exact kC (Kd.R_reads' HO263.out).2.2);(case side2=>exact (Kd.R_reads' HO263.out).2.1);rintro e w80 ⟨v265,rfl,ho0,hb⟩;refine⟨_,rfl,?_⟩;replace HO263:=mk0 (bR HO263.out hb);have HO266:=mk0 (Kd.R_lower ho0 (kZ HB.out));replace HB:=mk0 (kS HB.out hb);(try clear hb);(try clear ho0))|((with_reducible refine gate_callee (f:=12) rfl ?_);refine goesL_ (some 17) rfl rfl Try.func12 (by kernel_rfl) rfl #[.slice A0 l0.length c0] rfl (by (try simp only [mA,mC,mN]);first|done|rfl|(simp only [List.length_drop,List.length_take];done)|(simp only [List.length_drop,List.length_take];rfl)) ?_;(with_reducible refine (laws_toByteS.calls k _ _ l0 t267 _ ?side1 ?side2 A5.out).mono ?_);(case side1=>exact kC (Kd.C_below HR0.out HB.out));(case side2=>exact HC0.out);rintro e w81 ⟨v268,rfl,ho0,hb⟩;refine⟨_,rfl,?_⟩;replace HO266:=mk0 (bR HO266.out hb);have HO269:=mk0 (Kd.R_lower (Kd.R_new' ho0 (Kd.R_lt (rR HO263.out))) (kZ HB.out));replace HO263:=mk0 (Kd.R_elder' (rR HO263.out) (Kd.R_base ho0) hb);replace HB:=mk0 (kS HB.out hb);(try clear hb);(try clear ho0);obtain⟨Ao82,co82,eo82⟩:=Kd.R_slice HO269.out;subst eo82)|((with_reducible refine gate_callee (f:=26) rfl ?_);refine goesL_ (some 19) rfl rfl Try.func26 (by kernel_rfl) rfl #[.slice Ao82 t267.length co82] rfl (by (try simp only [mA,mC,mN]);first|done|rfl|(simp only [List.length_drop,List.length_take];done)|(simp only [List.length_drop,List.length_take];rfl)) ?_;(with_reducible refine (impl_StretchAll.calls k _ _ t267 t270 _ ?side1 ?side2 A6.out).mono ?_);(case side1=>exact kC (Kd.R_reads' HO269.out).2.2);(case side2=>exact (Kd.R_reads' HO269.out).2.1);rintro e w83 ⟨v271,rfl,ho0,hb⟩;refine⟨_,rfl,?_⟩;replace HO263:=mk0 (bR HO263.out hb);replace HO269:=mk0 (bR HO269.out hb);have HO272:=mk0 (Kd.R_lower (Kd.R_new' ho0 (Kd.R_lt (rR HO266.out))) (kZ HB.out));replace HO266:=mk0 (Kd.R_elder' (rR HO266.out) (Kd.R_base ho0) hb);replace HB:=mk0 (kS HB.out hb);(try clear hb);(try clear ho0);obtain⟨Ao84,co84,eo84⟩:=Kd.R_slice HO272.out;subst eo84;obtain⟨Ao85,co85,eo85⟩:=Kd.R_slice HO266.out;subst eo85)|((with_reducible refine gate_callee (f:=27) rfl ?_);refine goesL_ (some 22) rfl rfl Try.func27 (by kernel_rfl) rfl #[.slice Ao84 t270.length co84,.slice Ao85 t264.length co85] rfl (by (try simp only [mA,mC,mN]);first|done|rfl|(simp only [List.length_drop,List.length_take];done)|(simp only [List.length_drop,List.length_take];rfl)) ?_;(with_reducible refine (laws_eqStretchS.calls k _ _ t270 _ _ t264 false _ ?side1 ?side2 ?side3 ?side4 A7.out).mono ?_);(case side1=>exact kC (Kd.R_reads' HO272.out).2.2);(case side2=>exact (Kd.R_reads' HO272.out).2.1);(case side3=>exact kC (Kd.R_reads' HO266.out).2.2);(case side4=>exact (Kd.R_reads' HO266.out).2.1);rintro e w86 ⟨rfl,hb⟩;refine⟨_,rfl,?_⟩;replace HO263:=mk0 (bR HO263.out hb);replace HO266:=mk0 (bR HO266.out hb);replace HO269:=mk0 (bR HO269.out hb);replace HO272:=mk0 (bR HO272.out hb);replace HB:=mk0 (kS HB.out hb);(try clear hb)))
  go_ret
  exact⟨by first|rfl|(simp [errW_none,errW_some] <;> rfl)|(simp [*,errW_none,errW_some] <;> rfl),kB HB.out⟩

 subst c8
 have H1:((laws_toByteS.f k l0).bind fun t274=>((laws_eqByteS.f k t267 t274).bind fun t277=>(if t277 = true then ((laws_markByteS.f k t267 1).bind fun bt278=>(if bt278.1 < 0 then (laws_FnExactStretchAll.j0 k l0 t264 t270 true) else ((laws_eqStretchS.f k t270 t264).bind fun t280=>(laws_FnExactStretchAll.j0 k l0 t264 t270 (!t280))))) else (some false)))) = some r:=by rw [if_pos rfl] at H;exact H
 clear H
 have H:=H1
 clear H1
 replace H:=Option.bind_eq_some_iff.mp H
 obtain⟨t274,A90,H⟩:=H
 replace H:((laws_eqByteS.f k t267 t274).bind fun t277=>(if t277 = true then ((laws_markByteS.f k t267 1).bind fun bt278=>(if bt278.1 < 0 then (laws_FnExactStretchAll.j0 k l0 t264 t270 true) else ((laws_eqStretchS.f k t270 t264).bind fun t280=>(laws_FnExactStretchAll.j0 k l0 t264 t270 (!t280))))) else (some false))) = some r:=H
 have A9:=mk0 A90
 clear A90
 replace H:=Option.bind_eq_some_iff.mp H
 obtain⟨t277,A100,H⟩:=H
 replace H:(if t277 = true then ((laws_markByteS.f k t267 1).bind fun bt278=>(if bt278.1 < 0 then (laws_FnExactStretchAll.j0 k l0 t264 t270 true) else ((laws_eqStretchS.f k t270 t264).bind fun t280=>(laws_FnExactStretchAll.j0 k l0 t264 t270 (!t280))))) else (some false)) = some r:=H
 have A10:=mk0 A100
 clear A100
 by_cases c11:t277 = true
 rotate_left
 ·replace c11:=Bool.eq_false_iff.mpr c11
  subst c11
  have H1:(some false) = some r:=by rw [if_neg (show ¬ (false = true) by decide)] at H;exact H
  clear H
  have H:=H1
  clear H1
  obtain rfl:=Option.some.inj H
  go_enter Try.func7,Try.ntmps7
  go_wp2_with (first|((with_reducible refine gate_callee (f:=12) rfl ?_);refine goesL_ (some 14) rfl rfl Try.func12 (by kernel_rfl) rfl #[.slice A0 l0.length c0] rfl (by (try simp only [mA,mC,mN]);first|done|rfl|(simp only [List.length_drop,List.length_take];done)|(simp only [List.length_drop,List.length_take];rfl)) ?_;(with_reducible refine (laws_toByteS.calls k _ _ l0 t261 _ ?side1 ?side2 A3.out).mono ?_);(case side1=>repeat (first|exact HR0.out|(with_reducible first|apply aC|apply nC|apply dC)));(case side2=>exact HC0.out);rintro e w67 ⟨v262,rfl,ho0,hb⟩;refine⟨_,rfl,?_⟩;have HO263:=mk0 (Kd.R_lower ho0 (kZ HB.out));replace HB:=mk0 (kS HB.out hb);(try clear hb);(try clear ho0);obtain⟨Ao68,co68,eo68⟩:=Kd.R_slice HO263.out;subst eo68)|((with_reducible refine gate_callee (f:=25) rfl ?_);refine goesL_ (some 15) rfl rfl Try.func25 (by kernel_rfl) rfl #[.slice Ao68 t261.length co68] rfl (by (try simp only [mA,mC,mN]);first|done|rfl|(simp only [List.length_drop,List.length_take];done)|(simp only [List.length_drop,List.length_take];rfl)) ?_;(with_reducible refine (spec_StretchAll.calls k _ _ t261 t264 _ ?side1 ?side2 A4.out).mono ?_);(case side1=>exact kC (Kd.R_reads' HO263.out).2.2);(case side2=>exact (Kd.R_reads' HO263.out).2.1);rintro e w69 ⟨v265,rfl,ho0,hb⟩;refine⟨_,rfl,?_⟩;replace HO263:=mk0 (bR HO263.out hb);have HO266:=mk0 (Kd.R_lower ho0 (kZ HB.out));replace HB:=mk0 (kS HB.out hb);(try clear hb);(try clear ho0))|((with_reducible refine gate_callee (f:=12) rfl ?_);refine goesL_ (some 17) rfl rfl Try.func12 (by kernel_rfl) rfl #[.slice A0 l0.length c0] rfl (by (try simp only [mA,mC,mN]);first|done|rfl|(simp only [List.length_drop,List.length_take];done)|(simp only [List.length_drop,List.length_take];rfl)) ?_;(with_reducible refine (laws_toByteS.calls k _ _ l0 t267 _ ?side1 ?side2 A5.out).mono ?_);(case side1=>exact kC (Kd.C_below HR0.out HB.out));(case side2=>exact HC0.out);rintro e w70 ⟨v268,rfl,ho0,hb⟩;refine⟨_,rfl,?_⟩;replace HO266:=mk0 (bR HO266.out hb);have HO269:=mk0 (Kd.R_lower (Kd.R_new' ho0 (Kd.R_lt (rR HO263.out))) (kZ HB.out));replace HO263:=mk0 (Kd.R_elder' (rR HO263.out) (Kd.R_base ho0) hb);replace HB:=mk0 (kS HB.out hb);(try clear hb);(try clear ho0);obtain⟨Ao71,co71,eo71⟩:=Kd.R_slice HO269.out;subst eo71)|((with_reducible refine gate_callee (f:=26) rfl ?_);refine goesL_ (some 19) rfl rfl Try.func26 (by kernel_rfl) rfl #[.slice Ao71 t267.length co71] rfl (by (try simp only [mA,mC,mN]);first|done|rfl|(simp only [List.length_drop,List.length_take];done)|(simp only [List.length_drop,List.length_take];rfl)) ?_;(with_reducible refine (impl_StretchAll.calls k _ _ t267 t270 _ ?side1 ?side2 A6.out).mono ?_);(case side1=>exact kC (Kd.R_reads' HO269.out).2.2);(case side2=>exact (Kd.R_reads' HO269.out).2.1);rintro e w72 ⟨v271,rfl,ho0,hb⟩;refine⟨_,rfl,?_⟩;replace HO263:=mk0 (bR HO263.out hb);replace HO269:=mk0 (bR HO269.out hb);have HO272:=mk0 (Kd.R_lower (Kd.R_new' ho0 (Kd.R_lt (rR HO266.out))) (kZ HB.out));replace HO266:=mk0 (Kd.R_elder' (rR HO266.out) (Kd.R_base ho0) hb);replace HB:=mk0 (kS HB.out hb);(try clear hb);(try clear ho0);obtain⟨Ao73,co73,eo73⟩:=Kd.R_slice HO272.out;subst eo73;obtain⟨Ao74,co74,eo74⟩:=Kd.R_slice HO266.out;subst eo74)|((with_reducible refine gate_callee (f:=27) rfl ?_);refine goesL_ (some 22) rfl rfl Try.func27 (by kernel_rfl) rfl #[.slice Ao73 t270.length co73,.slice Ao74 t264.length co74] rfl (by (try simp only [mA,mC,mN]);first|done|rfl|(simp only [List.length_drop,List.length_take];done)|(simp only [List.length_drop,List.length_take];rfl)) ?_;(with_reducible refine (laws_eqStretchS.calls k _ _ t270 _ _ t264 true _ ?side1 ?side2 ?side3 ?side4 A7.out).mono ?_);(case side1=>exact kC (Kd.R_reads' HO272.out).2.2);(case side2=>exact (Kd.R_reads' HO272.out).2.1);(case side3=>exact kC (Kd.R_reads' HO266.out).2.2);(case side4=>exact (Kd.R_reads' HO266.out).2.1);rintro e w75 ⟨rfl,hb⟩;refine⟨_,rfl,?_⟩;replace HO263:=mk0 (bR HO263.out hb);replace HO266:=mk0 (bR HO266.out hb);replace HO269:=mk0 (bR HO269.out hb);replace HO272:=mk0 (bR HO272.out hb);replace HB:=mk0 (kS HB.out hb);(try clear hb))|((with_reducible refine gate_callee (f:=12) rfl ?_);refine goesL_ (some 26) rfl rfl Try.func12 (by kernel_rfl) rfl #[.slice A0 l0.length c0] rfl (by (try simp only [mA,mC,mN]);first|done|rfl|(simp only [List.length_drop,List.length_take];done)|(simp only [List.length_drop,List.length_take];rfl)) ?_;(with_reducible refine (laws_toByteS.calls k _ _ l0 t274 _ ?side1 ?side2 A9.out).mono ?_);(case side1=>exact kC (Kd.C_below HR0.out HB.out));(case side2=>exact HC0.out);rintro e w76 ⟨v275,rfl,ho0,hb⟩;refine⟨_,rfl,?_⟩;replace HO266:=mk0 (bR HO266.out hb);replace HO272:=mk0 (bR HO272.out hb);have HO276:=mk0 (Kd.R_lower (Kd.R_new' (Kd.R_new' ho0 (Kd.R_lt (rR HO263.out))) (Kd.R_lt (rR HO269.out))) (kZ HB.out));replace HO263:=mk0 (Kd.R_elder' (rR HO263.out) (Kd.R_base ho0) hb);replace HO269:=mk0 (Kd.R_elder' (rR HO269.out) (Kd.R_base ho0) hb);replace HB:=mk0 (kS HB.out hb);(try clear hb);(try clear ho0);obtain⟨Ao77,co77,eo77⟩:=Kd.R_slice HO276.out;subst eo77)|((with_reducible refine gate_callee (f:=15) rfl ?_);refine goesL_ (some 27) rfl rfl Try.func15 (by kernel_rfl) rfl #[.slice Ao71 t267.length co71,.slice Ao77 t274.length co77] rfl (by (try simp only [mA,mC,mN]);first|done|rfl|(simp only [List.length_drop,List.length_take];done)|(simp only [List.length_drop,List.length_take];rfl)) ?_;(with_reducible refine (laws_eqByteS.calls k _ _ t267 _ _ t274 false _ ?side1 ?side2 ?side3 ?side4 A10.out).mono ?_);(case side1=>exact kC (Kd.R_reads' HO269.out).2.2);(case side2=>exact (Kd.R_reads' HO269.out).2.1);(case side3=>exact kC (Kd.R_reads' HO276.out).2.2);(case side4=>exact (Kd.R_reads' HO276.out).2.1);rintro e w' ⟨rfl,⟨nd,rfl⟩⟩;refine⟨_,rfl,?_⟩))
  go_ret
  exact⟨by first|rfl|(simp [errW_none,errW_some] <;> rfl)|(simp [*,errW_none,errW_some] <;> rfl),kB HB.out⟩
 subst c11
 have H1:((laws_markByteS.f k t267 1).bind fun bt278=>(if bt278.1 < 0 then (laws_FnExactStretchAll.j0 k l0 t264 t270 true) else ((laws_eqStretchS.f k t270 t264).bind fun t280=>(laws_FnExactStretchAll.j0 k l0 t264 t270 (!t280))))) = some r:=by rw [if_pos rfl] at H;exact H
 clear H
 have H:=H1
 clear H1
 replace H:=Option.bind_eq_some_iff.mp H
 obtain⟨⟨t278,t279⟩,A120,H⟩:=H
 replace H:(if t278 < 0 then (laws_FnExactStretchAll.j0 k l0 t264 t270 true) else ((laws_eqStretchS.f k t270 t264).bind fun t280=>(laws_FnExactStretchAll.j0 k l0 t264 t270 (!t280)))) = some r:=H
 have A12:=mk0 A120
 clear A120
 have HC13:=mk0 H
 clear H
 go_enter Try.func7,Try.ntmps7
 go_upto_region 12 with (first|((with_reducible refine gate_callee (f:=12) rfl ?_);refine goesL_ (some 14) rfl rfl Try.func12 (by kernel_rfl) rfl #[.slice A0 l0.length c0] rfl (by (try simp only [mA,mC,mN]);first|done|rfl|(simp only [List.length_drop,List.length_take];done)|(simp only [List.length_drop,List.length_take];rfl)) ?_;(with_reducible refine (laws_toByteS.calls k _ _ l0 t261 _ ?side1 ?side2 A3.out).mono ?_);(case side1=>repeat (first|exact HR0.out|(with_reducible first|apply aC|apply nC|apply dC)));(case side2=>exact HC0.out);rintro e w14 ⟨v262,rfl,ho0,hb⟩;refine⟨_,rfl,?_⟩;have HO263:=mk0 (Kd.R_lower ho0 (kZ HB.out));replace HB:=mk0 (kS HB.out hb);(try clear hb);(try clear ho0);obtain⟨Ao15,co15,eo15⟩:=Kd.R_slice HO263.out;subst eo15)|((with_reducible refine gate_callee (f:=25) rfl ?_);refine goesL_ (some 15) rfl rfl Try.func25 (by kernel_rfl) rfl #[.slice Ao15 t261.length co15] rfl (by (try simp only [mA,mC,mN]);first|done|rfl|(simp only [List.length_drop,List.length_take];done)|(simp only [List.length_drop,List.length_take];rfl)) ?_;(with_reducible refine (spec_StretchAll.calls k _ _ t261 t264 _ ?side1 ?side2 A4.out).mono ?_);(case side1=>exact kC (Kd.R_reads' HO263.out).2.2);(case side2=>exact (Kd.R_reads' HO263.out).2.1);rintro e w16 ⟨v265,rfl,ho0,hb⟩;refine⟨_,rfl,?_⟩;replace HO263:=mk0 (bR HO263.out hb);have HO266:=mk0 (Kd.R_lower ho0 (kZ HB.out));replace HB:=mk0 (kS HB.out hb);(try clear hb);(try clear ho0))|((with_reducible refine gate_callee (f:=12) rfl ?_);refine goesL_ (some 17) rfl rfl Try.func12 (by kernel_rfl) rfl #[.slice A0 l0.length c0] rfl (by (try simp only [mA,mC,mN]);first|done|rfl|(simp only [List.length_drop,List.length_take];done)|(simp only [List.length_drop,List.length_take];rfl)) ?_;(with_reducible refine (laws_toByteS.calls k _ _ l0 t267 _ ?side1 ?side2 A5.out).mono ?_);(case side1=>exact kC (Kd.C_below HR0.out HB.out));(case side2=>exact HC0.out);rintro e w17 ⟨v268,rfl,ho0,hb⟩;refine⟨_,rfl,?_⟩;replace HO266:=mk0 (bR HO266.out hb);have HO269:=mk0 (Kd.R_lower (Kd.R_new' ho0 (Kd.R_lt (rR HO263.out))) (kZ HB.out));replace HO263:=mk0 (Kd.R_elder' (rR HO263.out) (Kd.R_base ho0) hb);replace HB:=mk0 (kS HB.out hb);(try clear hb);(try clear ho0);obtain⟨Ao18,co18,eo18⟩:=Kd.R_slice HO269.out;subst eo18)|((with_reducible refine gate_callee (f:=26) rfl ?_);refine goesL_ (some 19) rfl rfl Try.func26 (by kernel_rfl) rfl #[.slice Ao18 t267.length co18] rfl (by (try simp only [mA,mC,mN]);first|done|rfl|(simp only [List.length_drop,List.length_take];done)|(simp only [List.length_drop,List.length_take];rfl)) ?_;(with_reducible refine (impl_StretchAll.calls k _ _ t267 t270 _ ?side1 ?side2 A6.out).mono ?_);(case side1=>exact kC (Kd.R_reads' HO269.out).2.2);(case side2=>exact (Kd.R_reads' HO269.out).2.1);rintro e w19 ⟨v271,rfl,ho0,hb⟩;refine⟨_,rfl,?_⟩;replace HO263:=mk0 (bR HO263.out hb);replace HO269:=mk0 (bR HO269.out hb);have HO272:=mk0 (Kd.R_lower (Kd.R_new' ho0 (Kd.R_lt (rR HO266.out))) (kZ HB.out));replace HO266:=mk0 (Kd.R_elder' (rR HO266.out) (Kd.R_base ho0) hb);replace HB:=mk0 (kS HB.out hb);(try clear hb);(try clear ho0);obtain⟨Ao20,co20,eo20⟩:=Kd.R_slice HO272.out;subst eo20;obtain⟨Ao21,co21,eo21⟩:=Kd.R_slice HO266.out;subst eo21)|((with_reducible refine gate_callee (f:=27) rfl ?_);refine goesL_ (some 22) rfl rfl Try.func27 (by kernel_rfl) rfl #[.slice Ao20 t270.length co20,.slice Ao21 t264.length co21] rfl (by (try simp only [mA,mC,mN]);first|done|rfl|(simp only [List.length_drop,List.length_take];done)|(simp only [List.length_drop,List.length_take];rfl)) ?_;(with_reducible refine (laws_eqStretchS.calls k _ _ t270 _ _ t264 true _ ?side1 ?side2 ?side3 ?side4 A7.out).mono ?_);(case side1=>exact kC (Kd.R_reads' HO272.out).2.2);(case side2=>exact (Kd.R_reads' HO272.out).2.1);(case side3=>exact kC (Kd.R_reads' HO266.out).2.2);(case side4=>exact (Kd.R_reads' HO266.out).2.1);rintro e w22 ⟨rfl,hb⟩;refine⟨_,rfl,?_⟩;replace HO263:=mk0 (bR HO263.out hb);replace HO266:=mk0 (bR HO266.out hb);replace HO269:=mk0 (bR HO269.out hb);replace HO272:=mk0 (bR HO272.out hb);replace HB:=mk0 (kS HB.out hb);(try clear hb))|((with_reducible refine gate_callee (f:=12) rfl ?_);refine goesL_ (some 26) rfl rfl Try.func12 (by kernel_rfl) rfl #[.slice A0 l0.length c0] rfl (by (try simp only [mA,mC,mN]);first|done|rfl|(simp only [List.length_drop,List.length_take];done)|(simp only [List.length_drop,List.length_take];rfl)) ?_;(with_reducible refine (laws_toByteS.calls k _ _ l0 t274 _ ?side1 ?side2 A9.out).mono ?_);(case side1=>exact kC (Kd.C_below HR0.out HB.out));(case side2=>exact HC0.out);rintro e w23 ⟨v275,rfl,ho0,hb⟩;refine⟨_,rfl,?_⟩;replace HO266:=mk0 (bR HO266.out hb);replace HO272:=mk0 (bR HO272.out hb);have HO276:=mk0 (Kd.R_lower (Kd.R_new' (Kd.R_new' ho0 (Kd.R_lt (rR HO263.out))) (Kd.R_lt (rR HO269.out))) (kZ HB.out));replace HO263:=mk0 (Kd.R_elder' (rR HO263.out) (Kd.R_base ho0) hb);replace HO269:=mk0 (Kd.R_elder' (rR HO269.out) (Kd.R_base ho0) hb);replace HB:=mk0 (kS HB.out hb);(try clear hb);(try clear ho0);obtain⟨Ao24,co24,eo24⟩:=Kd.R_slice HO276.out;subst eo24)|((with_reducible refine gate_callee (f:=15) rfl ?_);refine goesL_ (some 27) rfl rfl Try.func15 (by kernel_rfl) rfl #[.slice Ao18 t267.length co18,.slice Ao24 t274.length co24] rfl (by (try simp only [mA,mC,mN]);first|done|rfl|(simp only [List.length_drop,List.length_take];done)|(simp only [List.length_drop,List.length_take];rfl)) ?_;(with_reducible refine (laws_eqByteS.calls k _ _ t267 _ _ t274 true _ ?side1 ?side2 ?side3 ?side4 A10.out).mono ?_);(case side1=>exact kC (Kd.R_reads' HO269.out).2.2);(case side2=>exact (Kd.R_reads' HO269.out).2.1);(case side3=>exact kC (Kd.R_reads' HO276.out).2.2);(case side4=>exact (Kd.R_reads' HO276.out).2.1);rintro e w' ⟨rfl,⟨nd,rfl⟩⟩;refine⟨_,rfl,?_⟩)|((with_reducible refine gate_callee (f:=18) rfl ?_);refine goesL_ (some 31) rfl rfl Try.func18 (by kernel_rfl) rfl #[.slice Ao18 t267.length co18,.int .i64 1] rfl (by (try simp only [mA,mC,mN]);first|done|rfl|(simp only [List.length_drop,List.length_take];done)|(simp only [List.length_drop,List.length_take];rfl)) ?_;(with_reducible refine (laws_markByteS.calls k (fun k_=>some k_ = (.slice Ao18 t267.length co18:Value).ownBlock) (.slice Ao18 t267.length co18) t267 1 t278 t279 w _ ?side1 ?side2 A12.out).mono ?_);(case side1=>repeat (first|(with_reducible first|exact HB.out|apply aZ|apply nZ|apply dZ)|exact HB.out));(case side2=>exact Kd.R_tight rfl HO269.out);rintro e w25 ⟨rfl,hy0,hb,hkp⟩;refine⟨_,rfl,?_⟩;replace HO263:=mk0 (Kd.R_mono (ok':=fun k_=>some k_ ≠ (.slice Ao18 t267.length co18:Value).ownBlock ∧ some k_ ≠ (.slice Ao24 t274.length co24:Value).ownBlock) (Kd.R_keptB (HO263.out) hkp (fun k_ hk_ hs_=>(hk_.1.2) hs_)) (fun k_ hk_=>⟨hk_.1.1.2,hk_.1.2⟩));replace HO266:=mk0 (Kd.R_mono (ok':=fun k_=>some k_ ≠ (.slice Ao20 t270.length co20:Value).ownBlock) (Kd.R_keptB ((Kd.R_apart' HO266.out (Kd.R_typed HO269.out) (by decide))) hkp (fun k_ hk_ hs_=>(hk_.2) hs_)) (fun k_ hk_=>hk_.1.1.2));replace HO272:=mk0 (Kd.R_mono (ok':=fun k_=>some k_ ≠ (.slice Ao21 t264.length co21:Value).ownBlock) (Kd.R_keptB ((Kd.R_apart' HO272.out (Kd.R_typed HO269.out) (by decide))) hkp (fun k_ hk_ hs_=>(hk_.2) hs_)) (fun k_ hk_=>hk_.1.1.2));replace HO269:=mk0 (Kd.R_reok rfl hy0 (fun k_ e_=>HO269.out.1 k_ e_));replace HO276:=mk0 (Kd.R_mono (ok':=fun k_=>some k_ ≠ (.slice Ao15 t261.length co15:Value).ownBlock ∧ some k_ ≠ (.slice Ao18 t267.length co18:Value).ownBlock) (Kd.R_keptB (HO276.out) hkp (fun k_ hk_ hs_=>(hk_.2) hs_)) (fun k_ hk_=>⟨hk_.1.1.2,hk_.1.2⟩));replace HB:=mk0 (hb);(try clear hb);(try clear hkp);(try clear hy0)))
 (try simp only [Act.put,sA,sO,sS])
 go_cut [39] (fun v39 wc=>∃ (kq:Nat) (x39_12:Bool),v39 = .bool x39_12 ∧ Aside0 (laws_FnExactStretchAll.j0 kq l0 t264 t270 x39_12 = some r) ∧ Aside0 (kq ≤ k) ∧ Aside0 (Kd.R k27 27 wc w.heap.size (fun k_=>some k_ ≠ ((.slice Ao20 t270.length co20):Value).ownBlock) (.slice Ao21 t264.length co21) t264) ∧ Aside0 (Kd.R k27 27 wc w.heap.size (fun k_=>some k_ ≠ ((.slice Ao21 t264.length co21):Value).ownBlock) (.slice Ao20 t270.length co20) t270) ∧ Aside0 (Below w.heap.size w wc))
 case first =>
  have H:=HC13.out
  clear HC13
  by_cases c26:t278 < 0
  ·rw [if_pos c26] at H
   have c26b0:decide (t278 < 0) = true:=decide_eq_true c26
   clear c26
   (first|rw [c26b0]|(simp only [i64_w,i32_w];rw [c26b0])|skip)
   have H':=mk0 H
   clear H
   go_wp2
   go_meet
   case rel=>exact⟨_,(true),(by first|rfl|(simp;done)|(simp [*];done)),H',⟨by first|omega|exact Nat.le_refl _⟩,⟨rR HO266.out⟩,⟨rR HO272.out⟩,⟨kB HB.out⟩⟩
  rw [if_neg c26] at H
  have c26b0:decide (t278 < 0) = false:=decide_eq_false c26
  clear c26
  (first|rw [c26b0]|(simp only [i64_w,i32_w];rw [c26b0])|skip)
  replace H:=Option.bind_eq_some_iff.mp H
  obtain⟨t280,A270,H⟩:=H
  replace H:(laws_FnExactStretchAll.j0 k l0 t264 t270 (!t280)) = some r:=H
  have A27:=mk0 A270
  clear A270
  have H':=mk0 H
  clear H
  go_wp2_with (first|(go_at_call 27;(with_reducible refine (laws_eqStretchS.calls k _ _ t270 _ _ t264 t280 _ ?side1 ?side2 ?side3 ?side4 A27.out).mono ?_);(case side1=>exact kC (Kd.R_reads' HO272.out).2.2);(case side2=>exact (Kd.R_reads' HO272.out).2.1);(case side3=>exact kC (Kd.R_reads' HO266.out).2.2);(case side4=>exact (Kd.R_reads' HO266.out).2.1);rintro e w28 ⟨rfl,hb⟩;replace HO263:=mk0 (bR HO263.out hb);replace HO266:=mk0 (bR HO266.out hb);replace HO269:=mk0 (bR HO269.out hb);replace HO272:=mk0 (bR HO272.out hb);replace HO276:=mk0 (bR HO276.out hb);replace HB:=mk0 (kS HB.out hb);(try clear hb)))
  go_meet
  case rel=>exact⟨_,(!t280),(by first|rfl|(simp;done)|(simp [*];done)),H',⟨by first|omega|exact Nat.le_refl _⟩,⟨rR HO266.out⟩,⟨rR HO272.out⟩,⟨kB HB.out⟩⟩
 case rest =>
  clear HC13
  try clear c1
  try clear c2
  try clear c2b0
  try clear c2b1
  try clear p2
  try clear c7
  try clear c8
  try clear c11
  try clear c12
  try clear c15
  try clear c18
  try clear c25
  try clear c26
  try clear c26b0
  try clear c27
  obtain⟨kq,x39_12,rfl,HA,HJ12,HO_3,HO_5,HB⟩:=hcut
  cases kq with
  | zero=>exact absurd HA.out (by simp [laws_FnExactStretchAll.j0])
  | succ kj12 =>
   have H:=HA.out
   clear HA
   simp only [laws_FnExactStretchAll.j0] at H
   by_cases c29:x39_12 = true
   ·subst c29
    have H1:(some false) = some r:=by rw [if_pos rfl] at H;exact H
    clear H
    have H:=H1
    clear H1
    obtain rfl:=Option.some.inj H
    go_wp2
    go_ret
    exact⟨by first|rfl|(simp [errW_none,errW_some] <;> rfl)|(simp [*,errW_none,errW_some] <;> rfl),kB HB.out⟩
   replace c29:=Bool.eq_false_iff.mpr c29
   subst c29
   have H1:((laws_markStretchS.f kj12 t270 1).bind fun bt281=>((laws_heldStretchS.f kj12 bt281.2 1).bind fun t283=>(if t283 < 0 then (some false) else (if t283 = bt281.1 then ((laws_toByteS.f kj12 l0).bind fun t284=>((impl_StretchAll.f kj12 t284).bind fun t287=>((laws_eqStretchS.f kj12 t287 t264).bind fun t290=>(if t290 = true then ((laws_heldStretchS.f kj12 bt281.2 1).bind fun t291=>(if t291 < 0 then (some false) else (if t291 = bt281.1 then (some true) else (some false)))) else (some false))))) else (some false))))) = some r:=by rw [if_neg (show ¬ (false = true) by decide)] at H;exact H
   clear H
   have H:=H1
   clear H1
   replace H:=Option.bind_eq_some_iff.mp H
   obtain⟨⟨t281,t282⟩,A300,H⟩:=H
   replace H:((laws_heldStretchS.f kj12 t282 1).bind fun t283=>(if t283 < 0 then (some false) else (if t283 = t281 then ((laws_toByteS.f kj12 l0).bind fun t284=>((impl_StretchAll.f kj12 t284).bind fun t287=>((laws_eqStretchS.f kj12 t287 t264).bind fun t290=>(if t290 = true then ((laws_heldStretchS.f kj12 t282 1).bind fun t291=>(if t291 < 0 then (some false) else (if t291 = t281 then (some true) else (some false)))) else (some false))))) else (some false)))) = some r:=H
   have A30:=mk0 A300
   clear A300
   replace H:=Option.bind_eq_some_iff.mp H
   obtain⟨t283,A310,H⟩:=H
   replace H:(if t283 < 0 then (some false) else (if t283 = t281 then ((laws_toByteS.f kj12 l0).bind fun t284=>((impl_StretchAll.f kj12 t284).bind fun t287=>((laws_eqStretchS.f kj12 t287 t264).bind fun t290=>(if t290 = true then ((laws_heldStretchS.f kj12 t282 1).bind fun t291=>(if t291 < 0 then (some false) else (if t291 = t281 then (some true) else (some false)))) else (some false))))) else (some false))) = some r:=H
   have A31:=mk0 A310
   clear A310
   by_cases c32:t283 < 0
   ·rw [if_pos c32] at H
    have c32b0:decide (t283 < 0) = true:=decide_eq_true c32
    clear c32
    obtain rfl:=Option.some.inj H
    go_wp2_with (first|((with_reducible refine gate_callee (f:=28) rfl ?_);refine goesL_ (some 42) rfl rfl Try.func28 (by kernel_rfl) rfl #[.slice Ao20 t270.length co20,.int .i64 1] rfl (by (try simp only [mA,mC,mN]);first|done|rfl|(simp only [List.length_drop,List.length_take];done)|(simp only [List.length_drop,List.length_take];rfl)) ?_;(with_reducible refine (laws_markStretchS.calls kj12 (fun k_=>some k_ = (.slice Ao20 t270.length co20:Value).ownBlock) (.slice Ao20 t270.length co20) t270 1 t281 t282 w _ ?side1 ?side2 A30.out).mono ?_);(case side1=>repeat (first|(with_reducible first|exact HB.out|apply aZ|apply nZ|apply dZ)|exact HB.out));(case side2=>exact Kd.R_tight rfl HO_5.out);rintro e w33 ⟨rfl,hy0,hb,hkp⟩;refine⟨_,rfl,?_⟩;replace HO_3:=mk0 (Kd.R_mono (ok':=fun k_=>some k_ ≠ (.slice Ao20 t270.length co20:Value).ownBlock) (Kd.R_keptB (HO_3.out) hkp (fun k_ hk_ hs_=>(hk_) hs_)) (fun k_ hk_=>hk_.1));replace HO_5:=mk0 (Kd.R_reok rfl hy0 (fun k_ e_=>HO_5.out.1 k_ e_));replace HB:=mk0 (hb);(try clear hb);(try clear hkp);(try clear hy0))|((with_reducible refine gate_callee (f:=29) rfl ?_);refine goesL_ (some 45) rfl rfl Try.func29 (by kernel_rfl) rfl #[.slice Ao20 t282.length co20,.int .i64 1] rfl (by (try simp only [mA,mC,mN]);first|done|(rw [show t282.length = t270.length from (Kd.R_reads' HO_5.out).1.symm] <;> rfl)|rfl|(simp only [List.length_drop,List.length_take];done)|(simp only [List.length_drop,List.length_take];rfl)) ?_;(with_reducible refine (laws_heldStretchS.calls kj12 _ _ t282 1 t283 _ ?side1 ?side2 A31.out).mono ?_);(case side1=>exact kC (Kd.R_reads' HO_5.out).2.2);(case side2=>rw [show t282.length = t270.length from (Kd.R_reads' HO_5.out).1.symm];exact (Kd.R_reads' HO_5.out).2.1);rintro e w' ⟨rfl,⟨nd,rfl⟩⟩;refine⟨_,rfl,?_⟩))
    go_ret
    exact⟨by first|rfl|(simp [errW_none,errW_some] <;> rfl)|(simp [*,errW_none,errW_some] <;> rfl),kB HB.out⟩
   rw [if_neg c32] at H
   have c32b0:decide (t283 < 0) = false:=decide_eq_false c32
   clear c32
   by_cases c34:t283 = t281
   rotate_left
   ·rw [if_neg c34] at H
    have c34b0:(t283 == t281) = false:=beq_eq_false_iff_ne.mpr c34
    have c34b1:(t283 != t281) = true:=bne_iff_ne.mpr c34
    obtain rfl:=Option.some.inj H
    go_wp2_with (first|((with_reducible refine gate_callee (f:=28) rfl ?_);refine goesL_ (some 42) rfl rfl Try.func28 (by kernel_rfl) rfl #[.slice Ao20 t270.length co20,.int .i64 1] rfl (by (try simp only [mA,mC,mN]);first|done|rfl|(simp only [List.length_drop,List.length_take];done)|(simp only [List.length_drop,List.length_take];rfl)) ?_;(with_reducible refine (laws_markStretchS.calls kj12 (fun k_=>some k_ = (.slice Ao20 t270.length co20:Value).ownBlock) (.slice Ao20 t270.length co20) t270 1 t281 t282 w _ ?side1 ?side2 A30.out).mono ?_);(case side1=>repeat (first|(with_reducible first|exact HB.out|apply aZ|apply nZ|apply dZ)|exact HB.out));(case side2=>exact Kd.R_tight rfl HO_5.out);rintro e w66 ⟨rfl,hy0,hb,hkp⟩;refine⟨_,rfl,?_⟩;replace HO_3:=mk0 (Kd.R_mono (ok':=fun k_=>some k_ ≠ (.slice Ao20 t270.length co20:Value).ownBlock) (Kd.R_keptB (HO_3.out) hkp (fun k_ hk_ hs_=>(hk_) hs_)) (fun k_ hk_=>hk_.1));replace HO_5:=mk0 (Kd.R_reok rfl hy0 (fun k_ e_=>HO_5.out.1 k_ e_));replace HB:=mk0 (hb);(try clear hb);(try clear hkp);(try clear hy0))|((with_reducible refine gate_callee (f:=29) rfl ?_);refine goesL_ (some 45) rfl rfl Try.func29 (by kernel_rfl) rfl #[.slice Ao20 t282.length co20,.int .i64 1] rfl (by (try simp only [mA,mC,mN]);first|done|(rw [show t282.length = t270.length from (Kd.R_reads' HO_5.out).1.symm] <;> rfl)|rfl|(simp only [List.length_drop,List.length_take];done)|(simp only [List.length_drop,List.length_take];rfl)) ?_;(with_reducible refine (laws_heldStretchS.calls kj12 _ _ t282 1 t283 _ ?side1 ?side2 A31.out).mono ?_);(case side1=>exact kC (Kd.R_reads' HO_5.out).2.2);(case side2=>rw [show t282.length = t270.length from (Kd.R_reads' HO_5.out).1.symm];exact (Kd.R_reads' HO_5.out).2.1);rintro e w' ⟨rfl,⟨nd,rfl⟩⟩;refine⟨_,rfl,?_⟩))
    go_ret
    exact⟨by first|rfl|(simp [errW_none,errW_some] <;> rfl)|(simp [*,errW_none,errW_some] <;> rfl),kB HB.out⟩
   rw [if_pos c34] at H
   have c34b0:(t283 == t281) = true:=beq_iff_eq.mpr c34
   have c34b1:(t283 != t281) = false:=bne_eq_false_iff_eq.mpr c34
   clear c34
   replace H:=Option.bind_eq_some_iff.mp H
   obtain⟨t284,A350,H⟩:=H
   replace H:((impl_StretchAll.f kj12 t284).bind fun t287=>((laws_eqStretchS.f kj12 t287 t264).bind fun t290=>(if t290 = true then ((laws_heldStretchS.f kj12 t282 1).bind fun t291=>(if t291 < 0 then (some false) else (if t291 = t281 then (some true) else (some false)))) else (some false)))) = some r:=H
   have A35:=mk0 A350
   clear A350
   replace H:=Option.bind_eq_some_iff.mp H
   obtain⟨t287,A360,H⟩:=H
   replace H:((laws_eqStretchS.f kj12 t287 t264).bind fun t290=>(if t290 = true then ((laws_heldStretchS.f kj12 t282 1).bind fun t291=>(if t291 < 0 then (some false) else (if t291 = t281 then (some true) else (some false)))) else (some false))) = some r:=H
   have A36:=mk0 A360
   clear A360
   replace H:=Option.bind_eq_some_iff.mp H
   obtain⟨t290,A370,H⟩:=H
   replace H:(if t290 = true then ((laws_heldStretchS.f kj12 t282 1).bind fun t291=>(if t291 < 0 then (some false) else (if t291 = t281 then (some true) else (some false)))) else (some false)) = some r:=H
   have A37:=mk0 A370
   clear A370
   by_cases c38:t290 = true
   rotate_left
   ·replace c38:=Bool.eq_false_iff.mpr c38
    subst c38
    have H1:(some false) = some r:=by rw [if_neg (show ¬ (false = true) by decide)] at H;exact H
    clear H
    have H:=H1
    clear H1
    obtain rfl:=Option.some.inj H
    go_wp2_with (first|((with_reducible refine gate_callee (f:=28) rfl ?_);refine goesL_ (some 42) rfl rfl Try.func28 (by kernel_rfl) rfl #[.slice Ao20 t270.length co20,.int .i64 1] rfl (by (try simp only [mA,mC,mN]);first|done|rfl|(simp only [List.length_drop,List.length_take];done)|(simp only [List.length_drop,List.length_take];rfl)) ?_;(with_reducible refine (laws_markStretchS.calls kj12 (fun k_=>some k_ = (.slice Ao20 t270.length co20:Value).ownBlock) (.slice Ao20 t270.length co20) t270 1 t281 t282 w _ ?side1 ?side2 A30.out).mono ?_);(case side1=>repeat (first|(with_reducible first|exact HB.out|apply aZ|apply nZ|apply dZ)|exact HB.out));(case side2=>exact Kd.R_tight rfl HO_5.out);rintro e w60 ⟨rfl,hy0,hb,hkp⟩;refine⟨_,rfl,?_⟩;replace HO_3:=mk0 (Kd.R_mono (ok':=fun k_=>some k_ ≠ (.slice Ao20 t270.length co20:Value).ownBlock) (Kd.R_keptB (HO_3.out) hkp (fun k_ hk_ hs_=>(hk_) hs_)) (fun k_ hk_=>hk_.1));replace HO_5:=mk0 (Kd.R_reok rfl hy0 (fun k_ e_=>HO_5.out.1 k_ e_));replace HB:=mk0 (hb);(try clear hb);(try clear hkp);(try clear hy0))|((with_reducible refine gate_callee (f:=29) rfl ?_);refine goesL_ (some 45) rfl rfl Try.func29 (by kernel_rfl) rfl #[.slice Ao20 t282.length co20,.int .i64 1] rfl (by (try simp only [mA,mC,mN]);first|done|(rw [show t282.length = t270.length from (Kd.R_reads' HO_5.out).1.symm] <;> rfl)|rfl|(simp only [List.length_drop,List.length_take];done)|(simp only [List.length_drop,List.length_take];rfl)) ?_;(with_reducible refine (laws_heldStretchS.calls kj12 _ _ t282 1 t283 _ ?side1 ?side2 A31.out).mono ?_);(case side1=>exact kC (Kd.R_reads' HO_5.out).2.2);(case side2=>rw [show t282.length = t270.length from (Kd.R_reads' HO_5.out).1.symm];exact (Kd.R_reads' HO_5.out).2.1);rintro e w' ⟨rfl,⟨nd,rfl⟩⟩;refine⟨_,rfl,?_⟩)|((with_reducible refine gate_callee (f:=12) rfl ?_);refine goesL_ (some 52) rfl rfl Try.func12 (by kernel_rfl) rfl #[.slice A0 l0.length c0] rfl (by (try simp only [mA,mC,mN]);first|done|rfl|(simp only [List.length_drop,List.length_take];done)|(simp only [List.length_drop,List.length_take];rfl)) ?_;(with_reducible refine (laws_toByteS.calls kj12 _ _ l0 t284 _ ?side1 ?side2 A35.out).mono ?_);(case side1=>repeat (first|exact (Kd.C_below HR0.out (kB HB.out))|(with_reducible first|apply aC|apply nC|apply dC)));(case side2=>exact HC0.out);rintro e w61 ⟨v285,rfl,ho0,hb⟩;refine⟨_,rfl,?_⟩;replace HO_3:=mk0 (bR HO_3.out hb);replace HO_5:=mk0 (bR HO_5.out hb);have HO286:=mk0 (Kd.R_lower ho0 (kZ HB.out));replace HB:=mk0 (kS HB.out hb);(try clear hb);(try clear ho0);obtain⟨Ao62,co62,eo62⟩:=Kd.R_slice HO286.out;subst eo62)|((with_reducible refine gate_callee (f:=26) rfl ?_);refine goesL_ (some 53) rfl rfl Try.func26 (by kernel_rfl) rfl #[.slice Ao62 t284.length co62] rfl (by (try simp only [mA,mC,mN]);first|done|rfl|(simp only [List.length_drop,List.length_take];done)|(simp only [List.length_drop,List.length_take];rfl)) ?_;(with_reducible refine (impl_StretchAll.calls kj12 _ _ t284 t287 _ ?side1 ?side2 A36.out).mono ?_);(case side1=>exact kC (Kd.R_reads' HO286.out).2.2);(case side2=>exact (Kd.R_reads' HO286.out).2.1);rintro e w63 ⟨v288,rfl,ho0,hb⟩;refine⟨_,rfl,?_⟩;replace HO286:=mk0 (bR HO286.out hb);have HO289:=mk0 (Kd.R_lower (Kd.R_new' (Kd.R_new' ho0 (Kd.R_lt (rR HO_3.out))) (Kd.R_lt (rR HO_5.out))) (kZ HB.out));replace HO_3:=mk0 (Kd.R_elder' (rR HO_3.out) (Kd.R_base ho0) hb);replace HO_5:=mk0 (Kd.R_elder' (rR HO_5.out) (Kd.R_base ho0) hb);replace HB:=mk0 (kS HB.out hb);(try clear hb);(try clear ho0);obtain⟨Ao64,co64,eo64⟩:=Kd.R_slice HO289.out;subst eo64)|((with_reducible refine gate_callee (f:=27) rfl ?_);refine goesL_ (some 56) rfl rfl Try.func27 (by kernel_rfl) rfl #[.slice Ao64 t287.length co64,.slice Ao21 t264.length co21] rfl (by (try simp only [mA,mC,mN]);first|done|rfl|(simp only [List.length_drop,List.length_take];done)|(simp only [List.length_drop,List.length_take];rfl)) ?_;(with_reducible refine (laws_eqStretchS.calls kj12 _ _ t287 _ _ t264 false _ ?side1 ?side2 ?side3 ?side4 A37.out).mono ?_);(case side1=>exact kC (Kd.R_reads' HO289.out).2.2);(case side2=>exact (Kd.R_reads' HO289.out).2.1);(case side3=>exact kC (Kd.R_reads' HO_3.out).2.2);(case side4=>exact (Kd.R_reads' HO_3.out).2.1);rintro e w65 ⟨rfl,hb⟩;refine⟨_,rfl,?_⟩;replace HO_3:=mk0 (bR HO_3.out hb);replace HO_5:=mk0 (bR HO_5.out hb);replace HO286:=mk0 (bR HO286.out hb);replace HO289:=mk0 (bR HO289.out hb);replace HB:=mk0 (kS HB.out hb);(try clear hb)))
    go_ret
    exact⟨by first|rfl|(simp [errW_none,errW_some] <;> rfl)|(simp [*,errW_none,errW_some] <;> rfl),kB HB.out⟩
   subst c38
   have H1:((laws_heldStretchS.f kj12 t282 1).bind fun t291=>(if t291 < 0 then (some false) else (if t291 = t281 then (some true) else (some false)))) = some r:=by rw [if_pos rfl] at H;exact H
   clear H
   have H:=H1
   clear H1
   replace H:=Option.bind_eq_some_iff.mp H
   obtain⟨t291,A390,H⟩:=H
   replace H:(if t291 < 0 then (some false) else (if t291 = t281 then (some true) else (some false))) = some r:=H
   have A39:=mk0 A390
   clear A390
   by_cases c40:t291 < 0
   ·rw [if_pos c40] at H
    have c40b0:decide (t291 < 0) = true:=decide_eq_true c40
    clear c40
    obtain rfl:=Option.some.inj H
    go_wp2_with (first|((with_reducible refine gate_callee (f:=28) rfl ?_);refine goesL_ (some 42) rfl rfl Try.func28 (by kernel_rfl) rfl #[.slice Ao20 t270.length co20,.int .i64 1] rfl (by (try simp only [mA,mC,mN]);first|done|rfl|(simp only [List.length_drop,List.length_take];done)|(simp only [List.length_drop,List.length_take];rfl)) ?_;(with_reducible refine (laws_markStretchS.calls kj12 (fun k_=>some k_ = (.slice Ao20 t270.length co20:Value).ownBlock) (.slice Ao20 t270.length co20) t270 1 t281 t282 w _ ?side1 ?side2 A30.out).mono ?_);(case side1=>repeat (first|(with_reducible first|exact HB.out|apply aZ|apply nZ|apply dZ)|exact HB.out));(case side2=>exact Kd.R_tight rfl HO_5.out);rintro e w41 ⟨rfl,hy0,hb,hkp⟩;refine⟨_,rfl,?_⟩;replace HO_3:=mk0 (Kd.R_mono (ok':=fun k_=>some k_ ≠ (.slice Ao20 t270.length co20:Value).ownBlock) (Kd.R_keptB (HO_3.out) hkp (fun k_ hk_ hs_=>(hk_) hs_)) (fun k_ hk_=>hk_.1));replace HO_5:=mk0 (Kd.R_reok rfl hy0 (fun k_ e_=>HO_5.out.1 k_ e_));replace HB:=mk0 (hb);(try clear hb);(try clear hkp);(try clear hy0))|((with_reducible refine gate_callee (f:=29) rfl ?_);refine goesL_ (some 45) rfl rfl Try.func29 (by kernel_rfl) rfl #[.slice Ao20 t282.length co20,.int .i64 1] rfl (by (try simp only [mA,mC,mN]);first|done|(rw [show t282.length = t270.length from (Kd.R_reads' HO_5.out).1.symm] <;> rfl)|rfl|(simp only [List.length_drop,List.length_take];done)|(simp only [List.length_drop,List.length_take];rfl)) ?_;(with_reducible refine (laws_heldStretchS.calls kj12 _ _ t282 1 t283 _ ?side1 ?side2 A31.out).mono ?_);(case side1=>exact kC (Kd.R_reads' HO_5.out).2.2);(case side2=>rw [show t282.length = t270.length from (Kd.R_reads' HO_5.out).1.symm];exact (Kd.R_reads' HO_5.out).2.1);rintro e w' ⟨rfl,⟨nd,rfl⟩⟩;refine⟨_,rfl,?_⟩)|((with_reducible refine gate_callee (f:=12) rfl ?_);refine goesL_ (some 52) rfl rfl Try.func12 (by kernel_rfl) rfl #[.slice A0 l0.length c0] rfl (by (try simp only [mA,mC,mN]);first|done|rfl|(simp only [List.length_drop,List.length_take];done)|(simp only [List.length_drop,List.length_take];rfl)) ?_;(with_reducible refine (laws_toByteS.calls kj12 _ _ l0 t284 _ ?side1 ?side2 A35.out).mono ?_);(case side1=>repeat (first|exact (Kd.C_below HR0.out (kB HB.out))|(with_reducible first|apply aC|apply nC|apply dC)));(case side2=>exact HC0.out);rintro e w42 ⟨v285,rfl,ho0,hb⟩;refine⟨_,rfl,?_⟩;replace HO_3:=mk0 (bR HO_3.out hb);replace HO_5:=mk0 (bR HO_5.out hb);have HO286:=mk0 (Kd.R_lower ho0 (kZ HB.out));replace HB:=mk0 (kS HB.out hb);(try clear hb);(try clear ho0);obtain⟨Ao43,co43,eo43⟩:=Kd.R_slice HO286.out;subst eo43)|((with_reducible refine gate_callee (f:=26) rfl ?_);refine goesL_ (some 53) rfl rfl Try.func26 (by kernel_rfl) rfl #[.slice Ao43 t284.length co43] rfl (by (try simp only [mA,mC,mN]);first|done|rfl|(simp only [List.length_drop,List.length_take];done)|(simp only [List.length_drop,List.length_take];rfl)) ?_;(with_reducible refine (impl_StretchAll.calls kj12 _ _ t284 t287 _ ?side1 ?side2 A36.out).mono ?_);(case side1=>exact kC (Kd.R_reads' HO286.out).2.2);(case side2=>exact (Kd.R_reads' HO286.out).2.1);rintro e w44 ⟨v288,rfl,ho0,hb⟩;refine⟨_,rfl,?_⟩;replace HO286:=mk0 (bR HO286.out hb);have HO289:=mk0 (Kd.R_lower (Kd.R_new' (Kd.R_new' ho0 (Kd.R_lt (rR HO_3.out))) (Kd.R_lt (rR HO_5.out))) (kZ HB.out));replace HO_3:=mk0 (Kd.R_elder' (rR HO_3.out) (Kd.R_base ho0) hb);replace HO_5:=mk0 (Kd.R_elder' (rR HO_5.out) (Kd.R_base ho0) hb);replace HB:=mk0 (kS HB.out hb);(try clear hb);(try clear ho0);obtain⟨Ao45,co45,eo45⟩:=Kd.R_slice HO289.out;subst eo45)|((with_reducible refine gate_callee (f:=27) rfl ?_);refine goesL_ (some 56) rfl rfl Try.func27 (by kernel_rfl) rfl #[.slice Ao45 t287.length co45,.slice Ao21 t264.length co21] rfl (by (try simp only [mA,mC,mN]);first|done|rfl|(simp only [List.length_drop,List.length_take];done)|(simp only [List.length_drop,List.length_take];rfl)) ?_;(with_reducible refine (laws_eqStretchS.calls kj12 _ _ t287 _ _ t264 true _ ?side1 ?side2 ?side3 ?side4 A37.out).mono ?_);(case side1=>exact kC (Kd.R_reads' HO289.out).2.2);(case side2=>exact (Kd.R_reads' HO289.out).2.1);(case side3=>exact kC (Kd.R_reads' HO_3.out).2.2);(case side4=>exact (Kd.R_reads' HO_3.out).2.1);rintro e w46 ⟨rfl,hb⟩;refine⟨_,rfl,?_⟩;replace HO_3:=mk0 (bR HO_3.out hb);replace HO_5:=mk0 (bR HO_5.out hb);replace HO286:=mk0 (bR HO286.out hb);replace HO289:=mk0 (bR HO289.out hb);replace HB:=mk0 (kS HB.out hb);(try clear hb))|((with_reducible refine gate_callee (f:=29) rfl ?_);refine goesL_ (some 60) rfl rfl Try.func29 (by kernel_rfl) rfl #[.slice Ao20 t282.length co20,.int .i64 1] rfl (by (try simp only [mA,mC,mN]);first|done|(rw [show t282.length = t270.length from (Kd.R_reads' HO_5.out).1.symm] <;> rfl)|rfl|(simp only [List.length_drop,List.length_take];done)|(simp only [List.length_drop,List.length_take];rfl)) ?_;(with_reducible refine (laws_heldStretchS.calls kj12 _ _ t282 1 t291 _ ?side1 ?side2 A39.out).mono ?_);(case side1=>exact kC (Kd.R_reads' HO_5.out).2.2);(case side2=>rw [show t282.length = t270.length from (Kd.R_reads' HO_5.out).1.symm];exact (Kd.R_reads' HO_5.out).2.1);rintro e w' ⟨rfl,⟨nd,rfl⟩⟩;refine⟨_,rfl,?_⟩))
    go_ret
    exact⟨by first|rfl|(simp [errW_none,errW_some] <;> rfl)|(simp [*,errW_none,errW_some] <;> rfl),kB HB.out⟩
   rw [if_neg c40] at H
   have c40b0:decide (t291 < 0) = false:=decide_eq_false c40
   clear c40
   by_cases c47:t291 = t281
   rotate_left
   ·rw [if_neg c47] at H
    have c47b0:(t291 == t281) = false:=beq_eq_false_iff_ne.mpr c47
    have c47b1:(t291 != t281) = true:=bne_iff_ne.mpr c47
    obtain rfl:=Option.some.inj H
    go_wp2_with (first|((with_reducible refine gate_callee (f:=28) rfl ?_);refine goesL_ (some 42) rfl rfl Try.func28 (by kernel_rfl) rfl #[.slice Ao20 t270.length co20,.int .i64 1] rfl (by (try simp only [mA,mC,mN]);first|done|rfl|(simp only [List.length_drop,List.length_take];done)|(simp only [List.length_drop,List.length_take];rfl)) ?_;(with_reducible refine (laws_markStretchS.calls kj12 (fun k_=>some k_ = (.slice Ao20 t270.length co20:Value).ownBlock) (.slice Ao20 t270.length co20) t270 1 t281 t282 w _ ?side1 ?side2 A30.out).mono ?_);(case side1=>repeat (first|(with_reducible first|exact HB.out|apply aZ|apply nZ|apply dZ)|exact HB.out));(case side2=>exact Kd.R_tight rfl HO_5.out);rintro e w54 ⟨rfl,hy0,hb,hkp⟩;refine⟨_,rfl,?_⟩;replace HO_3:=mk0 (Kd.R_mono (ok':=fun k_=>some k_ ≠ (.slice Ao20 t270.length co20:Value).ownBlock) (Kd.R_keptB (HO_3.out) hkp (fun k_ hk_ hs_=>(hk_) hs_)) (fun k_ hk_=>hk_.1));replace HO_5:=mk0 (Kd.R_reok rfl hy0 (fun k_ e_=>HO_5.out.1 k_ e_));replace HB:=mk0 (hb);(try clear hb);(try clear hkp);(try clear hy0))|((with_reducible refine gate_callee (f:=29) rfl ?_);refine goesL_ (some 45) rfl rfl Try.func29 (by kernel_rfl) rfl #[.slice Ao20 t282.length co20,.int .i64 1] rfl (by (try simp only [mA,mC,mN]);first|done|(rw [show t282.length = t270.length from (Kd.R_reads' HO_5.out).1.symm] <;> rfl)|rfl|(simp only [List.length_drop,List.length_take];done)|(simp only [List.length_drop,List.length_take];rfl)) ?_;(with_reducible refine (laws_heldStretchS.calls kj12 _ _ t282 1 t283 _ ?side1 ?side2 A31.out).mono ?_);(case side1=>exact kC (Kd.R_reads' HO_5.out).2.2);(case side2=>rw [show t282.length = t270.length from (Kd.R_reads' HO_5.out).1.symm];exact (Kd.R_reads' HO_5.out).2.1);rintro e w' ⟨rfl,⟨nd,rfl⟩⟩;refine⟨_,rfl,?_⟩)|((with_reducible refine gate_callee (f:=12) rfl ?_);refine goesL_ (some 52) rfl rfl Try.func12 (by kernel_rfl) rfl #[.slice A0 l0.length c0] rfl (by (try simp only [mA,mC,mN]);first|done|rfl|(simp only [List.length_drop,List.length_take];done)|(simp only [List.length_drop,List.length_take];rfl)) ?_;(with_reducible refine (laws_toByteS.calls kj12 _ _ l0 t284 _ ?side1 ?side2 A35.out).mono ?_);(case side1=>repeat (first|exact (Kd.C_below HR0.out (kB HB.out))|(with_reducible first|apply aC|apply nC|apply dC)));(case side2=>exact HC0.out);rintro e w55 ⟨v285,rfl,ho0,hb⟩;refine⟨_,rfl,?_⟩;replace HO_3:=mk0 (bR HO_3.out hb);replace HO_5:=mk0 (bR HO_5.out hb);have HO286:=mk0 (Kd.R_lower ho0 (kZ HB.out));replace HB:=mk0 (kS HB.out hb);(try clear hb);(try clear ho0);obtain⟨Ao56,co56,eo56⟩:=Kd.R_slice HO286.out;subst eo56)|((with_reducible refine gate_callee (f:=26) rfl ?_);refine goesL_ (some 53) rfl rfl Try.func26 (by kernel_rfl) rfl #[.slice Ao56 t284.length co56] rfl (by (try simp only [mA,mC,mN]);first|done|rfl|(simp only [List.length_drop,List.length_take];done)|(simp only [List.length_drop,List.length_take];rfl)) ?_;(with_reducible refine (impl_StretchAll.calls kj12 _ _ t284 t287 _ ?side1 ?side2 A36.out).mono ?_);(case side1=>exact kC (Kd.R_reads' HO286.out).2.2);(case side2=>exact (Kd.R_reads' HO286.out).2.1);rintro e w57 ⟨v288,rfl,ho0,hb⟩;refine⟨_,rfl,?_⟩;replace HO286:=mk0 (bR HO286.out hb);have HO289:=mk0 (Kd.R_lower (Kd.R_new' (Kd.R_new' ho0 (Kd.R_lt (rR HO_3.out))) (Kd.R_lt (rR HO_5.out))) (kZ HB.out));replace HO_3:=mk0 (Kd.R_elder' (rR HO_3.out) (Kd.R_base ho0) hb);replace HO_5:=mk0 (Kd.R_elder' (rR HO_5.out) (Kd.R_base ho0) hb);replace HB:=mk0 (kS HB.out hb);(try clear hb);(try clear ho0);obtain⟨Ao58,co58,eo58⟩:=Kd.R_slice HO289.out;subst eo58)|((with_reducible refine gate_callee (f:=27) rfl ?_);refine goesL_ (some 56) rfl rfl Try.func27 (by kernel_rfl) rfl #[.slice Ao58 t287.length co58,.slice Ao21 t264.length co21] rfl (by (try simp only [mA,mC,mN]);first|done|rfl|(simp only [List.length_drop,List.length_take];done)|(simp only [List.length_drop,List.length_take];rfl)) ?_;(with_reducible refine (laws_eqStretchS.calls kj12 _ _ t287 _ _ t264 true _ ?side1 ?side2 ?side3 ?side4 A37.out).mono ?_);(case side1=>exact kC (Kd.R_reads' HO289.out).2.2);(case side2=>exact (Kd.R_reads' HO289.out).2.1);(case side3=>exact kC (Kd.R_reads' HO_3.out).2.2);(case side4=>exact (Kd.R_reads' HO_3.out).2.1);rintro e w59 ⟨rfl,hb⟩;refine⟨_,rfl,?_⟩;replace HO_3:=mk0 (bR HO_3.out hb);replace HO_5:=mk0 (bR HO_5.out hb);replace HO286:=mk0 (bR HO286.out hb);replace HO289:=mk0 (bR HO289.out hb);replace HB:=mk0 (kS HB.out hb);(try clear hb))|((with_reducible refine gate_callee (f:=29) rfl ?_);refine goesL_ (some 60) rfl rfl Try.func29 (by kernel_rfl) rfl #[.slice Ao20 t282.length co20,.int .i64 1] rfl (by (try simp only [mA,mC,mN]);first|done|(rw [show t282.length = t270.length from (Kd.R_reads' HO_5.out).1.symm] <;> rfl)|rfl|(simp only [List.length_drop,List.length_take];done)|(simp only [List.length_drop,List.length_take];rfl)) ?_;(with_reducible refine (laws_heldStretchS.calls kj12 _ _ t282 1 t291 _ ?side1 ?side2 A39.out).mono ?_);(case side1=>exact kC (Kd.R_reads' HO_5.out).2.2);(case side2=>rw [show t282.length = t270.length from (Kd.R_reads' HO_5.out).1.symm];exact (Kd.R_reads' HO_5.out).2.1);rintro e w' ⟨rfl,⟨nd,rfl⟩⟩;refine⟨_,rfl,?_⟩))
    go_ret
    exact⟨by first|rfl|(simp [errW_none,errW_some] <;> rfl)|(simp [*,errW_none,errW_some] <;> rfl),kB HB.out⟩
   rw [if_pos c47] at H
   have c47b0:(t291 == t281) = true:=beq_iff_eq.mpr c47
   have c47b1:(t291 != t281) = false:=bne_eq_false_iff_eq.mpr c47
   clear c47
   obtain rfl:=Option.some.inj H
   go_wp2_with (first|((with_reducible refine gate_callee (f:=28) rfl ?_);refine goesL_ (some 42) rfl rfl Try.func28 (by kernel_rfl) rfl #[.slice Ao20 t270.length co20,.int .i64 1] rfl (by (try simp only [mA,mC,mN]);first|done|rfl|(simp only [List.length_drop,List.length_take];done)|(simp only [List.length_drop,List.length_take];rfl)) ?_;(with_reducible refine (laws_markStretchS.calls kj12 (fun k_=>some k_ = (.slice Ao20 t270.length co20:Value).ownBlock) (.slice Ao20 t270.length co20) t270 1 t281 t282 w _ ?side1 ?side2 A30.out).mono ?_);(case side1=>repeat (first|(with_reducible first|exact HB.out|apply aZ|apply nZ|apply dZ)|exact HB.out));(case side2=>exact Kd.R_tight rfl HO_5.out);rintro e w48 ⟨rfl,hy0,hb,hkp⟩;refine⟨_,rfl,?_⟩;replace HO_3:=mk0 (Kd.R_mono (ok':=fun k_=>some k_ ≠ (.slice Ao20 t270.length co20:Value).ownBlock) (Kd.R_keptB (HO_3.out) hkp (fun k_ hk_ hs_=>(hk_) hs_)) (fun k_ hk_=>hk_.1));replace HO_5:=mk0 (Kd.R_reok rfl hy0 (fun k_ e_=>HO_5.out.1 k_ e_));replace HB:=mk0 (hb);(try clear hb);(try clear hkp);(try clear hy0))|((with_reducible refine gate_callee (f:=29) rfl ?_);refine goesL_ (some 45) rfl rfl Try.func29 (by kernel_rfl) rfl #[.slice Ao20 t282.length co20,.int .i64 1] rfl (by (try simp only [mA,mC,mN]);first|done|(rw [show t282.length = t270.length from (Kd.R_reads' HO_5.out).1.symm] <;> rfl)|rfl|(simp only [List.length_drop,List.length_take];done)|(simp only [List.length_drop,List.length_take];rfl)) ?_;(with_reducible refine (laws_heldStretchS.calls kj12 _ _ t282 1 t283 _ ?side1 ?side2 A31.out).mono ?_);(case side1=>exact kC (Kd.R_reads' HO_5.out).2.2);(case side2=>rw [show t282.length = t270.length from (Kd.R_reads' HO_5.out).1.symm];exact (Kd.R_reads' HO_5.out).2.1);rintro e w' ⟨rfl,⟨nd,rfl⟩⟩;refine⟨_,rfl,?_⟩)|((with_reducible refine gate_callee (f:=12) rfl ?_);refine goesL_ (some 52) rfl rfl Try.func12 (by kernel_rfl) rfl #[.slice A0 l0.length c0] rfl (by (try simp only [mA,mC,mN]);first|done|rfl|(simp only [List.length_drop,List.length_take];done)|(simp only [List.length_drop,List.length_take];rfl)) ?_;(with_reducible refine (laws_toByteS.calls kj12 _ _ l0 t284 _ ?side1 ?side2 A35.out).mono ?_);(case side1=>repeat (first|exact (Kd.C_below HR0.out (kB HB.out))|(with_reducible first|apply aC|apply nC|apply dC)));(case side2=>exact HC0.out);rintro e w49 ⟨v285,rfl,ho0,hb⟩;refine⟨_,rfl,?_⟩;replace HO_3:=mk0 (bR HO_3.out hb);replace HO_5:=mk0 (bR HO_5.out hb);have HO286:=mk0 (Kd.R_lower ho0 (kZ HB.out));replace HB:=mk0 (kS HB.out hb);(try clear hb);(try clear ho0);obtain⟨Ao50,co50,eo50⟩:=Kd.R_slice HO286.out;subst eo50)|((with_reducible refine gate_callee (f:=26) rfl ?_);refine goesL_ (some 53) rfl rfl Try.func26 (by kernel_rfl) rfl #[.slice Ao50 t284.length co50] rfl (by (try simp only [mA,mC,mN]);first|done|rfl|(simp only [List.length_drop,List.length_take];done)|(simp only [List.length_drop,List.length_take];rfl)) ?_;(with_reducible refine (impl_StretchAll.calls kj12 _ _ t284 t287 _ ?side1 ?side2 A36.out).mono ?_);(case side1=>exact kC (Kd.R_reads' HO286.out).2.2);(case side2=>exact (Kd.R_reads' HO286.out).2.1);rintro e w51 ⟨v288,rfl,ho0,hb⟩;refine⟨_,rfl,?_⟩;replace HO286:=mk0 (bR HO286.out hb);have HO289:=mk0 (Kd.R_lower (Kd.R_new' (Kd.R_new' ho0 (Kd.R_lt (rR HO_3.out))) (Kd.R_lt (rR HO_5.out))) (kZ HB.out));replace HO_3:=mk0 (Kd.R_elder' (rR HO_3.out) (Kd.R_base ho0) hb);replace HO_5:=mk0 (Kd.R_elder' (rR HO_5.out) (Kd.R_base ho0) hb);replace HB:=mk0 (kS HB.out hb);(try clear hb);(try clear ho0);obtain⟨Ao52,co52,eo52⟩:=Kd.R_slice HO289.out;subst eo52)|((with_reducible refine gate_callee (f:=27) rfl ?_);refine goesL_ (some 56) rfl rfl Try.func27 (by kernel_rfl) rfl #[.slice Ao52 t287.length co52,.slice Ao21 t264.length co21] rfl (by (try simp only [mA,mC,mN]);first|done|rfl|(simp only [List.length_drop,List.length_take];done)|(simp only [List.length_drop,List.length_take];rfl)) ?_;(with_reducible refine (laws_eqStretchS.calls kj12 _ _ t287 _ _ t264 true _ ?side1 ?side2 ?side3 ?side4 A37.out).mono ?_);(case side1=>exact kC (Kd.R_reads' HO289.out).2.2);(case side2=>exact (Kd.R_reads' HO289.out).2.1);(case side3=>exact kC (Kd.R_reads' HO_3.out).2.2);(case side4=>exact (Kd.R_reads' HO_3.out).2.1);rintro e w53 ⟨rfl,hb⟩;refine⟨_,rfl,?_⟩;replace HO_3:=mk0 (bR HO_3.out hb);replace HO_5:=mk0 (bR HO_5.out hb);replace HO286:=mk0 (bR HO286.out hb);replace HO289:=mk0 (bR HO289.out hb);replace HB:=mk0 (kS HB.out hb);(try clear hb))|((with_reducible refine gate_callee (f:=29) rfl ?_);refine goesL_ (some 60) rfl rfl Try.func29 (by kernel_rfl) rfl #[.slice Ao20 t282.length co20,.int .i64 1] rfl (by (try simp only [mA,mC,mN]);first|done|(rw [show t282.length = t270.length from (Kd.R_reads' HO_5.out).1.symm] <;> rfl)|rfl|(simp only [List.length_drop,List.length_take];done)|(simp only [List.length_drop,List.length_take];rfl)) ?_;(with_reducible refine (laws_heldStretchS.calls kj12 _ _ t282 1 t291 _ ?side1 ?side2 A39.out).mono ?_);(case side1=>exact kC (Kd.R_reads' HO_5.out).2.2);(case side2=>rw [show t282.length = t270.length from (Kd.R_reads' HO_5.out).1.symm];exact (Kd.R_reads' HO_5.out).2.1);rintro e w' ⟨rfl,⟨nd,rfl⟩⟩;refine⟨_,rfl,?_⟩))
   go_ret
   exact⟨by first|rfl|(simp [errW_none,errW_some] <;> rfl)|(simp [*,errW_none,errW_some] <;> rfl),kB HB.out⟩
/-- THE ONE PURE STATEMENT of laws_FnExactStretchAll: yours. -/
def laws_FnExactStretchAll.Pure : Prop := ∀ (l0 : List Int), l0.length ≤ maxLen → l0.length * 1 ≤ 140737488351232 → (∀ x ∈ l0, (Lit.int .u8 x).wf = true) → ∃ k, laws_FnExactStretchAll.f k l0 = some true
theorem laws_FnExactStretchAll.walk (P : laws_FnExactStretchAll.Pure) (a0 : Option Addr) (len0 cap0 : Nat) (z0 : List Int) (w : World) (w0 : (a0 = none ∧ len0 = 0 ∧ cap0 = 0 ∧ z0 = []) ∨ ∃ x, a0 = some x ∧ len0 ≤ cap0 ∧ cap0 ≤ maxLen ∧ z0.length = cap0 ∧ (∀ i, i < z0.length → w.cell? (x.add i) = some (.int .u8 (z0.getD i 0))) ∧ ∀ n ∈ z0, (Lit.int .u8 n).wf = true) (y0 : len0 * 1 ≤ 140737488351232) :
    Calls Try.prog 7 #[.slice a0 len0 cap0] w fun e w' => e = .returned (.bool true) ∧ Below w.heap.size w w' := by
  obtain ⟨l0, rfl, hr0, hm0, hw0, hc0⟩ := ReadsInt.ofRowC w0
  obtain ⟨k, h⟩ := P l0 hm0 y0 hw0
  refine (laws_FnExactStretchAll.calls k _ _ l0 true w (Kd.C_of_reads (d := (0 : Int)) (h1 := fun _ => rfl) hr0) hc0 h).mono ?_
  rintro e w' ⟨rfl, hd⟩
  exact ⟨rfl, hd⟩

end Go.Proofs.Ytoinagnieobbpaa.QFnExactStretchAll
