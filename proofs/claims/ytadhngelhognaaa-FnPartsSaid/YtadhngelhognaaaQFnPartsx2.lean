-- A walk, made by walk.py, a program of this session's.
import Derived.Test.YtadhngelhognaaaQFnPartsx0
import Derived.Test.YtadhngelhognaaaQFnPartsx1
namespace Go.Proofs.Ytadhngelhognaaa.QFnParts
open Go.RowKit Go.Proofs.YtadhngelhognaaaW.PrintWords Go.Proofs.YtadhngelhognaaaW.PrintLast Go.Proofs.YtadhngelhognaaaW.PrintMore
attribute [local go_sem] max2_int min2_int max_two min_two max_three min_three max_four min_four   -- for this text's walks alone
set_option linter.unusedVariables false
set_option linter.unusedSimpArgs false

/-! ### spec_l01Cur_twin: function 45 -/
mutual
def spec_l01Cur_twin.l0 : Nat → Int → List Int → Int → List Int → List Int → Int → Int → Option (List Int × List Int × Int × Int)
 | 0, _, _, _, _, _, _, _ => none
 | k + 1, x1, x7, x8, x13, x1000, x1001, x1002 => if x8 > 0 then ((spec_l01Cur_pick.f x1000 x1001 x1002 (wrap64 ((x7.length : Int) + 1))).bind fun bt162 => ((some (([(⟨#[]⟩ : ByteArray), (⟨#[97]⟩ : ByteArray), (⟨#[98]⟩ : ByteArray), (⟨#[122, 122]⟩ : ByteArray)] : List ByteArray) : List ByteArray)).bind fun y165 => ((spec_l01Cur_pick.f x1000 bt162.2.1 bt162.2.2 4).bind fun bt168 => (if 0 ≤ bt168.1 then (if bt168.1 < (y165.length : Int) then ((some (([] : List Int) : List Int)).bind fun y172 => (if 0 ≤ bt162.1 then (if bt162.1 ≤ (x7.length : Int) then ((some (x7.take (bt162.1 : Int).toNat : List Int)).bind fun y175 => (if y172.length + y175.length < 140737488355328 then ((some (y172 ++ y175 : List Int)).bind fun y179 => (if y179.length + (rdOf ByteArray.empty y165 bt168.1).size < 140737488355328 then ((some (y179 ++ bytesOf (rdOf ByteArray.empty y165 bt168.1) : List Int)).bind fun y182 => ((spec_l01Cur_pick.f x1000 bt168.2.1 bt168.2.2 3).bind fun bt185 => (if 0 ≤ (mn (x7.length : Int) (wrap64 (bt162.1 + bt185.1))) then (if (mn (x7.length : Int) (wrap64 (bt162.1 + bt185.1))) ≤ (x7.length : Int) then ((some (x7.drop ((mn (x7.length : Int) (wrap64 (bt162.1 + bt185.1))) : Int).toNat : List Int)).bind fun y188 => (if y182.length + y188.length < 140737488355328 then (spec_l01Cur_twin.l0 k x1 (y182 ++ y188) (wrap64 (x8 - 1)) x13 x1000 bt185.2.1 bt185.2.2) else (none))) else (none)) else (none)))) else (none))) else (none))) else (none)) else (none))) else (none)) else (none))))) else ((spec_l01Cur_once.f x1000 x1001 x1002 6).bind fun bt195 => (if bt195.1 = true then ((spec_l01Cur_textOf.f k x1000 bt195.2.1 bt195.2.2 x1).bind fun bt198 => (spec_l01Cur_twin.j1 k x1 x13 bt198.1 x1000 bt198.2.1 bt198.2.2)) else (spec_l01Cur_twin.j1 k x1 x13 x7 x1000 bt195.2.1 bt195.2.2)))
def spec_l01Cur_twin.j1 : Nat → Int → List Int → List Int → List Int → Int → Int → Option (List Int × List Int × Int × Int)
 | 0, _, _, _, _, _, _ => none
 | k + 1, x1, x6, x7, x1000, x1001, x1002 => if (x7.length : Int) > x1 then (if 0 ≤ x1 then (if x1 ≤ (x7.length : Int) then (some (x6, (x7.take (x1 : Int).toNat), x1001, x1002)) else (none)) else (none)) else (some (x6, x7, x1001, x1002))
end
def spec_l01Cur_twin.f (k : Nat) (s0_0 : List Int) (s0_1 : Int) (s0_2 : Int) (a1 : Int) : Option (List Int × List Int × Int × Int) := (spec_l01Cur_textOf.f k s0_0 s0_1 s0_2 a1).bind fun bt148 => ((some (([] : List Int) : List Int)).bind fun y153 => (if y153.length + bt148.1.length < 140737488355328 then ((spec_l01Cur_pick.f s0_0 bt148.2.1 bt148.2.2 4).bind fun bt159 => (spec_l01Cur_twin.l0 k a1 (y153 ++ bt148.1) bt159.1 bt148.1 s0_0 bt159.2.1 bt159.2.2)) else (none)))
theorem spec_l01Cur_twin.mono_l : ∀ k, (∀ y0 y1 y2 y3 y4 y5 y6, LeO (spec_l01Cur_twin.l0 k y0 y1 y2 y3 y4 y5 y6) (spec_l01Cur_twin.l0 (k + 1) y0 y1 y2 y3 y4 y5 y6)) ∧ (∀ y0 y1 y2 y3 y4 y5, LeO (spec_l01Cur_twin.j1 k y0 y1 y2 y3 y4 y5) (spec_l01Cur_twin.j1 (k + 1) y0 y1 y2 y3 y4 y5))
 | 0 => ⟨fun _ _ _ _ _ _ _ r h => by simp [spec_l01Cur_twin.l0] at h, fun _ _ _ _ _ _ r h => by simp [spec_l01Cur_twin.j1] at h⟩
 | k + 1 => by
  obtain ⟨ih0, ih1⟩ := spec_l01Cur_twin.mono_l k
  refine ⟨?_, ?_⟩
  ·intro y0 y1 y2 y3 y4 y5 y6
   unfold spec_l01Cur_twin.l0
   repeat' first|(with_reducible first|exact ih0 _ _ _ _ _ _ _|exact ih1 _ _ _ _ _ _|exact spec_l01Cur_textOf.mono _ _ _ _ _|exact LeO.refl _|exact LeO.none _|refine LeO.ite ?_ ?_|refine LeO.bind ?_ (fun _ => ?_))|exact LeO.none _|refine LeO.ite ?_ ?_|refine LeO.bind ?_ (fun _ => ?_)
  ·intro y0 y1 y2 y3 y4 y5
   unfold spec_l01Cur_twin.j1
   repeat' first|(with_reducible first|exact ih0 _ _ _ _ _ _ _|exact ih1 _ _ _ _ _ _|exact spec_l01Cur_textOf.mono _ _ _ _ _|exact LeO.refl _|exact LeO.none _|refine LeO.ite ?_ ?_|refine LeO.bind ?_ (fun _ => ?_))|exact LeO.none _|refine LeO.ite ?_ ?_|refine LeO.bind ?_ (fun _ => ?_)
theorem spec_l01Cur_twin.mono : ∀ a0 a1 a2 a3 k, LeO (spec_l01Cur_twin.f k a0 a1 a2 a3) (spec_l01Cur_twin.f (k + 1) a0 a1 a2 a3) := by
 intro a0 a1 a2 a3 k
 obtain ⟨ih0, ih1⟩ := spec_l01Cur_twin.mono_l k
 unfold spec_l01Cur_twin.f
 repeat' first|(with_reducible first|exact ih0 _ _ _ _ _ _ _|exact ih1 _ _ _ _ _ _|exact spec_l01Cur_textOf.mono _ _ _ _ _|exact LeO.refl _|exact LeO.none _|refine LeO.ite ?_ ?_|refine LeO.bind ?_ (fun _ => ?_))|exact LeO.none _|refine LeO.ite ?_ ?_|refine LeO.bind ?_ (fun _ => ?_)
set_option maxHeartbeats 8000000 in
set_option maxRecDepth 100000 in
theorem spec_l01Cur_twin.calls (k : Nat) (g : Nat) (s0_0 : List Int) (s0_1 : Int) (s0_2 : Int) (a1 : Int) (r1 : List Int) (r2 : List Int) (r3 : Int) (r4 : Int) (w0 w : World) (hI : IsS79 w0 w g s0_0 s0_1 s0_2) (hB : Below w0.heap.size w0 w) (h : spec_l01Cur_twin.f k s0_0 s0_1 s0_2 a1 = some (r1, r2, r3, r4)) :
  Calls Try.prog 45 #[.pointer (some ⟨g, 0, none⟩), .int .i64 a1] w fun e w' => ∃ v0_ v1_ : Value, e = .returned (.tuple #[v0_, v1_]) ∧ Kd.R (Kd.int .u8) 5 w' w.heap.size (fun k_ => some k_ ≠ (v1_ : Value).ownBlock) v0_ r1 ∧ Kd.R (Kd.int .u8) 5 w' w.heap.size (fun k_ => some k_ ≠ (v0_ : Value).ownBlock) v1_ r2 ∧ IsS79 w0 w' g s0_0 r3 r4 ∧ Below w0.heap.size w0 w' ∧ KeepBut w w' g none := by
 have HI0:=mk0 hI
 have HK:=mk0 (KeepBut.refl w g none)
 have HL:=mk0 hB.size
 clear hI
 have HW0:=mk0 hB.size
 have HB:=mk0 hB
 clear hB
 have H:((spec_l01Cur_textOf.f k s0_0 s0_1 s0_2 a1).bind fun bt148=>((some (([]:List Int):List Int)).bind fun y153=>(if y153.length + bt148.1.length < 140737488355328 then ((spec_l01Cur_pick.f s0_0 bt148.2.1 bt148.2.2 4).bind fun bt159=>(spec_l01Cur_twin.l0 k a1 (y153 ++ bt148.1) bt159.1 bt148.1 s0_0 bt159.2.1 bt159.2.2)) else (none)))) = some (r1,r2,r3,r4):=h
 clear h
 replace H:=Option.bind_eq_some_iff.mp H
 obtain⟨⟨t148,t151,t152⟩,A30,H⟩:=H
 replace H:((some (([]:List Int):List Int)).bind fun y153=>(if y153.length + t148.length < 140737488355328 then ((spec_l01Cur_pick.f s0_0 t151 t152 4).bind fun bt159=>(spec_l01Cur_twin.l0 k a1 (y153 ++ t148) bt159.1 t148 s0_0 bt159.2.1 bt159.2.2)) else (none))) = some (r1,r2,r3,r4):=H
 have A3:=mk0 A30
 clear A30
 obtain⟨y153,hy153⟩:∃ y_:List Int,y_ = (([]:List Int)):=⟨_,rfl⟩
 replace H:(if y153.length + t148.length < 140737488355328 then ((spec_l01Cur_pick.f s0_0 t151 t152 4).bind fun bt159=>(spec_l01Cur_twin.l0 k a1 (y153 ++ t148) bt159.1 t148 s0_0 bt159.2.1 bt159.2.2)) else (none)) = some (r1,r2,r3,r4):=by first|(rw [hy153];with_reducible exact H)|(have H2_:=(Option.bind_some _ _).symm.trans H;rw [hy153];with_reducible exact H2_)|(have H2_:=(Option.bind_some _ _).symm.trans H;with_reducible exact H2_)|with_reducible exact H|(rw [hy153];exact H)|exact H
 have Ny153:=mk0 hy153
 clear hy153
 by_cases c4:y153.length + t148.length < 140737488355328
 rotate_left
 ·rw [if_neg c4] at H
  exact absurd H (by simp)

 rw [if_pos c4] at H
 have LMc4:=mk0 c4
 clear c4
 obtain⟨y156,hy156⟩:∃ y_:List Int,y_ = (y153 ++ t148):=⟨_,rfl⟩
 replace H:((spec_l01Cur_pick.f s0_0 t151 t152 4).bind fun bt159=>(spec_l01Cur_twin.l0 k a1 y156 bt159.1 t148 s0_0 bt159.2.1 bt159.2.2)) = some (r1,r2,r3,r4):=by first|(rw [hy156];with_reducible exact H)|(have H2_:=(Option.bind_some _ _).symm.trans H;rw [hy156];with_reducible exact H2_)|(have H2_:=(Option.bind_some _ _).symm.trans H;with_reducible exact H2_)|with_reducible exact H|(rw [hy156];exact H)|exact H
 have Ny156:=mk0 hy156
 clear hy156
 replace H:=Option.bind_eq_some_iff.mp H
 obtain⟨⟨t159,t160,t161⟩,A50,H⟩:=H
 replace H:(spec_l01Cur_twin.l0 k a1 y156 t159 t148 s0_0 t160 t161) = some (r1,r2,r3,r4):=H
 have A5:=mk0 A50
 clear A50
 have H':=mk0 H
 clear H
 go_enter Try.func45,Try.ntmps45
 go_wp2_with (first|((with_reducible refine gate_callee (f:=67) rfl ?_);refine gL (some 13) Try.func67 #[.pointer (some ⟨g,0,none⟩),.int .i64 a1] ?_;(with_reducible refine (spec_l01Cur_textOf.calls k g s0_0 s0_1 s0_2 a1 t148 t151 t152 w0 _ ?side1 ?side2 A3.out).mono ?_);(case side1=>repeat (first|(with_reducible first|exact HI0.out|apply IsS79.alloc|apply IsS79.drewN|apply IsS79.drew|apply IsS79.set_1|apply IsS79.set_2)|exact HI0.out));(case side2=>repeat (first|(with_reducible first|exact HB.out|apply aZ|apply nZ|apply dZ|refine sZ ?_ (IsS79.ge HI0.out))|exact HB.out));rintro e w6 ⟨v149,rfl,ho0,hi,hb,hk⟩;refine⟨_,rfl,?_⟩;have HO150:=mk0 (Kd.R_lower ho0 (keep_size (w:=w) (g:=g) (row:=none) (by repeat (first|(with_reducible first|exact HK.out|apply KeepBut.set_|apply keep_drewN|apply keep_drew|apply keep_alloc)|exact HK.out))));replace HK:=mk0 (KeepBut.trans (by repeat (first|(with_reducible first|exact HK.out|apply KeepBut.set_|apply keep_drewN|apply keep_drew|apply keep_alloc)|exact HK.out)) hk (.inl rfl));replace HB:=mk0 (hb);replace HI0:=mk0 (hi);(try clear hb);(try clear hk);(try clear hi);(try clear ho0))|((with_reducible refine gate_dst (N:=14) rfl ?_);refine Kd.R_lit (Kd.int .u8) _ 5 ?hg (N:=14) ?hd (xs:=([]:List Int)) (inner:=[]) (ok:=fun _=>True) (okp:=fun _=>True) ?hr ?hp (fun _ hk=>hk) trivial (Below.refl _ _) (Nat.le_refl _) (by simp) ?_;(case hd=>rfl);(case hg=>rfl);(case hr=>first|(go_simp;done)|(go_simp;rfl));(case hp=>exact (Reps.none _ _));intro v154 w7 ho8 hb hg_ hnew_;clear hg_ hnew_;(first|rw [← Ny153.out] at ho8|(simp only [Int.reduceToNat] at ho8;rw [← Ny153.out] at ho8));have HO155:=mk0 (Kd.R_lower (Kd.R_new' ho8 (Kd.R_lt (rR HO150.out))) (keep_size (w:=w) (g:=g) (row:=none) (by repeat (first|(with_reducible first|exact HK.out|apply KeepBut.set_|apply keep_drewN|apply keep_drew|apply keep_alloc)|exact HK.out))));replace HO150:=mk0 (Kd.R_elder' (rR HO150.out) (Kd.R_base ho8) hb);replace HK:=mk0 (KeepBut.trans (by repeat (first|(with_reducible first|exact HK.out|apply KeepBut.set_|apply keep_drewN|apply keep_drew|apply keep_alloc)|exact HK.out)) (KeepBut.of_below hb g none) (.inl rfl));replace HB:=mk0 (below_step (by repeat (first|(with_reducible first|exact HB.out|apply aZ|apply nZ|apply dZ|refine sZ ?_ (IsS79.ge HI0.out))|exact HB.out)) hb);replace HI0:=mk0 (IsS79.below (by repeat (first|(with_reducible first|exact HI0.out|apply IsS79.alloc|apply IsS79.drewN|apply IsS79.drew|apply IsS79.set_1|apply IsS79.set_2)|exact HI0.out)) hb);clear hb ho8;obtain⟨Ao10,co10,eo10⟩:=Kd.R_slice HO150.out;subst eo10)|((with_reducible refine gate_builtin (b:=.append) (xs:=#[.tmp 14,.tmp 15]) rfl ?_);at_builtin;refine Kd.R_append_rows (Kd.int .u8) w.heap.size rfl (.tmp 14) (.tmp 15) 22 5 (.int .u8 0) 1 rfl Try.underlying22 info5 rfl (by decide) (by omega) v154 y153 t148 _ _ _ (fun k_=>some k_ ≠ (.slice Ao10 t148.length co10:Value).ownBlock) (fun _=>False) rfl rfl ?aO ?aR (fun _ _ h=>h) (fun _ h=>h.elim) ?aF (Below.refl _ _) ?aS ?aL ?_;(case aR=>repeat (first|exact (Kd.R_reads' HO150.out).2.2|(with_reducible first|apply aC|apply nC|apply dC)));(case aF=>exact (fun k_ hk=>Kd.fresh' (Kd.R_lt (rR HO150.out)) k_ hk));(case aO=>exact (rR (Kd.R_mono HO155.out (fun _ hk=>hk.2))));(case aS=>exact (keep_size (w:=w) (g:=g) (row:=none) (by repeat (first|(with_reducible first|exact HK.out|apply KeepBut.set_|apply keep_drewN|apply keep_drew|apply keep_alloc)|exact HK.out))));(case aL=>have:=LMc4.out;omega);intro v157 w9 ho hb hg hat;rw [← Ny156.out] at ho;replace HO150:=mk0 (Kd.R_after (ok:=(fun _=>True)) (rR HO150.out) hg hat);replace HB:=mk0 (below_weaken (by repeat (first|(with_reducible first|exact HB.out|apply aZ|apply nZ|apply dZ|refine sZ ?_ (IsS79.ge HI0.out))|exact HB.out)) HL.out hb);replace HI0:=mk0 (IsS79.grown (by repeat (first|(with_reducible first|exact HI0.out|apply IsS79.alloc|apply IsS79.drewN|apply IsS79.drew|apply IsS79.set_1|apply IsS79.set_2)|exact HI0.out)) hg (IsS79.own_ne HI0.out HO155.out (by decide)));replace HK:=mk0 (KeepBut.trans (by repeat (first|(with_reducible first|exact HK.out|apply KeepBut.set_|apply keep_drewN|apply keep_drew|apply keep_alloc)|exact HK.out)) (KeepBut.of_grown hg g) (Kd.R_base2 HO155.out));have HO158:=mk0 (ho);clear HO155 ho hb hg hat)|((with_reducible refine gate_callee (f:=68) rfl ?_);refine gL (some 18) Try.func68 #[.pointer (some ⟨g,0,none⟩),.int .i64 4] ?_;(with_reducible refine (spec_l01Cur_pick.calls g s0_0 t151 t152 4 t159 t160 t161 w0 _ ?side1 ?side2 A5.out).mono ?_);(case side1=>repeat (first|(with_reducible first|exact HI0.out|apply IsS79.alloc|apply IsS79.drewN|apply IsS79.drew|apply IsS79.set_1|apply IsS79.set_2)|exact HI0.out));(case side2=>repeat (first|(with_reducible first|exact HB.out|apply aZ|apply nZ|apply dZ|refine sZ ?_ (IsS79.ge HI0.out))|exact HB.out));rintro e w11 ⟨rfl,hi,hb,hk⟩;refine⟨_,rfl,?_⟩;replace HO150:=mk0 (Kd.R_mono (Kd.R_keep (IsS79.apart (show IsS79 w0 _ g s0_0 t151 t152 from by repeat (first|(with_reducible first|exact HI0.out|apply IsS79.alloc|apply IsS79.drewN|apply IsS79.drew|apply IsS79.set_1|apply IsS79.set_2)|exact HI0.out)) (rR HO150.out) (by decide)) hk (fun _ h=>h.2)) (fun _ h=>h.1));replace HO158:=mk0 (Kd.R_mono (Kd.R_keep (IsS79.apart (show IsS79 w0 _ g s0_0 t151 t152 from by repeat (first|(with_reducible first|exact HI0.out|apply IsS79.alloc|apply IsS79.drewN|apply IsS79.drew|apply IsS79.set_1|apply IsS79.set_2)|exact HI0.out)) (rR HO158.out) (by decide)) hk (fun _ h=>h.2)) (fun _ h=>h.1));replace HK:=mk0 (KeepBut.trans (by repeat (first|(with_reducible first|exact HK.out|apply KeepBut.set_|apply keep_drewN|apply keep_drew|apply keep_alloc)|exact HK.out)) hk (.inl rfl));replace HB:=mk0 (hb);replace HI0:=mk0 (hi);(try clear hb);(try clear hk);(try clear hi)))
 go_loopg [7,8] k (fun kq v7 v8 w'=>∃ (x7_1:List Int) (x8_1:Int) (x1001_1:Int) (x1002_1:Int),v8 = .int .i64 x8_1 ∧ Aside0 (spec_l01Cur_twin.l0 kq a1 x7_1 x8_1 t148 s0_0 x1001_1 x1002_1 = some (r1,r2,r3,r4)) ∧ Aside0 (kq ≤ k) ∧ Aside0 (Kd.R (Kd.int .u8) 5 w' w.heap.size (fun k_=>some k_ ≠ ((.slice Ao10 t148.length co10):Value).ownBlock) v7 x7_1) ∧ Aside0 (Kd.R (Kd.int .u8) 5 w' w.heap.size (fun k_=>some k_ ≠ (v7:Value).ownBlock) (.slice Ao10 t148.length co10) t148) ∧ Aside0 (IsS79 w0 w' g s0_0 x1001_1 x1002_1) ∧ Aside0 (KeepBut w w' g none) ∧ Aside0 (Below w0.heap.size w0 w'))
 case atStart=>exact⟨(y156),(t159),(t160),(t161),(by first|rfl|(simp;done)|(simp [*];done)),H',⟨Nat.le_refl _⟩,⟨rR HO158.out⟩,⟨rR (Kd.R_mono HO150.out (fun _ hk=>hk.2))⟩,⟨by repeat (first|(with_reducible first|exact HI0.out|apply IsS79.alloc|apply IsS79.drewN|apply IsS79.drew|apply IsS79.set_1|apply IsS79.set_2)|exact HI0.out)⟩,⟨by repeat (first|(with_reducible first|exact HK.out|apply KeepBut.set_|apply keep_drewN|apply keep_drew|apply keep_alloc)|exact HK.out)⟩,⟨by repeat (first|(with_reducible first|exact HB.out|apply aZ|apply nZ|apply dZ|refine sZ ?_ (IsS79.ge HI0.out))|exact HB.out)⟩⟩
 case round =>
  clear H'
  try clear p2
  try clear c4
  try clear c6
  obtain⟨x7_1,x8_1,x1001_1,x1002_1,rfl,HA,HK1,HO_7,HO_13,HI0,HK,HB⟩:=hrel
  cases gk with
  | zero=>exact absurd HA.out (by simp [spec_l01Cur_twin.l0])
  | succ k1 =>
   have H:=HA.out
   clear HA
   simp only [spec_l01Cur_twin.l0] at H
   by_cases c12:x8_1 > 0
   rotate_left
   ·rw [if_neg c12] at H
    have c12b0:decide (0 < x8_1) = false:=decide_eq_false c12
    clear c12
    replace H:=Option.bind_eq_some_iff.mp H
    obtain⟨⟨t195,t196,t197⟩,A410,H⟩:=H
    replace H:(if t195 = true then ((spec_l01Cur_textOf.f k1 s0_0 t196 t197 a1).bind fun bt198=>(spec_l01Cur_twin.j1 k1 a1 t148 bt198.1 s0_0 bt198.2.1 bt198.2.2)) else (spec_l01Cur_twin.j1 k1 a1 t148 x7_1 s0_0 t196 t197)) = some (r1,r2,r3,r4):=H
    have A41:=mk0 A410
    clear A410
    have HC42:=mk0 H
    clear H
    go_upto_if 52 with (first|((with_reducible refine gate_callee (f:=69) rfl ?_);refine gL (some 52) Try.func69 #[.pointer (some ⟨g,0,none⟩),.int .i64 6] ?_;(with_reducible refine (spec_l01Cur_once.calls g s0_0 x1001_1 x1002_1 6 t195 t196 t197 w0 _ ?side1 ?side2 A41.out).mono ?_);(case side1=>repeat (first|(with_reducible first|exact HI0.out|apply IsS79.alloc|apply IsS79.drewN|apply IsS79.drew|apply IsS79.set_1|apply IsS79.set_2)|exact HI0.out));(case side2=>repeat (first|(with_reducible first|exact HB.out|apply aZ|apply nZ|apply dZ|refine sZ ?_ (IsS79.ge HI0.out))|exact HB.out));rintro e w43 ⟨rfl,hi,hb,hk⟩;refine⟨_,rfl,?_⟩;replace HO_7:=mk0 (Kd.R_mono (Kd.R_keep (IsS79.apart (show IsS79 w0 _ g s0_0 x1001_1 x1002_1 from by repeat (first|(with_reducible first|exact HI0.out|apply IsS79.alloc|apply IsS79.drewN|apply IsS79.drew|apply IsS79.set_1|apply IsS79.set_2)|exact HI0.out)) (rR HO_7.out) (by decide)) hk (fun _ h=>h.2)) (fun _ h=>h.1));replace HO_13:=mk0 (Kd.R_mono (Kd.R_keep (IsS79.apart (show IsS79 w0 _ g s0_0 x1001_1 x1002_1 from by repeat (first|(with_reducible first|exact HI0.out|apply IsS79.alloc|apply IsS79.drewN|apply IsS79.drew|apply IsS79.set_1|apply IsS79.set_2)|exact HI0.out)) (rR HO_13.out) (by decide)) hk (fun _ h=>h.2)) (fun _ h=>h.1));replace HK:=mk0 (KeepBut.trans (by repeat (first|(with_reducible first|exact HK.out|apply KeepBut.set_|apply keep_drewN|apply keep_drew|apply keep_alloc)|exact HK.out)) hk (.inl rfl));replace HB:=mk0 (hb);replace HI0:=mk0 (hi);(try clear hb);(try clear hk);(try clear hi)))
    (try simp only [Act.put,sA,sO,sS])
    go_cut [7] (fun v7 wc=>∃ (kq:Nat) (x7_41:List Int) (x1001_41:Int) (x1002_41:Int),Aside0 (spec_l01Cur_twin.j1 kq a1 t148 x7_41 s0_0 x1001_41 x1002_41 = some (r1,r2,r3,r4)) ∧ Aside0 (kq ≤ k1) ∧ Aside0 (Kd.R (Kd.int .u8) 5 wc w.heap.size (fun k_=>some k_ ≠ (v7:Value).ownBlock) (.slice Ao10 t148.length co10) t148) ∧ Aside0 (Kd.R (Kd.int .u8) 5 wc w.heap.size (fun k_=>some k_ ≠ ((.slice Ao10 t148.length co10):Value).ownBlock) v7 x7_41) ∧ Aside0 (IsS79 w0 wc g s0_0 x1001_41 x1002_41) ∧ Aside0 (KeepBut w wc g none) ∧ Aside0 (Below w0.heap.size w0 wc))
    case first =>
     have H:=HC42.out
     clear HC42
     by_cases c44:t195 = true
     rotate_left
     ·replace c44:=Bool.eq_false_iff.mpr c44
      subst c44
      have H1:(spec_l01Cur_twin.j1 k1 a1 t148 x7_1 s0_0 t196 t197) = some (r1,r2,r3,r4):=by rw [if_neg (show ¬ (false = true) by decide)] at H;exact H
      clear H
      have H:=H1
      clear H1
      have H':=mk0 H
      clear H
      go_wp2
      go_meet
      case rel=>exact⟨_,(x7_1),(t196),(t197),H',⟨by have:=HK1.out;first|omega|exact Nat.le_refl _⟩,⟨rR HO_13.out⟩,⟨rR HO_7.out⟩,⟨by repeat (first|(with_reducible first|exact HI0.out|apply IsS79.alloc|apply IsS79.drewN|apply IsS79.drew|apply IsS79.set_1|apply IsS79.set_2)|exact HI0.out)⟩,⟨by repeat (first|(with_reducible first|exact HK.out|apply KeepBut.set_|apply keep_drewN|apply keep_drew|apply keep_alloc)|exact HK.out)⟩,⟨by repeat (first|(with_reducible first|exact HB.out|apply aZ|apply nZ|apply dZ|refine sZ ?_ (IsS79.ge HI0.out))|exact HB.out)⟩⟩
     subst c44
     have H1:((spec_l01Cur_textOf.f k1 s0_0 t196 t197 a1).bind fun bt198=>(spec_l01Cur_twin.j1 k1 a1 t148 bt198.1 s0_0 bt198.2.1 bt198.2.2)) = some (r1,r2,r3,r4):=by rw [if_pos rfl] at H;exact H
     clear H
     have H:=H1
     clear H1
     replace H:=Option.bind_eq_some_iff.mp H
     obtain⟨⟨t198,t201,t202⟩,A450,H⟩:=H
     replace H:(spec_l01Cur_twin.j1 k1 a1 t148 t198 s0_0 t201 t202) = some (r1,r2,r3,r4):=H
     have A45:=mk0 A450
     clear A450
     have H':=mk0 H
     clear H
     go_wp2_with (first|((with_reducible refine gate_callee (f:=67) rfl ?_);refine gL (some 55) Try.func67 #[.pointer (some ⟨g,0,none⟩),.int .i64 a1] ?_;(with_reducible refine (spec_l01Cur_textOf.calls k1 g s0_0 t196 t197 a1 t198 t201 t202 w0 _ ?side1 ?side2 A45.out).mono ?_);(case side1=>repeat (first|(with_reducible first|exact HI0.out|apply IsS79.alloc|apply IsS79.drewN|apply IsS79.drew|apply IsS79.set_1|apply IsS79.set_2)|exact HI0.out));(case side2=>repeat (first|(with_reducible first|exact HB.out|apply aZ|apply nZ|apply dZ|refine sZ ?_ (IsS79.ge HI0.out))|exact HB.out));rintro e w46 ⟨v199,rfl,ho0,hi,hb,hk⟩;refine⟨_,rfl,?_⟩;have HO200:=mk0 (Kd.R_lower (Kd.R_new' (Kd.R_new' ho0 (Kd.R_lt (rR HO_7.out))) (Kd.R_lt (rR HO_13.out))) (keep_size (w:=w) (g:=g) (row:=none) (by repeat (first|(with_reducible first|exact HK.out|apply KeepBut.set_|apply keep_drewN|apply keep_drew|apply keep_alloc)|exact HK.out))));replace HO_7:=mk0 (Kd.R_mono (Kd.R_told (Kd.R_oldK (IsS79.apart (show IsS79 w0 _ g s0_0 t196 t197 from by repeat (first|(with_reducible first|exact HI0.out|apply IsS79.alloc|apply IsS79.drewN|apply IsS79.drew|apply IsS79.set_1|apply IsS79.set_2)|exact HI0.out)) (rR HO_7.out) (by decide)) hk) (Kd.R_base ho0)) (fun _ h_=>h_.1));replace HO_13:=mk0 (Kd.R_mono (Kd.R_told (Kd.R_oldK (IsS79.apart (show IsS79 w0 _ g s0_0 t196 t197 from by repeat (first|(with_reducible first|exact HI0.out|apply IsS79.alloc|apply IsS79.drewN|apply IsS79.drew|apply IsS79.set_1|apply IsS79.set_2)|exact HI0.out)) (rR HO_13.out) (by decide)) hk) (Kd.R_base ho0)) (fun _ h_=>h_.1));replace HK:=mk0 (KeepBut.trans (by repeat (first|(with_reducible first|exact HK.out|apply KeepBut.set_|apply keep_drewN|apply keep_drew|apply keep_alloc)|exact HK.out)) hk (.inl rfl));replace HB:=mk0 (hb);replace HI0:=mk0 (hi);(try clear hb);(try clear hk);(try clear hi);(try clear ho0)))
     go_meet
     case rel=>exact⟨_,(t198),(t201),(t202),H',⟨by have:=HK1.out;first|omega|exact Nat.le_refl _⟩,⟨rR (Kd.R_mono HO_13.out (fun _ hk=>hk.2))⟩,⟨rR (Kd.R_mono HO200.out (fun _ hk=>hk.2))⟩,⟨by repeat (first|(with_reducible first|exact HI0.out|apply IsS79.alloc|apply IsS79.drewN|apply IsS79.drew|apply IsS79.set_1|apply IsS79.set_2)|exact HI0.out)⟩,⟨by repeat (first|(with_reducible first|exact HK.out|apply KeepBut.set_|apply keep_drewN|apply keep_drew|apply keep_alloc)|exact HK.out)⟩,⟨by repeat (first|(with_reducible first|exact HB.out|apply aZ|apply nZ|apply dZ|refine sZ ?_ (IsS79.ge HI0.out))|exact HB.out)⟩⟩
    case rest =>
     clear HC42
     try clear c1
     try clear p1
     try clear q1
     try clear hx1
     try clear c2
     try clear p2
     try clear c3
     try clear q3
     try clear hcv3
     try clear c4
     try clear c6
     try clear p6
     try clear c12
     try clear c12b0
     try clear c15
     try clear c15b0
     try clear c16
     try clear c16b0
     try clear c17
     try clear c17b0
     try clear c17b1
     try clear p17
     try clear q17
     try clear hx17
     try clear c18
     try clear c18b0
     try clear c18b1
     try clear c19
     try clear c20
     try clear c23
     try clear c23b0
     try clear c23b1
     try clear c24
     try clear c24b0
     try clear c24b1
     try clear c25
     try clear q34
     try clear hcv37
     try clear c39
     try clear q39
     try clear c44
     try clear c45
     try clear hx171_0
     try clear p171
     try clear p2
     try clear q039
     try clear q171
     try clear q34
     try clear q39
     obtain⟨kq,x7_41,x1001_41,x1002_41,HA,HJ41,HO_6,HO_7,HI0,HK,HB⟩:=hcut
     cases kq with
     | zero=>exact absurd HA.out (by simp [spec_l01Cur_twin.j1])
     | succ kj41 =>
      have H:=HA.out
      clear HA
      simp only [spec_l01Cur_twin.j1] at H
      by_cases c47:(x7_41.length:Int) > a1
      rotate_left
      ·rw [if_neg c47] at H
       have c47b0:decide (a1 < (x7_41.length:Int)) = false:=decide_eq_false c47
       clear c47
       simp only [Option.some.injEq,Prod.mk.injEq] at H
       obtain⟨rfl,rfl,rfl,rfl⟩:=H
       obtain⟨Ao52,co52,eo52⟩:=Kd.R_slice HO_7.out
       subst eo52
       go_wp2
       go_ret2
       exact⟨_,_,by first|rfl|(simp [errW_none,errW_some] <;> rfl)|(simp [*,errW_none,errW_some] <;> rfl),rR HO_6.out,rR HO_7.out,by repeat (first|(with_reducible first|exact HI0.out|apply IsS79.alloc|apply IsS79.drewN|apply IsS79.drew|apply IsS79.set_1|apply IsS79.set_2)|exact HI0.out),by repeat (first|(with_reducible first|exact HB.out|apply aZ|apply nZ|apply dZ|refine sZ ?_ (IsS79.ge HI0.out))|exact HB.out),by repeat (first|(with_reducible first|exact HK.out|apply KeepBut.set_|apply keep_drewN|apply keep_drew|apply keep_alloc)|exact HK.out)⟩
      rw [if_pos c47] at H
      have c47b0:decide (a1 < (x7_41.length:Int)) = true:=decide_eq_true c47
      clear c47
      by_cases c48:0 ≤ a1
      rotate_left
      ·rw [if_neg c48] at H
       exact absurd H (by simp)
      rw [if_pos c48] at H
      have c48b0:=eq_true c48
      have c48b1:decide (0 ≤ a1) = true:=decide_eq_true c48
      clear c48
      by_cases c49:a1 ≤ (x7_41.length:Int)
      rotate_left
      ·rw [if_neg c49] at H
       exact absurd H (by simp)
      rw [if_pos c49] at H
      have c49b0:=eq_true c49
      have c49b1:decide (a1 ≤ (x7_41.length:Int)) = true:=decide_eq_true c49
      clear c49
      obtain⟨y203,hy203⟩:∃ y_:List Int,y_ = (x7_41.take (a1:Int).toNat):=⟨_,rfl⟩
      replace H:(some (t148,y203,x1001_41,x1002_41)) = some (r1,r2,r3,r4):=by first|(rw [hy203];with_reducible exact H)|(have H2_:=(Option.bind_some _ _).symm.trans H;rw [hy203];with_reducible exact H2_)|(have H2_:=(Option.bind_some _ _).symm.trans H;with_reducible exact H2_)|with_reducible exact H|(rw [hy203];exact H)|exact H
      have Ny203:=mk0 hy203
      clear hy203
      simp only [Option.some.injEq,Prod.mk.injEq] at H
      obtain⟨rfl,rfl,rfl,rfl⟩:=H
      obtain⟨Ao50,co50,eo50⟩:=Kd.R_slice HO_7.out
      subst eo50
      have q51:(a1:Int) ≤ ((x7_41.length:Int):Int):=of_decide_eq_true (by first|(with_reducible assumption)|assumption)
      obtain⟨i051,hi051,_,hsz51,_⟩:=info_parts info5
      have hcut51:=cut_to (P:=Try.prog) 22 5 .i64 Try.underlying22 hi051 Ao50 x7_41.length co50 a1 (of_decide_eq_true (by first|(with_reducible assumption)|assumption)) q51 (Kd.R_reads' HO_7.out).2.1
      have hr51:=Kd.R_take (m:=(a1:Int).toNat) HO_7.out (by omega)
      have hy51:y203.length = (a1:Int).toNat:=(by rw [Ny203.out,List.length_take];omega)
      rw [← Ny203.out] at hr51
      rw [← hy51] at hr51 hcut51
      clear hy51 hi051 hsz51 HO_7
      have HO205:=mk0 hr51
      clear hr51
      replace q51:=eq_true q51
      go_wp2
      go_ret2
      exact⟨_,.slice Ao50 y203.length co50,by first|rfl|(simp [errW_none,errW_some] <;> rfl)|(simp [*,errW_none,errW_some] <;> rfl),(by have e_:(.slice Ao50 y203.length co50:Value).ownBlock = (.slice Ao50 x7_41.length co50:Value).ownBlock:=(by rcases Ao50 with _|⟨b_,o_,p_⟩ <;> first|rfl|(rcases o_ with _|o_ <;> rcases p_ with _|p_ <;> rfl));rw [e_];exact rR HO_6.out),rR HO205.out,by repeat (first|(with_reducible first|exact HI0.out|apply IsS79.alloc|apply IsS79.drewN|apply IsS79.drew|apply IsS79.set_1|apply IsS79.set_2)|exact HI0.out),by repeat (first|(with_reducible first|exact HB.out|apply aZ|apply nZ|apply dZ|refine sZ ?_ (IsS79.ge HI0.out))|exact HB.out),by repeat (first|(with_reducible first|exact HK.out|apply KeepBut.set_|apply keep_drewN|apply keep_drew|apply keep_alloc)|exact HK.out)⟩
   rw [if_pos c12] at H
   have c12b0:decide (0 < x8_1) = true:=decide_eq_true c12
   clear c12
   replace H:=Option.bind_eq_some_iff.mp H
   obtain⟨⟨t162,t163,t164⟩,A130,H⟩:=H
   replace H:((some (([(⟨#[]⟩:ByteArray),(⟨#[97]⟩:ByteArray),(⟨#[98]⟩:ByteArray),(⟨#[122,122]⟩:ByteArray)]:List ByteArray):List ByteArray)).bind fun y165=>((spec_l01Cur_pick.f s0_0 t163 t164 4).bind fun bt168=>(if 0 ≤ bt168.1 then (if bt168.1 < (y165.length:Int) then ((some (([]:List Int):List Int)).bind fun y172=>(if 0 ≤ t162 then (if t162 ≤ (x7_1.length:Int) then ((some (x7_1.take (t162:Int).toNat:List Int)).bind fun y175=>(if y172.length + y175.length < 140737488355328 then ((some (y172 ++ y175:List Int)).bind fun y179=>(if y179.length + (rdOf ByteArray.empty y165 bt168.1).size < 140737488355328 then ((some (y179 ++ bytesOf (rdOf ByteArray.empty y165 bt168.1):List Int)).bind fun y182=>((spec_l01Cur_pick.f s0_0 bt168.2.1 bt168.2.2 3).bind fun bt185=>(if 0 ≤ (mn (x7_1.length:Int) (wrap64 (t162 + bt185.1))) then (if (mn (x7_1.length:Int) (wrap64 (t162 + bt185.1))) ≤ (x7_1.length:Int) then ((some (x7_1.drop ((mn (x7_1.length:Int) (wrap64 (t162 + bt185.1))):Int).toNat:List Int)).bind fun y188=>(if y182.length + y188.length < 140737488355328 then (spec_l01Cur_twin.l0 k1 a1 (y182 ++ y188) (wrap64 (x8_1 - 1)) t148 s0_0 bt185.2.1 bt185.2.2) else (none))) else (none)) else (none)))) else (none))) else (none))) else (none)) else (none))) else (none)) else (none)))) = some (r1,r2,r3,r4):=H
   have A13:=mk0 A130
   clear A130
   obtain⟨y165,hy165⟩:∃ y_:List ByteArray,y_ = (([(⟨#[]⟩:ByteArray),(⟨#[97]⟩:ByteArray),(⟨#[98]⟩:ByteArray),(⟨#[122,122]⟩:ByteArray)]:List ByteArray)):=⟨_,rfl⟩
   replace H:((spec_l01Cur_pick.f s0_0 t163 t164 4).bind fun bt168=>(if 0 ≤ bt168.1 then (if bt168.1 < (y165.length:Int) then ((some (([]:List Int):List Int)).bind fun y172=>(if 0 ≤ t162 then (if t162 ≤ (x7_1.length:Int) then ((some (x7_1.take (t162:Int).toNat:List Int)).bind fun y175=>(if y172.length + y175.length < 140737488355328 then ((some (y172 ++ y175:List Int)).bind fun y179=>(if y179.length + (rdOf ByteArray.empty y165 bt168.1).size < 140737488355328 then ((some (y179 ++ bytesOf (rdOf ByteArray.empty y165 bt168.1):List Int)).bind fun y182=>((spec_l01Cur_pick.f s0_0 bt168.2.1 bt168.2.2 3).bind fun bt185=>(if 0 ≤ (mn (x7_1.length:Int) (wrap64 (t162 + bt185.1))) then (if (mn (x7_1.length:Int) (wrap64 (t162 + bt185.1))) ≤ (x7_1.length:Int) then ((some (x7_1.drop ((mn (x7_1.length:Int) (wrap64 (t162 + bt185.1))):Int).toNat:List Int)).bind fun y188=>(if y182.length + y188.length < 140737488355328 then (spec_l01Cur_twin.l0 k1 a1 (y182 ++ y188) (wrap64 (x8_1 - 1)) t148 s0_0 bt185.2.1 bt185.2.2) else (none))) else (none)) else (none)))) else (none))) else (none))) else (none)) else (none))) else (none)) else (none))) = some (r1,r2,r3,r4):=by first|(rw [hy165];with_reducible exact H)|(have H2_:=(Option.bind_some _ _).symm.trans H;rw [hy165];with_reducible exact H2_)|(have H2_:=(Option.bind_some _ _).symm.trans H;with_reducible exact H2_)|with_reducible exact H|(rw [hy165];exact H)|exact H
   have Ny165:=mk0 hy165
   clear hy165
   replace H:=Option.bind_eq_some_iff.mp H
   obtain⟨⟨t168,t169,t170⟩,A140,H⟩:=H
   replace H:(if 0 ≤ t168 then (if t168 < (y165.length:Int) then ((some (([]:List Int):List Int)).bind fun y172=>(if 0 ≤ t162 then (if t162 ≤ (x7_1.length:Int) then ((some (x7_1.take (t162:Int).toNat:List Int)).bind fun y175=>(if y172.length + y175.length < 140737488355328 then ((some (y172 ++ y175:List Int)).bind fun y179=>(if y179.length + (rdOf ByteArray.empty y165 t168).size < 140737488355328 then ((some (y179 ++ bytesOf (rdOf ByteArray.empty y165 t168):List Int)).bind fun y182=>((spec_l01Cur_pick.f s0_0 t169 t170 3).bind fun bt185=>(if 0 ≤ (mn (x7_1.length:Int) (wrap64 (t162 + bt185.1))) then (if (mn (x7_1.length:Int) (wrap64 (t162 + bt185.1))) ≤ (x7_1.length:Int) then ((some (x7_1.drop ((mn (x7_1.length:Int) (wrap64 (t162 + bt185.1))):Int).toNat:List Int)).bind fun y188=>(if y182.length + y188.length < 140737488355328 then (spec_l01Cur_twin.l0 k1 a1 (y182 ++ y188) (wrap64 (x8_1 - 1)) t148 s0_0 bt185.2.1 bt185.2.2) else (none))) else (none)) else (none)))) else (none))) else (none))) else (none)) else (none))) else (none)) else (none)) = some (r1,r2,r3,r4):=H
   have A14:=mk0 A140
   clear A140
   by_cases c15:0 ≤ t168
   rotate_left
   ·rw [if_neg c15] at H
    exact absurd H (by simp)
   rw [if_pos c15] at H
   have c15b0:decide (0 ≤ t168) = true:=decide_eq_true c15
   clear c15
   by_cases c16:t168 < (y165.length:Int)
   rotate_left
   ·rw [if_neg c16] at H
    exact absurd H (by simp)
   rw [if_pos c16] at H
   have c16b0:decide (t168 < (y165.length:Int)) = true:=decide_eq_true c16
   clear c16
   obtain⟨y172,hy172⟩:∃ y_:List Int,y_ = (([]:List Int)):=⟨_,rfl⟩
   replace H:(if 0 ≤ t162 then (if t162 ≤ (x7_1.length:Int) then ((some (x7_1.take (t162:Int).toNat:List Int)).bind fun y175=>(if y172.length + y175.length < 140737488355328 then ((some (y172 ++ y175:List Int)).bind fun y179=>(if y179.length + (rdOf ByteArray.empty y165 t168).size < 140737488355328 then ((some (y179 ++ bytesOf (rdOf ByteArray.empty y165 t168):List Int)).bind fun y182=>((spec_l01Cur_pick.f s0_0 t169 t170 3).bind fun bt185=>(if 0 ≤ (mn (x7_1.length:Int) (wrap64 (t162 + bt185.1))) then (if (mn (x7_1.length:Int) (wrap64 (t162 + bt185.1))) ≤ (x7_1.length:Int) then ((some (x7_1.drop ((mn (x7_1.length:Int) (wrap64 (t162 + bt185.1))):Int).toNat:List Int)).bind fun y188=>(if y182.length + y188.length < 140737488355328 then (spec_l01Cur_twin.l0 k1 a1 (y182 ++ y188) (wrap64 (x8_1 - 1)) t148 s0_0 bt185.2.1 bt185.2.2) else (none))) else (none)) else (none)))) else (none))) else (none))) else (none)) else (none)) = some (r1,r2,r3,r4):=by first|(rw [hy172];with_reducible exact H)|(have H2_:=(Option.bind_some _ _).symm.trans H;rw [hy172];with_reducible exact H2_)|(have H2_:=(Option.bind_some _ _).symm.trans H;with_reducible exact H2_)|with_reducible exact H|(rw [hy172];exact H)|exact H
   have Ny172:=mk0 hy172
   clear hy172
   by_cases c17:0 ≤ t162
   rotate_left
   ·rw [if_neg c17] at H
    exact absurd H (by simp)
   rw [if_pos c17] at H
   have c17b0:=eq_true c17
   have c17b1:decide (0 ≤ t162) = true:=decide_eq_true c17
   clear c17
   by_cases c18:t162 ≤ (x7_1.length:Int)
   rotate_left
   ·rw [if_neg c18] at H
    exact absurd H (by simp)
   rw [if_pos c18] at H
   have c18b0:=eq_true c18
   have c18b1:decide (t162 ≤ (x7_1.length:Int)) = true:=decide_eq_true c18
   clear c18
   obtain⟨y175,hy175⟩:∃ y_:List Int,y_ = (x7_1.take (t162:Int).toNat):=⟨_,rfl⟩
   replace H:(if y172.length + y175.length < 140737488355328 then ((some (y172 ++ y175:List Int)).bind fun y179=>(if y179.length + (rdOf ByteArray.empty y165 t168).size < 140737488355328 then ((some (y179 ++ bytesOf (rdOf ByteArray.empty y165 t168):List Int)).bind fun y182=>((spec_l01Cur_pick.f s0_0 t169 t170 3).bind fun bt185=>(if 0 ≤ (mn (x7_1.length:Int) (wrap64 (t162 + bt185.1))) then (if (mn (x7_1.length:Int) (wrap64 (t162 + bt185.1))) ≤ (x7_1.length:Int) then ((some (x7_1.drop ((mn (x7_1.length:Int) (wrap64 (t162 + bt185.1))):Int).toNat:List Int)).bind fun y188=>(if y182.length + y188.length < 140737488355328 then (spec_l01Cur_twin.l0 k1 a1 (y182 ++ y188) (wrap64 (x8_1 - 1)) t148 s0_0 bt185.2.1 bt185.2.2) else (none))) else (none)) else (none)))) else (none))) else (none)) = some (r1,r2,r3,r4):=by first|(rw [hy175];with_reducible exact H)|(have H2_:=(Option.bind_some _ _).symm.trans H;rw [hy175];with_reducible exact H2_)|(have H2_:=(Option.bind_some _ _).symm.trans H;with_reducible exact H2_)|with_reducible exact H|(rw [hy175];exact H)|exact H
   have Ny175:=mk0 hy175
   clear hy175
   by_cases c19:y172.length + y175.length < 140737488355328
   rotate_left
   ·rw [if_neg c19] at H
    exact absurd H (by simp)
   rw [if_pos c19] at H
   have LMc19:=mk0 c19
   clear c19
   obtain⟨y179,hy179⟩:∃ y_:List Int,y_ = (y172 ++ y175):=⟨_,rfl⟩
   replace H:(if y179.length + (rdOf ByteArray.empty y165 t168).size < 140737488355328 then ((some (y179 ++ bytesOf (rdOf ByteArray.empty y165 t168):List Int)).bind fun y182=>((spec_l01Cur_pick.f s0_0 t169 t170 3).bind fun bt185=>(if 0 ≤ (mn (x7_1.length:Int) (wrap64 (t162 + bt185.1))) then (if (mn (x7_1.length:Int) (wrap64 (t162 + bt185.1))) ≤ (x7_1.length:Int) then ((some (x7_1.drop ((mn (x7_1.length:Int) (wrap64 (t162 + bt185.1))):Int).toNat:List Int)).bind fun y188=>(if y182.length + y188.length < 140737488355328 then (spec_l01Cur_twin.l0 k1 a1 (y182 ++ y188) (wrap64 (x8_1 - 1)) t148 s0_0 bt185.2.1 bt185.2.2) else (none))) else (none)) else (none)))) else (none)) = some (r1,r2,r3,r4):=by first|(rw [hy179];with_reducible exact H)|(have H2_:=(Option.bind_some _ _).symm.trans H;rw [hy179];with_reducible exact H2_)|(have H2_:=(Option.bind_some _ _).symm.trans H;with_reducible exact H2_)|with_reducible exact H|(rw [hy179];exact H)|exact H
   have Ny179:=mk0 hy179
   clear hy179
   by_cases c20:y179.length + (rdOf ByteArray.empty y165 t168).size < 140737488355328
   rotate_left
   ·rw [if_neg c20] at H
    exact absurd H (by simp)
   rw [if_pos c20] at H
   have LMc20:=mk0 c20
   clear c20
   obtain⟨y182,hy182⟩:∃ y_:List Int,y_ = (y179 ++ bytesOf (rdOf ByteArray.empty y165 t168)):=⟨_,rfl⟩
   replace H:((spec_l01Cur_pick.f s0_0 t169 t170 3).bind fun bt185=>(if 0 ≤ (mn (x7_1.length:Int) (wrap64 (t162 + bt185.1))) then (if (mn (x7_1.length:Int) (wrap64 (t162 + bt185.1))) ≤ (x7_1.length:Int) then ((some (x7_1.drop ((mn (x7_1.length:Int) (wrap64 (t162 + bt185.1))):Int).toNat:List Int)).bind fun y188=>(if y182.length + y188.length < 140737488355328 then (spec_l01Cur_twin.l0 k1 a1 (y182 ++ y188) (wrap64 (x8_1 - 1)) t148 s0_0 bt185.2.1 bt185.2.2) else (none))) else (none)) else (none))) = some (r1,r2,r3,r4):=by first|(rw [hy182];with_reducible exact H)|(have H2_:=(Option.bind_some _ _).symm.trans H;rw [hy182];with_reducible exact H2_)|(have H2_:=(Option.bind_some _ _).symm.trans H;with_reducible exact H2_)|with_reducible exact H|(rw [hy182];exact H)|exact H
   have Ny182:=mk0 hy182
   clear hy182
   replace H:=Option.bind_eq_some_iff.mp H
   obtain⟨⟨t185,t186,t187⟩,A210,H⟩:=H
   replace H:(if 0 ≤ (mn (x7_1.length:Int) (wrap64 (t162 + t185))) then (if (mn (x7_1.length:Int) (wrap64 (t162 + t185))) ≤ (x7_1.length:Int) then ((some (x7_1.drop ((mn (x7_1.length:Int) (wrap64 (t162 + t185))):Int).toNat:List Int)).bind fun y188=>(if y182.length + y188.length < 140737488355328 then (spec_l01Cur_twin.l0 k1 a1 (y182 ++ y188) (wrap64 (x8_1 - 1)) t148 s0_0 t186 t187) else (none))) else (none)) else (none)) = some (r1,r2,r3,r4):=H
   have A21:=mk0 A210
   clear A210
   obtain⟨ji22,hji22⟩:∃ j_:Int,(mn (x7_1.length:Int) (wrap64 (t162 + t185))) = j_:=⟨_,rfl⟩
   replace H:(if 0 ≤ (ji22) then (if (ji22) ≤ (x7_1.length:Int) then ((some (x7_1.drop ((ji22):Int).toNat:List Int)).bind fun y188=>(if y182.length + y188.length < 140737488355328 then (spec_l01Cur_twin.l0 k1 a1 (y182 ++ y188) (wrap64 (x8_1 - 1)) t148 s0_0 t186 t187) else (none))) else (none)) else (none)) = some (r1,r2,r3,r4):=by first|(rw [hji22] at H;exact H)|(simp only [hji22] at H ⊢;exact H)
   (try rw [hji22] at A13)
   (try rw [hji22] at A14)
   (try rw [hji22] at A21)
   have hji22_:(if (wrap64 (t162 + t185)) < (x7_1.length:Int) then (wrap64 (t162 + t185)) else (x7_1.length:Int)) = ji22:=hji22
   by_cases c23:0 ≤ (ji22)
   rotate_left
   ·rw [if_neg c23] at H
    exact absurd H (by simp)
   rw [if_pos c23] at H
   have c23b0:=eq_true c23
   have c23b1:decide (0 ≤ (ji22)) = true:=decide_eq_true c23
   clear c23
   by_cases c24:(ji22) ≤ (x7_1.length:Int)
   rotate_left
   ·rw [if_neg c24] at H
    exact absurd H (by simp)
   rw [if_pos c24] at H
   have c24b0:=eq_true c24
   have c24b1:decide ((ji22) ≤ (x7_1.length:Int)) = true:=decide_eq_true c24
   clear c24
   obtain⟨y188,hy188⟩:∃ y_:List Int,y_ = (x7_1.drop ((ji22):Int).toNat):=⟨_,rfl⟩
   replace H:(if y182.length + y188.length < 140737488355328 then (spec_l01Cur_twin.l0 k1 a1 (y182 ++ y188) (wrap64 (x8_1 - 1)) t148 s0_0 t186 t187) else (none)) = some (r1,r2,r3,r4):=by first|(rw [hy188];with_reducible exact H)|(have H2_:=(Option.bind_some _ _).symm.trans H;rw [hy188];with_reducible exact H2_)|(have H2_:=(Option.bind_some _ _).symm.trans H;with_reducible exact H2_)|with_reducible exact H|(rw [hy188];exact H)|exact H
   have Ny188:=mk0 hy188
   clear hy188
   by_cases c25:y182.length + y188.length < 140737488355328
   rotate_left
   ·rw [if_neg c25] at H
    exact absurd H (by simp)
   rw [if_pos c25] at H
   have LMc25:=mk0 c25
   clear c25
   obtain⟨y192,hy192⟩:∃ y_:List Int,y_ = (y182 ++ y188):=⟨_,rfl⟩
   replace H:(spec_l01Cur_twin.l0 k1 a1 y192 (wrap64 (x8_1 - 1)) t148 s0_0 t186 t187) = some (r1,r2,r3,r4):=by first|(rw [hy192];with_reducible exact H)|(have H2_:=(Option.bind_some _ _).symm.trans H;rw [hy192];with_reducible exact H2_)|(have H2_:=(Option.bind_some _ _).symm.trans H;with_reducible exact H2_)|with_reducible exact H|(rw [hy192];exact H)|exact H
   have Ny192:=mk0 hy192
   clear hy192
   have H':=mk0 H
   clear H
   obtain⟨Ao26,co26,eo26⟩:=Kd.R_slice HO_7.out
   subst eo26
   go_wp2_with (first|((with_reducible refine gate_callee (f:=68) rfl ?_);refine gL (some 27) Try.func68 #[.pointer (some ⟨g,0,none⟩),.int .i64 (wrap64 ((x7_1.length:Int) + 1))] ?_;(with_reducible refine (spec_l01Cur_pick.calls g s0_0 x1001_1 x1002_1 (wrap64 ((x7_1.length:Int) + 1)) t162 t163 t164 w0 _ ?side1 ?side2 A13.out).mono ?_);(case side1=>repeat (first|(with_reducible first|exact HI0.out|apply IsS79.alloc|apply IsS79.drewN|apply IsS79.drew|apply IsS79.set_1|apply IsS79.set_2)|exact HI0.out));(case side2=>repeat (first|(with_reducible first|exact HB.out|apply aZ|apply nZ|apply dZ|refine sZ ?_ (IsS79.ge HI0.out))|exact HB.out));rintro e w27 ⟨rfl,hi,hb,hk⟩;refine⟨_,rfl,?_⟩;replace HO_7:=mk0 (Kd.R_mono (Kd.R_keep (IsS79.apart (show IsS79 w0 _ g s0_0 x1001_1 x1002_1 from by repeat (first|(with_reducible first|exact HI0.out|apply IsS79.alloc|apply IsS79.drewN|apply IsS79.drew|apply IsS79.set_1|apply IsS79.set_2)|exact HI0.out)) (rR HO_7.out) (by decide)) hk (fun _ h=>h.2)) (fun _ h=>h.1));replace HO_13:=mk0 (Kd.R_mono (Kd.R_keep (IsS79.apart (show IsS79 w0 _ g s0_0 x1001_1 x1002_1 from by repeat (first|(with_reducible first|exact HI0.out|apply IsS79.alloc|apply IsS79.drewN|apply IsS79.drew|apply IsS79.set_1|apply IsS79.set_2)|exact HI0.out)) (rR HO_13.out) (by decide)) hk (fun _ h=>h.2)) (fun _ h=>h.1));replace HK:=mk0 (KeepBut.trans (by repeat (first|(with_reducible first|exact HK.out|apply KeepBut.set_|apply keep_drewN|apply keep_drew|apply keep_alloc)|exact HK.out)) hk (.inl rfl));replace HB:=mk0 (hb);replace HI0:=mk0 (hi);(try clear hb);(try clear hk);(try clear hi))|((with_reducible refine gate_dst (N:=28) rfl ?_);refine Kd.R_lit Kd.string _ 9 ?hg (N:=28) ?hd (xs:=([(⟨#[]⟩:ByteArray),(⟨#[97]⟩:ByteArray),(⟨#[98]⟩:ByteArray),(⟨#[122,122]⟩:ByteArray)]:List ByteArray)) (inner:=[.string (⟨#[]⟩:ByteArray),.string (⟨#[97]⟩:ByteArray),.string (⟨#[98]⟩:ByteArray),.string (⟨#[122,122]⟩:ByteArray)]) (ok:=fun _=>True) (okp:=fun _=>True) ?hr ?hp (fun _ hk=>hk) trivial (Below.refl _ _) (Nat.le_refl _) (by simp) ?_;(case hd=>rfl);(case hg=>rfl);(case hr=>first|(go_simp;done)|(go_simp;rfl));(case hp=>exact (Reps.one (show Kd.M Kd.string _ _ _ (⟨#[]⟩:ByteArray) [.string (⟨#[]⟩:ByteArray)] from rfl) (Reps.one (show Kd.M Kd.string _ _ _ (⟨#[97]⟩:ByteArray) [.string (⟨#[97]⟩:ByteArray)] from rfl) (Reps.one (show Kd.M Kd.string _ _ _ (⟨#[98]⟩:ByteArray) [.string (⟨#[98]⟩:ByteArray)] from rfl) (Reps.one (show Kd.M Kd.string _ _ _ (⟨#[122,122]⟩:ByteArray) [.string (⟨#[122,122]⟩:ByteArray)] from rfl) (Reps.none _ _))))));intro v166 w28 ho29 hb hg_ hnew_;clear hg_ hnew_;(first|rw [← Ny165.out] at ho29|(simp only [Int.reduceToNat] at ho29;rw [← Ny165.out] at ho29));replace HO_7:=mk0 (bR HO_7.out hb);replace HO_13:=mk0 (bR HO_13.out hb);have HO167:=mk0 (Kd.R_lower ho29 (keep_size (w:=w) (g:=g) (row:=none) (by repeat (first|(with_reducible first|exact HK.out|apply KeepBut.set_|apply keep_drewN|apply keep_drew|apply keep_alloc)|exact HK.out))));replace HK:=mk0 (KeepBut.trans (by repeat (first|(with_reducible first|exact HK.out|apply KeepBut.set_|apply keep_drewN|apply keep_drew|apply keep_alloc)|exact HK.out)) (KeepBut.of_below hb g none) (.inl rfl));replace HB:=mk0 (below_step (by repeat (first|(with_reducible first|exact HB.out|apply aZ|apply nZ|apply dZ|refine sZ ?_ (IsS79.ge HI0.out))|exact HB.out)) hb);replace HI0:=mk0 (IsS79.below (by repeat (first|(with_reducible first|exact HI0.out|apply IsS79.alloc|apply IsS79.drewN|apply IsS79.drew|apply IsS79.set_1|apply IsS79.set_2)|exact HI0.out)) hb);clear hb ho29)|((with_reducible refine gate_callee (f:=68) rfl ?_);refine gL (some 30) Try.func68 #[.pointer (some ⟨g,0,none⟩),.int .i64 4] ?_;(with_reducible refine (spec_l01Cur_pick.calls g s0_0 t163 t164 4 t168 t169 t170 w0 _ ?side1 ?side2 A14.out).mono ?_);(case side1=>repeat (first|(with_reducible first|exact HI0.out|apply IsS79.alloc|apply IsS79.drewN|apply IsS79.drew|apply IsS79.set_1|apply IsS79.set_2)|exact HI0.out));(case side2=>repeat (first|(with_reducible first|exact HB.out|apply aZ|apply nZ|apply dZ|refine sZ ?_ (IsS79.ge HI0.out))|exact HB.out));rintro e w30 ⟨rfl,hi,hb,hk⟩;refine⟨_,rfl,?_⟩;replace HO_7:=mk0 (Kd.R_mono (Kd.R_keep (IsS79.apart (show IsS79 w0 _ g s0_0 t163 t164 from by repeat (first|(with_reducible first|exact HI0.out|apply IsS79.alloc|apply IsS79.drewN|apply IsS79.drew|apply IsS79.set_1|apply IsS79.set_2)|exact HI0.out)) (rR HO_7.out) (by decide)) hk (fun _ h=>h.2)) (fun _ h=>h.1));replace HO_13:=mk0 (Kd.R_mono (Kd.R_keep (IsS79.apart (show IsS79 w0 _ g s0_0 t163 t164 from by repeat (first|(with_reducible first|exact HI0.out|apply IsS79.alloc|apply IsS79.drewN|apply IsS79.drew|apply IsS79.set_1|apply IsS79.set_2)|exact HI0.out)) (rR HO_13.out) (by decide)) hk (fun _ h=>h.2)) (fun _ h=>h.1));replace HO167:=mk0 (Kd.R_mono (Kd.R_keep (IsS79.apart (show IsS79 w0 _ g s0_0 t163 t164 from by repeat (first|(with_reducible first|exact HI0.out|apply IsS79.alloc|apply IsS79.drewN|apply IsS79.drew|apply IsS79.set_1|apply IsS79.set_2)|exact HI0.out)) (rR HO167.out) (by decide)) hk (fun _ h=>h.2)) (fun _ h=>h.1));replace HK:=mk0 (KeepBut.trans (by repeat (first|(with_reducible first|exact HK.out|apply KeepBut.set_|apply keep_drewN|apply keep_drew|apply keep_alloc)|exact HK.out)) hk (.inl rfl));replace HB:=mk0 (hb);replace HI0:=mk0 (hi);(try clear hb);(try clear hk);(try clear hi);obtain⟨Ao31,co31,eo31⟩:=Kd.R_slice HO167.out;subst eo31;have p171:0 ≤ (t168:Int):=of_decide_eq_true (by first|(with_reducible assumption)|assumption);have q171:t168 < (y165.length:Int):=of_decide_eq_true (by first|(with_reducible assumption)|assumption);obtain⟨ad171,e171,hx171_0⟩:=Kd.at_string (Kd.R_reads' HO167.out).2.2 t168 p171 q171;cases e171;replace p171:=eq_true p171;replace q171:=eq_true q171)|((with_reducible refine gate_dst (N:=33) rfl ?_);refine Kd.R_lit (Kd.int .u8) _ 5 ?hg (N:=33) ?hd (xs:=([]:List Int)) (inner:=[]) (ok:=fun _=>True) (okp:=fun _=>True) ?hr ?hp (fun _ hk=>hk) trivial (Below.refl _ _) (Nat.le_refl _) (by simp) ?_;(case hd=>rfl);(case hg=>rfl);(case hr=>first|(go_simp;done)|(go_simp;rfl));(case hp=>exact (Reps.none _ _));intro v173 w32 ho33 hb hg_ hnew_;clear hg_ hnew_;(first|rw [← Ny172.out] at ho33|(simp only [Int.reduceToNat] at ho33;rw [← Ny172.out] at ho33));replace HO167:=mk0 (bR HO167.out hb);have HO174:=mk0 (Kd.R_lower (Kd.R_new' (Kd.R_new' ho33 (Kd.R_lt (rR HO_7.out))) (Kd.R_lt (rR HO_13.out))) (keep_size (w:=w) (g:=g) (row:=none) (by repeat (first|(with_reducible first|exact HK.out|apply KeepBut.set_|apply keep_drewN|apply keep_drew|apply keep_alloc)|exact HK.out))));replace HO_7:=mk0 (Kd.R_elder' (rR HO_7.out) (Kd.R_base ho33) hb);replace HO_13:=mk0 (Kd.R_elder' (rR HO_13.out) (Kd.R_base ho33) hb);replace HK:=mk0 (KeepBut.trans (by repeat (first|(with_reducible first|exact HK.out|apply KeepBut.set_|apply keep_drewN|apply keep_drew|apply keep_alloc)|exact HK.out)) (KeepBut.of_below hb g none) (.inl rfl));replace HB:=mk0 (below_step (by repeat (first|(with_reducible first|exact HB.out|apply aZ|apply nZ|apply dZ|refine sZ ?_ (IsS79.ge HI0.out))|exact HB.out)) hb);replace HI0:=mk0 (IsS79.below (by repeat (first|(with_reducible first|exact HI0.out|apply IsS79.alloc|apply IsS79.drewN|apply IsS79.drew|apply IsS79.set_1|apply IsS79.set_2)|exact HI0.out)) hb);clear hb ho33;have q34:(t162:Int) ≤ ((x7_1.length:Int):Int):=of_decide_eq_true (by first|(with_reducible assumption)|assumption);obtain⟨i034,hi034,_,hsz34,_⟩:=info_parts info5;have hroom34:x7_1.length ≤ co26:=(Kd.R_reads' HO_7.out).2.1;have hC34:Kd.C (Kd.int .u8) _ Ao26 x7_1.length x7_1:=(Kd.R_reads' HO_7.out).2.2;have hcut34:=cut_to (P:=Try.prog) 22 5 .i64 Try.underlying22 hi034 Ao26 x7_1.length co26 t162 (of_decide_eq_true (by first|(with_reducible assumption)|assumption)) q34 hroom34;have hr34:=Kd.C_take (m:=(t162:Int).toNat) hC34 (by omega);have hy34:y175.length = (t162:Int).toNat:=(by rw [Ny175.out,List.length_take];omega);rw [← Ny175.out] at hr34;rw [← hy34] at hcut34;have HR178:=mk0 hr34;have HC178:=mk0 (show y175.length ≤ co26 from by omega);clear hr34 hC34 hroom34 hi034 hsz34;have KY34:=mk0 hy34;clear hy34;have KL34:=mk0 (show (t162:Int).toNat ≤ x7_1.length from by omega);replace q34:=eq_true q34)|((with_reducible refine gate_builtin (b:=.append) (xs:=#[.tmp 33,.tmp 36]) rfl ?_);at_builtin;refine Kd.R_append_rows (Kd.int .u8) w.heap.size rfl (.tmp 33) (.tmp 36) 22 5 (.int .u8 0) 1 rfl Try.underlying22 info5 rfl (by decide) (by omega) v173 y172 y175 _ _ _ (fun k_=>some k_ ≠ (.slice Ao26 x7_1.length co26:Value).ownBlock ∧ some k_ ≠ (.slice Ao10 t148.length co10:Value).ownBlock) (fun _=>False) rfl rfl ?aO ?aR (fun _ _ h=>h) (fun _ h=>h.elim) ?aF (Below.refl _ _) ?aS ?aL ?_;(case aR=>repeat (first|exact (by repeat (first|(with_reducible exact HR178.out)|(with_reducible first|apply aC|apply nC|apply dC)|exact HR178.out))|(with_reducible first|apply aC|apply nC|apply dC)));(case aF=>exact (fun k_ hk=>⟨Kd.fresh' (Kd.R_lt (rR HO_7.out)) k_ hk,Kd.fresh' (Kd.R_lt (rR HO_13.out)) k_ hk⟩));(case aO=>exact (rR (Kd.R_mono HO174.out (fun _ hk=>⟨hk.1.2,hk.2⟩))));(case aS=>exact (keep_size (w:=w) (g:=g) (row:=none) (by repeat (first|(with_reducible first|exact HK.out|apply KeepBut.set_|apply keep_drewN|apply keep_drew|apply keep_alloc)|exact HK.out))));(case aL=>have:=LMc19.out;omega);intro v180 w35 ho hb hg hat;rw [← Ny179.out] at ho;replace HO_13:=mk0 (Kd.R_after (ok:=(fun k_=>some k_ ≠ (.slice Ao26 x7_1.length co26:Value).ownBlock)) (rR HO_13.out) hg hat);replace HO167:=mk0 (Kd.R_over' (rR HO167.out) (Kd.R_typed (rR HO174.out)) (by decide) hg);replace HB:=mk0 (below_weaken (by repeat (first|(with_reducible first|exact HB.out|apply aZ|apply nZ|apply dZ|refine sZ ?_ (IsS79.ge HI0.out))|exact HB.out)) HL.out hb);replace HI0:=mk0 (IsS79.grown (by repeat (first|(with_reducible first|exact HI0.out|apply IsS79.alloc|apply IsS79.drewN|apply IsS79.drew|apply IsS79.set_1|apply IsS79.set_2)|exact HI0.out)) hg (IsS79.own_ne HI0.out HO174.out (by decide)));replace HK:=mk0 (KeepBut.trans (by repeat (first|(with_reducible first|exact HK.out|apply KeepBut.set_|apply keep_drewN|apply keep_drew|apply keep_alloc)|exact HK.out)) (KeepBut.of_grown hg g) (Kd.R_base2 HO174.out));replace HR178:=mk0 ((show Kd.C (Kd.int .u8) w35 Ao26 y175.length y175 from by rw [Ny175.out];exact Kd.C_take (m:=(t162:Int).toNat) ((Kd.R_reads' (Kd.R_after (ok:=(fun k_=>some k_ ≠ (.slice Ao10 t148.length co10:Value).ownBlock)) (rR HO_7.out) hg hat)).2.2) KL34.out));replace HO_7:=mk0 (Kd.R_after (ok:=(fun k_=>some k_ ≠ (.slice Ao10 t148.length co10:Value).ownBlock)) (rR HO_7.out) hg hat);have HO181:=mk0 (ho);clear HO174 ho hb hg hat;have hcv37:=fun W_:World=>print_bytes (P:=Try.prog) 9 22 5 Try.underlying9 Try.underlying22 Try.underlying5 (rdOf ByteArray.empty y165 t168) W_)|((with_reducible refine gate_builtin (b:=.append) (xs:=#[.tmp 37,.tmp 39]) rfl ?_);at_builtin;refine Cnv.append_conv w.heap.size rfl (.tmp 37) (.tmp 39) 22 5 rfl Try.underlying22 info5 v180 y179 (rdOf ByteArray.empty y165 t168) (fun k_=>some k_ ≠ (.slice Ao26 x7_1.length co26:Value).ownBlock ∧ some k_ ≠ (.slice Ao10 t148.length co10:Value).ownBlock) rfl rfl ?aO ?aF (Below.refl _ _) ?aS ?aL ?_;(case aF=>exact (fun k_ hk=>⟨Kd.fresh' (Kd.R_lt (rR HO_7.out)) k_ hk,Kd.fresh' (Kd.R_lt (rR HO_13.out)) k_ hk⟩));(case aO=>exact (rR HO181.out));(case aS=>exact (keep_size (w:=w) (g:=g) (row:=none) (by repeat (first|(with_reducible first|exact HK.out|apply KeepBut.set_|apply keep_drewN|apply keep_drew|apply keep_alloc)|exact HK.out))));(case aL=>have:=LMc20.out;omega);intro v183 w36 ho hb hg hat;rw [← Ny182.out] at ho;replace HO_13:=mk0 (Kd.R_after (ok:=(fun k_=>some k_ ≠ (.slice Ao26 x7_1.length co26:Value).ownBlock)) (rR HO_13.out) hg hat);replace HO167:=mk0 (Kd.R_over' (rR HO167.out) (Kd.R_typed (rR HO181.out)) (by decide) hg);replace HB:=mk0 (below_weaken (by repeat (first|(with_reducible first|exact HB.out|apply aZ|apply nZ|apply dZ|refine sZ ?_ (IsS79.ge HI0.out))|exact HB.out)) HL.out hb);replace HI0:=mk0 (IsS79.grown (by repeat (first|(with_reducible first|exact HI0.out|apply IsS79.alloc|apply IsS79.drewN|apply IsS79.drew|apply IsS79.set_1|apply IsS79.set_2)|exact HI0.out)) hg (IsS79.own_ne HI0.out HO181.out (by decide)));replace HK:=mk0 (KeepBut.trans (by repeat (first|(with_reducible first|exact HK.out|apply KeepBut.set_|apply keep_drewN|apply keep_drew|apply keep_alloc)|exact HK.out)) (KeepBut.of_grown hg g) (Kd.R_base2 HO181.out));replace HR178:=mk0 ((show Kd.C (Kd.int .u8) w36 Ao26 y175.length y175 from by rw [Ny175.out];exact Kd.C_take (m:=(t162:Int).toNat) ((Kd.R_reads' (Kd.R_after (ok:=(fun k_=>some k_ ≠ (.slice Ao10 t148.length co10:Value).ownBlock)) (rR HO_7.out) hg hat)).2.2) KL34.out));replace HO_7:=mk0 (Kd.R_after (ok:=(fun k_=>some k_ ≠ (.slice Ao10 t148.length co10:Value).ownBlock)) (rR HO_7.out) hg hat);have HO184:=mk0 (ho);clear HO181 ho hb hg hat)|((with_reducible refine gate_callee (f:=68) rfl ?_);refine gL (some 46) Try.func68 #[.pointer (some ⟨g,0,none⟩),.int .i64 3] ?_;(with_reducible refine (spec_l01Cur_pick.calls g s0_0 t169 t170 3 t185 t186 t187 w0 _ ?side1 ?side2 A21.out).mono ?_);(case side1=>repeat (first|(with_reducible first|exact HI0.out|apply IsS79.alloc|apply IsS79.drewN|apply IsS79.drew|apply IsS79.set_1|apply IsS79.set_2)|exact HI0.out));(case side2=>repeat (first|(with_reducible first|exact HB.out|apply aZ|apply nZ|apply dZ|refine sZ ?_ (IsS79.ge HI0.out))|exact HB.out));rintro e w38 ⟨rfl,hi,hb,hk⟩;refine⟨_,rfl,?_⟩;replace HO_7:=mk0 (Kd.R_mono (Kd.R_keep (IsS79.apart (show IsS79 w0 _ g s0_0 t169 t170 from by repeat (first|(with_reducible first|exact HI0.out|apply IsS79.alloc|apply IsS79.drewN|apply IsS79.drew|apply IsS79.set_1|apply IsS79.set_2)|exact HI0.out)) (rR HO_7.out) (by decide)) hk (fun _ h=>h.2)) (fun _ h=>h.1));replace HO_13:=mk0 (Kd.R_mono (Kd.R_keep (IsS79.apart (show IsS79 w0 _ g s0_0 t169 t170 from by repeat (first|(with_reducible first|exact HI0.out|apply IsS79.alloc|apply IsS79.drewN|apply IsS79.drew|apply IsS79.set_1|apply IsS79.set_2)|exact HI0.out)) (rR HO_13.out) (by decide)) hk (fun _ h=>h.2)) (fun _ h=>h.1));replace HO167:=mk0 (Kd.R_mono (Kd.R_keep (IsS79.apart (show IsS79 w0 _ g s0_0 t169 t170 from by repeat (first|(with_reducible first|exact HI0.out|apply IsS79.alloc|apply IsS79.drewN|apply IsS79.drew|apply IsS79.set_1|apply IsS79.set_2)|exact HI0.out)) (rR HO167.out) (by decide)) hk (fun _ h=>h.2)) (fun _ h=>h.1));replace HO184:=mk0 (Kd.R_mono (Kd.R_keep (IsS79.apart (show IsS79 w0 _ g s0_0 t169 t170 from by repeat (first|(with_reducible first|exact HI0.out|apply IsS79.alloc|apply IsS79.drewN|apply IsS79.drew|apply IsS79.set_1|apply IsS79.set_2)|exact HI0.out)) (rR HO184.out) (by decide)) hk (fun _ h=>h.2)) (fun _ h=>h.1));replace HK:=mk0 (KeepBut.trans (by repeat (first|(with_reducible first|exact HK.out|apply KeepBut.set_|apply keep_drewN|apply keep_drew|apply keep_alloc)|exact HK.out)) hk (.inl rfl));replace HB:=mk0 (hb);replace HI0:=mk0 (hi);(try clear hb);(try clear hk);(try clear hi);have q39:((ji22):Int) ≤ ((x7_1.length:Int):Int):=of_decide_eq_true (by first|(with_reducible assumption)|assumption);obtain⟨i039,hi039,_,hsz39,_⟩:=info_parts info5;have hroom39:x7_1.length ≤ co26:=(Kd.R_reads' HO_7.out).2.1;have hC39:Kd.C (Kd.int .u8) _ Ao26 x7_1.length x7_1:=(Kd.R_reads' HO_7.out).2.2;have q039:(0:Int) ≤ ((ji22):Int):=of_decide_eq_true (by first|(with_reducible assumption)|assumption);have hcut39:=cut_from (P:=Try.prog) 22 5 .i64 Try.underlying22 hi039 1 hsz39 Ao26 x7_1.length co26 (ji22) q039 q39;have hr39:=Kd.C_drop (m:=((ji22):Int).toNat) (c:=co26) hC39 (by omega) hroom39;obtain⟨A39,hA39⟩:∃ A1,A1 = (if co26 = ((ji22):Int).toNat then Ao26 else (Ao26:Option Addr).map (·.add (((ji22):Int).toNat * 1))):=⟨_,rfl⟩;obtain⟨c39,hc39⟩:∃ c1,c1 = co26 - ((ji22):Int).toNat:=⟨_,rfl⟩;have hy39:y188.length = x7_1.length - ((ji22):Int).toNat:=(by rw [Ny188.out,List.length_drop] <;> omega);rw [show (x7_1).drop ((ji22):Int).toNat = y188 from Ny188.out.symm] at hr39;replace hr39:Kd.C (Kd.int .u8) _ A39 y188.length y188:=(by rw [hA39];exact hr39);rw [← hy39, ← hA39, ← hc39] at hcut39;have HR191:=mk0 hr39;have HC191:=mk0 (show y188.length ≤ c39 from by rw [hy39,hc39];exact Nat.sub_le_sub_right hroom39 _);clear hr39 hC39 hroom39 hi039 hsz39 hc39;have KY39:=mk0 hy39;have KA39:=mk0 hA39;clear hy39 hA39;have KL39:=mk0 (show ((ji22):Int).toNat ≤ x7_1.length from by omega);replace q39:=eq_true q39)|((with_reducible refine gate_builtin (b:=.append) (xs:=#[.tmp 40,.tmp 49]) rfl ?_);at_builtin;refine Kd.R_append_rows (Kd.int .u8) w.heap.size rfl (.tmp 40) (.tmp 49) 22 5 (.int .u8 0) 1 rfl Try.underlying22 info5 rfl (by decide) (by omega) v183 y182 y188 _ _ _ (fun k_=>some k_ ≠ (.slice Ao26 x7_1.length co26:Value).ownBlock ∧ some k_ ≠ (.slice Ao10 t148.length co10:Value).ownBlock) (fun _=>False) rfl rfl ?aO ?aR (fun _ _ h=>h) (fun _ h=>h.elim) ?aF (Below.refl _ _) ?aS ?aL ?_;(case aR=>repeat (first|exact (by repeat (first|(with_reducible exact HR191.out)|(with_reducible first|apply aC|apply nC|apply dC)|exact HR191.out))|(with_reducible first|apply aC|apply nC|apply dC)));(case aF=>exact (fun k_ hk=>⟨Kd.fresh' (Kd.R_lt (rR HO_7.out)) k_ hk,Kd.fresh' (Kd.R_lt (rR HO_13.out)) k_ hk⟩));(case aO=>exact (rR HO184.out));(case aS=>exact (keep_size (w:=w) (g:=g) (row:=none) (by repeat (first|(with_reducible first|exact HK.out|apply KeepBut.set_|apply keep_drewN|apply keep_drew|apply keep_alloc)|exact HK.out))));(case aL=>have:=LMc25.out;omega);intro v193 w40 ho hb hg hat;rw [← Ny192.out] at ho;replace HO_13:=mk0 (Kd.R_after (ok:=(fun k_=>some k_ ≠ (.slice Ao26 x7_1.length co26:Value).ownBlock)) (rR HO_13.out) hg hat);replace HO167:=mk0 (Kd.R_over' (rR HO167.out) (Kd.R_typed (rR HO184.out)) (by decide) hg);replace HB:=mk0 (below_weaken (by repeat (first|(with_reducible first|exact HB.out|apply aZ|apply nZ|apply dZ|refine sZ ?_ (IsS79.ge HI0.out))|exact HB.out)) HL.out hb);replace HI0:=mk0 (IsS79.grown (by repeat (first|(with_reducible first|exact HI0.out|apply IsS79.alloc|apply IsS79.drewN|apply IsS79.drew|apply IsS79.set_1|apply IsS79.set_2)|exact HI0.out)) hg (IsS79.own_ne HI0.out HO184.out (by decide)));replace HK:=mk0 (KeepBut.trans (by repeat (first|(with_reducible first|exact HK.out|apply KeepBut.set_|apply keep_drewN|apply keep_drew|apply keep_alloc)|exact HK.out)) (KeepBut.of_grown hg g) (Kd.R_base2 HO184.out));replace HR191:=mk0 ((show Kd.C (Kd.int .u8) w40 A39 y188.length y188 from by rw [Ny188.out,KA39.out];exact Kd.C_drop (m:=((ji22):Int).toNat) (c:=co26) ((Kd.R_reads' (Kd.R_after (ok:=(fun k_=>some k_ ≠ (.slice Ao10 t148.length co10:Value).ownBlock)) (rR HO_7.out) hg hat)).2.2) KL39.out ((Kd.R_reads' (Kd.R_after (ok:=(fun k_=>some k_ ≠ (.slice Ao10 t148.length co10:Value).ownBlock)) (rR HO_7.out) hg hat)).2.1)));replace HO_7:=mk0 (Kd.R_after (ok:=(fun k_=>some k_ ≠ (.slice Ao10 t148.length co10:Value).ownBlock)) (rR HO_7.out) hg hat);have HO194:=mk0 (ho);clear HO184 ho hb hg hat))
   go_roundg k1
   case measure=>have:=HK1.out;omega
   case rel=>exact⟨(y192),(wrap64 (x8_1 - 1)),(t186),(t187),(by first|rfl|(simp;done)|(simp [*];done)),H',⟨by have:=HK1.out;omega⟩,⟨rR (Kd.R_mono HO194.out (fun _ hk=>hk.2))⟩,⟨rR (Kd.R_mono HO_13.out (fun _ hk=>hk.2))⟩,⟨by repeat (first|(with_reducible first|exact HI0.out|apply IsS79.alloc|apply IsS79.drewN|apply IsS79.drew|apply IsS79.set_1|apply IsS79.set_2)|exact HI0.out)⟩,⟨by repeat (first|(with_reducible first|exact HK.out|apply KeepBut.set_|apply keep_drewN|apply keep_drew|apply keep_alloc)|exact HK.out)⟩,⟨by repeat (first|(with_reducible first|exact HB.out|apply aZ|apply nZ|apply dZ|refine sZ ?_ (IsS79.ge HI0.out))|exact HB.out)⟩⟩
/-! ### spec_l01Cur_raw: function 70 -/
def spec_l01Cur_raw.f (s0_0 : List Int) (s0_1 : Int) (s0_2 : Int) : Option (Int × Int × Int) := (spec_l01Cur_pick.f s0_0 s0_1 s0_2 8).bind fun bt206 => (if bt206.1 = 0 then ((spec_l01Cur_pick.f s0_0 bt206.2.1 bt206.2.2 256).bind fun bt209 => (some (wrap64 (bt209.1 - 128), bt209.2.1, bt209.2.2))) else (if bt206.1 = 1 then ((some (([9223372036854775807, (-9223372036854775808), 4611686018427387904, 4294967295, 4294967296, (-1000), 1000, 257] : List Int) : List Int)).bind fun y212 => ((spec_l01Cur_pick.f s0_0 bt206.2.1 bt206.2.2 8).bind fun bt215 => (if 0 ≤ bt215.1 then (if bt215.1 < (y212.length : Int) then (some (rd y212 bt215.1, bt215.2.1, bt215.2.2)) else (none)) else (none)))) else ((spec_l01Cur_pick.f s0_0 bt206.2.1 bt206.2.2 14).bind fun bt219 => (some (wrap64 (bt219.1 - 3), bt219.2.1, bt219.2.2)))))
set_option maxHeartbeats 8000000 in
set_option maxRecDepth 100000 in
theorem spec_l01Cur_raw.calls (g : Nat) (s0_0 : List Int) (s0_1 : Int) (s0_2 : Int) (r1 : Int) (r2 : Int) (r3 : Int) (w0 w : World) (hI : IsS79 w0 w g s0_0 s0_1 s0_2) (hB : Below w0.heap.size w0 w) (h : spec_l01Cur_raw.f s0_0 s0_1 s0_2 = some (r1, r2, r3)) :
  Calls Try.prog 70 #[.pointer (some ⟨g, 0, none⟩)] w fun e w' => e = .returned (.int .i64 r1) ∧ IsS79 w0 w' g s0_0 r2 r3 ∧ Below w0.heap.size w0 w' ∧ KeepBut w w' g none := by
 have HI0:=mk0 hI
 have HK:=mk0 (KeepBut.refl w g none)
 have HL:=mk0 hB.size
 clear hI
 have HW0:=mk0 hB.size
 have HB:=mk0 hB
 clear hB
 have H:((spec_l01Cur_pick.f s0_0 s0_1 s0_2 8).bind fun bt206=>(if bt206.1 = 0 then ((spec_l01Cur_pick.f s0_0 bt206.2.1 bt206.2.2 256).bind fun bt209=>(some (wrap64 (bt209.1 - 128),bt209.2.1,bt209.2.2))) else (if bt206.1 = 1 then ((some (([9223372036854775807,(-9223372036854775808),4611686018427387904,4294967295,4294967296,(-1000),1000,257]:List Int):List Int)).bind fun y212=>((spec_l01Cur_pick.f s0_0 bt206.2.1 bt206.2.2 8).bind fun bt215=>(if 0 ≤ bt215.1 then (if bt215.1 < (y212.length:Int) then (some (rd y212 bt215.1,bt215.2.1,bt215.2.2)) else (none)) else (none)))) else ((spec_l01Cur_pick.f s0_0 bt206.2.1 bt206.2.2 14).bind fun bt219=>(some (wrap64 (bt219.1 - 3),bt219.2.1,bt219.2.2)))))) = some (r1,r2,r3):=h
 clear h
 replace H:=Option.bind_eq_some_iff.mp H
 obtain⟨⟨t206,t207,t208⟩,A20,H⟩:=H
 replace H:(if t206 = 0 then ((spec_l01Cur_pick.f s0_0 t207 t208 256).bind fun bt209=>(some (wrap64 (bt209.1 - 128),bt209.2.1,bt209.2.2))) else (if t206 = 1 then ((some (([9223372036854775807,(-9223372036854775808),4611686018427387904,4294967295,4294967296,(-1000),1000,257]:List Int):List Int)).bind fun y212=>((spec_l01Cur_pick.f s0_0 t207 t208 8).bind fun bt215=>(if 0 ≤ bt215.1 then (if bt215.1 < (y212.length:Int) then (some (rd y212 bt215.1,bt215.2.1,bt215.2.2)) else (none)) else (none)))) else ((spec_l01Cur_pick.f s0_0 t207 t208 14).bind fun bt219=>(some (wrap64 (bt219.1 - 3),bt219.2.1,bt219.2.2))))) = some (r1,r2,r3):=H
 have A2:=mk0 A20
 clear A20
 by_cases c3:t206 = 0
 ·rw [if_pos c3] at H
  have c3b0:(t206 == 0) = true:=beq_iff_eq.mpr c3
  have c3b1:(t206 != 0) = false:=bne_eq_false_iff_eq.mpr c3
  clear c3
  replace H:=Option.bind_eq_some_iff.mp H
  obtain⟨⟨t209,t210,t211⟩,A40,H⟩:=H
  replace H:(some (wrap64 (t209 - 128),t210,t211)) = some (r1,r2,r3):=H
  have A4:=mk0 A40
  clear A40
  simp only [Option.some.injEq,Prod.mk.injEq] at H
  obtain⟨rfl,rfl,rfl⟩:=H
  go_enter Try.func70,Try.ntmps70
  go_wp2_with (first|((with_reducible refine gate_callee (f:=68) rfl ?_);refine gL (some 4) Try.func68 #[.pointer (some ⟨g,0,none⟩),.int .i64 8] ?_;(with_reducible refine (spec_l01Cur_pick.calls g s0_0 s0_1 s0_2 8 t206 t207 t208 w0 _ ?side1 ?side2 A2.out).mono ?_);(case side1=>repeat (first|(with_reducible first|exact HI0.out|apply IsS79.alloc|apply IsS79.drewN|apply IsS79.drew|apply IsS79.set_1|apply IsS79.set_2)|exact HI0.out));(case side2=>repeat (first|(with_reducible first|exact HB.out|apply aZ|apply nZ|apply dZ|refine sZ ?_ (IsS79.ge HI0.out))|exact HB.out));rintro e w5 ⟨rfl,hi,hb,hk⟩;refine⟨_,rfl,?_⟩;replace HK:=mk0 (KeepBut.trans (by repeat (first|(with_reducible first|exact HK.out|apply KeepBut.set_|apply keep_drewN|apply keep_drew|apply keep_alloc)|exact HK.out)) hk (.inl rfl));replace HB:=mk0 (hb);replace HI0:=mk0 (hi);(try clear hb);(try clear hk);(try clear hi))|((with_reducible refine gate_callee (f:=68) rfl ?_);refine gL (some 8) Try.func68 #[.pointer (some ⟨g,0,none⟩),.int .i64 256] ?_;(with_reducible refine (spec_l01Cur_pick.calls g s0_0 t207 t208 256 t209 t210 t211 w0 _ ?side1 ?side2 A4.out).mono ?_);(case side1=>repeat (first|(with_reducible first|exact HI0.out|apply IsS79.alloc|apply IsS79.drewN|apply IsS79.drew|apply IsS79.set_1|apply IsS79.set_2)|exact HI0.out));(case side2=>repeat (first|(with_reducible first|exact HB.out|apply aZ|apply nZ|apply dZ|refine sZ ?_ (IsS79.ge HI0.out))|exact HB.out));rintro e w6 ⟨rfl,hi,hb,hk⟩;refine⟨_,rfl,?_⟩;replace HK:=mk0 (KeepBut.trans (by repeat (first|(with_reducible first|exact HK.out|apply KeepBut.set_|apply keep_drewN|apply keep_drew|apply keep_alloc)|exact HK.out)) hk (.inl rfl));replace HB:=mk0 (hb);replace HI0:=mk0 (hi);(try clear hb);(try clear hk);(try clear hi)))
  go_ret
  exact⟨by first|rfl|(simp [errW_none,errW_some] <;> rfl)|(simp [*,errW_none,errW_some] <;> rfl),by repeat (first|(with_reducible first|exact HI0.out|apply IsS79.alloc|apply IsS79.drewN|apply IsS79.drew|apply IsS79.set_1|apply IsS79.set_2)|exact HI0.out),by repeat (first|(with_reducible first|exact HB.out|apply aZ|apply nZ|apply dZ|refine sZ ?_ (IsS79.ge HI0.out))|exact HB.out),by repeat (first|(with_reducible first|exact HK.out|apply KeepBut.set_|apply keep_drewN|apply keep_drew|apply keep_alloc)|exact HK.out)⟩
 ·rw [if_neg c3] at H
  have c3b0:(t206 == 0) = false:=beq_eq_false_iff_ne.mpr c3
  have c3b1:(t206 != 0) = true:=bne_iff_ne.mpr c3
  by_cases c7:t206 = 1
  ·rw [if_pos c7] at H
   have c7b0:(t206 == 1) = true:=beq_iff_eq.mpr c7
   have c7b1:(t206 != 1) = false:=bne_eq_false_iff_eq.mpr c7
   clear c7
   obtain⟨y212,hy212⟩:∃ y_:List Int,y_ = (([9223372036854775807,(-9223372036854775808),4611686018427387904,4294967295,4294967296,(-1000),1000,257]:List Int)):=⟨_,rfl⟩
   replace H:((spec_l01Cur_pick.f s0_0 t207 t208 8).bind fun bt215=>(if 0 ≤ bt215.1 then (if bt215.1 < (y212.length:Int) then (some (rd y212 bt215.1,bt215.2.1,bt215.2.2)) else (none)) else (none))) = some (r1,r2,r3):=by first|(rw [hy212];with_reducible exact H)|(have H2_:=(Option.bind_some _ _).symm.trans H;rw [hy212];with_reducible exact H2_)|(have H2_:=(Option.bind_some _ _).symm.trans H;with_reducible exact H2_)|with_reducible exact H|(rw [hy212];exact H)|exact H
   have Ny212:=mk0 hy212
   clear hy212
   replace H:=Option.bind_eq_some_iff.mp H
   obtain⟨⟨t215,t216,t217⟩,A80,H⟩:=H
   replace H:(if 0 ≤ t215 then (if t215 < (y212.length:Int) then (some (rd y212 t215,t216,t217)) else (none)) else (none)) = some (r1,r2,r3):=H
   have A8:=mk0 A80
   clear A80
   by_cases c9:0 ≤ t215
   ·rw [if_pos c9] at H
    have c9b0:decide (0 ≤ t215) = true:=decide_eq_true c9
    clear c9
    by_cases c10:t215 < (y212.length:Int)
    ·rw [if_pos c10] at H
     have c10b0:decide (t215 < (y212.length:Int)) = true:=decide_eq_true c10
     clear c10
     simp only [Option.some.injEq,Prod.mk.injEq] at H
     obtain⟨rfl,rfl,rfl⟩:=H
     go_enter Try.func70,Try.ntmps70
     go_wp2_with (first|((with_reducible refine gate_callee (f:=68) rfl ?_);refine gL (some 4) Try.func68 #[.pointer (some ⟨g,0,none⟩),.int .i64 8] ?_;(with_reducible refine (spec_l01Cur_pick.calls g s0_0 s0_1 s0_2 8 t206 t207 t208 w0 _ ?side1 ?side2 A2.out).mono ?_);(case side1=>repeat (first|(with_reducible first|exact HI0.out|apply IsS79.alloc|apply IsS79.drewN|apply IsS79.drew|apply IsS79.set_1|apply IsS79.set_2)|exact HI0.out));(case side2=>repeat (first|(with_reducible first|exact HB.out|apply aZ|apply nZ|apply dZ|refine sZ ?_ (IsS79.ge HI0.out))|exact HB.out));rintro e w11 ⟨rfl,hi,hb,hk⟩;refine⟨_,rfl,?_⟩;replace HK:=mk0 (KeepBut.trans (by repeat (first|(with_reducible first|exact HK.out|apply KeepBut.set_|apply keep_drewN|apply keep_drew|apply keep_alloc)|exact HK.out)) hk (.inl rfl));replace HB:=mk0 (hb);replace HI0:=mk0 (hi);(try clear hb);(try clear hk);(try clear hi))|((with_reducible refine gate_dst (N:=12) rfl ?_);refine Kd.R_lit (Kd.int .i64) _ 3 ?hg (N:=12) ?hd (xs:=([9223372036854775807,(-9223372036854775808),4611686018427387904,4294967295,4294967296,(-1000),1000,257]:List Int)) (inner:=[.int .i64 9223372036854775807,.int .i64 (-9223372036854775808),.int .i64 4611686018427387904,.int .i64 4294967295,.int .i64 4294967296,.int .i64 (-1000),.int .i64 1000,.int .i64 257]) (ok:=fun _=>True) (okp:=fun _=>True) ?hr ?hp (fun _ hk=>hk) trivial (Below.refl _ _) (Nat.le_refl _) (by simp) ?_;(case hd=>rfl);(case hg=>rfl);(case hr=>first|(go_simp;done)|(go_simp;rfl));(case hp=>exact (Reps.one (show Kd.M (Kd.int .i64) _ _ _ 9223372036854775807 [.int .i64 9223372036854775807] from rfl) (Reps.one (show Kd.M (Kd.int .i64) _ _ _ (-9223372036854775808) [.int .i64 (-9223372036854775808)] from rfl) (Reps.one (show Kd.M (Kd.int .i64) _ _ _ 4611686018427387904 [.int .i64 4611686018427387904] from rfl) (Reps.one (show Kd.M (Kd.int .i64) _ _ _ 4294967295 [.int .i64 4294967295] from rfl) (Reps.one (show Kd.M (Kd.int .i64) _ _ _ 4294967296 [.int .i64 4294967296] from rfl) (Reps.one (show Kd.M (Kd.int .i64) _ _ _ (-1000) [.int .i64 (-1000)] from rfl) (Reps.one (show Kd.M (Kd.int .i64) _ _ _ 1000 [.int .i64 1000] from rfl) (Reps.one (show Kd.M (Kd.int .i64) _ _ _ 257 [.int .i64 257] from rfl) (Reps.none _ _))))))))));intro v213 w12 ho13 hb hg_ hnew_;clear hg_ hnew_;(first|rw [← Ny212.out] at ho13|(simp only [Int.reduceToNat] at ho13;rw [← Ny212.out] at ho13));have HO214:=mk0 (Kd.R_lower ho13 (keep_size (w:=w) (g:=g) (row:=none) (by repeat (first|(with_reducible first|exact HK.out|apply KeepBut.set_|apply keep_drewN|apply keep_drew|apply keep_alloc)|exact HK.out))));replace HK:=mk0 (KeepBut.trans (by repeat (first|(with_reducible first|exact HK.out|apply KeepBut.set_|apply keep_drewN|apply keep_drew|apply keep_alloc)|exact HK.out)) (KeepBut.of_below hb g none) (.inl rfl));replace HB:=mk0 (below_step (by repeat (first|(with_reducible first|exact HB.out|apply aZ|apply nZ|apply dZ|refine sZ ?_ (IsS79.ge HI0.out))|exact HB.out)) hb);replace HI0:=mk0 (IsS79.below (by repeat (first|(with_reducible first|exact HI0.out|apply IsS79.alloc|apply IsS79.drewN|apply IsS79.drew|apply IsS79.set_1|apply IsS79.set_2)|exact HI0.out)) hb);clear hb ho13)|((with_reducible refine gate_callee (f:=68) rfl ?_);refine gL (some 14) Try.func68 #[.pointer (some ⟨g,0,none⟩),.int .i64 8] ?_;(with_reducible refine (spec_l01Cur_pick.calls g s0_0 t207 t208 8 t215 t216 t217 w0 _ ?side1 ?side2 A8.out).mono ?_);(case side1=>repeat (first|(with_reducible first|exact HI0.out|apply IsS79.alloc|apply IsS79.drewN|apply IsS79.drew|apply IsS79.set_1|apply IsS79.set_2)|exact HI0.out));(case side2=>repeat (first|(with_reducible first|exact HB.out|apply aZ|apply nZ|apply dZ|refine sZ ?_ (IsS79.ge HI0.out))|exact HB.out));rintro e w14 ⟨rfl,hi,hb,hk⟩;refine⟨_,rfl,?_⟩;replace HO214:=mk0 (Kd.R_mono (Kd.R_keep (IsS79.apart (show IsS79 w0 _ g s0_0 t207 t208 from by repeat (first|(with_reducible first|exact HI0.out|apply IsS79.alloc|apply IsS79.drewN|apply IsS79.drew|apply IsS79.set_1|apply IsS79.set_2)|exact HI0.out)) (rR HO214.out) (by decide)) hk (fun _ h=>h.2)) (fun _ h=>h.1));replace HK:=mk0 (KeepBut.trans (by repeat (first|(with_reducible first|exact HK.out|apply KeepBut.set_|apply keep_drewN|apply keep_drew|apply keep_alloc)|exact HK.out)) hk (.inl rfl));replace HB:=mk0 (hb);replace HI0:=mk0 (hi);(try clear hb);(try clear hk);(try clear hi);obtain⟨Ao15,co15,eo15⟩:=Kd.R_slice HO214.out;subst eo15;have p218:0 ≤ (t215:Int):=of_decide_eq_true (by first|(with_reducible assumption)|assumption);have q218:t215 < (y212.length:Int):=of_decide_eq_true (by first|(with_reducible assumption)|assumption);obtain⟨ad218,e218,hx218_0⟩:=Kd.at_int (Kd.R_reads' HO214.out).2.2 t215 p218 q218;cases e218;replace p218:=eq_true p218;replace q218:=eq_true q218))
     go_ret
     exact⟨by first|rfl|(simp [errW_none,errW_some] <;> rfl)|(simp [*,errW_none,errW_some] <;> rfl),by repeat (first|(with_reducible first|exact HI0.out|apply IsS79.alloc|apply IsS79.drewN|apply IsS79.drew|apply IsS79.set_1|apply IsS79.set_2)|exact HI0.out),by repeat (first|(with_reducible first|exact HB.out|apply aZ|apply nZ|apply dZ|refine sZ ?_ (IsS79.ge HI0.out))|exact HB.out),by repeat (first|(with_reducible first|exact HK.out|apply KeepBut.set_|apply keep_drewN|apply keep_drew|apply keep_alloc)|exact HK.out)⟩
    ·rw [if_neg c10] at H
     exact absurd H (by simp)
   ·rw [if_neg c9] at H
    exact absurd H (by simp)
  ·rw [if_neg c7] at H
   have c7b0:(t206 == 1) = false:=beq_eq_false_iff_ne.mpr c7
   have c7b1:(t206 != 1) = true:=bne_iff_ne.mpr c7
   replace H:=Option.bind_eq_some_iff.mp H
   obtain⟨⟨t219,t220,t221⟩,A160,H⟩:=H
   replace H:(some (wrap64 (t219 - 3),t220,t221)) = some (r1,r2,r3):=H
   have A16:=mk0 A160
   clear A160
   simp only [Option.some.injEq,Prod.mk.injEq] at H
   obtain⟨rfl,rfl,rfl⟩:=H
   go_enter Try.func70,Try.ntmps70
   go_wp2_with (first|((with_reducible refine gate_callee (f:=68) rfl ?_);refine gL (some 4) Try.func68 #[.pointer (some ⟨g,0,none⟩),.int .i64 8] ?_;(with_reducible refine (spec_l01Cur_pick.calls g s0_0 s0_1 s0_2 8 t206 t207 t208 w0 _ ?side1 ?side2 A2.out).mono ?_);(case side1=>repeat (first|(with_reducible first|exact HI0.out|apply IsS79.alloc|apply IsS79.drewN|apply IsS79.drew|apply IsS79.set_1|apply IsS79.set_2)|exact HI0.out));(case side2=>repeat (first|(with_reducible first|exact HB.out|apply aZ|apply nZ|apply dZ|refine sZ ?_ (IsS79.ge HI0.out))|exact HB.out));rintro e w17 ⟨rfl,hi,hb,hk⟩;refine⟨_,rfl,?_⟩;replace HK:=mk0 (KeepBut.trans (by repeat (first|(with_reducible first|exact HK.out|apply KeepBut.set_|apply keep_drewN|apply keep_drew|apply keep_alloc)|exact HK.out)) hk (.inl rfl));replace HB:=mk0 (hb);replace HI0:=mk0 (hi);(try clear hb);(try clear hk);(try clear hi))|((with_reducible refine gate_callee (f:=68) rfl ?_);refine gL (some 18) Try.func68 #[.pointer (some ⟨g,0,none⟩),.int .i64 14] ?_;(with_reducible refine (spec_l01Cur_pick.calls g s0_0 t207 t208 14 t219 t220 t221 w0 _ ?side1 ?side2 A16.out).mono ?_);(case side1=>repeat (first|(with_reducible first|exact HI0.out|apply IsS79.alloc|apply IsS79.drewN|apply IsS79.drew|apply IsS79.set_1|apply IsS79.set_2)|exact HI0.out));(case side2=>repeat (first|(with_reducible first|exact HB.out|apply aZ|apply nZ|apply dZ|refine sZ ?_ (IsS79.ge HI0.out))|exact HB.out));rintro e w18 ⟨rfl,hi,hb,hk⟩;refine⟨_,rfl,?_⟩;replace HK:=mk0 (KeepBut.trans (by repeat (first|(with_reducible first|exact HK.out|apply KeepBut.set_|apply keep_drewN|apply keep_drew|apply keep_alloc)|exact HK.out)) hk (.inl rfl));replace HB:=mk0 (hb);replace HI0:=mk0 (hi);(try clear hb);(try clear hk);(try clear hi)))
   go_ret
   exact⟨by first|rfl|(simp [errW_none,errW_some] <;> rfl)|(simp [*,errW_none,errW_some] <;> rfl),by repeat (first|(with_reducible first|exact HI0.out|apply IsS79.alloc|apply IsS79.drewN|apply IsS79.drew|apply IsS79.set_1|apply IsS79.set_2)|exact HI0.out),by repeat (first|(with_reducible first|exact HB.out|apply aZ|apply nZ|apply dZ|refine sZ ?_ (IsS79.ge HI0.out))|exact HB.out),by repeat (first|(with_reducible first|exact HK.out|apply KeepBut.set_|apply keep_drewN|apply keep_drew|apply keep_alloc)|exact HK.out)⟩

/-! ### spec_l01Cur_depthOf: function 46 -/
def spec_l01Cur_depthOf.f (s0_0 : List Int) (s0_1 : Int) (s0_2 : Int) : Option (Int × Int × Int) := (spec_l01Cur_raw.f s0_0 s0_1 s0_2).bind fun bt222 => ((some (([0, 1, 2, 3, 8, bt222.1] : List Int) : List Int)).bind fun y225 => ((spec_l01Cur_pick.f s0_0 bt222.2.1 bt222.2.2 6).bind fun bt228 => (if 0 ≤ bt228.1 then (if bt228.1 < (y225.length : Int) then (some (rd y225 bt228.1, bt228.2.1, bt228.2.2)) else (none)) else (none))))
set_option maxHeartbeats 8000000 in
set_option maxRecDepth 100000 in
theorem spec_l01Cur_depthOf.calls (g : Nat) (s0_0 : List Int) (s0_1 : Int) (s0_2 : Int) (r1 : Int) (r2 : Int) (r3 : Int) (w0 w : World) (hI : IsS79 w0 w g s0_0 s0_1 s0_2) (hB : Below w0.heap.size w0 w) (h : spec_l01Cur_depthOf.f s0_0 s0_1 s0_2 = some (r1, r2, r3)) :
  Calls Try.prog 46 #[.pointer (some ⟨g, 0, none⟩)] w fun e w' => e = .returned (.int .i64 r1) ∧ IsS79 w0 w' g s0_0 r2 r3 ∧ Below w0.heap.size w0 w' ∧ KeepBut w w' g none := by
 have HI0:=mk0 hI
 have HK:=mk0 (KeepBut.refl w g none)
 have HL:=mk0 hB.size
 clear hI
 have HW0:=mk0 hB.size
 have HB:=mk0 hB
 clear hB
 have H:((spec_l01Cur_raw.f s0_0 s0_1 s0_2).bind fun bt222=>((some (([0,1,2,3,8,bt222.1]:List Int):List Int)).bind fun y225=>((spec_l01Cur_pick.f s0_0 bt222.2.1 bt222.2.2 6).bind fun bt228=>(if 0 ≤ bt228.1 then (if bt228.1 < (y225.length:Int) then (some (rd y225 bt228.1,bt228.2.1,bt228.2.2)) else (none)) else (none))))) = some (r1,r2,r3):=h
 clear h
 replace H:=Option.bind_eq_some_iff.mp H
 obtain⟨⟨t222,t223,t224⟩,A20,H⟩:=H
 replace H:((some (([0,1,2,3,8,t222]:List Int):List Int)).bind fun y225=>((spec_l01Cur_pick.f s0_0 t223 t224 6).bind fun bt228=>(if 0 ≤ bt228.1 then (if bt228.1 < (y225.length:Int) then (some (rd y225 bt228.1,bt228.2.1,bt228.2.2)) else (none)) else (none)))) = some (r1,r2,r3):=H
 have A2:=mk0 A20
 clear A20
 obtain⟨y225,hy225⟩:∃ y_:List Int,y_ = (([0,1,2,3,8,t222]:List Int)):=⟨_,rfl⟩
 replace H:((spec_l01Cur_pick.f s0_0 t223 t224 6).bind fun bt228=>(if 0 ≤ bt228.1 then (if bt228.1 < (y225.length:Int) then (some (rd y225 bt228.1,bt228.2.1,bt228.2.2)) else (none)) else (none))) = some (r1,r2,r3):=by first|(rw [hy225];with_reducible exact H)|(have H2_:=(Option.bind_some _ _).symm.trans H;rw [hy225];with_reducible exact H2_)|(have H2_:=(Option.bind_some _ _).symm.trans H;with_reducible exact H2_)|with_reducible exact H|(rw [hy225];exact H)|exact H
 have Ny225:=mk0 hy225
 clear hy225
 replace H:=Option.bind_eq_some_iff.mp H
 obtain⟨⟨t228,t229,t230⟩,A30,H⟩:=H
 replace H:(if 0 ≤ t228 then (if t228 < (y225.length:Int) then (some (rd y225 t228,t229,t230)) else (none)) else (none)) = some (r1,r2,r3):=H
 have A3:=mk0 A30
 clear A30
 by_cases c4:0 ≤ t228
 ·rw [if_pos c4] at H
  have c4b0:decide (0 ≤ t228) = true:=decide_eq_true c4
  clear c4
  by_cases c5:t228 < (y225.length:Int)
  ·rw [if_pos c5] at H
   have c5b0:decide (t228 < (y225.length:Int)) = true:=decide_eq_true c5
   clear c5
   simp only [Option.some.injEq,Prod.mk.injEq] at H
   obtain⟨rfl,rfl,rfl⟩:=H
   go_enter Try.func46,Try.ntmps46
   go_wp2_with (first|((with_reducible refine gate_callee (f:=70) rfl ?_);refine gL (some 4) Try.func70 #[.pointer (some ⟨g,0,none⟩)] ?_;(with_reducible refine (spec_l01Cur_raw.calls g s0_0 s0_1 s0_2 t222 t223 t224 w0 _ ?side1 ?side2 A2.out).mono ?_);(case side1=>repeat (first|(with_reducible first|exact HI0.out|apply IsS79.alloc|apply IsS79.drewN|apply IsS79.drew|apply IsS79.set_1|apply IsS79.set_2)|exact HI0.out));(case side2=>repeat (first|(with_reducible first|exact HB.out|apply aZ|apply nZ|apply dZ|refine sZ ?_ (IsS79.ge HI0.out))|exact HB.out));rintro e w6 ⟨rfl,hi,hb,hk⟩;refine⟨_,rfl,?_⟩;replace HK:=mk0 (KeepBut.trans (by repeat (first|(with_reducible first|exact HK.out|apply KeepBut.set_|apply keep_drewN|apply keep_drew|apply keep_alloc)|exact HK.out)) hk (.inl rfl));replace HB:=mk0 (hb);replace HI0:=mk0 (hi);(try clear hb);(try clear hk);(try clear hi))|((with_reducible refine gate_dst (N:=5) rfl ?_);refine Kd.R_lit (Kd.int .i64) _ 3 ?hg (N:=5) ?hd (xs:=([0,1,2,3,8,t222]:List Int)) (inner:=[.int .i64 0,.int .i64 1,.int .i64 2,.int .i64 3,.int .i64 8,.int .i64 t222]) (ok:=fun _=>True) (okp:=fun _=>True) ?hr ?hp (fun _ hk=>hk) trivial (Below.refl _ _) (Nat.le_refl _) (by simp) ?_;(case hd=>rfl);(case hg=>rfl);(case hr=>first|(go_simp;done)|(go_simp;rfl));(case hp=>exact (Reps.one (show Kd.M (Kd.int .i64) _ _ _ 0 [.int .i64 0] from rfl) (Reps.one (show Kd.M (Kd.int .i64) _ _ _ 1 [.int .i64 1] from rfl) (Reps.one (show Kd.M (Kd.int .i64) _ _ _ 2 [.int .i64 2] from rfl) (Reps.one (show Kd.M (Kd.int .i64) _ _ _ 3 [.int .i64 3] from rfl) (Reps.one (show Kd.M (Kd.int .i64) _ _ _ 8 [.int .i64 8] from rfl) (Reps.one (show Kd.M (Kd.int .i64) _ _ _ t222 [.int .i64 t222] from rfl) (Reps.none _ _))))))));intro v226 w7 ho8 hb hg_ hnew_;clear hg_ hnew_;(first|rw [← Ny225.out] at ho8|(simp only [Int.reduceToNat] at ho8;rw [← Ny225.out] at ho8));have HO227:=mk0 (Kd.R_lower ho8 (keep_size (w:=w) (g:=g) (row:=none) (by repeat (first|(with_reducible first|exact HK.out|apply KeepBut.set_|apply keep_drewN|apply keep_drew|apply keep_alloc)|exact HK.out))));replace HK:=mk0 (KeepBut.trans (by repeat (first|(with_reducible first|exact HK.out|apply KeepBut.set_|apply keep_drewN|apply keep_drew|apply keep_alloc)|exact HK.out)) (KeepBut.of_below hb g none) (.inl rfl));replace HB:=mk0 (below_step (by repeat (first|(with_reducible first|exact HB.out|apply aZ|apply nZ|apply dZ|refine sZ ?_ (IsS79.ge HI0.out))|exact HB.out)) hb);replace HI0:=mk0 (IsS79.below (by repeat (first|(with_reducible first|exact HI0.out|apply IsS79.alloc|apply IsS79.drewN|apply IsS79.drew|apply IsS79.set_1|apply IsS79.set_2)|exact HI0.out)) hb);clear hb ho8)|((with_reducible refine gate_callee (f:=68) rfl ?_);refine gL (some 7) Try.func68 #[.pointer (some ⟨g,0,none⟩),.int .i64 6] ?_;(with_reducible refine (spec_l01Cur_pick.calls g s0_0 t223 t224 6 t228 t229 t230 w0 _ ?side1 ?side2 A3.out).mono ?_);(case side1=>repeat (first|(with_reducible first|exact HI0.out|apply IsS79.alloc|apply IsS79.drewN|apply IsS79.drew|apply IsS79.set_1|apply IsS79.set_2)|exact HI0.out));(case side2=>repeat (first|(with_reducible first|exact HB.out|apply aZ|apply nZ|apply dZ|refine sZ ?_ (IsS79.ge HI0.out))|exact HB.out));rintro e w9 ⟨rfl,hi,hb,hk⟩;refine⟨_,rfl,?_⟩;replace HO227:=mk0 (Kd.R_mono (Kd.R_keep (IsS79.apart (show IsS79 w0 _ g s0_0 t223 t224 from by repeat (first|(with_reducible first|exact HI0.out|apply IsS79.alloc|apply IsS79.drewN|apply IsS79.drew|apply IsS79.set_1|apply IsS79.set_2)|exact HI0.out)) (rR HO227.out) (by decide)) hk (fun _ h=>h.2)) (fun _ h=>h.1));replace HK:=mk0 (KeepBut.trans (by repeat (first|(with_reducible first|exact HK.out|apply KeepBut.set_|apply keep_drewN|apply keep_drew|apply keep_alloc)|exact HK.out)) hk (.inl rfl));replace HB:=mk0 (hb);replace HI0:=mk0 (hi);(try clear hb);(try clear hk);(try clear hi);obtain⟨Ao10,co10,eo10⟩:=Kd.R_slice HO227.out;subst eo10;have p231:0 ≤ (t228:Int):=of_decide_eq_true (by first|(with_reducible assumption)|assumption);have q231:t228 < (y225.length:Int):=of_decide_eq_true (by first|(with_reducible assumption)|assumption);obtain⟨ad231,e231,hx231_0⟩:=Kd.at_int (Kd.R_reads' HO227.out).2.2 t228 p231 q231;cases e231;replace p231:=eq_true p231;replace q231:=eq_true q231))
   go_ret
   exact⟨by first|rfl|(simp [errW_none,errW_some] <;> rfl)|(simp [*,errW_none,errW_some] <;> rfl),by repeat (first|(with_reducible first|exact HI0.out|apply IsS79.alloc|apply IsS79.drewN|apply IsS79.drew|apply IsS79.set_1|apply IsS79.set_2)|exact HI0.out),by repeat (first|(with_reducible first|exact HB.out|apply aZ|apply nZ|apply dZ|refine sZ ?_ (IsS79.ge HI0.out))|exact HB.out),by repeat (first|(with_reducible first|exact HK.out|apply KeepBut.set_|apply keep_drewN|apply keep_drew|apply keep_alloc)|exact HK.out)⟩
  ·rw [if_neg c5] at H
   exact absurd H (by simp)
 ·rw [if_neg c4] at H
  exact absurd H (by simp)

/-! ### spec_DrawParts: function 26 -/
def spec_DrawParts.f (k : Nat) (l0 : List Int) : Option (List Int × List Int × Int) := (spec_l01Open.f l0).bind fun bt232 => ((spec_l01Cur_twin.f k bt232.1 bt232.2.1 bt232.2.2 24).bind fun bt236 => ((spec_l01Cur_depthOf.f bt232.1 bt236.2.2.1 bt236.2.2.2).bind fun bt244 => (some (bt236.1, bt236.2.1, bt244.1))))
theorem spec_DrawParts.mono : ∀ a0 k, LeO (spec_DrawParts.f k a0) (spec_DrawParts.f (k + 1) a0) := by
 intro a0 k
 unfold spec_DrawParts.f
 repeat' first|(with_reducible first|exact spec_l01Cur_twin.mono _ _ _ _ _|exact LeO.refl _|exact LeO.none _|refine LeO.ite ?_ ?_|refine LeO.bind ?_ (fun _ => ?_))|exact LeO.none _|refine LeO.ite ?_ ?_|refine LeO.bind ?_ (fun _ => ?_)
set_option maxHeartbeats 8000000 in
set_option maxRecDepth 100000 in
theorem spec_DrawParts.calls (k : Nat) (A0 : Option Addr) (c0 : Nat) (l0 : List Int) (r1 : List Int) (r2 : List Int) (r3 : Int) (w : World) (hr0 : Kd.C (Kd.int .u8) w A0 l0.length l0) (hc0 : l0.length ≤ c0) (h : spec_DrawParts.f k l0 = some (r1, r2, r3)) :
  Calls Try.prog 26 #[.slice A0 l0.length c0] w fun e w' => ∃ v0_ v1_ : Value, e = .returned (.tuple #[v0_, v1_, .int .i64 r3]) ∧ Kd.R (Kd.int .u8) 5 w' w.heap.size (fun k_ => some k_ ≠ (v1_ : Value).ownBlock) v0_ r1 ∧ Kd.R (Kd.int .u8) 5 w' w.heap.size (fun k_ => some k_ ≠ (v0_ : Value).ownBlock) v1_ r2 ∧ Below w.heap.size w w' := by
 have HR0:=mk0 hr0
 have HC0:=mk0 hc0
 clear hr0 hc0
 have HB:=mk0 (Below.refl w.heap.size w)
 have H:((spec_l01Open.f l0).bind fun bt232=>((spec_l01Cur_twin.f k bt232.1 bt232.2.1 bt232.2.2 24).bind fun bt236=>((spec_l01Cur_depthOf.f bt232.1 bt236.2.2.1 bt236.2.2.2).bind fun bt244=>(some (bt236.1,bt236.2.1,bt244.1))))) = some (r1,r2,r3):=h
 clear h
 replace H:=Option.bind_eq_some_iff.mp H
 obtain⟨⟨t232,t233,t234⟩,A20,H⟩:=H
 replace H:((spec_l01Cur_twin.f k t232 t233 t234 24).bind fun bt236=>((spec_l01Cur_depthOf.f t232 bt236.2.2.1 bt236.2.2.2).bind fun bt244=>(some (bt236.1,bt236.2.1,bt244.1)))) = some (r1,r2,r3):=H
 have A2:=mk0 A20
 clear A20
 replace H:=Option.bind_eq_some_iff.mp H
 obtain⟨⟨t236,t239,t242,t243⟩,A30,H⟩:=H
 replace H:((spec_l01Cur_depthOf.f t232 t242 t243).bind fun bt244=>(some (t236,t239,bt244.1))) = some (r1,r2,r3):=H
 have A3:=mk0 A30
 clear A30
 replace H:=Option.bind_eq_some_iff.mp H
 obtain⟨⟨t244,t245,t246⟩,A40,H⟩:=H
 replace H:(some (t236,t239,t244)) = some (r1,r2,r3):=H
 have A4:=mk0 A40
 clear A40
 simp only [Option.some.injEq,Prod.mk.injEq] at H
 obtain⟨rfl,rfl,rfl⟩:=H
 go_enter Try.func26,Try.ntmps26
 go_wp2_with (first|((with_reducible refine gate_callee (f:=44) rfl ?_);refine gL (some 9) Try.func44 #[.slice A0 l0.length c0] ?_;(with_reducible refine (spec_l01Open.calls _ _ l0 t232 t233 t234 w _ ?side1 ?side2 ?side3 A2.out).mono ?_);(case side1=>repeat (first|(with_reducible first|exact HB.out|apply aZ|apply nZ|apply dZ)|exact HB.out));(case side2=>exact HR0.out);(case side3=>exact HC0.out);rintro e w5 ⟨g235,rfl,hi,hb,hb2⟩;refine⟨_,rfl,?_⟩;replace HB:=mk0 (hb);have HI235:=mk0 (hi);(try clear hb);(try clear hb2);(try clear hi))|((with_reducible refine gate_callee (f:=45) rfl ?_);refine gL (some 12) Try.func45 #[.pointer (some ⟨g235,0,none⟩),.int .i64 24] ?_;(with_reducible refine (spec_l01Cur_twin.calls k g235 t232 t233 t234 24 t236 t239 t242 t243 w _ ?side1 ?side2 A3.out).mono ?_);(case side1=>repeat (first|(with_reducible first|exact HI235.out|apply IsS79.alloc|apply IsS79.drewN|apply IsS79.drew|apply IsS79.set_1|apply IsS79.set_2)|exact HI235.out));(case side2=>repeat (first|(with_reducible first|exact HB.out|apply aZ|apply nZ|apply dZ|refine sZ ?_ (IsS79.ge HI235.out))|exact HB.out));rintro e w6 ⟨v237,v240,rfl,ho0,ho1,hi,hb,hk⟩;refine⟨_,rfl,?_⟩;have HO238:=mk0 (Kd.R_lower ho0 (below_size (by repeat (first|(with_reducible first|exact HB.out|apply aZ|apply nZ|apply dZ|refine sZ ?_ (IsS79.ge HI235.out))|exact HB.out))));have HO241:=mk0 (Kd.R_lower ho1 (below_size (by repeat (first|(with_reducible first|exact HB.out|apply aZ|apply nZ|apply dZ|refine sZ ?_ (IsS79.ge HI235.out))|exact HB.out))));replace HB:=mk0 (hb);replace HI235:=mk0 (hi);(try clear hb);(try clear hk);(try clear hi);(try clear ho0);(try clear ho1))|((with_reducible refine gate_callee (f:=46) rfl ?_);refine gL (some 18) Try.func46 #[.pointer (some ⟨g235,0,none⟩)] ?_;(with_reducible refine (spec_l01Cur_depthOf.calls g235 t232 t242 t243 t244 t245 t246 w _ ?side1 ?side2 A4.out).mono ?_);(case side1=>repeat (first|(with_reducible first|exact HI235.out|apply IsS79.alloc|apply IsS79.drewN|apply IsS79.drew|apply IsS79.set_1|apply IsS79.set_2)|exact HI235.out));(case side2=>repeat (first|(with_reducible first|exact HB.out|apply aZ|apply nZ|apply dZ|refine sZ ?_ (IsS79.ge HI235.out))|exact HB.out));rintro e w7 ⟨rfl,hi,hb,hk⟩;refine⟨_,rfl,?_⟩;replace HO238:=mk0 (Kd.R_mono (Kd.R_keep (IsS79.apart (show IsS79 w _ g235 t232 t242 t243 from by repeat (first|(with_reducible first|exact HI235.out|apply IsS79.alloc|apply IsS79.drewN|apply IsS79.drew|apply IsS79.set_1|apply IsS79.set_2)|exact HI235.out)) (rR HO238.out) (by decide)) hk (fun _ h=>h.2)) (fun _ h=>h.1));replace HO241:=mk0 (Kd.R_mono (Kd.R_keep (IsS79.apart (show IsS79 w _ g235 t232 t242 t243 from by repeat (first|(with_reducible first|exact HI235.out|apply IsS79.alloc|apply IsS79.drewN|apply IsS79.drew|apply IsS79.set_1|apply IsS79.set_2)|exact HI235.out)) (rR HO241.out) (by decide)) hk (fun _ h=>h.2)) (fun _ h=>h.1));replace HB:=mk0 (hb);replace HI235:=mk0 (hi);(try clear hb);(try clear hk);(try clear hi)))
 go_ret3
 exact⟨_,_,by first|rfl|(simp [errW_none,errW_some] <;> rfl)|(simp [*,errW_none,errW_some] <;> rfl),rR HO238.out,rR HO241.out,by repeat (first|(with_reducible first|exact HB.out|apply aZ|apply nZ|apply dZ|refine sZ ?_ (IsS79.ge HI235.out))|exact HB.out)⟩

/-! ### spec_TextOk: function 48 -/
def spec_TextOk.f (l0 : List Int) : Option (Bool) := some (decide ((l0.length : Int) ≤ 300))
set_option maxHeartbeats 8000000 in
set_option maxRecDepth 100000 in
theorem spec_TextOk.calls (A0 : Option Addr) (c0 : Nat) (l0 : List Int) (r : Bool) (w : World) (hr0 : Kd.C (Kd.int .u8) w A0 l0.length l0) (hc0 : l0.length ≤ c0) (h : spec_TextOk.f l0 = some r) :
  Calls Try.prog 48 #[.slice A0 l0.length c0] w fun e w' => e = .returned (.bool r) ∧ Drawn0 w w' := by
 have HR0:=mk0 hr0
 have HC0:=mk0 hc0
 clear hr0 hc0
 have H:(some (decide ((l0.length:Int) ≤ 300))) = some r:=h
 clear h
 obtain rfl:=Option.some.inj H
 go_enter Try.func48,Try.ntmps48
 go_wp2
 go_ret
 exact⟨by first|rfl|(simp;done)|(simp [*];done),by repeat (first|exact Drawn0.refl _|apply Drawn0.step)⟩

/-! ### spec_l13Fit: function 35 -/
def spec_l13Fit.f (l0 : List Int) (l1 : List Int) (a2 : Int) : Option (Bool) := (spec_TextOk.f l0).bind fun t247 => (if t247 = true then ((spec_TextOk.f l1).bind fun t248 => (if t248 = true then (if a2 ≥ 0 then (some (decide (a2 ≤ 8))) else (some false)) else (some false))) else (some false))
set_option maxHeartbeats 8000000 in
set_option maxRecDepth 100000 in
theorem spec_l13Fit.calls (A0 : Option Addr) (c0 : Nat) (l0 : List Int) (A1 : Option Addr) (c1 : Nat) (l1 : List Int) (a2 : Int) (r : Bool) (w : World) (hr0 : Kd.C (Kd.int .u8) w A0 l0.length l0) (hc0 : l0.length ≤ c0) (hr1 : Kd.C (Kd.int .u8) w A1 l1.length l1) (hc1 : l1.length ≤ c1) (h : spec_l13Fit.f l0 l1 a2 = some r) :
  Calls Try.prog 35 #[.slice A0 l0.length c0, .slice A1 l1.length c1, .int .i64 a2] w fun e w' => e = .returned (.bool r) ∧ Drawn0 w w' := by
 have HR0:=mk0 hr0
 have HC0:=mk0 hc0
 clear hr0 hc0
 have HR1:=mk0 hr1
 have HC1:=mk0 hc1
 clear hr1 hc1
 have H:((spec_TextOk.f l0).bind fun t247=>(if t247 = true then ((spec_TextOk.f l1).bind fun t248=>(if t248 = true then (if a2 ≥ 0 then (some (decide (a2 ≤ 8))) else (some false)) else (some false))) else (some false))) = some r:=h
 clear h
 replace H:=Option.bind_eq_some_iff.mp H
 obtain⟨t247,A40,H⟩:=H
 replace H:(if t247 = true then ((spec_TextOk.f l1).bind fun t248=>(if t248 = true then (if a2 ≥ 0 then (some (decide (a2 ≤ 8))) else (some false)) else (some false))) else (some false)) = some r:=H
 have A4:=mk0 A40
 clear A40
 by_cases c5:t247 = true
 ·subst c5
  have H1:((spec_TextOk.f l1).bind fun t248=>(if t248 = true then (if a2 ≥ 0 then (some (decide (a2 ≤ 8))) else (some false)) else (some false))) = some r:=by rw [if_pos rfl] at H;exact H
  clear H
  have H:=H1
  clear H1
  replace H:=Option.bind_eq_some_iff.mp H
  obtain⟨t248,A60,H⟩:=H
  replace H:(if t248 = true then (if a2 ≥ 0 then (some (decide (a2 ≤ 8))) else (some false)) else (some false)) = some r:=H
  have A6:=mk0 A60
  clear A60
  by_cases c7:t248 = true
  ·subst c7
   have H1:(if a2 ≥ 0 then (some (decide (a2 ≤ 8))) else (some false)) = some r:=by rw [if_pos rfl] at H;exact H
   clear H
   have H:=H1
   clear H1
   by_cases c8:a2 ≥ 0
   ·rw [if_pos c8] at H
    have c8b0:decide (0 ≤ a2) = true:=decide_eq_true c8
    clear c8
    obtain rfl:=Option.some.inj H
    go_enter Try.func35,Try.ntmps35
    go_wp2_with (first|((with_reducible refine gate_callee (f:=48) rfl ?_);refine gL (some 8) Try.func48 #[.slice A0 l0.length c0] ?_;(with_reducible refine (spec_TextOk.calls _ _ l0 true _ ?side1 ?side2 A4.out).mono ?_);(case side1=>repeat (first|exact HR0.out|(with_reducible first|apply aC|apply nC|apply dC)));(case side2=>exact HC0.out);rintro e w' ⟨rfl,⟨nd,rfl⟩⟩;refine⟨_,rfl,?_⟩)|(go_at_call 48;(with_reducible refine (spec_TextOk.calls _ _ l1 true _ ?side1 ?side2 A6.out).mono ?_);(case side1=>repeat (first|exact HR1.out|(with_reducible first|apply aC|apply nC|apply dC)));(case side2=>exact HC1.out);rintro e w' ⟨rfl,⟨nd,rfl⟩⟩))
    go_ret
    exact⟨by first|rfl|(simp;done)|(simp [*];done),by repeat (first|exact Drawn0.refl _|apply Drawn0.step)⟩
   ·rw [if_neg c8] at H
    have c8b0:decide (0 ≤ a2) = false:=decide_eq_false c8
    clear c8
    obtain rfl:=Option.some.inj H
    go_enter Try.func35,Try.ntmps35
    go_wp2_with (first|((with_reducible refine gate_callee (f:=48) rfl ?_);refine gL (some 8) Try.func48 #[.slice A0 l0.length c0] ?_;(with_reducible refine (spec_TextOk.calls _ _ l0 true _ ?side1 ?side2 A4.out).mono ?_);(case side1=>repeat (first|exact HR0.out|(with_reducible first|apply aC|apply nC|apply dC)));(case side2=>exact HC0.out);rintro e w' ⟨rfl,⟨nd,rfl⟩⟩;refine⟨_,rfl,?_⟩)|(go_at_call 48;(with_reducible refine (spec_TextOk.calls _ _ l1 true _ ?side1 ?side2 A6.out).mono ?_);(case side1=>repeat (first|exact HR1.out|(with_reducible first|apply aC|apply nC|apply dC)));(case side2=>exact HC1.out);rintro e w' ⟨rfl,⟨nd,rfl⟩⟩))
    go_ret
    exact⟨by first|rfl|(simp;done)|(simp [*];done),by repeat (first|exact Drawn0.refl _|apply Drawn0.step)⟩
  ·replace c7:=Bool.eq_false_iff.mpr c7
   subst c7
   have H1:(some false) = some r:=by rw [if_neg (show ¬ (false = true) by decide)] at H;exact H
   clear H
   have H:=H1
   clear H1
   obtain rfl:=Option.some.inj H
   go_enter Try.func35,Try.ntmps35
   go_wp2_with (first|((with_reducible refine gate_callee (f:=48) rfl ?_);refine gL (some 8) Try.func48 #[.slice A0 l0.length c0] ?_;(with_reducible refine (spec_TextOk.calls _ _ l0 true _ ?side1 ?side2 A4.out).mono ?_);(case side1=>repeat (first|exact HR0.out|(with_reducible first|apply aC|apply nC|apply dC)));(case side2=>exact HC0.out);rintro e w' ⟨rfl,⟨nd,rfl⟩⟩;refine⟨_,rfl,?_⟩)|(go_at_call 48;(with_reducible refine (spec_TextOk.calls _ _ l1 false _ ?side1 ?side2 A6.out).mono ?_);(case side1=>repeat (first|exact HR1.out|(with_reducible first|apply aC|apply nC|apply dC)));(case side2=>exact HC1.out);rintro e w' ⟨rfl,⟨nd,rfl⟩⟩))
   go_ret
   exact⟨by first|rfl|(simp;done)|(simp [*];done),by repeat (first|exact Drawn0.refl _|apply Drawn0.step)⟩
 ·replace c5:=Bool.eq_false_iff.mpr c5
  subst c5
  have H1:(some false) = some r:=by rw [if_neg (show ¬ (false = true) by decide)] at H;exact H
  clear H
  have H:=H1
  clear H1
  obtain rfl:=Option.some.inj H
  go_enter Try.func35,Try.ntmps35
  go_wp2_with (first|((with_reducible refine gate_callee (f:=48) rfl ?_);refine gL (some 8) Try.func48 #[.slice A0 l0.length c0] ?_;(with_reducible refine (spec_TextOk.calls _ _ l0 false _ ?side1 ?side2 A4.out).mono ?_);(case side1=>repeat (first|exact HR0.out|(with_reducible first|apply aC|apply nC|apply dC)));(case side2=>exact HC0.out);rintro e w' ⟨rfl,⟨nd,rfl⟩⟩;refine⟨_,rfl,?_⟩))
  go_ret
  exact⟨by first|rfl|(simp;done)|(simp [*];done),by repeat (first|exact Drawn0.refl _|apply Drawn0.step)⟩

/-! ### spec_l05Cmp: function 53 -/
mutual
def spec_l05Cmp.l0 : Nat → List Int → List Int → Int → Option (Int)
 | 0, _, _, _ => none
 | k + 1, x0, x1, x5 => if x5 < (x0.length : Int) then (spec_l05Cmp.j1 k x0 x1 x5 (decide (x5 < (x1.length : Int)))) else (spec_l05Cmp.j1 k x0 x1 x5 false)
def spec_l05Cmp.j1 : Nat → List Int → List Int → Int → Bool → Option (Int)
 | 0, _, _, _, _ => none
 | k + 1, x0, x1, x5, x15 => if x15 = true then (if 0 ≤ x5 then (if x5 < (x0.length : Int) then (if x5 < (x1.length : Int) then (if (rd x0 x5) < (rd x1 x5) then (some (-1)) else (if (rd x0 x5) > (rd x1 x5) then (some 1) else (spec_l05Cmp.l0 k x0 x1 (wrap64 (x5 + 1))))) else (none)) else (none)) else (none)) else (if (x0.length : Int) < (x1.length : Int) then (some (-1)) else (if (x0.length : Int) > (x1.length : Int) then (some 1) else (some 0)))
end
def spec_l05Cmp.f (k : Nat) (l0 : List Int) (l1 : List Int) : Option (Int) := spec_l05Cmp.l0 k l0 l1 0
theorem spec_l05Cmp.mono_l : ∀ k, (∀ y0 y1 y2, LeO (spec_l05Cmp.l0 k y0 y1 y2) (spec_l05Cmp.l0 (k + 1) y0 y1 y2)) ∧ (∀ y0 y1 y2 y3, LeO (spec_l05Cmp.j1 k y0 y1 y2 y3) (spec_l05Cmp.j1 (k + 1) y0 y1 y2 y3))
 | 0 => ⟨fun _ _ _ r h => by simp [spec_l05Cmp.l0] at h, fun _ _ _ _ r h => by simp [spec_l05Cmp.j1] at h⟩
 | k + 1 => by
  obtain ⟨ih0, ih1⟩ := spec_l05Cmp.mono_l k
  refine ⟨?_, ?_⟩
  ·intro y0 y1 y2
   unfold spec_l05Cmp.l0
   repeat' first|(with_reducible first|exact ih0 _ _ _|exact ih1 _ _ _ _|exact LeO.refl _|exact LeO.none _|refine LeO.ite ?_ ?_|refine LeO.bind ?_ (fun _ => ?_))|exact LeO.none _|refine LeO.ite ?_ ?_|refine LeO.bind ?_ (fun _ => ?_)
  ·intro y0 y1 y2 y3
   unfold spec_l05Cmp.j1
   repeat' first|(with_reducible first|exact ih0 _ _ _|exact ih1 _ _ _ _|exact LeO.refl _|exact LeO.none _|refine LeO.ite ?_ ?_|refine LeO.bind ?_ (fun _ => ?_))|exact LeO.none _|refine LeO.ite ?_ ?_|refine LeO.bind ?_ (fun _ => ?_)
theorem spec_l05Cmp.mono : ∀ a0 a1 k, LeO (spec_l05Cmp.f k a0 a1) (spec_l05Cmp.f (k + 1) a0 a1) := by
 intro a0 a1 k
 obtain ⟨ih0, ih1⟩ := spec_l05Cmp.mono_l k
 unfold spec_l05Cmp.f
 repeat' first|(with_reducible first|exact ih0 _ _ _|exact ih1 _ _ _ _|exact LeO.refl _|exact LeO.none _|refine LeO.ite ?_ ?_|refine LeO.bind ?_ (fun _ => ?_))|exact LeO.none _|refine LeO.ite ?_ ?_|refine LeO.bind ?_ (fun _ => ?_)
set_option maxHeartbeats 8000000 in
set_option maxRecDepth 100000 in
theorem spec_l05Cmp.calls (k : Nat) (A0 : Option Addr) (c0 : Nat) (l0 : List Int) (A1 : Option Addr) (c1 : Nat) (l1 : List Int) (r : Int) (w : World) (hr0 : Kd.C (Kd.int .u8) w A0 l0.length l0) (hc0 : l0.length ≤ c0) (hr1 : Kd.C (Kd.int .u8) w A1 l1.length l1) (hc1 : l1.length ≤ c1) (h : spec_l05Cmp.f k l0 l1 = some r) :
  Calls Try.prog 53 #[.slice A0 l0.length c0, .slice A1 l1.length c1] w fun e w' => e = .returned (.int .i64 r) ∧ Drawn0 w w' := by
 have HR0:=mk0 hr0
 have HC0:=mk0 hc0
 clear hr0 hc0
 have HR1:=mk0 hr1
 have HC1:=mk0 hc1
 clear hr1 hc1
 have H:(spec_l05Cmp.l0 k l0 l1 0) = some r:=h
 clear h
 have H':=mk0 H
 clear H
 go_enter Try.func53,Try.ntmps53
 go_wp2
 repeat (go_quiet (fail);try go_wp2)
 go_loopg [5] k (fun kq v5 w'=>∃ (x5_1:Int),v5 = .int .i64 x5_1 ∧ Aside0 (spec_l05Cmp.l0 kq l0 l1 x5_1 = some r) ∧ Aside0 (kq ≤ k) ∧ Drawn0 w w')
 case atStart=>exact⟨(0),(by first|rfl|(simp;done)|(simp [*];done)),H',⟨Nat.le_refl _⟩,by repeat (first|exact Drawn0.refl _|apply Drawn0.step)⟩
 case round =>
  clear H'
  try clear c1
  try clear p2
  obtain⟨x5_1,rfl,HA,HK1,⟨m1,rfl⟩⟩:=hrel
  cases gk with
  | zero=>exact absurd HA.out (by simp [spec_l05Cmp.l0])
  | succ k1 =>
   have H:=HA.out
   clear HA
   simp only [spec_l05Cmp.l0] at H
   have HC3:=mk0 H
   clear H
   go_upto_region 2 with (fail)
   repeat (go_quiet (fail);go_upto_region 2 with (fail))
   go_cut [15] (fun v15 wc=>∃ (kq:Nat) (x15_2:Bool),v15 = .bool x15_2 ∧ Aside0 (spec_l05Cmp.j1 kq l0 l1 x5_1 x15_2 = some r) ∧ Aside0 (kq ≤ k1) ∧ Drawn0 w wc)
   case first =>
    have H:=HC3.out
    clear HC3
    by_cases c4:x5_1 < (l0.length:Int)
    ·rw [if_pos c4] at H
     have c4b0:decide (x5_1 < (l0.length:Int)) = true:=decide_eq_true c4
     clear c4
     (first|rw [c4b0]|(simp only [i64_w,i32_w];rw [c4b0])|skip)
     have H':=mk0 H
     clear H
     go_wp2
     repeat (go_quiet (fail);try go_wp2)
     go_meet
     case rel=>exact⟨_,(decide (x5_1 < (l1.length:Int))),(by first|rfl|(simp;done)|(simp [*];done)),H',⟨by have:=HK1.out;first|omega|exact Nat.le_refl _⟩,by repeat (first|exact Drawn0.refl _|apply Drawn0.step)⟩
    ·rw [if_neg c4] at H
     have c4b0:decide (x5_1 < (l0.length:Int)) = false:=decide_eq_false c4
     clear c4
     (first|rw [c4b0]|(simp only [i64_w,i32_w];rw [c4b0])|skip)
     have H':=mk0 H
     clear H
     go_wp2
     repeat (go_quiet (fail);try go_wp2)
     go_meet
     case rel=>exact⟨_,(false),(by first|rfl|(simp;done)|(simp [*];done)),H',⟨by have:=HK1.out;first|omega|exact Nat.le_refl _⟩,by repeat (first|exact Drawn0.refl _|apply Drawn0.step)⟩
   case rest =>
    clear HC3
    try clear c1
    try clear p2
    try clear c4
    try clear c4b0
    try clear p2
    obtain⟨kq,x15_2,rfl,HA,HJ2,⟨mc2,rfl⟩⟩:=hcut
    cases kq with
    | zero=>exact absurd HA.out (by simp [spec_l05Cmp.j1])
    | succ kj2 =>
     have H:=HA.out
     clear HA
     simp only [spec_l05Cmp.j1] at H
     by_cases c5:x15_2 = true
     ·subst c5
      have H1:(if 0 ≤ x5_1 then (if x5_1 < (l0.length:Int) then (if x5_1 < (l1.length:Int) then (if (rd l0 x5_1) < (rd l1 x5_1) then (some (-1)) else (if (rd l0 x5_1) > (rd l1 x5_1) then (some 1) else (spec_l05Cmp.l0 kj2 l0 l1 (wrap64 (x5_1 + 1))))) else (none)) else (none)) else (none)) = some r:=by rw [if_pos rfl] at H;exact H
      clear H
      have H:=H1
      clear H1
      by_cases c6:0 ≤ x5_1
      ·rw [if_pos c6] at H
       have c6b0:decide (0 ≤ x5_1) = true:=decide_eq_true c6
       clear c6
       by_cases c7:x5_1 < (l0.length:Int)
       ·rw [if_pos c7] at H
        have c7b0:decide (x5_1 < (l0.length:Int)) = true:=decide_eq_true c7
        clear c7
        by_cases c8:x5_1 < (l1.length:Int)
        ·rw [if_pos c8] at H
         have c8b0:decide (x5_1 < (l1.length:Int)) = true:=decide_eq_true c8
         clear c8
         by_cases c9:(rd l0 x5_1) < (rd l1 x5_1)
         ·rw [if_pos c9] at H
          have c9b0:decide ((rd l0 x5_1) < (rd l1 x5_1)) = true:=decide_eq_true c9
          clear c9
          obtain rfl:=Option.some.inj H
          have p249:0 ≤ (x5_1:Int):=of_decide_eq_true (by first|(with_reducible assumption)|assumption)
          have q249:x5_1 < (l0.length:Int):=of_decide_eq_true (by first|(with_reducible assumption)|assumption)
          obtain⟨ad249,e249,hx249_0⟩:=Kd.at_int HR0.out x5_1 p249 q249
          cases e249
          replace p249:=eq_true p249
          replace q249:=eq_true q249
          have p250:0 ≤ (x5_1:Int):=of_decide_eq_true (by first|(with_reducible assumption)|assumption)
          have q250:x5_1 < (l1.length:Int):=of_decide_eq_true (by first|(with_reducible assumption)|assumption)
          obtain⟨ad250,e250,hx250_0⟩:=Kd.at_int HR1.out x5_1 p250 q250
          cases e250
          replace p250:=eq_true p250
          replace q250:=eq_true q250
          go_wp2
          repeat (go_quiet (fail);try go_wp2)
          go_ret
          exact⟨by first|rfl|(simp;done)|(simp [*];done),by repeat (first|exact Drawn0.refl _|apply Drawn0.step)⟩
         ·rw [if_neg c9] at H
          have c9b0:decide ((rd l0 x5_1) < (rd l1 x5_1)) = false:=decide_eq_false c9
          clear c9
          by_cases c10:(rd l0 x5_1) > (rd l1 x5_1)
          ·rw [if_pos c10] at H
           have c10b0:decide ((rd l1 x5_1) < (rd l0 x5_1)) = true:=decide_eq_true c10
           clear c10
           obtain rfl:=Option.some.inj H
           have p249:0 ≤ (x5_1:Int):=of_decide_eq_true (by first|(with_reducible assumption)|assumption)
           have q249:x5_1 < (l0.length:Int):=of_decide_eq_true (by first|(with_reducible assumption)|assumption)
           obtain⟨ad249,e249,hx249_0⟩:=Kd.at_int HR0.out x5_1 p249 q249
           cases e249
           replace p249:=eq_true p249
           replace q249:=eq_true q249
           have p250:0 ≤ (x5_1:Int):=of_decide_eq_true (by first|(with_reducible assumption)|assumption)
           have q250:x5_1 < (l1.length:Int):=of_decide_eq_true (by first|(with_reducible assumption)|assumption)
           obtain⟨ad250,e250,hx250_0⟩:=Kd.at_int HR1.out x5_1 p250 q250
           cases e250
           replace p250:=eq_true p250
           replace q250:=eq_true q250
           have p251:0 ≤ (x5_1:Int):=of_decide_eq_true (by first|(with_reducible assumption)|assumption)
           have q251:x5_1 < (l0.length:Int):=of_decide_eq_true (by first|(with_reducible assumption)|assumption)
           obtain⟨ad251,e251,hx251_0⟩:=Kd.at_int HR0.out x5_1 p251 q251
           obtain rfl:ad249 = ad251:=(by injection e251)
           replace p251:=eq_true p251
           replace q251:=eq_true q251
           have p252:0 ≤ (x5_1:Int):=of_decide_eq_true (by first|(with_reducible assumption)|assumption)
           have q252:x5_1 < (l1.length:Int):=of_decide_eq_true (by first|(with_reducible assumption)|assumption)
           obtain⟨ad252,e252,hx252_0⟩:=Kd.at_int HR1.out x5_1 p252 q252
           obtain rfl:ad250 = ad252:=(by injection e252)
           replace p252:=eq_true p252
           replace q252:=eq_true q252
           go_wp2
           repeat (go_quiet (fail);try go_wp2)
           go_ret
           exact⟨by first|rfl|(simp;done)|(simp [*];done),by repeat (first|exact Drawn0.refl _|apply Drawn0.step)⟩
          ·rw [if_neg c10] at H
           have c10b0:decide ((rd l1 x5_1) < (rd l0 x5_1)) = false:=decide_eq_false c10
           clear c10
           have H':=mk0 H
           clear H
           have p249:0 ≤ (x5_1:Int):=of_decide_eq_true (by first|(with_reducible assumption)|assumption)
           have q249:x5_1 < (l0.length:Int):=of_decide_eq_true (by first|(with_reducible assumption)|assumption)
           obtain⟨ad249,e249,hx249_0⟩:=Kd.at_int HR0.out x5_1 p249 q249
           cases e249
           replace p249:=eq_true p249
           replace q249:=eq_true q249
           have p250:0 ≤ (x5_1:Int):=of_decide_eq_true (by first|(with_reducible assumption)|assumption)
           have q250:x5_1 < (l1.length:Int):=of_decide_eq_true (by first|(with_reducible assumption)|assumption)
           obtain⟨ad250,e250,hx250_0⟩:=Kd.at_int HR1.out x5_1 p250 q250
           cases e250
           replace p250:=eq_true p250
           replace q250:=eq_true q250
           have p251:0 ≤ (x5_1:Int):=of_decide_eq_true (by first|(with_reducible assumption)|assumption)
           have q251:x5_1 < (l0.length:Int):=of_decide_eq_true (by first|(with_reducible assumption)|assumption)
           obtain⟨ad251,e251,hx251_0⟩:=Kd.at_int HR0.out x5_1 p251 q251
           obtain rfl:ad249 = ad251:=(by injection e251)
           replace p251:=eq_true p251
           replace q251:=eq_true q251
           have p252:0 ≤ (x5_1:Int):=of_decide_eq_true (by first|(with_reducible assumption)|assumption)
           have q252:x5_1 < (l1.length:Int):=of_decide_eq_true (by first|(with_reducible assumption)|assumption)
           obtain⟨ad252,e252,hx252_0⟩:=Kd.at_int HR1.out x5_1 p252 q252
           obtain rfl:ad250 = ad252:=(by injection e252)
           replace p252:=eq_true p252
           replace q252:=eq_true q252
           go_wp2
           repeat (go_quiet (fail);try go_wp2)
           go_roundg kj2
           case measure=>have:=HK1.out;have:=HJ2.out;omega
           case rel=>exact⟨(wrap64 (x5_1 + 1)),(by first|rfl|(simp;done)|(simp [*];done)),H',⟨by have:=HK1.out;have:=HJ2.out;omega⟩,by repeat (first|exact Drawn0.refl _|apply Drawn0.step)⟩
        ·rw [if_neg c8] at H
         exact absurd H (by simp)
       ·rw [if_neg c7] at H
        exact absurd H (by simp)
      ·rw [if_neg c6] at H
       exact absurd H (by simp)
     ·replace c5:=Bool.eq_false_iff.mpr c5
      subst c5
      have H1:(if (l0.length:Int) < (l1.length:Int) then (some (-1)) else (if (l0.length:Int) > (l1.length:Int) then (some 1) else (some 0))) = some r:=by rw [if_neg (show ¬ (false = true) by decide)] at H;exact H
      clear H
      have H:=H1
      clear H1
      by_cases c11:(l0.length:Int) < (l1.length:Int)
      ·rw [if_pos c11] at H
       have c11b0:decide ((l0.length:Int) < (l1.length:Int)) = true:=decide_eq_true c11
       have c11b1:decide (l0.length < l1.length) = true:=decide_eq_true (Int.ofNat_lt.mp c11)
       clear c11
       obtain rfl:=Option.some.inj H
       go_wp2
       repeat (go_quiet (fail);try go_wp2)
       go_ret
       exact⟨by first|rfl|(simp;done)|(simp [*];done),by repeat (first|exact Drawn0.refl _|apply Drawn0.step)⟩
      ·rw [if_neg c11] at H
       have c11b0:decide ((l0.length:Int) < (l1.length:Int)) = false:=decide_eq_false c11
       have c11b1:decide (l0.length < l1.length) = false:=decide_eq_false (fun h=>c11 (Int.ofNat_lt.mpr h))
       clear c11
       by_cases c12:(l0.length:Int) > (l1.length:Int)
       ·rw [if_pos c12] at H
        have c12b0:decide ((l1.length:Int) < (l0.length:Int)) = true:=decide_eq_true c12
        have c12b1:decide (l1.length < l0.length) = true:=decide_eq_true (Int.ofNat_lt.mp c12)
        clear c12
        obtain rfl:=Option.some.inj H
        go_wp2
        repeat (go_quiet (fail);try go_wp2)
        go_ret
        exact⟨by first|rfl|(simp;done)|(simp [*];done),by repeat (first|exact Drawn0.refl _|apply Drawn0.step)⟩
       ·rw [if_neg c12] at H
        have c12b0:decide ((l1.length:Int) < (l0.length:Int)) = false:=decide_eq_false c12
        have c12b1:decide (l1.length < l0.length) = false:=decide_eq_false (fun h=>c12 (Int.ofNat_lt.mpr h))
        clear c12
        obtain rfl:=Option.some.inj H
        go_wp2
        repeat (go_quiet (fail);try go_wp2)
        go_ret
        exact⟨by first|rfl|(simp;done)|(simp [*];done),by repeat (first|exact Drawn0.refl _|apply Drawn0.step)⟩

end Go.Proofs.Ytadhngelhognaaa.QFnParts
