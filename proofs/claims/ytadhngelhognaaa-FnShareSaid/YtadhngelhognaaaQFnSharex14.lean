-- A walk, made by walk.py, a program of this session's.
import Derived.Test.YtadhngelhognaaaQFnSharex0
import Derived.Test.YtadhngelhognaaaQFnSharex12
import Derived.Test.YtadhngelhognaaaQFnSharex13
namespace Go.Proofs.Ytadhngelhognaaa.QFnShare
open Go.RowKit Go.Proofs.YtadhngelhognaaaW.PrintWords Go.Proofs.YtadhngelhognaaaW.PrintLast Go.Proofs.YtadhngelhognaaaW.PrintMore
attribute [local go_sem] max2_int min2_int max_two min_two max_three min_three max_four min_four   -- for this text's walks alone
set_option linter.unusedVariables false
set_option linter.unusedSimpArgs false
/-! ### spec_l01Cur_twin: function 45 -/
mutual
def spec_l01Cur_twin.l0 : Nat → Int → List Int → Int → List Int → List Int → Int → Int → Option (List Int × List Int × Int × Int)
 | 0, _, _, _, _, _, _, _ => none
 | k + 1, x1, x7, x8, x13, x1000, x1001, x1002 => if x8 > 0 then ((spec_l01Cur_pick.f x1000 x1001 x1002 (wrap64 ((x7.length : Int) + 1))).bind fun bt546 => ((some (([(⟨#[]⟩ : ByteArray), (⟨#[97]⟩ : ByteArray), (⟨#[98]⟩ : ByteArray), (⟨#[122, 122]⟩ : ByteArray)] : List ByteArray) : List ByteArray)).bind fun y549 => ((spec_l01Cur_pick.f x1000 bt546.2.1 bt546.2.2 4).bind fun bt552 => (if 0 ≤ bt552.1 then (if bt552.1 < (y549.length : Int) then ((some (([] : List Int) : List Int)).bind fun y556 => (if 0 ≤ bt546.1 then (if bt546.1 ≤ (x7.length : Int) then ((some (x7.take (bt546.1 : Int).toNat : List Int)).bind fun y559 => (if y556.length + y559.length < 140737488355328 then ((some (y556 ++ y559 : List Int)).bind fun y563 => (if y563.length + (rdOf ByteArray.empty y549 bt552.1).size < 140737488355328 then ((some (y563 ++ bytesOf (rdOf ByteArray.empty y549 bt552.1) : List Int)).bind fun y566 => ((spec_l01Cur_pick.f x1000 bt552.2.1 bt552.2.2 3).bind fun bt569 => (if 0 ≤ (mn (x7.length : Int) (wrap64 (bt546.1 + bt569.1))) then (if (mn (x7.length : Int) (wrap64 (bt546.1 + bt569.1))) ≤ (x7.length : Int) then ((some (x7.drop ((mn (x7.length : Int) (wrap64 (bt546.1 + bt569.1))) : Int).toNat : List Int)).bind fun y572 => (if y566.length + y572.length < 140737488355328 then (spec_l01Cur_twin.l0 k x1 (y566 ++ y572) (wrap64 (x8 - 1)) x13 x1000 bt569.2.1 bt569.2.2) else (none))) else (none)) else (none)))) else (none))) else (none))) else (none)) else (none))) else (none)) else (none))))) else ((spec_l01Cur_once.f x1000 x1001 x1002 6).bind fun bt579 => (if bt579.1 = true then ((spec_l01Cur_textOf.f k x1000 bt579.2.1 bt579.2.2 x1).bind fun bt582 => (spec_l01Cur_twin.j1 k x1 x13 bt582.1 x1000 bt582.2.1 bt582.2.2)) else (spec_l01Cur_twin.j1 k x1 x13 x7 x1000 bt579.2.1 bt579.2.2)))
def spec_l01Cur_twin.j1 : Nat → Int → List Int → List Int → List Int → Int → Int → Option (List Int × List Int × Int × Int)
 | 0, _, _, _, _, _, _ => none
 | k + 1, x1, x6, x7, x1000, x1001, x1002 => if (x7.length : Int) > x1 then (if 0 ≤ x1 then (if x1 ≤ (x7.length : Int) then (some (x6, (x7.take (x1 : Int).toNat), x1001, x1002)) else (none)) else (none)) else (some (x6, x7, x1001, x1002))
end
def spec_l01Cur_twin.f (k : Nat) (s0_0 : List Int) (s0_1 : Int) (s0_2 : Int) (a1 : Int) : Option (List Int × List Int × Int × Int) := (spec_l01Cur_textOf.f k s0_0 s0_1 s0_2 a1).bind fun bt532 => ((some (([] : List Int) : List Int)).bind fun y537 => (if y537.length + bt532.1.length < 140737488355328 then ((spec_l01Cur_pick.f s0_0 bt532.2.1 bt532.2.2 4).bind fun bt543 => (spec_l01Cur_twin.l0 k a1 (y537 ++ bt532.1) bt543.1 bt532.1 s0_0 bt543.2.1 bt543.2.2)) else (none)))
set_option maxHeartbeats 8000000 in
set_option maxRecDepth 100000 in
theorem spec_l01Cur_twin.calls (k : Nat) (g : Nat) (s0_0 : List Int) (s0_1 : Int) (s0_2 : Int) (a1 : Int) (r1 : List Int) (r2 : List Int) (r3 : Int) (r4 : Int) (w0 w : World) (hI : IsS79 w0 w g s0_0 s0_1 s0_2) (hB : Below w0.heap.size w0 w) (h : spec_l01Cur_twin.f k s0_0 s0_1 s0_2 a1 = some (r1, r2, r3, r4)) :
  Calls Try.prog 45 #[.pointer (some ⟨g, 0, none⟩), .int .i64 a1] w fun e w' => ∃ v0_ v1_ : Value, e = .returned (.tuple #[v0_, v1_]) ∧ Kd.R (Kd.int .u8) 5 w' w.heap.size (fun k_ => some k_ ≠ (v1_ : Value).ownBlock) v0_ r1 ∧ Kd.R (Kd.int .u8) 5 w' w.heap.size (fun k_ => some k_ ≠ (v0_ : Value).ownBlock) v1_ r2 ∧ IsS79 w0 w' g s0_0 r3 r4 ∧ Below w0.heap.size w0 w' ∧ KeepBut w w' g none := by
 have HI0:=mk0 hI
 have HK:=mk0 (KeepBut.refl w g none)
 have HL:=mk0 hB.size
 clear hI
 have HW0:=mk0 hB.size
 have HB:=mk0 hB
 clear hB
 have H:((spec_l01Cur_textOf.f k s0_0 s0_1 s0_2 a1).bind fun bt532=>((some (([]:List Int):List Int)).bind fun y537=>(if y537.length + bt532.1.length < 140737488355328 then ((spec_l01Cur_pick.f s0_0 bt532.2.1 bt532.2.2 4).bind fun bt543=>(spec_l01Cur_twin.l0 k a1 (y537 ++ bt532.1) bt543.1 bt532.1 s0_0 bt543.2.1 bt543.2.2)) else (none)))) = some (r1,r2,r3,r4):=h
 clear h
 replace H:=bE H
 obtain⟨⟨t532,t535,t536⟩,A3,H⟩:=H
 dsimp only at H
 obtain⟨y537,hy537⟩:∃ y_:List Int,y_ = (([]:List Int)):=⟨_,rfl⟩
 first|(with_reducible replace H:=yB hy537 H)|rw [← hy537] at H|skip
 have Ny537:=mk0 hy537
 clear hy537
 by_cases c4:y537.length + t532.length < 140737488355328
 rotate_left
 ·rw [if_neg c4] at H
  exact nn H
 rw [if_pos c4] at H
 have LMc4:=mk0 c4
 clear c4
 obtain⟨y540,hy540⟩:∃ y_:List Int,y_ = (y537 ++ t532):=⟨_,rfl⟩
 first|(with_reducible replace H:=yB hy540 H)|rw [← hy540] at H|skip
 have Ny540:=mk0 hy540
 clear hy540
 replace H:=bE H
 obtain⟨⟨t543,t544,t545⟩,A5,H⟩:=H
 dsimp only at H
 have H':=mk0 H
 clear H
 go_enter Try.func45,Try.ntmps45
 go_wp2_with (first|((with_reducible refine gate_callee (f:=67) rfl ?_);refine gL (some 13) Try.func67 #[.pointer (some ⟨g,0,none⟩),.int .i64 a1] ?_;(with_reducible refine (spec_l01Cur_textOf.calls k g s0_0 s0_1 s0_2 a1 t532 t535 t536 w0 _ ?side1 ?side2 A3.out).mono ?_);(case side1=>repeat (first|(with_reducible first|exact HI0.out|apply IsS79.alloc|apply IsS79.drewN|apply IsS79.drew|apply IsS79.set_1|apply IsS79.set_2)|exact HI0.out));(case side2=>repeat (first|(with_reducible first|exact HB.out|apply aZ|apply nZ|apply dZ|refine sZ ?_ (IsS79.ge HI0.out))|exact HB.out));rintro e w6 ⟨v533,rfl,ho0,hi,hb,hk⟩;refine⟨_,rfl,?_⟩;have HO534:=mk0 (Kd.R_lower ho0 (keep_size (w:=w) (g:=g) (row:=none) (by repeat (first|(with_reducible first|exact HK.out|apply KeepBut.set_|apply keep_drewN|apply keep_drew|apply keep_alloc)|exact HK.out))));replace HK:=mk0 (KeepBut.trans (by repeat (first|(with_reducible first|exact HK.out|apply KeepBut.set_|apply keep_drewN|apply keep_drew|apply keep_alloc)|exact HK.out)) hk (.inl rfl));replace HB:=mk0 (hb);replace HI0:=mk0 (hi);(try clear hb);(try clear hk);(try clear hi);(try clear ho0))|((with_reducible refine gate_dst (N:=14) rfl ?_);refine Kd.R_lit (Kd.int .u8) _ 5 ?hg (N:=14) ?hd (xs:=([]:List Int)) (inner:=[]) (ok:=fun _=>True) (okp:=fun _=>True) ?hr ?hp (fun _ hk=>hk) trivial (Below.refl _ _) (Nat.le_refl _) (by simp) ?_;(case hd=>rfl);(case hg=>rfl);(case hr=>first|(go_simp;done)|(go_simp;rfl));(case hp=>exact (Reps.none _ _));intro v538 w7 ho8 hb hg_ hnew_;clear hg_ hnew_;(first|rw [← Ny537.out] at ho8|(simp only [Int.reduceToNat] at ho8;rw [← Ny537.out] at ho8));have HO539:=mk0 (Kd.R_lower (Kd.R_new' ho8 (Kd.R_lt (rR HO534.out))) (keep_size (w:=w) (g:=g) (row:=none) (by repeat (first|(with_reducible first|exact HK.out|apply KeepBut.set_|apply keep_drewN|apply keep_drew|apply keep_alloc)|exact HK.out))));replace HO534:=mk0 (Kd.R_elder' (rR HO534.out) (Kd.R_base ho8) hb);replace HK:=mk0 (KeepBut.trans (by repeat (first|(with_reducible first|exact HK.out|apply KeepBut.set_|apply keep_drewN|apply keep_drew|apply keep_alloc)|exact HK.out)) (KeepBut.of_below hb g none) (.inl rfl));replace HB:=mk0 (below_step (by repeat (first|(with_reducible first|exact HB.out|apply aZ|apply nZ|apply dZ|refine sZ ?_ (IsS79.ge HI0.out))|exact HB.out)) hb);replace HI0:=mk0 (IsS79.below (by repeat (first|(with_reducible first|exact HI0.out|apply IsS79.alloc|apply IsS79.drewN|apply IsS79.drew|apply IsS79.set_1|apply IsS79.set_2)|exact HI0.out)) hb);clear hb ho8;obtain⟨Ao10,co10,eo10⟩:=Kd.R_slice HO534.out;subst eo10)|((with_reducible refine gate_builtin (b:=.append) (xs:=#[.tmp 14,.tmp 15]) rfl ?_);at_builtin;refine Kd.R_append_rows (Kd.int .u8) w.heap.size rfl (.tmp 14) (.tmp 15) 22 5 (.int .u8 0) 1 rfl Try.underlying22 info5 rfl (by decide) (by omega) v538 y537 t532 _ _ _ (fun k_=>some k_ ≠ (.slice Ao10 t532.length co10:Value).ownBlock) (fun _=>False) rfl rfl ?aO ?aR (fun _ _ h=>h) (fun _ h=>h.elim) ?aF (Below.refl _ _) ?aS ?aL ?_;(case aR=>repeat (first|exact (Kd.R_reads' HO534.out).2.2|(with_reducible first|apply aC|apply nC|apply dC)));(case aF=>exact (fun k_ hk=>Kd.fresh' (Kd.R_lt (rR HO534.out)) k_ hk));(case aO=>exact (rR (Kd.R_mono HO539.out (fun _ hk=>hk.2))));(case aS=>exact (keep_size (w:=w) (g:=g) (row:=none) (by repeat (first|(with_reducible first|exact HK.out|apply KeepBut.set_|apply keep_drewN|apply keep_drew|apply keep_alloc)|exact HK.out))));(case aL=>have:=LMc4.out;omega);intro v541 w9 ho hb hg hat;rw [← Ny540.out] at ho;replace HO534:=mk0 (Kd.R_after (ok:=(fun _=>True)) (rR HO534.out) hg hat);replace HB:=mk0 (below_weaken (by repeat (first|(with_reducible first|exact HB.out|apply aZ|apply nZ|apply dZ|refine sZ ?_ (IsS79.ge HI0.out))|exact HB.out)) HL.out hb);replace HI0:=mk0 (IsS79.grown (by repeat (first|(with_reducible first|exact HI0.out|apply IsS79.alloc|apply IsS79.drewN|apply IsS79.drew|apply IsS79.set_1|apply IsS79.set_2)|exact HI0.out)) hg (IsS79.own_ne HI0.out HO539.out (by decide)));replace HK:=mk0 (KeepBut.trans (by repeat (first|(with_reducible first|exact HK.out|apply KeepBut.set_|apply keep_drewN|apply keep_drew|apply keep_alloc)|exact HK.out)) (KeepBut.of_grown hg g) (Kd.R_base2 HO539.out));have HO542:=mk0 (ho);clear HO539 ho hb hg hat)|((with_reducible refine gate_callee (f:=68) rfl ?_);refine gL (some 18) Try.func68 #[.pointer (some ⟨g,0,none⟩),.int .i64 4] ?_;(with_reducible refine (spec_l01Cur_pick.calls g s0_0 t535 t536 4 t543 t544 t545 w0 _ ?side1 ?side2 A5.out).mono ?_);(case side1=>repeat (first|(with_reducible first|exact HI0.out|apply IsS79.alloc|apply IsS79.drewN|apply IsS79.drew|apply IsS79.set_1|apply IsS79.set_2)|exact HI0.out));(case side2=>repeat (first|(with_reducible first|exact HB.out|apply aZ|apply nZ|apply dZ|refine sZ ?_ (IsS79.ge HI0.out))|exact HB.out));rintro e w11 ⟨rfl,hi,hb,hk⟩;refine⟨_,rfl,?_⟩;replace HO534:=mk0 (Kd.R_mono (Kd.R_keep (IsS79.apart (show IsS79 w0 _ g s0_0 t535 t536 from by repeat (first|(with_reducible first|exact HI0.out|apply IsS79.alloc|apply IsS79.drewN|apply IsS79.drew|apply IsS79.set_1|apply IsS79.set_2)|exact HI0.out)) (rR HO534.out) (by decide)) hk (fun _ h=>h.2)) (fun _ h=>h.1));replace HO542:=mk0 (Kd.R_mono (Kd.R_keep (IsS79.apart (show IsS79 w0 _ g s0_0 t535 t536 from by repeat (first|(with_reducible first|exact HI0.out|apply IsS79.alloc|apply IsS79.drewN|apply IsS79.drew|apply IsS79.set_1|apply IsS79.set_2)|exact HI0.out)) (rR HO542.out) (by decide)) hk (fun _ h=>h.2)) (fun _ h=>h.1));replace HK:=mk0 (KeepBut.trans (by repeat (first|(with_reducible first|exact HK.out|apply KeepBut.set_|apply keep_drewN|apply keep_drew|apply keep_alloc)|exact HK.out)) hk (.inl rfl));replace HB:=mk0 (hb);replace HI0:=mk0 (hi);(try clear hb);(try clear hk);(try clear hi)))
 go_loopg [7,8] k (fun kq v7 v8 w'=>∃ (x7_1:List Int) (x8_1:Int) (x1001_1:Int) (x1002_1:Int),v8 = .int .i64 x8_1 ∧ Aside0 (spec_l01Cur_twin.l0 kq a1 x7_1 x8_1 t532 s0_0 x1001_1 x1002_1 = some (r1,r2,r3,r4)) ∧ Aside0 (kq ≤ k) ∧ Aside0 (Kd.R (Kd.int .u8) 5 w' w.heap.size (fun k_=>some k_ ≠ ((.slice Ao10 t532.length co10):Value).ownBlock) v7 x7_1) ∧ Aside0 (Kd.R (Kd.int .u8) 5 w' w.heap.size (fun k_=>some k_ ≠ (v7:Value).ownBlock) (.slice Ao10 t532.length co10) t532) ∧ Aside0 (IsS79 w0 w' g s0_0 x1001_1 x1002_1) ∧ Aside0 (KeepBut w w' g none) ∧ Aside0 (Below w0.heap.size w0 w'))
 case atStart=>exact⟨(y540),(t543),(t544),(t545),eS,H',⟨Nat.le_refl _⟩,⟨rR HO542.out⟩,⟨rR (Kd.R_mono HO534.out (fun _ hk=>hk.2))⟩,⟨by repeat (first|(with_reducible first|exact HI0.out|apply IsS79.alloc|apply IsS79.drewN|apply IsS79.drew|apply IsS79.set_1|apply IsS79.set_2)|exact HI0.out)⟩,⟨by repeat (first|(with_reducible first|exact HK.out|apply KeepBut.set_|apply keep_drewN|apply keep_drew|apply keep_alloc)|exact HK.out)⟩,⟨by repeat (first|(with_reducible first|exact HB.out|apply aZ|apply nZ|apply dZ|refine sZ ?_ (IsS79.ge HI0.out))|exact HB.out)⟩⟩
 case round =>
  clear H'
  try clear p2
  try clear c4
  try clear c6
  obtain⟨x7_1,x8_1,x1001_1,x1002_1,rfl,HA,HK1,HO_7,HO_13,HI0,HK,HB⟩:=hrel
  cases gk with
  | zero=>exact absurd HA.out (by simp [spec_l01Cur_twin.l0])
  | succ k1 =>
   have H:=HA.out
   clear HA
   simp only [spec_l01Cur_twin.l0] at H
   by_cases c12:x8_1 > 0
   rotate_left
   ·rw [if_neg c12] at H
    have c12b0:decide (0 < x8_1) = false:=decide_eq_false c12
    clear c12
    replace H:=bE H
    obtain⟨⟨t579,t580,t581⟩,A41,H⟩:=H
    dsimp only at H
    have HC42:=mk0 H
    clear H
    go_upto_if 52 with (first|((with_reducible refine gate_callee (f:=69) rfl ?_);refine gL (some 52) Try.func69 #[.pointer (some ⟨g,0,none⟩),.int .i64 6] ?_;(with_reducible refine (spec_l01Cur_once.calls g s0_0 x1001_1 x1002_1 6 t579 t580 t581 w0 _ ?side1 ?side2 A41.out).mono ?_);(case side1=>repeat (first|(with_reducible first|exact HI0.out|apply IsS79.alloc|apply IsS79.drewN|apply IsS79.drew|apply IsS79.set_1|apply IsS79.set_2)|exact HI0.out));(case side2=>repeat (first|(with_reducible first|exact HB.out|apply aZ|apply nZ|apply dZ|refine sZ ?_ (IsS79.ge HI0.out))|exact HB.out));rintro e w43 ⟨rfl,hi,hb,hk⟩;refine⟨_,rfl,?_⟩;replace HO_7:=mk0 (Kd.R_mono (Kd.R_keep (IsS79.apart (show IsS79 w0 _ g s0_0 x1001_1 x1002_1 from by repeat (first|(with_reducible first|exact HI0.out|apply IsS79.alloc|apply IsS79.drewN|apply IsS79.drew|apply IsS79.set_1|apply IsS79.set_2)|exact HI0.out)) (rR HO_7.out) (by decide)) hk (fun _ h=>h.2)) (fun _ h=>h.1));replace HO_13:=mk0 (Kd.R_mono (Kd.R_keep (IsS79.apart (show IsS79 w0 _ g s0_0 x1001_1 x1002_1 from by repeat (first|(with_reducible first|exact HI0.out|apply IsS79.alloc|apply IsS79.drewN|apply IsS79.drew|apply IsS79.set_1|apply IsS79.set_2)|exact HI0.out)) (rR HO_13.out) (by decide)) hk (fun _ h=>h.2)) (fun _ h=>h.1));replace HK:=mk0 (KeepBut.trans (by repeat (first|(with_reducible first|exact HK.out|apply KeepBut.set_|apply keep_drewN|apply keep_drew|apply keep_alloc)|exact HK.out)) hk (.inl rfl));replace HB:=mk0 (hb);replace HI0:=mk0 (hi);(try clear hb);(try clear hk);(try clear hi)))
    (try simp only [Act.put,sA,sO,sS])
    go_cut [7] (fun v7 wc=>∃ (kq:Nat) (x7_41:List Int) (x1001_41:Int) (x1002_41:Int),Aside0 (spec_l01Cur_twin.j1 kq a1 t532 x7_41 s0_0 x1001_41 x1002_41 = some (r1,r2,r3,r4)) ∧ Aside0 (kq ≤ k1) ∧ Aside0 (Kd.R (Kd.int .u8) 5 wc w.heap.size (fun k_=>some k_ ≠ (v7:Value).ownBlock) (.slice Ao10 t532.length co10) t532) ∧ Aside0 (Kd.R (Kd.int .u8) 5 wc w.heap.size (fun k_=>some k_ ≠ ((.slice Ao10 t532.length co10):Value).ownBlock) v7 x7_41) ∧ Aside0 (IsS79 w0 wc g s0_0 x1001_41 x1002_41) ∧ Aside0 (KeepBut w wc g none) ∧ Aside0 (Below w0.heap.size w0 wc))
    case first =>
     have H:=HC42.out
     clear HC42
     by_cases c44:t579 = true
     rotate_left
     ·replace c44:=Bool.eq_false_iff.mpr c44
      subst c44
      replace H:=iF H
      have H':=mk0 H
      clear H
      go_wp2
      go_meet
      case rel=>exact⟨_,(x7_1),(t580),(t581),H',⟨by have:=HK1.out;first|omega|exact Nat.le_refl _⟩,⟨rR HO_13.out⟩,⟨rR HO_7.out⟩,⟨by repeat (first|(with_reducible first|exact HI0.out|apply IsS79.alloc|apply IsS79.drewN|apply IsS79.drew|apply IsS79.set_1|apply IsS79.set_2)|exact HI0.out)⟩,⟨by repeat (first|(with_reducible first|exact HK.out|apply KeepBut.set_|apply keep_drewN|apply keep_drew|apply keep_alloc)|exact HK.out)⟩,⟨by repeat (first|(with_reducible first|exact HB.out|apply aZ|apply nZ|apply dZ|refine sZ ?_ (IsS79.ge HI0.out))|exact HB.out)⟩⟩
     subst c44
     replace H:=iT H
     replace H:=bE H
     obtain⟨⟨t582,t585,t586⟩,A45,H⟩:=H
     dsimp only at H
     have H':=mk0 H
     clear H
     go_wp2_with (first|((with_reducible refine gate_callee (f:=67) rfl ?_);refine gL (some 55) Try.func67 #[.pointer (some ⟨g,0,none⟩),.int .i64 a1] ?_;(with_reducible refine (spec_l01Cur_textOf.calls k1 g s0_0 t580 t581 a1 t582 t585 t586 w0 _ ?side1 ?side2 A45.out).mono ?_);(case side1=>repeat (first|(with_reducible first|exact HI0.out|apply IsS79.alloc|apply IsS79.drewN|apply IsS79.drew|apply IsS79.set_1|apply IsS79.set_2)|exact HI0.out));(case side2=>repeat (first|(with_reducible first|exact HB.out|apply aZ|apply nZ|apply dZ|refine sZ ?_ (IsS79.ge HI0.out))|exact HB.out));rintro e w46 ⟨v583,rfl,ho0,hi,hb,hk⟩;refine⟨_,rfl,?_⟩;have HO584:=mk0 (Kd.R_lower (Kd.R_new' (Kd.R_new' ho0 (Kd.R_lt (rR HO_7.out))) (Kd.R_lt (rR HO_13.out))) (keep_size (w:=w) (g:=g) (row:=none) (by repeat (first|(with_reducible first|exact HK.out|apply KeepBut.set_|apply keep_drewN|apply keep_drew|apply keep_alloc)|exact HK.out))));replace HO_7:=mk0 (Kd.R_mono (Kd.R_told (Kd.R_oldK (IsS79.apart (show IsS79 w0 _ g s0_0 t580 t581 from by repeat (first|(with_reducible first|exact HI0.out|apply IsS79.alloc|apply IsS79.drewN|apply IsS79.drew|apply IsS79.set_1|apply IsS79.set_2)|exact HI0.out)) (rR HO_7.out) (by decide)) hk) (Kd.R_base ho0)) (fun _ h_=>h_.1));replace HO_13:=mk0 (Kd.R_mono (Kd.R_told (Kd.R_oldK (IsS79.apart (show IsS79 w0 _ g s0_0 t580 t581 from by repeat (first|(with_reducible first|exact HI0.out|apply IsS79.alloc|apply IsS79.drewN|apply IsS79.drew|apply IsS79.set_1|apply IsS79.set_2)|exact HI0.out)) (rR HO_13.out) (by decide)) hk) (Kd.R_base ho0)) (fun _ h_=>h_.1));replace HK:=mk0 (KeepBut.trans (by repeat (first|(with_reducible first|exact HK.out|apply KeepBut.set_|apply keep_drewN|apply keep_drew|apply keep_alloc)|exact HK.out)) hk (.inl rfl));replace HB:=mk0 (hb);replace HI0:=mk0 (hi);(try clear hb);(try clear hk);(try clear hi);(try clear ho0)))
     go_meet
     case rel=>exact⟨_,(t582),(t585),(t586),H',⟨by have:=HK1.out;first|omega|exact Nat.le_refl _⟩,⟨rR (Kd.R_mono HO_13.out (fun _ hk=>hk.2))⟩,⟨rR (Kd.R_mono HO584.out (fun _ hk=>hk.2))⟩,⟨by repeat (first|(with_reducible first|exact HI0.out|apply IsS79.alloc|apply IsS79.drewN|apply IsS79.drew|apply IsS79.set_1|apply IsS79.set_2)|exact HI0.out)⟩,⟨by repeat (first|(with_reducible first|exact HK.out|apply KeepBut.set_|apply keep_drewN|apply keep_drew|apply keep_alloc)|exact HK.out)⟩,⟨by repeat (first|(with_reducible first|exact HB.out|apply aZ|apply nZ|apply dZ|refine sZ ?_ (IsS79.ge HI0.out))|exact HB.out)⟩⟩
    case rest =>
     clear HC42
     try clear c1
     try clear c2
     try clear p2
     try clear c3
     try clear q3
     try clear hcv3
     try clear c4
     try clear p5
     try clear q5
     try clear hx5
     try clear c6
     try clear p6
     try clear c12
     try clear c12b0
     try clear c15
     try clear c15b0
     try clear c16
     try clear c16b0
     try clear c17
     try clear c17b0
     try clear c17b1
     try clear c18
     try clear c18b0
     try clear c18b1
     try clear c19
     try clear c20
     try clear c23
     try clear c23b0
     try clear c23b1
     try clear c24
     try clear c24b0
     try clear c24b1
     try clear c25
     try clear q34
     try clear hcv37
     try clear c39
     try clear q39
     try clear c44
     try clear c45
     try clear hx555_0
     try clear p2
     try clear p555
     try clear q039
     try clear q34
     try clear q39
     try clear q555
     obtain⟨kq,x7_41,x1001_41,x1002_41,HA,HJ41,HO_6,HO_7,HI0,HK,HB⟩:=hcut
     cases kq with
     | zero=>exact absurd HA.out (by simp [spec_l01Cur_twin.j1])
     | succ kj41 =>
      have H:=HA.out
      clear HA
      simp only [spec_l01Cur_twin.j1] at H
      by_cases c47:(x7_41.length:Int) > a1
      rotate_left
      ·rw [if_neg c47] at H
       have c47b0:decide (a1 < (x7_41.length:Int)) = false:=decide_eq_false c47
       clear c47
       simp only [Option.some.injEq,Prod.mk.injEq] at H
       obtain⟨rfl,rfl,rfl,rfl⟩:=H
       obtain⟨Ao52,co52,eo52⟩:=Kd.R_slice HO_7.out
       subst eo52
       go_wp2
       go_ret2
       exact⟨_,_,eR,rR HO_6.out,rR HO_7.out,by repeat (first|(with_reducible first|exact HI0.out|apply IsS79.alloc|apply IsS79.drewN|apply IsS79.drew|apply IsS79.set_1|apply IsS79.set_2)|exact HI0.out),by repeat (first|(with_reducible first|exact HB.out|apply aZ|apply nZ|apply dZ|refine sZ ?_ (IsS79.ge HI0.out))|exact HB.out),by repeat (first|(with_reducible first|exact HK.out|apply KeepBut.set_|apply keep_drewN|apply keep_drew|apply keep_alloc)|exact HK.out)⟩
      rw [if_pos c47] at H
      have c47b0:decide (a1 < (x7_41.length:Int)) = true:=decide_eq_true c47
      clear c47
      by_cases c48:0 ≤ a1
      rotate_left
      ·rw [if_neg c48] at H
       exact nn H
      rw [if_pos c48] at H
      have c48b0:=eq_true c48
      have c48b1:decide (0 ≤ a1) = true:=decide_eq_true c48
      clear c48
      by_cases c49:a1 ≤ (x7_41.length:Int)
      rotate_left
      ·rw [if_neg c49] at H
       exact nn H
      rw [if_pos c49] at H
      have c49b0:=eq_true c49
      have c49b1:decide (a1 ≤ (x7_41.length:Int)) = true:=decide_eq_true c49
      clear c49
      obtain⟨y587,hy587⟩:∃ y_:List Int,y_ = (x7_41.take (a1:Int).toNat):=⟨_,rfl⟩
      first|(with_reducible replace H:=yB hy587 H)|rw [← hy587] at H|skip
      have Ny587:=mk0 hy587
      clear hy587
      simp only [Option.some.injEq,Prod.mk.injEq] at H
      obtain⟨rfl,rfl,rfl,rfl⟩:=H
      obtain⟨Ao50,co50,eo50⟩:=Kd.R_slice HO_7.out
      subst eo50
      have q51:(a1:Int) ≤ ((x7_41.length:Int):Int):=oD
      obtain⟨i051,hi051,_,hsz51,_⟩:=info_parts info5
      have hcut51:=cut_to (P:=Try.prog) 22 5 .i64 Try.underlying22 hi051 Ao50 x7_41.length co50 a1 (oD) q51 (Kd.R_reads' HO_7.out).2.1
      have hr51:=Kd.R_take (m:=(a1:Int).toNat) HO_7.out (by omega)
      have hy51:y587.length = (a1:Int).toNat:=(by rw [Ny587.out,List.length_take];omega)
      rw [← Ny587.out] at hr51
      rw [← hy51] at hr51 hcut51
      clear hy51 hi051 hsz51 HO_7
      have HO589:=mk0 hr51
      clear hr51
      replace q51:=eq_true q51
      go_wp2
      go_ret2
      exact⟨_,.slice Ao50 y587.length co50,eR,(by have e_:(.slice Ao50 y587.length co50:Value).ownBlock = (.slice Ao50 x7_41.length co50:Value).ownBlock:=(by rcases Ao50 with _|⟨b_,o_,p_⟩ <;> first|rfl|(rcases o_ with _|o_ <;> rcases p_ with _|p_ <;> rfl));rw [e_];exact rR HO_6.out),rR HO589.out,by repeat (first|(with_reducible first|exact HI0.out|apply IsS79.alloc|apply IsS79.drewN|apply IsS79.drew|apply IsS79.set_1|apply IsS79.set_2)|exact HI0.out),by repeat (first|(with_reducible first|exact HB.out|apply aZ|apply nZ|apply dZ|refine sZ ?_ (IsS79.ge HI0.out))|exact HB.out),by repeat (first|(with_reducible first|exact HK.out|apply KeepBut.set_|apply keep_drewN|apply keep_drew|apply keep_alloc)|exact HK.out)⟩
   rw [if_pos c12] at H
   have c12b0:decide (0 < x8_1) = true:=decide_eq_true c12
   clear c12
   replace H:=bE H
   obtain⟨⟨t546,t547,t548⟩,A13,H⟩:=H
   dsimp only at H
   obtain⟨y549,hy549⟩:∃ y_:List ByteArray,y_ = (([(⟨#[]⟩:ByteArray),(⟨#[97]⟩:ByteArray),(⟨#[98]⟩:ByteArray),(⟨#[122,122]⟩:ByteArray)]:List ByteArray)):=⟨_,rfl⟩
   first|(with_reducible replace H:=yB hy549 H)|rw [← hy549] at H|skip
   have Ny549:=mk0 hy549
   clear hy549
   replace H:=bE H
   obtain⟨⟨t552,t553,t554⟩,A14,H⟩:=H
   dsimp only at H
   by_cases c15:0 ≤ t552
   rotate_left
   ·rw [if_neg c15] at H
    exact nn H
   rw [if_pos c15] at H
   have c15b0:decide (0 ≤ t552) = true:=decide_eq_true c15
   clear c15
   by_cases c16:t552 < (y549.length:Int)
   rotate_left
   ·rw [if_neg c16] at H
    exact nn H
   rw [if_pos c16] at H
   have c16b0:decide (t552 < (y549.length:Int)) = true:=decide_eq_true c16
   clear c16
   obtain⟨y556,hy556⟩:∃ y_:List Int,y_ = (([]:List Int)):=⟨_,rfl⟩
   first|(with_reducible replace H:=yB hy556 H)|rw [← hy556] at H|skip
   have Ny556:=mk0 hy556
   clear hy556
   by_cases c17:0 ≤ t546
   rotate_left
   ·rw [if_neg c17] at H
    exact nn H
   rw [if_pos c17] at H
   have c17b0:=eq_true c17
   have c17b1:decide (0 ≤ t546) = true:=decide_eq_true c17
   clear c17
   by_cases c18:t546 ≤ (x7_1.length:Int)
   rotate_left
   ·rw [if_neg c18] at H
    exact nn H
   rw [if_pos c18] at H
   have c18b0:=eq_true c18
   have c18b1:decide (t546 ≤ (x7_1.length:Int)) = true:=decide_eq_true c18
   clear c18
   obtain⟨y559,hy559⟩:∃ y_:List Int,y_ = (x7_1.take (t546:Int).toNat):=⟨_,rfl⟩
   first|(with_reducible replace H:=yB hy559 H)|rw [← hy559] at H|skip
   have Ny559:=mk0 hy559
   clear hy559
   by_cases c19:y556.length + y559.length < 140737488355328
   rotate_left
   ·rw [if_neg c19] at H
    exact nn H
   rw [if_pos c19] at H
   have LMc19:=mk0 c19
   clear c19
   obtain⟨y563,hy563⟩:∃ y_:List Int,y_ = (y556 ++ y559):=⟨_,rfl⟩
   first|(with_reducible replace H:=yB hy563 H)|rw [← hy563] at H|skip
   have Ny563:=mk0 hy563
   clear hy563
   by_cases c20:y563.length + (rdOf ByteArray.empty y549 t552).size < 140737488355328
   rotate_left
   ·rw [if_neg c20] at H
    exact nn H
   rw [if_pos c20] at H
   have LMc20:=mk0 c20
   clear c20
   obtain⟨y566,hy566⟩:∃ y_:List Int,y_ = (y563 ++ bytesOf (rdOf ByteArray.empty y549 t552)):=⟨_,rfl⟩
   first|(with_reducible replace H:=yB hy566 H)|rw [← hy566] at H|skip
   have Ny566:=mk0 hy566
   clear hy566
   replace H:=bE H
   obtain⟨⟨t569,t570,t571⟩,A21,H⟩:=H
   dsimp only at H
   obtain⟨ji22,hji22⟩:∃ j_:Int,(mn (x7_1.length:Int) (wrap64 (t546 + t569))) = j_:=⟨_,rfl⟩
   first|rw [hji22] at H|simp only [hji22] at H
   (try rw [hji22] at A13)
   (try rw [hji22] at A14)
   (try rw [hji22] at A21)
   have hji22_:(if (wrap64 (t546 + t569)) < (x7_1.length:Int) then (wrap64 (t546 + t569)) else (x7_1.length:Int)) = ji22:=hji22
   by_cases c23:0 ≤ (ji22)
   rotate_left
   ·rw [if_neg c23] at H
    exact nn H
   rw [if_pos c23] at H
   have c23b0:=eq_true c23
   have c23b1:decide (0 ≤ (ji22)) = true:=decide_eq_true c23
   clear c23
   by_cases c24:(ji22) ≤ (x7_1.length:Int)
   rotate_left
   ·rw [if_neg c24] at H
    exact nn H
   rw [if_pos c24] at H
   have c24b0:=eq_true c24
   have c24b1:decide ((ji22) ≤ (x7_1.length:Int)) = true:=decide_eq_true c24
   clear c24
   obtain⟨y572,hy572⟩:∃ y_:List Int,y_ = (x7_1.drop ((ji22):Int).toNat):=⟨_,rfl⟩
   first|(with_reducible replace H:=yB hy572 H)|rw [← hy572] at H|skip
   have Ny572:=mk0 hy572
   clear hy572
   by_cases c25:y566.length + y572.length < 140737488355328
   rotate_left
   ·rw [if_neg c25] at H
    exact nn H
   rw [if_pos c25] at H
   have LMc25:=mk0 c25
   clear c25
   obtain⟨y576,hy576⟩:∃ y_:List Int,y_ = (y566 ++ y572):=⟨_,rfl⟩
   first|(with_reducible replace H:=yB hy576 H)|rw [← hy576] at H|skip
   have Ny576:=mk0 hy576
   clear hy576
   have H':=mk0 H
   clear H
   obtain⟨Ao26,co26,eo26⟩:=Kd.R_slice HO_7.out
   subst eo26
   go_wp2_with (first|((with_reducible refine gate_callee (f:=68) rfl ?_);refine gL (some 27) Try.func68 #[.pointer (some ⟨g,0,none⟩),.int .i64 (wrap64 ((x7_1.length:Int) + 1))] ?_;(with_reducible refine (spec_l01Cur_pick.calls g s0_0 x1001_1 x1002_1 (wrap64 ((x7_1.length:Int) + 1)) t546 t547 t548 w0 _ ?side1 ?side2 A13.out).mono ?_);(case side1=>repeat (first|(with_reducible first|exact HI0.out|apply IsS79.alloc|apply IsS79.drewN|apply IsS79.drew|apply IsS79.set_1|apply IsS79.set_2)|exact HI0.out));(case side2=>repeat (first|(with_reducible first|exact HB.out|apply aZ|apply nZ|apply dZ|refine sZ ?_ (IsS79.ge HI0.out))|exact HB.out));rintro e w27 ⟨rfl,hi,hb,hk⟩;refine⟨_,rfl,?_⟩;replace HO_7:=mk0 (Kd.R_mono (Kd.R_keep (IsS79.apart (show IsS79 w0 _ g s0_0 x1001_1 x1002_1 from by repeat (first|(with_reducible first|exact HI0.out|apply IsS79.alloc|apply IsS79.drewN|apply IsS79.drew|apply IsS79.set_1|apply IsS79.set_2)|exact HI0.out)) (rR HO_7.out) (by decide)) hk (fun _ h=>h.2)) (fun _ h=>h.1));replace HO_13:=mk0 (Kd.R_mono (Kd.R_keep (IsS79.apart (show IsS79 w0 _ g s0_0 x1001_1 x1002_1 from by repeat (first|(with_reducible first|exact HI0.out|apply IsS79.alloc|apply IsS79.drewN|apply IsS79.drew|apply IsS79.set_1|apply IsS79.set_2)|exact HI0.out)) (rR HO_13.out) (by decide)) hk (fun _ h=>h.2)) (fun _ h=>h.1));replace HK:=mk0 (KeepBut.trans (by repeat (first|(with_reducible first|exact HK.out|apply KeepBut.set_|apply keep_drewN|apply keep_drew|apply keep_alloc)|exact HK.out)) hk (.inl rfl));replace HB:=mk0 (hb);replace HI0:=mk0 (hi);(try clear hb);(try clear hk);(try clear hi))|((with_reducible refine gate_dst (N:=28) rfl ?_);refine Kd.R_lit Kd.string _ 9 ?hg (N:=28) ?hd (xs:=([(⟨#[]⟩:ByteArray),(⟨#[97]⟩:ByteArray),(⟨#[98]⟩:ByteArray),(⟨#[122,122]⟩:ByteArray)]:List ByteArray)) (inner:=[.string (⟨#[]⟩:ByteArray),.string (⟨#[97]⟩:ByteArray),.string (⟨#[98]⟩:ByteArray),.string (⟨#[122,122]⟩:ByteArray)]) (ok:=fun _=>True) (okp:=fun _=>True) ?hr ?hp (fun _ hk=>hk) trivial (Below.refl _ _) (Nat.le_refl _) (by simp) ?_;(case hd=>rfl);(case hg=>rfl);(case hr=>first|(go_simp;done)|(go_simp;rfl));(case hp=>exact (Reps.one (show Kd.M Kd.string _ _ _ (⟨#[]⟩:ByteArray) [.string (⟨#[]⟩:ByteArray)] from rfl) (Reps.one (show Kd.M Kd.string _ _ _ (⟨#[97]⟩:ByteArray) [.string (⟨#[97]⟩:ByteArray)] from rfl) (Reps.one (show Kd.M Kd.string _ _ _ (⟨#[98]⟩:ByteArray) [.string (⟨#[98]⟩:ByteArray)] from rfl) (Reps.one (show Kd.M Kd.string _ _ _ (⟨#[122,122]⟩:ByteArray) [.string (⟨#[122,122]⟩:ByteArray)] from rfl) (Reps.none _ _))))));intro v550 w28 ho29 hb hg_ hnew_;clear hg_ hnew_;(first|rw [← Ny549.out] at ho29|(simp only [Int.reduceToNat] at ho29;rw [← Ny549.out] at ho29));replace HO_7:=mk0 (bR HO_7.out hb);replace HO_13:=mk0 (bR HO_13.out hb);have HO551:=mk0 (Kd.R_lower ho29 (keep_size (w:=w) (g:=g) (row:=none) (by repeat (first|(with_reducible first|exact HK.out|apply KeepBut.set_|apply keep_drewN|apply keep_drew|apply keep_alloc)|exact HK.out))));replace HK:=mk0 (KeepBut.trans (by repeat (first|(with_reducible first|exact HK.out|apply KeepBut.set_|apply keep_drewN|apply keep_drew|apply keep_alloc)|exact HK.out)) (KeepBut.of_below hb g none) (.inl rfl));replace HB:=mk0 (below_step (by repeat (first|(with_reducible first|exact HB.out|apply aZ|apply nZ|apply dZ|refine sZ ?_ (IsS79.ge HI0.out))|exact HB.out)) hb);replace HI0:=mk0 (IsS79.below (by repeat (first|(with_reducible first|exact HI0.out|apply IsS79.alloc|apply IsS79.drewN|apply IsS79.drew|apply IsS79.set_1|apply IsS79.set_2)|exact HI0.out)) hb);clear hb ho29)|((with_reducible refine gate_callee (f:=68) rfl ?_);refine gL (some 30) Try.func68 #[.pointer (some ⟨g,0,none⟩),.int .i64 4] ?_;(with_reducible refine (spec_l01Cur_pick.calls g s0_0 t547 t548 4 t552 t553 t554 w0 _ ?side1 ?side2 A14.out).mono ?_);(case side1=>repeat (first|(with_reducible first|exact HI0.out|apply IsS79.alloc|apply IsS79.drewN|apply IsS79.drew|apply IsS79.set_1|apply IsS79.set_2)|exact HI0.out));(case side2=>repeat (first|(with_reducible first|exact HB.out|apply aZ|apply nZ|apply dZ|refine sZ ?_ (IsS79.ge HI0.out))|exact HB.out));rintro e w30 ⟨rfl,hi,hb,hk⟩;refine⟨_,rfl,?_⟩;replace HO_7:=mk0 (Kd.R_mono (Kd.R_keep (IsS79.apart (show IsS79 w0 _ g s0_0 t547 t548 from by repeat (first|(with_reducible first|exact HI0.out|apply IsS79.alloc|apply IsS79.drewN|apply IsS79.drew|apply IsS79.set_1|apply IsS79.set_2)|exact HI0.out)) (rR HO_7.out) (by decide)) hk (fun _ h=>h.2)) (fun _ h=>h.1));replace HO_13:=mk0 (Kd.R_mono (Kd.R_keep (IsS79.apart (show IsS79 w0 _ g s0_0 t547 t548 from by repeat (first|(with_reducible first|exact HI0.out|apply IsS79.alloc|apply IsS79.drewN|apply IsS79.drew|apply IsS79.set_1|apply IsS79.set_2)|exact HI0.out)) (rR HO_13.out) (by decide)) hk (fun _ h=>h.2)) (fun _ h=>h.1));replace HO551:=mk0 (Kd.R_mono (Kd.R_keep (IsS79.apart (show IsS79 w0 _ g s0_0 t547 t548 from by repeat (first|(with_reducible first|exact HI0.out|apply IsS79.alloc|apply IsS79.drewN|apply IsS79.drew|apply IsS79.set_1|apply IsS79.set_2)|exact HI0.out)) (rR HO551.out) (by decide)) hk (fun _ h=>h.2)) (fun _ h=>h.1));replace HK:=mk0 (KeepBut.trans (by repeat (first|(with_reducible first|exact HK.out|apply KeepBut.set_|apply keep_drewN|apply keep_drew|apply keep_alloc)|exact HK.out)) hk (.inl rfl));replace HB:=mk0 (hb);replace HI0:=mk0 (hi);(try clear hb);(try clear hk);(try clear hi);obtain⟨Ao31,co31,eo31⟩:=Kd.R_slice HO551.out;subst eo31;have p555:0 ≤ (t552:Int):=oD;have q555:t552 < (y549.length:Int):=oD;obtain⟨ad555,e555,hx555_0⟩:=Kd.at_string (Kd.R_reads' HO551.out).2.2 t552 p555 q555;cases e555;replace p555:=eq_true p555;replace q555:=eq_true q555)|((with_reducible refine gate_dst (N:=33) rfl ?_);refine Kd.R_lit (Kd.int .u8) _ 5 ?hg (N:=33) ?hd (xs:=([]:List Int)) (inner:=[]) (ok:=fun _=>True) (okp:=fun _=>True) ?hr ?hp (fun _ hk=>hk) trivial (Below.refl _ _) (Nat.le_refl _) (by simp) ?_;(case hd=>rfl);(case hg=>rfl);(case hr=>first|(go_simp;done)|(go_simp;rfl));(case hp=>exact (Reps.none _ _));intro v557 w32 ho33 hb hg_ hnew_;clear hg_ hnew_;(first|rw [← Ny556.out] at ho33|(simp only [Int.reduceToNat] at ho33;rw [← Ny556.out] at ho33));replace HO551:=mk0 (bR HO551.out hb);have HO558:=mk0 (Kd.R_lower (Kd.R_new' (Kd.R_new' ho33 (Kd.R_lt (rR HO_7.out))) (Kd.R_lt (rR HO_13.out))) (keep_size (w:=w) (g:=g) (row:=none) (by repeat (first|(with_reducible first|exact HK.out|apply KeepBut.set_|apply keep_drewN|apply keep_drew|apply keep_alloc)|exact HK.out))));replace HO_7:=mk0 (Kd.R_elder' (rR HO_7.out) (Kd.R_base ho33) hb);replace HO_13:=mk0 (Kd.R_elder' (rR HO_13.out) (Kd.R_base ho33) hb);replace HK:=mk0 (KeepBut.trans (by repeat (first|(with_reducible first|exact HK.out|apply KeepBut.set_|apply keep_drewN|apply keep_drew|apply keep_alloc)|exact HK.out)) (KeepBut.of_below hb g none) (.inl rfl));replace HB:=mk0 (below_step (by repeat (first|(with_reducible first|exact HB.out|apply aZ|apply nZ|apply dZ|refine sZ ?_ (IsS79.ge HI0.out))|exact HB.out)) hb);replace HI0:=mk0 (IsS79.below (by repeat (first|(with_reducible first|exact HI0.out|apply IsS79.alloc|apply IsS79.drewN|apply IsS79.drew|apply IsS79.set_1|apply IsS79.set_2)|exact HI0.out)) hb);clear hb ho33;have q34:(t546:Int) ≤ ((x7_1.length:Int):Int):=oD;obtain⟨i034,hi034,_,hsz34,_⟩:=info_parts info5;have hroom34:x7_1.length ≤ co26:=(Kd.R_reads' HO_7.out).2.1;have hC34:Kd.C (Kd.int .u8) _ Ao26 x7_1.length x7_1:=(Kd.R_reads' HO_7.out).2.2;have hcut34:=cut_to (P:=Try.prog) 22 5 .i64 Try.underlying22 hi034 Ao26 x7_1.length co26 t546 (oD) q34 hroom34;have hr34:=Kd.C_take (m:=(t546:Int).toNat) hC34 (by omega);have hy34:y559.length = (t546:Int).toNat:=(by rw [Ny559.out,List.length_take];omega);rw [← Ny559.out] at hr34;rw [← hy34] at hcut34;have HR562:=mk0 hr34;have HC562:=mk0 (show y559.length ≤ co26 from by omega);clear hr34 hC34 hroom34 hi034 hsz34;have KY34:=mk0 hy34;clear hy34;have KL34:=mk0 (show (t546:Int).toNat ≤ x7_1.length from by omega);replace q34:=eq_true q34)|((with_reducible refine gate_builtin (b:=.append) (xs:=#[.tmp 33,.tmp 36]) rfl ?_);at_builtin;refine Kd.R_append_rows (Kd.int .u8) w.heap.size rfl (.tmp 33) (.tmp 36) 22 5 (.int .u8 0) 1 rfl Try.underlying22 info5 rfl (by decide) (by omega) v557 y556 y559 _ _ _ (fun k_=>some k_ ≠ (.slice Ao26 x7_1.length co26:Value).ownBlock ∧ some k_ ≠ (.slice Ao10 t532.length co10:Value).ownBlock) (fun _=>False) rfl rfl ?aO ?aR (fun _ _ h=>h) (fun _ h=>h.elim) ?aF (Below.refl _ _) ?aS ?aL ?_;(case aR=>repeat (first|exact (by repeat (first|(with_reducible exact HR562.out)|(with_reducible first|apply aC|apply nC|apply dC)|exact HR562.out))|(with_reducible first|apply aC|apply nC|apply dC)));(case aF=>exact (fun k_ hk=>⟨Kd.fresh' (Kd.R_lt (rR HO_7.out)) k_ hk,Kd.fresh' (Kd.R_lt (rR HO_13.out)) k_ hk⟩));(case aO=>exact (rR (Kd.R_mono HO558.out (fun _ hk=>⟨hk.1.2,hk.2⟩))));(case aS=>exact (keep_size (w:=w) (g:=g) (row:=none) (by repeat (first|(with_reducible first|exact HK.out|apply KeepBut.set_|apply keep_drewN|apply keep_drew|apply keep_alloc)|exact HK.out))));(case aL=>have:=LMc19.out;omega);intro v564 w35 ho hb hg hat;rw [← Ny563.out] at ho;replace HO_13:=mk0 (Kd.R_after (ok:=(fun k_=>some k_ ≠ (.slice Ao26 x7_1.length co26:Value).ownBlock)) (rR HO_13.out) hg hat);replace HO551:=mk0 (Kd.R_over' (rR HO551.out) (Kd.R_typed (rR HO558.out)) (by decide) hg);replace HB:=mk0 (below_weaken (by repeat (first|(with_reducible first|exact HB.out|apply aZ|apply nZ|apply dZ|refine sZ ?_ (IsS79.ge HI0.out))|exact HB.out)) HL.out hb);replace HI0:=mk0 (IsS79.grown (by repeat (first|(with_reducible first|exact HI0.out|apply IsS79.alloc|apply IsS79.drewN|apply IsS79.drew|apply IsS79.set_1|apply IsS79.set_2)|exact HI0.out)) hg (IsS79.own_ne HI0.out HO558.out (by decide)));replace HK:=mk0 (KeepBut.trans (by repeat (first|(with_reducible first|exact HK.out|apply KeepBut.set_|apply keep_drewN|apply keep_drew|apply keep_alloc)|exact HK.out)) (KeepBut.of_grown hg g) (Kd.R_base2 HO558.out));replace HR562:=mk0 ((show Kd.C (Kd.int .u8) w35 Ao26 y559.length y559 from by rw [Ny559.out];exact Kd.C_take (m:=(t546:Int).toNat) ((Kd.R_reads' (Kd.R_after (ok:=(fun k_=>some k_ ≠ (.slice Ao10 t532.length co10:Value).ownBlock)) (rR HO_7.out) hg hat)).2.2) KL34.out));replace HO_7:=mk0 (Kd.R_after (ok:=(fun k_=>some k_ ≠ (.slice Ao10 t532.length co10:Value).ownBlock)) (rR HO_7.out) hg hat);have HO565:=mk0 (ho);clear HO558 ho hb hg hat;have hcv37:=fun W_:World=>print_bytes (P:=Try.prog) 9 22 5 Try.underlying9 Try.underlying22 Try.underlying5 (rdOf ByteArray.empty y549 t552) W_)|((with_reducible refine gate_builtin (b:=.append) (xs:=#[.tmp 37,.tmp 39]) rfl ?_);at_builtin;refine Cnv.append_conv w.heap.size rfl (.tmp 37) (.tmp 39) 22 5 rfl Try.underlying22 info5 v564 y563 (rdOf ByteArray.empty y549 t552) (fun k_=>some k_ ≠ (.slice Ao26 x7_1.length co26:Value).ownBlock ∧ some k_ ≠ (.slice Ao10 t532.length co10:Value).ownBlock) rfl rfl ?aO ?aF (Below.refl _ _) ?aS ?aL ?_;(case aF=>exact (fun k_ hk=>⟨Kd.fresh' (Kd.R_lt (rR HO_7.out)) k_ hk,Kd.fresh' (Kd.R_lt (rR HO_13.out)) k_ hk⟩));(case aO=>exact (rR HO565.out));(case aS=>exact (keep_size (w:=w) (g:=g) (row:=none) (by repeat (first|(with_reducible first|exact HK.out|apply KeepBut.set_|apply keep_drewN|apply keep_drew|apply keep_alloc)|exact HK.out))));(case aL=>have:=LMc20.out;omega);intro v567 w36 ho hb hg hat;rw [← Ny566.out] at ho;replace HO_13:=mk0 (Kd.R_after (ok:=(fun k_=>some k_ ≠ (.slice Ao26 x7_1.length co26:Value).ownBlock)) (rR HO_13.out) hg hat);replace HO551:=mk0 (Kd.R_over' (rR HO551.out) (Kd.R_typed (rR HO565.out)) (by decide) hg);replace HB:=mk0 (below_weaken (by repeat (first|(with_reducible first|exact HB.out|apply aZ|apply nZ|apply dZ|refine sZ ?_ (IsS79.ge HI0.out))|exact HB.out)) HL.out hb);replace HI0:=mk0 (IsS79.grown (by repeat (first|(with_reducible first|exact HI0.out|apply IsS79.alloc|apply IsS79.drewN|apply IsS79.drew|apply IsS79.set_1|apply IsS79.set_2)|exact HI0.out)) hg (IsS79.own_ne HI0.out HO565.out (by decide)));replace HK:=mk0 (KeepBut.trans (by repeat (first|(with_reducible first|exact HK.out|apply KeepBut.set_|apply keep_drewN|apply keep_drew|apply keep_alloc)|exact HK.out)) (KeepBut.of_grown hg g) (Kd.R_base2 HO565.out));replace HR562:=mk0 ((show Kd.C (Kd.int .u8) w36 Ao26 y559.length y559 from by rw [Ny559.out];exact Kd.C_take (m:=(t546:Int).toNat) ((Kd.R_reads' (Kd.R_after (ok:=(fun k_=>some k_ ≠ (.slice Ao10 t532.length co10:Value).ownBlock)) (rR HO_7.out) hg hat)).2.2) KL34.out));replace HO_7:=mk0 (Kd.R_after (ok:=(fun k_=>some k_ ≠ (.slice Ao10 t532.length co10:Value).ownBlock)) (rR HO_7.out) hg hat);have HO568:=mk0 (ho);clear HO565 ho hb hg hat)|((with_reducible refine gate_callee (f:=68) rfl ?_);refine gL (some 46) Try.func68 #[.pointer (some ⟨g,0,none⟩),.int .i64 3] ?_;(with_reducible refine (spec_l01Cur_pick.calls g s0_0 t553 t554 3 t569 t570 t571 w0 _ ?side1 ?side2 A21.out).mono ?_);(case side1=>repeat (first|(with_reducible first|exact HI0.out|apply IsS79.alloc|apply IsS79.drewN|apply IsS79.drew|apply IsS79.set_1|apply IsS79.set_2)|exact HI0.out));(case side2=>repeat (first|(with_reducible first|exact HB.out|apply aZ|apply nZ|apply dZ|refine sZ ?_ (IsS79.ge HI0.out))|exact HB.out));rintro e w38 ⟨rfl,hi,hb,hk⟩;refine⟨_,rfl,?_⟩;replace HO_7:=mk0 (Kd.R_mono (Kd.R_keep (IsS79.apart (show IsS79 w0 _ g s0_0 t553 t554 from by repeat (first|(with_reducible first|exact HI0.out|apply IsS79.alloc|apply IsS79.drewN|apply IsS79.drew|apply IsS79.set_1|apply IsS79.set_2)|exact HI0.out)) (rR HO_7.out) (by decide)) hk (fun _ h=>h.2)) (fun _ h=>h.1));replace HO_13:=mk0 (Kd.R_mono (Kd.R_keep (IsS79.apart (show IsS79 w0 _ g s0_0 t553 t554 from by repeat (first|(with_reducible first|exact HI0.out|apply IsS79.alloc|apply IsS79.drewN|apply IsS79.drew|apply IsS79.set_1|apply IsS79.set_2)|exact HI0.out)) (rR HO_13.out) (by decide)) hk (fun _ h=>h.2)) (fun _ h=>h.1));replace HO551:=mk0 (Kd.R_mono (Kd.R_keep (IsS79.apart (show IsS79 w0 _ g s0_0 t553 t554 from by repeat (first|(with_reducible first|exact HI0.out|apply IsS79.alloc|apply IsS79.drewN|apply IsS79.drew|apply IsS79.set_1|apply IsS79.set_2)|exact HI0.out)) (rR HO551.out) (by decide)) hk (fun _ h=>h.2)) (fun _ h=>h.1));replace HO568:=mk0 (Kd.R_mono (Kd.R_keep (IsS79.apart (show IsS79 w0 _ g s0_0 t553 t554 from by repeat (first|(with_reducible first|exact HI0.out|apply IsS79.alloc|apply IsS79.drewN|apply IsS79.drew|apply IsS79.set_1|apply IsS79.set_2)|exact HI0.out)) (rR HO568.out) (by decide)) hk (fun _ h=>h.2)) (fun _ h=>h.1));replace HK:=mk0 (KeepBut.trans (by repeat (first|(with_reducible first|exact HK.out|apply KeepBut.set_|apply keep_drewN|apply keep_drew|apply keep_alloc)|exact HK.out)) hk (.inl rfl));replace HB:=mk0 (hb);replace HI0:=mk0 (hi);(try clear hb);(try clear hk);(try clear hi);have q39:((ji22):Int) ≤ ((x7_1.length:Int):Int):=oD;obtain⟨i039,hi039,_,hsz39,_⟩:=info_parts info5;have hroom39:x7_1.length ≤ co26:=(Kd.R_reads' HO_7.out).2.1;have hC39:Kd.C (Kd.int .u8) _ Ao26 x7_1.length x7_1:=(Kd.R_reads' HO_7.out).2.2;have q039:(0:Int) ≤ ((ji22):Int):=oD;have hcut39:=cut_from (P:=Try.prog) 22 5 .i64 Try.underlying22 hi039 1 hsz39 Ao26 x7_1.length co26 (ji22) q039 q39;have hr39:=Kd.C_drop (m:=((ji22):Int).toNat) (c:=co26) hC39 (by omega) hroom39;obtain⟨A39,hA39⟩:∃ A1,A1 = (if co26 = ((ji22):Int).toNat then Ao26 else (Ao26:Option Addr).map (·.add (((ji22):Int).toNat * 1))):=⟨_,rfl⟩;obtain⟨c39,hc39⟩:∃ c1,c1 = co26 - ((ji22):Int).toNat:=⟨_,rfl⟩;have hy39:y572.length = x7_1.length - ((ji22):Int).toNat:=(by rw [Ny572.out,List.length_drop] <;> omega);rw [show (x7_1).drop ((ji22):Int).toNat = y572 from Ny572.out.symm] at hr39;replace hr39:Kd.C (Kd.int .u8) _ A39 y572.length y572:=(by rw [hA39];exact hr39);rw [← hy39, ← hA39, ← hc39] at hcut39;have HR575:=mk0 hr39;have HC575:=mk0 (show y572.length ≤ c39 from by rw [hy39,hc39];exact Nat.sub_le_sub_right hroom39 _);clear hr39 hC39 hroom39 hi039 hsz39 hc39;have KY39:=mk0 hy39;have KA39:=mk0 hA39;clear hy39 hA39;have KL39:=mk0 (show ((ji22):Int).toNat ≤ x7_1.length from by omega);replace q39:=eq_true q39)|((with_reducible refine gate_builtin (b:=.append) (xs:=#[.tmp 40,.tmp 49]) rfl ?_);at_builtin;refine Kd.R_append_rows (Kd.int .u8) w.heap.size rfl (.tmp 40) (.tmp 49) 22 5 (.int .u8 0) 1 rfl Try.underlying22 info5 rfl (by decide) (by omega) v567 y566 y572 _ _ _ (fun k_=>some k_ ≠ (.slice Ao26 x7_1.length co26:Value).ownBlock ∧ some k_ ≠ (.slice Ao10 t532.length co10:Value).ownBlock) (fun _=>False) rfl rfl ?aO ?aR (fun _ _ h=>h) (fun _ h=>h.elim) ?aF (Below.refl _ _) ?aS ?aL ?_;(case aR=>repeat (first|exact (by repeat (first|(with_reducible exact HR575.out)|(with_reducible first|apply aC|apply nC|apply dC)|exact HR575.out))|(with_reducible first|apply aC|apply nC|apply dC)));(case aF=>exact (fun k_ hk=>⟨Kd.fresh' (Kd.R_lt (rR HO_7.out)) k_ hk,Kd.fresh' (Kd.R_lt (rR HO_13.out)) k_ hk⟩));(case aO=>exact (rR HO568.out));(case aS=>exact (keep_size (w:=w) (g:=g) (row:=none) (by repeat (first|(with_reducible first|exact HK.out|apply KeepBut.set_|apply keep_drewN|apply keep_drew|apply keep_alloc)|exact HK.out))));(case aL=>have:=LMc25.out;omega);intro v577 w40 ho hb hg hat;rw [← Ny576.out] at ho;replace HO_13:=mk0 (Kd.R_after (ok:=(fun k_=>some k_ ≠ (.slice Ao26 x7_1.length co26:Value).ownBlock)) (rR HO_13.out) hg hat);replace HO551:=mk0 (Kd.R_over' (rR HO551.out) (Kd.R_typed (rR HO568.out)) (by decide) hg);replace HB:=mk0 (below_weaken (by repeat (first|(with_reducible first|exact HB.out|apply aZ|apply nZ|apply dZ|refine sZ ?_ (IsS79.ge HI0.out))|exact HB.out)) HL.out hb);replace HI0:=mk0 (IsS79.grown (by repeat (first|(with_reducible first|exact HI0.out|apply IsS79.alloc|apply IsS79.drewN|apply IsS79.drew|apply IsS79.set_1|apply IsS79.set_2)|exact HI0.out)) hg (IsS79.own_ne HI0.out HO568.out (by decide)));replace HK:=mk0 (KeepBut.trans (by repeat (first|(with_reducible first|exact HK.out|apply KeepBut.set_|apply keep_drewN|apply keep_drew|apply keep_alloc)|exact HK.out)) (KeepBut.of_grown hg g) (Kd.R_base2 HO568.out));replace HR575:=mk0 ((show Kd.C (Kd.int .u8) w40 A39 y572.length y572 from by rw [Ny572.out,KA39.out];exact Kd.C_drop (m:=((ji22):Int).toNat) (c:=co26) ((Kd.R_reads' (Kd.R_after (ok:=(fun k_=>some k_ ≠ (.slice Ao10 t532.length co10:Value).ownBlock)) (rR HO_7.out) hg hat)).2.2) KL39.out ((Kd.R_reads' (Kd.R_after (ok:=(fun k_=>some k_ ≠ (.slice Ao10 t532.length co10:Value).ownBlock)) (rR HO_7.out) hg hat)).2.1)));replace HO_7:=mk0 (Kd.R_after (ok:=(fun k_=>some k_ ≠ (.slice Ao10 t532.length co10:Value).ownBlock)) (rR HO_7.out) hg hat);have HO578:=mk0 (ho);clear HO568 ho hb hg hat))
   go_roundg k1
   case measure=>have:=HK1.out;omega
   case rel=>exact⟨(y576),(wrap64 (x8_1 - 1)),(t570),(t571),eS,H',⟨by have:=HK1.out;omega⟩,⟨rR (Kd.R_mono HO578.out (fun _ hk=>hk.2))⟩,⟨rR (Kd.R_mono HO_13.out (fun _ hk=>hk.2))⟩,⟨by repeat (first|(with_reducible first|exact HI0.out|apply IsS79.alloc|apply IsS79.drewN|apply IsS79.drew|apply IsS79.set_1|apply IsS79.set_2)|exact HI0.out)⟩,⟨by repeat (first|(with_reducible first|exact HK.out|apply KeepBut.set_|apply keep_drewN|apply keep_drew|apply keep_alloc)|exact HK.out)⟩,⟨by repeat (first|(with_reducible first|exact HB.out|apply aZ|apply nZ|apply dZ|refine sZ ?_ (IsS79.ge HI0.out))|exact HB.out)⟩⟩
/-! ### spec_l01Cur_raw: function 70 -/
def spec_l01Cur_raw.f (s0_0 : List Int) (s0_1 : Int) (s0_2 : Int) : Option (Int × Int × Int) := (spec_l01Cur_pick.f s0_0 s0_1 s0_2 8).bind fun bt590 => (if bt590.1 = 0 then ((spec_l01Cur_pick.f s0_0 bt590.2.1 bt590.2.2 256).bind fun bt593 => (some (wrap64 (bt593.1 - 128), bt593.2.1, bt593.2.2))) else (if bt590.1 = 1 then ((some (([9223372036854775807, (-9223372036854775808), 4611686018427387904, 4294967295, 4294967296, (-1000), 1000, 257] : List Int) : List Int)).bind fun y596 => ((spec_l01Cur_pick.f s0_0 bt590.2.1 bt590.2.2 8).bind fun bt599 => (if 0 ≤ bt599.1 then (if bt599.1 < (y596.length : Int) then (some (rd y596 bt599.1, bt599.2.1, bt599.2.2)) else (none)) else (none)))) else ((spec_l01Cur_pick.f s0_0 bt590.2.1 bt590.2.2 14).bind fun bt603 => (some (wrap64 (bt603.1 - 3), bt603.2.1, bt603.2.2)))))
set_option maxHeartbeats 8000000 in
set_option maxRecDepth 100000 in
theorem spec_l01Cur_raw.calls (g : Nat) (s0_0 : List Int) (s0_1 : Int) (s0_2 : Int) (r1 : Int) (r2 : Int) (r3 : Int) (w0 w : World) (hI : IsS79 w0 w g s0_0 s0_1 s0_2) (hB : Below w0.heap.size w0 w) (h : spec_l01Cur_raw.f s0_0 s0_1 s0_2 = some (r1, r2, r3)) :
  Calls Try.prog 70 #[.pointer (some ⟨g, 0, none⟩)] w fun e w' => e = .returned (.int .i64 r1) ∧ IsS79 w0 w' g s0_0 r2 r3 ∧ Below w0.heap.size w0 w' ∧ KeepBut w w' g none := by
 have HI0:=mk0 hI
 have HK:=mk0 (KeepBut.refl w g none)
 have HL:=mk0 hB.size
 clear hI
 have HW0:=mk0 hB.size
 have HB:=mk0 hB
 clear hB
 have H:((spec_l01Cur_pick.f s0_0 s0_1 s0_2 8).bind fun bt590=>(if bt590.1 = 0 then ((spec_l01Cur_pick.f s0_0 bt590.2.1 bt590.2.2 256).bind fun bt593=>(some (wrap64 (bt593.1 - 128),bt593.2.1,bt593.2.2))) else (if bt590.1 = 1 then ((some (([9223372036854775807,(-9223372036854775808),4611686018427387904,4294967295,4294967296,(-1000),1000,257]:List Int):List Int)).bind fun y596=>((spec_l01Cur_pick.f s0_0 bt590.2.1 bt590.2.2 8).bind fun bt599=>(if 0 ≤ bt599.1 then (if bt599.1 < (y596.length:Int) then (some (rd y596 bt599.1,bt599.2.1,bt599.2.2)) else (none)) else (none)))) else ((spec_l01Cur_pick.f s0_0 bt590.2.1 bt590.2.2 14).bind fun bt603=>(some (wrap64 (bt603.1 - 3),bt603.2.1,bt603.2.2)))))) = some (r1,r2,r3):=h
 clear h
 replace H:=bE H
 obtain⟨⟨t590,t591,t592⟩,A2,H⟩:=H
 dsimp only at H
 by_cases c3:t590 = 0
 ·rw [if_pos c3] at H
  have c3b0:(t590 == 0) = true:=beq_iff_eq.mpr c3
  have c3b1:(t590 != 0) = false:=bne_eq_false_iff_eq.mpr c3
  clear c3
  replace H:=bE H
  obtain⟨⟨t593,t594,t595⟩,A4,H⟩:=H
  dsimp only at H
  simp only [Option.some.injEq,Prod.mk.injEq] at H
  obtain⟨rfl,rfl,rfl⟩:=H
  go_enter Try.func70,Try.ntmps70
  go_wp2_with (first|((with_reducible refine gate_callee (f:=68) rfl ?_);refine gL (some 4) Try.func68 #[.pointer (some ⟨g,0,none⟩),.int .i64 8] ?_;(with_reducible refine (spec_l01Cur_pick.calls g s0_0 s0_1 s0_2 8 t590 t591 t592 w0 _ ?side1 ?side2 A2.out).mono ?_);(case side1=>repeat (first|(with_reducible first|exact HI0.out|apply IsS79.alloc|apply IsS79.drewN|apply IsS79.drew|apply IsS79.set_1|apply IsS79.set_2)|exact HI0.out));(case side2=>repeat (first|(with_reducible first|exact HB.out|apply aZ|apply nZ|apply dZ|refine sZ ?_ (IsS79.ge HI0.out))|exact HB.out));rintro e w5 ⟨rfl,hi,hb,hk⟩;refine⟨_,rfl,?_⟩;replace HK:=mk0 (KeepBut.trans (by repeat (first|(with_reducible first|exact HK.out|apply KeepBut.set_|apply keep_drewN|apply keep_drew|apply keep_alloc)|exact HK.out)) hk (.inl rfl));replace HB:=mk0 (hb);replace HI0:=mk0 (hi);(try clear hb);(try clear hk);(try clear hi))|((with_reducible refine gate_callee (f:=68) rfl ?_);refine gL (some 8) Try.func68 #[.pointer (some ⟨g,0,none⟩),.int .i64 256] ?_;(with_reducible refine (spec_l01Cur_pick.calls g s0_0 t591 t592 256 t593 t594 t595 w0 _ ?side1 ?side2 A4.out).mono ?_);(case side1=>repeat (first|(with_reducible first|exact HI0.out|apply IsS79.alloc|apply IsS79.drewN|apply IsS79.drew|apply IsS79.set_1|apply IsS79.set_2)|exact HI0.out));(case side2=>repeat (first|(with_reducible first|exact HB.out|apply aZ|apply nZ|apply dZ|refine sZ ?_ (IsS79.ge HI0.out))|exact HB.out));rintro e w6 ⟨rfl,hi,hb,hk⟩;refine⟨_,rfl,?_⟩;replace HK:=mk0 (KeepBut.trans (by repeat (first|(with_reducible first|exact HK.out|apply KeepBut.set_|apply keep_drewN|apply keep_drew|apply keep_alloc)|exact HK.out)) hk (.inl rfl));replace HB:=mk0 (hb);replace HI0:=mk0 (hi);(try clear hb);(try clear hk);(try clear hi)))
  go_ret
  exact⟨eR,by repeat (first|(with_reducible first|exact HI0.out|apply IsS79.alloc|apply IsS79.drewN|apply IsS79.drew|apply IsS79.set_1|apply IsS79.set_2)|exact HI0.out),by repeat (first|(with_reducible first|exact HB.out|apply aZ|apply nZ|apply dZ|refine sZ ?_ (IsS79.ge HI0.out))|exact HB.out),by repeat (first|(with_reducible first|exact HK.out|apply KeepBut.set_|apply keep_drewN|apply keep_drew|apply keep_alloc)|exact HK.out)⟩
 ·rw [if_neg c3] at H
  have c3b0:(t590 == 0) = false:=beq_eq_false_iff_ne.mpr c3
  have c3b1:(t590 != 0) = true:=bne_iff_ne.mpr c3
  by_cases c7:t590 = 1
  ·rw [if_pos c7] at H
   have c7b0:(t590 == 1) = true:=beq_iff_eq.mpr c7
   have c7b1:(t590 != 1) = false:=bne_eq_false_iff_eq.mpr c7
   clear c7
   obtain⟨y596,hy596⟩:∃ y_:List Int,y_ = (([9223372036854775807,(-9223372036854775808),4611686018427387904,4294967295,4294967296,(-1000),1000,257]:List Int)):=⟨_,rfl⟩
   first|(with_reducible replace H:=yB hy596 H)|rw [← hy596] at H|skip
   have Ny596:=mk0 hy596
   clear hy596
   replace H:=bE H
   obtain⟨⟨t599,t600,t601⟩,A8,H⟩:=H
   dsimp only at H
   by_cases c9:0 ≤ t599
   ·rw [if_pos c9] at H
    have c9b0:decide (0 ≤ t599) = true:=decide_eq_true c9
    clear c9
    by_cases c10:t599 < (y596.length:Int)
    ·rw [if_pos c10] at H
     have c10b0:decide (t599 < (y596.length:Int)) = true:=decide_eq_true c10
     clear c10
     simp only [Option.some.injEq,Prod.mk.injEq] at H
     obtain⟨rfl,rfl,rfl⟩:=H
     go_enter Try.func70,Try.ntmps70
     go_wp2_with (first|((with_reducible refine gate_callee (f:=68) rfl ?_);refine gL (some 4) Try.func68 #[.pointer (some ⟨g,0,none⟩),.int .i64 8] ?_;(with_reducible refine (spec_l01Cur_pick.calls g s0_0 s0_1 s0_2 8 t590 t591 t592 w0 _ ?side1 ?side2 A2.out).mono ?_);(case side1=>repeat (first|(with_reducible first|exact HI0.out|apply IsS79.alloc|apply IsS79.drewN|apply IsS79.drew|apply IsS79.set_1|apply IsS79.set_2)|exact HI0.out));(case side2=>repeat (first|(with_reducible first|exact HB.out|apply aZ|apply nZ|apply dZ|refine sZ ?_ (IsS79.ge HI0.out))|exact HB.out));rintro e w11 ⟨rfl,hi,hb,hk⟩;refine⟨_,rfl,?_⟩;replace HK:=mk0 (KeepBut.trans (by repeat (first|(with_reducible first|exact HK.out|apply KeepBut.set_|apply keep_drewN|apply keep_drew|apply keep_alloc)|exact HK.out)) hk (.inl rfl));replace HB:=mk0 (hb);replace HI0:=mk0 (hi);(try clear hb);(try clear hk);(try clear hi))|((with_reducible refine gate_dst (N:=12) rfl ?_);refine Kd.R_lit (Kd.int .i64) _ 3 ?hg (N:=12) ?hd (xs:=([9223372036854775807,(-9223372036854775808),4611686018427387904,4294967295,4294967296,(-1000),1000,257]:List Int)) (inner:=[.int .i64 9223372036854775807,.int .i64 (-9223372036854775808),.int .i64 4611686018427387904,.int .i64 4294967295,.int .i64 4294967296,.int .i64 (-1000),.int .i64 1000,.int .i64 257]) (ok:=fun _=>True) (okp:=fun _=>True) ?hr ?hp (fun _ hk=>hk) trivial (Below.refl _ _) (Nat.le_refl _) (by simp) ?_;(case hd=>rfl);(case hg=>rfl);(case hr=>first|(go_simp;done)|(go_simp;rfl));(case hp=>exact (Reps.one (show Kd.M (Kd.int .i64) _ _ _ 9223372036854775807 [.int .i64 9223372036854775807] from rfl) (Reps.one (show Kd.M (Kd.int .i64) _ _ _ (-9223372036854775808) [.int .i64 (-9223372036854775808)] from rfl) (Reps.one (show Kd.M (Kd.int .i64) _ _ _ 4611686018427387904 [.int .i64 4611686018427387904] from rfl) (Reps.one (show Kd.M (Kd.int .i64) _ _ _ 4294967295 [.int .i64 4294967295] from rfl) (Reps.one (show Kd.M (Kd.int .i64) _ _ _ 4294967296 [.int .i64 4294967296] from rfl) (Reps.one (show Kd.M (Kd.int .i64) _ _ _ (-1000) [.int .i64 (-1000)] from rfl) (Reps.one (show Kd.M (Kd.int .i64) _ _ _ 1000 [.int .i64 1000] from rfl) (Reps.one (show Kd.M (Kd.int .i64) _ _ _ 257 [.int .i64 257] from rfl) (Reps.none _ _))))))))));intro v597 w12 ho13 hb hg_ hnew_;clear hg_ hnew_;(first|rw [← Ny596.out] at ho13|(simp only [Int.reduceToNat] at ho13;rw [← Ny596.out] at ho13));have HO598:=mk0 (Kd.R_lower ho13 (keep_size (w:=w) (g:=g) (row:=none) (by repeat (first|(with_reducible first|exact HK.out|apply KeepBut.set_|apply keep_drewN|apply keep_drew|apply keep_alloc)|exact HK.out))));replace HK:=mk0 (KeepBut.trans (by repeat (first|(with_reducible first|exact HK.out|apply KeepBut.set_|apply keep_drewN|apply keep_drew|apply keep_alloc)|exact HK.out)) (KeepBut.of_below hb g none) (.inl rfl));replace HB:=mk0 (below_step (by repeat (first|(with_reducible first|exact HB.out|apply aZ|apply nZ|apply dZ|refine sZ ?_ (IsS79.ge HI0.out))|exact HB.out)) hb);replace HI0:=mk0 (IsS79.below (by repeat (first|(with_reducible first|exact HI0.out|apply IsS79.alloc|apply IsS79.drewN|apply IsS79.drew|apply IsS79.set_1|apply IsS79.set_2)|exact HI0.out)) hb);clear hb ho13)|((with_reducible refine gate_callee (f:=68) rfl ?_);refine gL (some 14) Try.func68 #[.pointer (some ⟨g,0,none⟩),.int .i64 8] ?_;(with_reducible refine (spec_l01Cur_pick.calls g s0_0 t591 t592 8 t599 t600 t601 w0 _ ?side1 ?side2 A8.out).mono ?_);(case side1=>repeat (first|(with_reducible first|exact HI0.out|apply IsS79.alloc|apply IsS79.drewN|apply IsS79.drew|apply IsS79.set_1|apply IsS79.set_2)|exact HI0.out));(case side2=>repeat (first|(with_reducible first|exact HB.out|apply aZ|apply nZ|apply dZ|refine sZ ?_ (IsS79.ge HI0.out))|exact HB.out));rintro e w14 ⟨rfl,hi,hb,hk⟩;refine⟨_,rfl,?_⟩;replace HO598:=mk0 (Kd.R_mono (Kd.R_keep (IsS79.apart (show IsS79 w0 _ g s0_0 t591 t592 from by repeat (first|(with_reducible first|exact HI0.out|apply IsS79.alloc|apply IsS79.drewN|apply IsS79.drew|apply IsS79.set_1|apply IsS79.set_2)|exact HI0.out)) (rR HO598.out) (by decide)) hk (fun _ h=>h.2)) (fun _ h=>h.1));replace HK:=mk0 (KeepBut.trans (by repeat (first|(with_reducible first|exact HK.out|apply KeepBut.set_|apply keep_drewN|apply keep_drew|apply keep_alloc)|exact HK.out)) hk (.inl rfl));replace HB:=mk0 (hb);replace HI0:=mk0 (hi);(try clear hb);(try clear hk);(try clear hi);obtain⟨Ao15,co15,eo15⟩:=Kd.R_slice HO598.out;subst eo15;have p602:0 ≤ (t599:Int):=oD;have q602:t599 < (y596.length:Int):=oD;obtain⟨ad602,e602,hx602_0⟩:=Kd.at_int (Kd.R_reads' HO598.out).2.2 t599 p602 q602;cases e602;replace p602:=eq_true p602;replace q602:=eq_true q602))
     go_ret
     exact⟨eR,by repeat (first|(with_reducible first|exact HI0.out|apply IsS79.alloc|apply IsS79.drewN|apply IsS79.drew|apply IsS79.set_1|apply IsS79.set_2)|exact HI0.out),by repeat (first|(with_reducible first|exact HB.out|apply aZ|apply nZ|apply dZ|refine sZ ?_ (IsS79.ge HI0.out))|exact HB.out),by repeat (first|(with_reducible first|exact HK.out|apply KeepBut.set_|apply keep_drewN|apply keep_drew|apply keep_alloc)|exact HK.out)⟩
    ·rw [if_neg c10] at H
     exact nn H
   ·rw [if_neg c9] at H
    exact nn H
  ·rw [if_neg c7] at H
   have c7b0:(t590 == 1) = false:=beq_eq_false_iff_ne.mpr c7
   have c7b1:(t590 != 1) = true:=bne_iff_ne.mpr c7
   replace H:=bE H
   obtain⟨⟨t603,t604,t605⟩,A16,H⟩:=H
   dsimp only at H
   simp only [Option.some.injEq,Prod.mk.injEq] at H
   obtain⟨rfl,rfl,rfl⟩:=H
   go_enter Try.func70,Try.ntmps70
   go_wp2_with (first|((with_reducible refine gate_callee (f:=68) rfl ?_);refine gL (some 4) Try.func68 #[.pointer (some ⟨g,0,none⟩),.int .i64 8] ?_;(with_reducible refine (spec_l01Cur_pick.calls g s0_0 s0_1 s0_2 8 t590 t591 t592 w0 _ ?side1 ?side2 A2.out).mono ?_);(case side1=>repeat (first|(with_reducible first|exact HI0.out|apply IsS79.alloc|apply IsS79.drewN|apply IsS79.drew|apply IsS79.set_1|apply IsS79.set_2)|exact HI0.out));(case side2=>repeat (first|(with_reducible first|exact HB.out|apply aZ|apply nZ|apply dZ|refine sZ ?_ (IsS79.ge HI0.out))|exact HB.out));rintro e w17 ⟨rfl,hi,hb,hk⟩;refine⟨_,rfl,?_⟩;replace HK:=mk0 (KeepBut.trans (by repeat (first|(with_reducible first|exact HK.out|apply KeepBut.set_|apply keep_drewN|apply keep_drew|apply keep_alloc)|exact HK.out)) hk (.inl rfl));replace HB:=mk0 (hb);replace HI0:=mk0 (hi);(try clear hb);(try clear hk);(try clear hi))|((with_reducible refine gate_callee (f:=68) rfl ?_);refine gL (some 18) Try.func68 #[.pointer (some ⟨g,0,none⟩),.int .i64 14] ?_;(with_reducible refine (spec_l01Cur_pick.calls g s0_0 t591 t592 14 t603 t604 t605 w0 _ ?side1 ?side2 A16.out).mono ?_);(case side1=>repeat (first|(with_reducible first|exact HI0.out|apply IsS79.alloc|apply IsS79.drewN|apply IsS79.drew|apply IsS79.set_1|apply IsS79.set_2)|exact HI0.out));(case side2=>repeat (first|(with_reducible first|exact HB.out|apply aZ|apply nZ|apply dZ|refine sZ ?_ (IsS79.ge HI0.out))|exact HB.out));rintro e w18 ⟨rfl,hi,hb,hk⟩;refine⟨_,rfl,?_⟩;replace HK:=mk0 (KeepBut.trans (by repeat (first|(with_reducible first|exact HK.out|apply KeepBut.set_|apply keep_drewN|apply keep_drew|apply keep_alloc)|exact HK.out)) hk (.inl rfl));replace HB:=mk0 (hb);replace HI0:=mk0 (hi);(try clear hb);(try clear hk);(try clear hi)))
   go_ret
   exact⟨eR,by repeat (first|(with_reducible first|exact HI0.out|apply IsS79.alloc|apply IsS79.drewN|apply IsS79.drew|apply IsS79.set_1|apply IsS79.set_2)|exact HI0.out),by repeat (first|(with_reducible first|exact HB.out|apply aZ|apply nZ|apply dZ|refine sZ ?_ (IsS79.ge HI0.out))|exact HB.out),by repeat (first|(with_reducible first|exact HK.out|apply KeepBut.set_|apply keep_drewN|apply keep_drew|apply keep_alloc)|exact HK.out)⟩
/-! ### spec_l01Cur_depthOf: function 46 -/
def spec_l01Cur_depthOf.f (s0_0 : List Int) (s0_1 : Int) (s0_2 : Int) : Option (Int × Int × Int) := (spec_l01Cur_raw.f s0_0 s0_1 s0_2).bind fun bt606 => ((some (([0, 1, 2, 3, 8, bt606.1] : List Int) : List Int)).bind fun y609 => ((spec_l01Cur_pick.f s0_0 bt606.2.1 bt606.2.2 6).bind fun bt612 => (if 0 ≤ bt612.1 then (if bt612.1 < (y609.length : Int) then (some (rd y609 bt612.1, bt612.2.1, bt612.2.2)) else (none)) else (none))))
set_option maxHeartbeats 8000000 in
set_option maxRecDepth 100000 in
theorem spec_l01Cur_depthOf.calls (g : Nat) (s0_0 : List Int) (s0_1 : Int) (s0_2 : Int) (r1 : Int) (r2 : Int) (r3 : Int) (w0 w : World) (hI : IsS79 w0 w g s0_0 s0_1 s0_2) (hB : Below w0.heap.size w0 w) (h : spec_l01Cur_depthOf.f s0_0 s0_1 s0_2 = some (r1, r2, r3)) :
  Calls Try.prog 46 #[.pointer (some ⟨g, 0, none⟩)] w fun e w' => e = .returned (.int .i64 r1) ∧ IsS79 w0 w' g s0_0 r2 r3 ∧ Below w0.heap.size w0 w' ∧ KeepBut w w' g none := by
 have HI0:=mk0 hI
 have HK:=mk0 (KeepBut.refl w g none)
 have HL:=mk0 hB.size
 clear hI
 have HW0:=mk0 hB.size
 have HB:=mk0 hB
 clear hB
 have H:((spec_l01Cur_raw.f s0_0 s0_1 s0_2).bind fun bt606=>((some (([0,1,2,3,8,bt606.1]:List Int):List Int)).bind fun y609=>((spec_l01Cur_pick.f s0_0 bt606.2.1 bt606.2.2 6).bind fun bt612=>(if 0 ≤ bt612.1 then (if bt612.1 < (y609.length:Int) then (some (rd y609 bt612.1,bt612.2.1,bt612.2.2)) else (none)) else (none))))) = some (r1,r2,r3):=h
 clear h
 replace H:=bE H
 obtain⟨⟨t606,t607,t608⟩,A2,H⟩:=H
 dsimp only at H
 obtain⟨y609,hy609⟩:∃ y_:List Int,y_ = (([0,1,2,3,8,t606]:List Int)):=⟨_,rfl⟩
 first|(with_reducible replace H:=yB hy609 H)|rw [← hy609] at H|skip
 have Ny609:=mk0 hy609
 clear hy609
 replace H:=bE H
 obtain⟨⟨t612,t613,t614⟩,A3,H⟩:=H
 dsimp only at H
 by_cases c4:0 ≤ t612
 ·rw [if_pos c4] at H
  have c4b0:decide (0 ≤ t612) = true:=decide_eq_true c4
  clear c4
  by_cases c5:t612 < (y609.length:Int)
  ·rw [if_pos c5] at H
   have c5b0:decide (t612 < (y609.length:Int)) = true:=decide_eq_true c5
   clear c5
   simp only [Option.some.injEq,Prod.mk.injEq] at H
   obtain⟨rfl,rfl,rfl⟩:=H
   go_enter Try.func46,Try.ntmps46
   go_wp2_with (first|((with_reducible refine gate_callee (f:=70) rfl ?_);refine gL (some 4) Try.func70 #[.pointer (some ⟨g,0,none⟩)] ?_;(with_reducible refine (spec_l01Cur_raw.calls g s0_0 s0_1 s0_2 t606 t607 t608 w0 _ ?side1 ?side2 A2.out).mono ?_);(case side1=>repeat (first|(with_reducible first|exact HI0.out|apply IsS79.alloc|apply IsS79.drewN|apply IsS79.drew|apply IsS79.set_1|apply IsS79.set_2)|exact HI0.out));(case side2=>repeat (first|(with_reducible first|exact HB.out|apply aZ|apply nZ|apply dZ|refine sZ ?_ (IsS79.ge HI0.out))|exact HB.out));rintro e w6 ⟨rfl,hi,hb,hk⟩;refine⟨_,rfl,?_⟩;replace HK:=mk0 (KeepBut.trans (by repeat (first|(with_reducible first|exact HK.out|apply KeepBut.set_|apply keep_drewN|apply keep_drew|apply keep_alloc)|exact HK.out)) hk (.inl rfl));replace HB:=mk0 (hb);replace HI0:=mk0 (hi);(try clear hb);(try clear hk);(try clear hi))|((with_reducible refine gate_dst (N:=5) rfl ?_);refine Kd.R_lit (Kd.int .i64) _ 3 ?hg (N:=5) ?hd (xs:=([0,1,2,3,8,t606]:List Int)) (inner:=[.int .i64 0,.int .i64 1,.int .i64 2,.int .i64 3,.int .i64 8,.int .i64 t606]) (ok:=fun _=>True) (okp:=fun _=>True) ?hr ?hp (fun _ hk=>hk) trivial (Below.refl _ _) (Nat.le_refl _) (by simp) ?_;(case hd=>rfl);(case hg=>rfl);(case hr=>first|(go_simp;done)|(go_simp;rfl));(case hp=>exact (Reps.one (show Kd.M (Kd.int .i64) _ _ _ 0 [.int .i64 0] from rfl) (Reps.one (show Kd.M (Kd.int .i64) _ _ _ 1 [.int .i64 1] from rfl) (Reps.one (show Kd.M (Kd.int .i64) _ _ _ 2 [.int .i64 2] from rfl) (Reps.one (show Kd.M (Kd.int .i64) _ _ _ 3 [.int .i64 3] from rfl) (Reps.one (show Kd.M (Kd.int .i64) _ _ _ 8 [.int .i64 8] from rfl) (Reps.one (show Kd.M (Kd.int .i64) _ _ _ t606 [.int .i64 t606] from rfl) (Reps.none _ _))))))));intro v610 w7 ho8 hb hg_ hnew_;clear hg_ hnew_;(first|rw [← Ny609.out] at ho8|(simp only [Int.reduceToNat] at ho8;rw [← Ny609.out] at ho8));have HO611:=mk0 (Kd.R_lower ho8 (keep_size (w:=w) (g:=g) (row:=none) (by repeat (first|(with_reducible first|exact HK.out|apply KeepBut.set_|apply keep_drewN|apply keep_drew|apply keep_alloc)|exact HK.out))));replace HK:=mk0 (KeepBut.trans (by repeat (first|(with_reducible first|exact HK.out|apply KeepBut.set_|apply keep_drewN|apply keep_drew|apply keep_alloc)|exact HK.out)) (KeepBut.of_below hb g none) (.inl rfl));replace HB:=mk0 (below_step (by repeat (first|(with_reducible first|exact HB.out|apply aZ|apply nZ|apply dZ|refine sZ ?_ (IsS79.ge HI0.out))|exact HB.out)) hb);replace HI0:=mk0 (IsS79.below (by repeat (first|(with_reducible first|exact HI0.out|apply IsS79.alloc|apply IsS79.drewN|apply IsS79.drew|apply IsS79.set_1|apply IsS79.set_2)|exact HI0.out)) hb);clear hb ho8)|((with_reducible refine gate_callee (f:=68) rfl ?_);refine gL (some 7) Try.func68 #[.pointer (some ⟨g,0,none⟩),.int .i64 6] ?_;(with_reducible refine (spec_l01Cur_pick.calls g s0_0 t607 t608 6 t612 t613 t614 w0 _ ?side1 ?side2 A3.out).mono ?_);(case side1=>repeat (first|(with_reducible first|exact HI0.out|apply IsS79.alloc|apply IsS79.drewN|apply IsS79.drew|apply IsS79.set_1|apply IsS79.set_2)|exact HI0.out));(case side2=>repeat (first|(with_reducible first|exact HB.out|apply aZ|apply nZ|apply dZ|refine sZ ?_ (IsS79.ge HI0.out))|exact HB.out));rintro e w9 ⟨rfl,hi,hb,hk⟩;refine⟨_,rfl,?_⟩;replace HO611:=mk0 (Kd.R_mono (Kd.R_keep (IsS79.apart (show IsS79 w0 _ g s0_0 t607 t608 from by repeat (first|(with_reducible first|exact HI0.out|apply IsS79.alloc|apply IsS79.drewN|apply IsS79.drew|apply IsS79.set_1|apply IsS79.set_2)|exact HI0.out)) (rR HO611.out) (by decide)) hk (fun _ h=>h.2)) (fun _ h=>h.1));replace HK:=mk0 (KeepBut.trans (by repeat (first|(with_reducible first|exact HK.out|apply KeepBut.set_|apply keep_drewN|apply keep_drew|apply keep_alloc)|exact HK.out)) hk (.inl rfl));replace HB:=mk0 (hb);replace HI0:=mk0 (hi);(try clear hb);(try clear hk);(try clear hi);obtain⟨Ao10,co10,eo10⟩:=Kd.R_slice HO611.out;subst eo10;have p615:0 ≤ (t612:Int):=oD;have q615:t612 < (y609.length:Int):=oD;obtain⟨ad615,e615,hx615_0⟩:=Kd.at_int (Kd.R_reads' HO611.out).2.2 t612 p615 q615;cases e615;replace p615:=eq_true p615;replace q615:=eq_true q615))
   go_ret
   exact⟨eR,by repeat (first|(with_reducible first|exact HI0.out|apply IsS79.alloc|apply IsS79.drewN|apply IsS79.drew|apply IsS79.set_1|apply IsS79.set_2)|exact HI0.out),by repeat (first|(with_reducible first|exact HB.out|apply aZ|apply nZ|apply dZ|refine sZ ?_ (IsS79.ge HI0.out))|exact HB.out),by repeat (first|(with_reducible first|exact HK.out|apply KeepBut.set_|apply keep_drewN|apply keep_drew|apply keep_alloc)|exact HK.out)⟩
  ·rw [if_neg c5] at H
   exact nn H
 ·rw [if_neg c4] at H
  exact nn H
/-! ### spec_l01Cur_budgetOf: function 47 -/
def spec_l01Cur_budgetOf.f (s0_0 : List Int) (s0_1 : Int) (s0_2 : Int) : Option (Int × Int × Int) := (spec_l01Cur_raw.f s0_0 s0_1 s0_2).bind fun bt616 => ((some (([0, 1, 3, 1000, bt616.1] : List Int) : List Int)).bind fun y619 => ((spec_l01Cur_pick.f s0_0 bt616.2.1 bt616.2.2 5).bind fun bt622 => (if 0 ≤ bt622.1 then (if bt622.1 < (y619.length : Int) then (some (rd y619 bt622.1, bt622.2.1, bt622.2.2)) else (none)) else (none))))
set_option maxHeartbeats 8000000 in
set_option maxRecDepth 100000 in
theorem spec_l01Cur_budgetOf.calls (g : Nat) (s0_0 : List Int) (s0_1 : Int) (s0_2 : Int) (r1 : Int) (r2 : Int) (r3 : Int) (w0 w : World) (hI : IsS79 w0 w g s0_0 s0_1 s0_2) (hB : Below w0.heap.size w0 w) (h : spec_l01Cur_budgetOf.f s0_0 s0_1 s0_2 = some (r1, r2, r3)) :
  Calls Try.prog 47 #[.pointer (some ⟨g, 0, none⟩)] w fun e w' => e = .returned (.int .i64 r1) ∧ IsS79 w0 w' g s0_0 r2 r3 ∧ Below w0.heap.size w0 w' ∧ KeepBut w w' g none := by
 have HI0:=mk0 hI
 have HK:=mk0 (KeepBut.refl w g none)
 have HL:=mk0 hB.size
 clear hI
 have HW0:=mk0 hB.size
 have HB:=mk0 hB
 clear hB
 have H:((spec_l01Cur_raw.f s0_0 s0_1 s0_2).bind fun bt616=>((some (([0,1,3,1000,bt616.1]:List Int):List Int)).bind fun y619=>((spec_l01Cur_pick.f s0_0 bt616.2.1 bt616.2.2 5).bind fun bt622=>(if 0 ≤ bt622.1 then (if bt622.1 < (y619.length:Int) then (some (rd y619 bt622.1,bt622.2.1,bt622.2.2)) else (none)) else (none))))) = some (r1,r2,r3):=h
 clear h
 replace H:=bE H
 obtain⟨⟨t616,t617,t618⟩,A2,H⟩:=H
 dsimp only at H
 obtain⟨y619,hy619⟩:∃ y_:List Int,y_ = (([0,1,3,1000,t616]:List Int)):=⟨_,rfl⟩
 first|(with_reducible replace H:=yB hy619 H)|rw [← hy619] at H|skip
 have Ny619:=mk0 hy619
 clear hy619
 replace H:=bE H
 obtain⟨⟨t622,t623,t624⟩,A3,H⟩:=H
 dsimp only at H
 by_cases c4:0 ≤ t622
 ·rw [if_pos c4] at H
  have c4b0:decide (0 ≤ t622) = true:=decide_eq_true c4
  clear c4
  by_cases c5:t622 < (y619.length:Int)
  ·rw [if_pos c5] at H
   have c5b0:decide (t622 < (y619.length:Int)) = true:=decide_eq_true c5
   clear c5
   simp only [Option.some.injEq,Prod.mk.injEq] at H
   obtain⟨rfl,rfl,rfl⟩:=H
   go_enter Try.func47,Try.ntmps47
   go_wp2_with (first|((with_reducible refine gate_callee (f:=70) rfl ?_);refine gL (some 4) Try.func70 #[.pointer (some ⟨g,0,none⟩)] ?_;(with_reducible refine (spec_l01Cur_raw.calls g s0_0 s0_1 s0_2 t616 t617 t618 w0 _ ?side1 ?side2 A2.out).mono ?_);(case side1=>repeat (first|(with_reducible first|exact HI0.out|apply IsS79.alloc|apply IsS79.drewN|apply IsS79.drew|apply IsS79.set_1|apply IsS79.set_2)|exact HI0.out));(case side2=>repeat (first|(with_reducible first|exact HB.out|apply aZ|apply nZ|apply dZ|refine sZ ?_ (IsS79.ge HI0.out))|exact HB.out));rintro e w6 ⟨rfl,hi,hb,hk⟩;refine⟨_,rfl,?_⟩;replace HK:=mk0 (KeepBut.trans (by repeat (first|(with_reducible first|exact HK.out|apply KeepBut.set_|apply keep_drewN|apply keep_drew|apply keep_alloc)|exact HK.out)) hk (.inl rfl));replace HB:=mk0 (hb);replace HI0:=mk0 (hi);(try clear hb);(try clear hk);(try clear hi))|((with_reducible refine gate_dst (N:=5) rfl ?_);refine Kd.R_lit (Kd.int .i64) _ 3 ?hg (N:=5) ?hd (xs:=([0,1,3,1000,t616]:List Int)) (inner:=[.int .i64 0,.int .i64 1,.int .i64 3,.int .i64 1000,.int .i64 t616]) (ok:=fun _=>True) (okp:=fun _=>True) ?hr ?hp (fun _ hk=>hk) trivial (Below.refl _ _) (Nat.le_refl _) (by simp) ?_;(case hd=>rfl);(case hg=>rfl);(case hr=>first|(go_simp;done)|(go_simp;rfl));(case hp=>exact (Reps.one (show Kd.M (Kd.int .i64) _ _ _ 0 [.int .i64 0] from rfl) (Reps.one (show Kd.M (Kd.int .i64) _ _ _ 1 [.int .i64 1] from rfl) (Reps.one (show Kd.M (Kd.int .i64) _ _ _ 3 [.int .i64 3] from rfl) (Reps.one (show Kd.M (Kd.int .i64) _ _ _ 1000 [.int .i64 1000] from rfl) (Reps.one (show Kd.M (Kd.int .i64) _ _ _ t616 [.int .i64 t616] from rfl) (Reps.none _ _)))))));intro v620 w7 ho8 hb hg_ hnew_;clear hg_ hnew_;(first|rw [← Ny619.out] at ho8|(simp only [Int.reduceToNat] at ho8;rw [← Ny619.out] at ho8));have HO621:=mk0 (Kd.R_lower ho8 (keep_size (w:=w) (g:=g) (row:=none) (by repeat (first|(with_reducible first|exact HK.out|apply KeepBut.set_|apply keep_drewN|apply keep_drew|apply keep_alloc)|exact HK.out))));replace HK:=mk0 (KeepBut.trans (by repeat (first|(with_reducible first|exact HK.out|apply KeepBut.set_|apply keep_drewN|apply keep_drew|apply keep_alloc)|exact HK.out)) (KeepBut.of_below hb g none) (.inl rfl));replace HB:=mk0 (below_step (by repeat (first|(with_reducible first|exact HB.out|apply aZ|apply nZ|apply dZ|refine sZ ?_ (IsS79.ge HI0.out))|exact HB.out)) hb);replace HI0:=mk0 (IsS79.below (by repeat (first|(with_reducible first|exact HI0.out|apply IsS79.alloc|apply IsS79.drewN|apply IsS79.drew|apply IsS79.set_1|apply IsS79.set_2)|exact HI0.out)) hb);clear hb ho8)|((with_reducible refine gate_callee (f:=68) rfl ?_);refine gL (some 7) Try.func68 #[.pointer (some ⟨g,0,none⟩),.int .i64 5] ?_;(with_reducible refine (spec_l01Cur_pick.calls g s0_0 t617 t618 5 t622 t623 t624 w0 _ ?side1 ?side2 A3.out).mono ?_);(case side1=>repeat (first|(with_reducible first|exact HI0.out|apply IsS79.alloc|apply IsS79.drewN|apply IsS79.drew|apply IsS79.set_1|apply IsS79.set_2)|exact HI0.out));(case side2=>repeat (first|(with_reducible first|exact HB.out|apply aZ|apply nZ|apply dZ|refine sZ ?_ (IsS79.ge HI0.out))|exact HB.out));rintro e w9 ⟨rfl,hi,hb,hk⟩;refine⟨_,rfl,?_⟩;replace HO621:=mk0 (Kd.R_mono (Kd.R_keep (IsS79.apart (show IsS79 w0 _ g s0_0 t617 t618 from by repeat (first|(with_reducible first|exact HI0.out|apply IsS79.alloc|apply IsS79.drewN|apply IsS79.drew|apply IsS79.set_1|apply IsS79.set_2)|exact HI0.out)) (rR HO621.out) (by decide)) hk (fun _ h=>h.2)) (fun _ h=>h.1));replace HK:=mk0 (KeepBut.trans (by repeat (first|(with_reducible first|exact HK.out|apply KeepBut.set_|apply keep_drewN|apply keep_drew|apply keep_alloc)|exact HK.out)) hk (.inl rfl));replace HB:=mk0 (hb);replace HI0:=mk0 (hi);(try clear hb);(try clear hk);(try clear hi);obtain⟨Ao10,co10,eo10⟩:=Kd.R_slice HO621.out;subst eo10;have p625:0 ≤ (t622:Int):=oD;have q625:t622 < (y619.length:Int):=oD;obtain⟨ad625,e625,hx625_0⟩:=Kd.at_int (Kd.R_reads' HO621.out).2.2 t622 p625 q625;cases e625;replace p625:=eq_true p625;replace q625:=eq_true q625))
   go_ret
   exact⟨eR,by repeat (first|(with_reducible first|exact HI0.out|apply IsS79.alloc|apply IsS79.drewN|apply IsS79.drew|apply IsS79.set_1|apply IsS79.set_2)|exact HI0.out),by repeat (first|(with_reducible first|exact HB.out|apply aZ|apply nZ|apply dZ|refine sZ ?_ (IsS79.ge HI0.out))|exact HB.out),by repeat (first|(with_reducible first|exact HK.out|apply KeepBut.set_|apply keep_drewN|apply keep_drew|apply keep_alloc)|exact HK.out)⟩
  ·rw [if_neg c5] at H
   exact nn H
 ·rw [if_neg c4] at H
  exact nn H
/-! ### spec_DrawShareOf: function 20 -/
def spec_DrawShareOf.f (k : Nat) (l0 : List Int) : Option (List Int × List Int × Int × Int) := (spec_l01Open.f l0).bind fun bt626 => ((spec_l01Cur_twin.f k bt626.1 bt626.2.1 bt626.2.2 24).bind fun bt630 => ((spec_l01Cur_depthOf.f bt626.1 bt630.2.2.1 bt630.2.2.2).bind fun bt638 => ((spec_l01Cur_budgetOf.f bt626.1 bt638.2.1 bt638.2.2).bind fun bt641 => (some (bt630.1, bt630.2.1, bt638.1, bt641.1)))))
set_option maxHeartbeats 8000000 in
set_option maxRecDepth 100000 in
theorem spec_DrawShareOf.calls (k : Nat) (A0 : Option Addr) (c0 : Nat) (l0 : List Int) (r1 : List Int) (r2 : List Int) (r3 : Int) (r4 : Int) (w : World) (hr0 : Kd.C (Kd.int .u8) w A0 l0.length l0) (hc0 : l0.length ≤ c0) (h : spec_DrawShareOf.f k l0 = some (r1, r2, r3, r4)) :
  Calls Try.prog 20 #[.slice A0 l0.length c0] w fun e w' => ∃ v0_ v1_ : Value, e = .returned (.tuple #[v0_, v1_, .int .i64 r3, .int .i64 r4]) ∧ Kd.R (Kd.int .u8) 5 w' w.heap.size (fun k_ => some k_ ≠ (v1_ : Value).ownBlock) v0_ r1 ∧ Kd.R (Kd.int .u8) 5 w' w.heap.size (fun k_ => some k_ ≠ (v0_ : Value).ownBlock) v1_ r2 ∧ Below w.heap.size w w' := by
 have HR0:=mk0 hr0
 have HC0:=mk0 hc0
 clear hr0 hc0
 have HB:=mk0 (Below.refl w.heap.size w)
 have H:((spec_l01Open.f l0).bind fun bt626=>((spec_l01Cur_twin.f k bt626.1 bt626.2.1 bt626.2.2 24).bind fun bt630=>((spec_l01Cur_depthOf.f bt626.1 bt630.2.2.1 bt630.2.2.2).bind fun bt638=>((spec_l01Cur_budgetOf.f bt626.1 bt638.2.1 bt638.2.2).bind fun bt641=>(some (bt630.1,bt630.2.1,bt638.1,bt641.1)))))) = some (r1,r2,r3,r4):=h
 clear h
 replace H:=bE H
 obtain⟨⟨t626,t627,t628⟩,A2,H⟩:=H
 dsimp only at H
 replace H:=bE H
 obtain⟨⟨t630,t633,t636,t637⟩,A3,H⟩:=H
 dsimp only at H
 replace H:=bE H
 obtain⟨⟨t638,t639,t640⟩,A4,H⟩:=H
 dsimp only at H
 replace H:=bE H
 obtain⟨⟨t641,t642,t643⟩,A5,H⟩:=H
 dsimp only at H
 simp only [Option.some.injEq,Prod.mk.injEq] at H
 obtain⟨rfl,rfl,rfl,rfl⟩:=H
 go_enter Try.func20,Try.ntmps20
 go_wp2_with (first|((with_reducible refine gate_callee (f:=44) rfl ?_);refine gL (some 10) Try.func44 #[.slice A0 l0.length c0] ?_;(with_reducible refine (spec_l01Open.calls _ _ l0 t626 t627 t628 w _ ?side1 ?side2 ?side3 A2.out).mono ?_);(case side1=>repeat (first|(with_reducible first|exact HB.out|apply aZ|apply nZ|apply dZ)|exact HB.out));(case side2=>exact HR0.out);(case side3=>exact HC0.out);rintro e w6 ⟨g629,rfl,hi,hb,hb2⟩;refine⟨_,rfl,?_⟩;replace HB:=mk0 (hb);have HI629:=mk0 (hi);(try clear hb);(try clear hb2);(try clear hi))|((with_reducible refine gate_callee (f:=45) rfl ?_);refine gL (some 13) Try.func45 #[.pointer (some ⟨g629,0,none⟩),.int .i64 24] ?_;(with_reducible refine (spec_l01Cur_twin.calls k g629 t626 t627 t628 24 t630 t633 t636 t637 w _ ?side1 ?side2 A3.out).mono ?_);(case side1=>repeat (first|(with_reducible first|exact HI629.out|apply IsS79.alloc|apply IsS79.drewN|apply IsS79.drew|apply IsS79.set_1|apply IsS79.set_2)|exact HI629.out));(case side2=>repeat (first|(with_reducible first|exact HB.out|apply aZ|apply nZ|apply dZ|refine sZ ?_ (IsS79.ge HI629.out))|exact HB.out));rintro e w7 ⟨v631,v634,rfl,ho0,ho1,hi,hb,hk⟩;refine⟨_,rfl,?_⟩;have HO632:=mk0 (Kd.R_lower ho0 (below_size (by repeat (first|(with_reducible first|exact HB.out|apply aZ|apply nZ|apply dZ|refine sZ ?_ (IsS79.ge HI629.out))|exact HB.out))));have HO635:=mk0 (Kd.R_lower ho1 (below_size (by repeat (first|(with_reducible first|exact HB.out|apply aZ|apply nZ|apply dZ|refine sZ ?_ (IsS79.ge HI629.out))|exact HB.out))));replace HB:=mk0 (hb);replace HI629:=mk0 (hi);(try clear hb);(try clear hk);(try clear hi);(try clear ho0);(try clear ho1))|((with_reducible refine gate_callee (f:=46) rfl ?_);refine gL (some 19) Try.func46 #[.pointer (some ⟨g629,0,none⟩)] ?_;(with_reducible refine (spec_l01Cur_depthOf.calls g629 t626 t636 t637 t638 t639 t640 w _ ?side1 ?side2 A4.out).mono ?_);(case side1=>repeat (first|(with_reducible first|exact HI629.out|apply IsS79.alloc|apply IsS79.drewN|apply IsS79.drew|apply IsS79.set_1|apply IsS79.set_2)|exact HI629.out));(case side2=>repeat (first|(with_reducible first|exact HB.out|apply aZ|apply nZ|apply dZ|refine sZ ?_ (IsS79.ge HI629.out))|exact HB.out));rintro e w8 ⟨rfl,hi,hb,hk⟩;refine⟨_,rfl,?_⟩;replace HO632:=mk0 (Kd.R_mono (Kd.R_keep (IsS79.apart (show IsS79 w _ g629 t626 t636 t637 from by repeat (first|(with_reducible first|exact HI629.out|apply IsS79.alloc|apply IsS79.drewN|apply IsS79.drew|apply IsS79.set_1|apply IsS79.set_2)|exact HI629.out)) (rR HO632.out) (by decide)) hk (fun _ h=>h.2)) (fun _ h=>h.1));replace HO635:=mk0 (Kd.R_mono (Kd.R_keep (IsS79.apart (show IsS79 w _ g629 t626 t636 t637 from by repeat (first|(with_reducible first|exact HI629.out|apply IsS79.alloc|apply IsS79.drewN|apply IsS79.drew|apply IsS79.set_1|apply IsS79.set_2)|exact HI629.out)) (rR HO635.out) (by decide)) hk (fun _ h=>h.2)) (fun _ h=>h.1));replace HB:=mk0 (hb);replace HI629:=mk0 (hi);(try clear hb);(try clear hk);(try clear hi))|((with_reducible refine gate_callee (f:=47) rfl ?_);refine gL (some 21) Try.func47 #[.pointer (some ⟨g629,0,none⟩)] ?_;(with_reducible refine (spec_l01Cur_budgetOf.calls g629 t626 t639 t640 t641 t642 t643 w _ ?side1 ?side2 A5.out).mono ?_);(case side1=>repeat (first|(with_reducible first|exact HI629.out|apply IsS79.alloc|apply IsS79.drewN|apply IsS79.drew|apply IsS79.set_1|apply IsS79.set_2)|exact HI629.out));(case side2=>repeat (first|(with_reducible first|exact HB.out|apply aZ|apply nZ|apply dZ|refine sZ ?_ (IsS79.ge HI629.out))|exact HB.out));rintro e w9 ⟨rfl,hi,hb,hk⟩;refine⟨_,rfl,?_⟩;replace HO632:=mk0 (Kd.R_mono (Kd.R_keep (IsS79.apart (show IsS79 w _ g629 t626 t639 t640 from by repeat (first|(with_reducible first|exact HI629.out|apply IsS79.alloc|apply IsS79.drewN|apply IsS79.drew|apply IsS79.set_1|apply IsS79.set_2)|exact HI629.out)) (rR HO632.out) (by decide)) hk (fun _ h=>h.2)) (fun _ h=>h.1));replace HO635:=mk0 (Kd.R_mono (Kd.R_keep (IsS79.apart (show IsS79 w _ g629 t626 t639 t640 from by repeat (first|(with_reducible first|exact HI629.out|apply IsS79.alloc|apply IsS79.drewN|apply IsS79.drew|apply IsS79.set_1|apply IsS79.set_2)|exact HI629.out)) (rR HO635.out) (by decide)) hk (fun _ h=>h.2)) (fun _ h=>h.1));replace HB:=mk0 (hb);replace HI629:=mk0 (hi);(try clear hb);(try clear hk);(try clear hi)))
 refine bodyPost_ret (results_list (rs:=[.tmp 2,.tmp 3,.tmp 4,.tmp 5]) rfl (by simp) (.tmp (.tmp (.tmp (.tmp .nil))))) rfl ?_
 exact⟨_,_,eR,rR HO632.out,rR HO635.out,by repeat (first|(with_reducible first|exact HB.out|apply aZ|apply nZ|apply dZ|refine sZ ?_ (IsS79.ge HI629.out))|exact HB.out)⟩
end Go.Proofs.Ytadhngelhognaaa.QFnShare
