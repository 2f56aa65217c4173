-- A walk, made by walk.py, a program of this session's.
import Derived.Test.YtadhngelhognaaaQFnExactShareOfx0
import Derived.Test.YtadhngelhognaaaQFnExactShareOfx2
namespace Go.Proofs.Ytadhngelhognaaa.QFnExactShareOf
open Go.RowKit Go.Proofs.YtadhngelhognaaaW.PrintWords Go.Proofs.YtadhngelhognaaaW.PrintLast Go.Proofs.YtadhngelhognaaaW.PrintMore
set_option linter.unusedVariables false
set_option linter.unusedSimpArgs false
attribute [local go_sem] max2_int min2_int max_two min_two max_three min_three max_four min_four
def spec_BwtOf.l0 : Nat → List Int → List Int → Int → List Int → Option (List Int)
 | 0, _, _, _, _ => none
 | k + 1, x0, x4, x5, x7 => if x5 < (x7.length : Int) then (if 0 ≤ x5 then (if (rd x7 x5) = 0 then (if x4.length < 17592186044416 then (spec_BwtOf.l0 k x0 (x4 ++ [0]) (wrap64 (x5 + 1)) x7) else (none)) else (if 0 ≤ (wrap64 ((rd x7 x5) - 1)) then (if (wrap64 ((rd x7 x5) - 1)) < (x0.length : Int) then (if x4.length < 17592186044416 then (spec_BwtOf.l0 k x0 (x4 ++ [wrap64 ((wrap64 (rd x0 (wrap64 ((rd x7 x5) - 1)))) + 1)]) (wrap64 (x5 + 1)) x7) else (none)) else (none)) else (none))) else (none)) else (some x4)
def spec_BwtOf.f (k : Nat) (l0 : List Int) : Option (List Int) := (spec_SuffixRows.f k l0).bind fun t236 => (spec_BwtOf.l0 k l0 (([] : List Int)) 0 t236)
theorem spec_BwtOf.mono_l : ∀ k, (∀ y0 y1 y2 y3, LeO (spec_BwtOf.l0 k y0 y1 y2 y3) (spec_BwtOf.l0 (k + 1) y0 y1 y2 y3))
 | 0 => fun _ _ _ _ r h => by simp [spec_BwtOf.l0] at h
 | k + 1 => by
  have ih0 := spec_BwtOf.mono_l k
  ·intro y0 y1 y2 y3
   unfold spec_BwtOf.l0
   repeat' first|(with_reducible first|exact ih0 _ _ _ _|exact spec_SuffixRows.mono _ _|exact LeO.refl _|exact LeO.none _|refine LeO.ite ?_ ?_|refine LeO.bind ?_ (fun _ => ?_))|exact LeO.none _|refine LeO.ite ?_ ?_|refine LeO.bind ?_ (fun _ => ?_)
theorem spec_BwtOf.mono : ∀ a0 k, LeO (spec_BwtOf.f k a0) (spec_BwtOf.f (k + 1) a0) := by
 intro a0 k
 have ih0 := spec_BwtOf.mono_l k
 unfold spec_BwtOf.f
 repeat' first|(with_reducible first|exact ih0 _ _ _ _|exact spec_SuffixRows.mono _ _|exact LeO.refl _|exact LeO.none _|refine LeO.ite ?_ ?_|refine LeO.bind ?_ (fun _ => ?_))|exact LeO.none _|refine LeO.ite ?_ ?_|refine LeO.bind ?_ (fun _ => ?_)
set_option maxHeartbeats 8000000 in
set_option maxRecDepth 100000 in
theorem spec_BwtOf.calls (k : Nat) (A0 : Option Addr) (c0 : Nat) (l0 : List Int) (r : List Int) (w : World) (hr0 : Kd.C (Kd.int .u8) w A0 l0.length l0) (hc0 : l0.length ≤ c0) (h : spec_BwtOf.f k l0 = some r) :
  Calls Try.prog 37 #[.slice A0 l0.length c0] w fun e w' => ∃ v0_ : Value, e = .returned (v0_) ∧ Kd.R (Kd.int .i64) 3 w' w.heap.size (fun _ => True) v0_ r ∧ Below w.heap.size w w' := by
 have HR0:=mk0 hr0
 have HC0:=mk0 hc0
 clear hr0 hc0
 have HB:=mk0 (Below.refl w.heap.size w)
 have H:((spec_SuffixRows.f k l0).bind fun t236=>(spec_BwtOf.l0 k l0 (([]:List Int)) 0 t236)) = some r:=h
 clear h
 replace H:=Option.bind_eq_some_iff.mp H
 obtain⟨t236,A20,H⟩:=H
 replace H:(spec_BwtOf.l0 k l0 (([]:List Int)) 0 t236) = some r:=H
 have A2:=mk0 A20
 clear A20
 obtain⟨y239,hy239⟩:∃ y_:List Int,y_ = (([]:List Int)):=⟨_,rfl⟩
 replace H:(spec_BwtOf.l0 k l0 y239 0 t236) = some r:=by first|(rw [hy239];with_reducible exact H)|(have H2_:=(Option.bind_some _ _).symm.trans H;rw [hy239];with_reducible exact H2_)|(have H2_:=(Option.bind_some _ _).symm.trans H;with_reducible exact H2_)|with_reducible exact H|(rw [hy239];exact H)|exact H
 have Ny239:=mk0 hy239
 clear hy239
 have H':=mk0 H
 clear H
 go_enter Try.func37,Try.ntmps37
 go_wp2_with (first|((with_reducible refine gate_callee (f:=30) rfl ?_);refine goesL_ (some 7) rfl rfl Try.func30 (by kernel_rfl) rfl #[.slice A0 l0.length c0] rfl (by (try simp only [mA,mC,mN]);first|done|rfl|(simp only [List.length_drop,List.length_take];done)|(simp only [List.length_drop,List.length_take];rfl)) ?_;(with_reducible refine (spec_SuffixRows.calls k _ _ l0 t236 _ ?side1 ?side2 A2.out).mono ?_);(case side1=>repeat (first|exact HR0.out|(with_reducible first|apply aC|apply nC|apply dC)));(case side2=>exact HC0.out);rintro e w3 ⟨v237,rfl,ho0,hb⟩;refine⟨_,rfl,?_⟩;have HO238:=mk0 (Kd.R_lower ho0 (kZ HB.out));replace HB:=mk0 (kS HB.out hb);(try clear hb);(try clear ho0))|((with_reducible refine gate_dst (N:=8) rfl ?_);refine Kd.R_lit (Kd.int .i64) _ 3 ?hg (N:=8) ?hd (xs:=([]:List Int)) (inner:=[]) (ok:=fun _=>True) (okp:=fun _=>True) ?hr ?hp (fun _ hk=>hk) trivial (Below.refl _ _) (Nat.le_refl _) (by simp) ?_;(case hd=>rfl);(case hg=>rfl);(case hr=>first|(go_simp;done)|(go_simp;rfl));(case hp=>exact (Reps.none _ _));intro v240 w4 ho5 hb hg_ hnew_;clear hg_ hnew_;(first|rw [← Ny239.out] at ho5|(simp only [Int.reduceToNat] at ho5;rw [← Ny239.out] at ho5));have HO241:=mk0 (Kd.R_lower (Kd.R_new' ho5 (Kd.R_lt (rR HO238.out))) (kZ HB.out));replace HO238:=mk0 (Kd.R_elder' (rR HO238.out) (Kd.R_base ho5) hb);replace HB:=mk0 (kS HB.out hb);clear hb ho5))
 go_loopg [4,5] k (fun kq v4 v5 w'=>∃ (x4_1:List Int) (x5_1:Int),v5 = .int .i64 x5_1 ∧ Aside0 (spec_BwtOf.l0 kq l0 x4_1 x5_1 t236 = some r) ∧ Aside0 (kq ≤ k) ∧ Aside0 (Kd.R (Kd.int .i64) 3 w' w.heap.size (fun k_=>some k_ ≠ (v237:Value).ownBlock) v4 x4_1) ∧ Aside0 (Kd.R (Kd.int .i64) 3 w' w.heap.size (fun k_=>some k_ ≠ (v4:Value).ownBlock) v237 t236) ∧ Aside0 (Below w.heap.size w w'))
 case atStart=>exact⟨(y239),(0),(by first|rfl|(simp;done)|(simp [*];done)),H',⟨Nat.le_refl _⟩,⟨rR (Kd.R_mono HO241.out (fun _ hk=>hk.2))⟩,⟨rR (Kd.R_mono HO238.out (fun _ hk=>hk.2))⟩,⟨kB HB.out⟩⟩
 case round =>
  clear H'
  try clear p2
  try clear c3
  obtain⟨x4_1,x5_1,rfl,HA,HK1,HO_4,HO_7,HB⟩:=hrel
  cases gk with
  | zero=>exact absurd HA.out (by simp [spec_BwtOf.l0])
  | succ k1 =>
   have H:=HA.out
   clear HA
   simp only [spec_BwtOf.l0] at H
   by_cases c6:x5_1 < (t236.length:Int)
   ·rw [if_pos c6] at H
    have c6b0:decide (x5_1 < (t236.length:Int)) = true:=decide_eq_true c6
    clear c6
    by_cases c7:0 ≤ x5_1
    ·rw [if_pos c7] at H
     have c7b0:decide (0 ≤ x5_1) = true:=decide_eq_true c7
     clear c7
     by_cases c8:(rd t236 x5_1) = 0
     ·rw [if_pos c8] at H
      have c8b0:((rd t236 x5_1) == 0) = true:=beq_iff_eq.mpr c8
      have c8b1:((rd t236 x5_1) != 0) = false:=bne_eq_false_iff_eq.mpr c8
      clear c8
      by_cases c9:x4_1.length < 17592186044416
      ·rw [if_pos c9] at H
       have LMc9:=mk0 c9
       clear c9
       obtain⟨y243,hy243⟩:∃ y_:List Int,y_ = (x4_1 ++ [0]):=⟨_,rfl⟩
       replace H:(spec_BwtOf.l0 k1 l0 y243 (wrap64 (x5_1 + 1)) t236) = some r:=by first|(rw [hy243];with_reducible exact H)|(have H2_:=(Option.bind_some _ _).symm.trans H;rw [hy243];with_reducible exact H2_)|(have H2_:=(Option.bind_some _ _).symm.trans H;with_reducible exact H2_)|with_reducible exact H|(rw [hy243];exact H)|exact H
       have Ny243:=mk0 hy243
       clear hy243
       have H':=mk0 H
       clear H
       obtain⟨Ao10,co10,eo10⟩:=Kd.R_slice HO_7.out
       subst eo10
       have p242:0 ≤ (x5_1:Int):=of_decide_eq_true (by first|(with_reducible assumption)|assumption)
       have q242:x5_1 < (t236.length:Int):=of_decide_eq_true (by first|(with_reducible assumption)|assumption)
       obtain⟨ad242,e242,hx242_0⟩:=Kd.at_int (Kd.R_reads' HO_7.out).2.2 x5_1 p242 q242
       cases e242
       replace p242:=eq_true p242
       replace q242:=eq_true q242
       go_wp2_with (first|((with_reducible refine gate_builtin (b:=.append) (xs:=#[.tmp 20,.tmp 21]) rfl ?_);at_builtin;refine Kd.R_append (Kd.int .i64) (w0:=w) w.heap.size rfl (.tmp 20) (.tmp 21) 45 3 (.int .i64 0) 8 rfl Try.underlying45 info3 rfl (by decide) (by omega) u4 x4_1 0 [.int .i64 0] (fun k_=>some k_ ≠ (.slice (some ad242) t236.length co10:Value).ownBlock) (fun _=>False) rfl rfl ?aP (fun _ hk=>hk.elim) ?aF ?aO ?aB ?aS ?aL ?_;(case aP=>exact rfl);(case aB=>exact (kB HB.out));(case aF=>exact (fun k_ hk=>Kd.fresh' (Kd.R_lt (rR HO_7.out)) k_ hk));(case aO=>exact (rR HO_4.out));(case aS=>exact (kZ HB.out));(case aL=>have:=LMc9.out;omega);intro v244 w11 ho hb hg hat;rw [← Ny243.out] at ho;replace HO_7:=mk0 (Kd.R_after (ok:=(fun _=>True)) (rR (Kd.R_mono HO_7.out (fun _ hk=>⟨trivial,hk⟩))) hg hat);replace HB:=mk0 (hb);have HO245:=mk0 (ho);clear HO_4 ho hb hg hat))
       go_roundg k1
       case measure=>have:=HK1.out;omega
       case rel=>exact⟨(y243),(wrap64 (x5_1 + 1)),(by first|rfl|(simp;done)|(simp [*];done)),H',⟨by have:=HK1.out;omega⟩,⟨rR HO245.out⟩,⟨rR (Kd.R_mono HO_7.out (fun _ hk=>hk.2))⟩,⟨kB HB.out⟩⟩
      ·rw [if_neg c9] at H
       exact absurd H (by simp)
     ·rw [if_neg c8] at H
      have c8b0:((rd t236 x5_1) == 0) = false:=beq_eq_false_iff_ne.mpr c8
      have c8b1:((rd t236 x5_1) != 0) = true:=bne_iff_ne.mpr c8
      obtain⟨ji12,hji12⟩:∃ j_:Int,(wrap64 ((rd t236 x5_1) - 1)) = j_:=⟨_,rfl⟩
      replace H:(if 0 ≤ (ji12) then (if (ji12) < (l0.length:Int) then (if x4_1.length < 17592186044416 then (spec_BwtOf.l0 k1 l0 (x4_1 ++ [wrap64 ((wrap64 (rd l0 (ji12))) + 1)]) (wrap64 (x5_1 + 1)) t236) else (none)) else (none)) else (none)) = some r:=by first|(rw [hji12] at H;exact H)|(simp only [hji12] at H ⊢;exact H)
      have hji12w:(IntKind.i64.wrap ((rd t236 x5_1) - 1)) = ji12:=(i64_w _).trans hji12
      by_cases c13:0 ≤ (ji12)
      ·rw [if_pos c13] at H
       have c13b0:decide (0 ≤ (ji12)) = true:=decide_eq_true c13
       clear c13
       by_cases c14:(ji12) < (l0.length:Int)
       ·rw [if_pos c14] at H
        have c14b0:decide ((ji12) < (l0.length:Int)) = true:=decide_eq_true c14
        clear c14
        by_cases c15:x4_1.length < 17592186044416
        ·rw [if_pos c15] at H
         have LMc15:=mk0 c15
         clear c15
         obtain⟨y248,hy248⟩:∃ y_:List Int,y_ = (x4_1 ++ [wrap64 ((wrap64 (rd l0 (ji12))) + 1)]):=⟨_,rfl⟩
         replace H:(spec_BwtOf.l0 k1 l0 y248 (wrap64 (x5_1 + 1)) t236) = some r:=by first|(rw [hy248];with_reducible exact H)|(have H2_:=(Option.bind_some _ _).symm.trans H;rw [hy248];with_reducible exact H2_)|(have H2_:=(Option.bind_some _ _).symm.trans H;with_reducible exact H2_)|with_reducible exact H|(rw [hy248];exact H)|exact H
         have Ny248:=mk0 hy248
         clear hy248
         have H':=mk0 H
         clear H
         obtain⟨Ao16,co16,eo16⟩:=Kd.R_slice HO_7.out
         subst eo16
         have p242:0 ≤ (x5_1:Int):=of_decide_eq_true (by first|(with_reducible assumption)|assumption)
         have q242:x5_1 < (t236.length:Int):=of_decide_eq_true (by first|(with_reducible assumption)|assumption)
         obtain⟨ad242,e242,hx242_0⟩:=Kd.at_int (Kd.R_reads' HO_7.out).2.2 x5_1 p242 q242
         cases e242
         replace p242:=eq_true p242
         replace q242:=eq_true q242
         have p246:0 ≤ (x5_1:Int):=of_decide_eq_true (by first|(with_reducible assumption)|assumption)
         have q246:x5_1 < (t236.length:Int):=of_decide_eq_true (by first|(with_reducible assumption)|assumption)
         obtain⟨ad246,e246,hx246_0⟩:=Kd.at_int (Kd.R_reads' HO_7.out).2.2 x5_1 p246 q246
         obtain rfl:ad242 = ad246:=(by injection e246)
         replace p246:=eq_true p246
         replace q246:=eq_true q246
         have p247:0 ≤ ((ji12):Int):=of_decide_eq_true (by first|(with_reducible assumption)|assumption)
         have q247:(ji12) < (l0.length:Int):=of_decide_eq_true (by first|(with_reducible assumption)|assumption)
         obtain⟨ad247,e247,hx247_0⟩:=Kd.at_int HR0.out (ji12) p247 q247
         cases e247
         replace hx247_0:=(HB.out.cell (World.block_lt_of_cell? w _ hx247_0)).trans hx247_0
         replace p247:=eq_true p247
         replace q247:=eq_true q247
         go_wp2_with (first|((with_reducible refine gate_builtin (b:=.append) (xs:=#[.tmp 23,.tmp 34]) rfl ?_);at_builtin;refine Kd.R_append (Kd.int .i64) (w0:=w) w.heap.size rfl (.tmp 23) (.tmp 34) 45 3 (.int .i64 0) 8 rfl Try.underlying45 info3 rfl (by decide) (by omega) u4 x4_1 (wrap64 ((wrap64 (rd l0 (ji12))) + 1)) [.int .i64 (wrap64 ((wrap64 (rd l0 (ji12))) + 1))] (fun k_=>some k_ ≠ (.slice (some ad242) t236.length co16:Value).ownBlock) (fun _=>False) rfl rfl ?aP (fun _ hk=>hk.elim) ?aF ?aO ?aB ?aS ?aL ?_;(case aP=>exact rfl);(case aB=>exact (kB HB.out));(case aF=>exact (fun k_ hk=>Kd.fresh' (Kd.R_lt (rR HO_7.out)) k_ hk));(case aO=>exact (rR HO_4.out));(case aS=>exact (kZ HB.out));(case aL=>have:=LMc15.out;omega);intro v249 w17 ho hb hg hat;rw [← Ny248.out] at ho;replace HO_7:=mk0 (Kd.R_after (ok:=(fun _=>True)) (rR (Kd.R_mono HO_7.out (fun _ hk=>⟨trivial,hk⟩))) hg hat);replace HB:=mk0 (hb);have HO250:=mk0 (ho);clear HO_4 ho hb hg hat))
         go_roundg k1
         case measure=>have:=HK1.out;omega
         case rel=>exact⟨(y248),(wrap64 (x5_1 + 1)),(by first|rfl|(simp;done)|(simp [*];done)),H',⟨by have:=HK1.out;omega⟩,⟨rR HO250.out⟩,⟨rR (Kd.R_mono HO_7.out (fun _ hk=>hk.2))⟩,⟨kB HB.out⟩⟩
        ·rw [if_neg c15] at H
         exact absurd H (by simp)
       ·rw [if_neg c14] at H
        exact absurd H (by simp)
      ·rw [if_neg c13] at H
       exact absurd H (by simp)
    ·rw [if_neg c7] at H
     exact absurd H (by simp)
   ·rw [if_neg c6] at H
    have c6b0:decide (x5_1 < (t236.length:Int)) = false:=decide_eq_false c6
    clear c6
    obtain rfl:=Option.some.inj H
    obtain⟨Ao18,co18,eo18⟩:=Kd.R_slice HO_7.out
    subst eo18
    go_wp2
    go_ret
    exact⟨_,by first|rfl|(simp [errW_none,errW_some] <;> rfl)|(simp [*,errW_none,errW_some] <;> rfl),rR (Kd.R_mono HO_4.out (fun _ hk=>trivial)),kB HB.out⟩
def spec_l12Right.f (l0 : List Int) : Option (Bool) := some (decide ((l0.length : Int) ≤ 301))
set_option maxHeartbeats 8000000 in
set_option maxRecDepth 100000 in
theorem spec_l12Right.calls (A0 : Option Addr) (c0 : Nat) (l0 : List Int) (r : Bool) (w : World) (hr0 : Kd.C (Kd.int .i64) w A0 l0.length l0) (hc0 : l0.length ≤ c0) (h : spec_l12Right.f l0 = some r) :
  Calls Try.prog 58 #[.slice A0 l0.length c0] w fun e w' => e = .returned (.bool r) ∧ Drawn0 w w' := by
 have HR0:=mk0 hr0
 have HC0:=mk0 hc0
 clear hr0 hc0
 have H:(some (decide ((l0.length:Int) ≤ 301))) = some r:=h
 clear h
 obtain rfl:=Option.some.inj H
 go_enter Try.func58,Try.ntmps58
 go_wp2
 go_ret
 exact⟨by first|rfl|(simp;done)|(simp [*];done),by repeat (first|exact Drawn0.refl _|apply Drawn0.step)⟩
end Go.Proofs.Ytadhngelhognaaa.QFnExactShareOf
