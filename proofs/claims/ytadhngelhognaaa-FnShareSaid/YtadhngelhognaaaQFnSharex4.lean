-- A walk, made by walk.py, a program of this session's.
import Derived.Test.YtadhngelhognaaaQFnSharex0
import Derived.Test.YtadhngelhognaaaQFnSharex1
namespace Go.Proofs.Ytadhngelhognaaa.QFnShare
open Go.RowKit Go.Proofs.YtadhngelhognaaaW.PrintWords Go.Proofs.YtadhngelhognaaaW.PrintLast Go.Proofs.YtadhngelhognaaaW.PrintMore
attribute [local go_sem] max2_int min2_int max_two min_two max_three min_three max_four min_four   -- for this text's walks alone
set_option linter.unusedVariables false
set_option linter.unusedSimpArgs false
/-! ### spec_BwtOf: function 37 -/
def spec_BwtOf.l0 : Nat → List Int → List Int → Int → List Int → Option (List Int)
 | 0, _, _, _, _ => none
 | k + 1, x0, x4, x5, x7 => if x5 < (x7.length : Int) then (if 0 ≤ x5 then (if (rd x7 x5) = 0 then (if x4.length < 17592186044416 then (spec_BwtOf.l0 k x0 (x4 ++ [0]) (wrap64 (x5 + 1)) x7) else (none)) else (if 0 ≤ (wrap64 ((rd x7 x5) - 1)) then (if (wrap64 ((rd x7 x5) - 1)) < (x0.length : Int) then (if x4.length < 17592186044416 then (spec_BwtOf.l0 k x0 (x4 ++ [wrap64 ((wrap64 (rd x0 (wrap64 ((rd x7 x5) - 1)))) + 1)]) (wrap64 (x5 + 1)) x7) else (none)) else (none)) else (none))) else (none)) else (some x4)
def spec_BwtOf.f (k : Nat) (l0 : List Int) : Option (List Int) := (spec_SuffixRows.f k l0).bind fun t229 => (spec_BwtOf.l0 k l0 (([] : List Int)) 0 t229)
set_option maxHeartbeats 8000000 in
set_option maxRecDepth 100000 in
theorem spec_BwtOf.calls (k : Nat) (A0 : Option Addr) (c0 : Nat) (l0 : List Int) (r : List Int) (w : World) (hr0 : Kd.C (Kd.int .u8) w A0 l0.length l0) (hc0 : l0.length ≤ c0) (h : spec_BwtOf.f k l0 = some r) :
  Calls Try.prog 37 #[.slice A0 l0.length c0] w fun e w' => ∃ v0_ : Value, e = .returned (v0_) ∧ Kd.R (Kd.int .i64) 3 w' w.heap.size (fun _ => True) v0_ r ∧ Below w.heap.size w w' := by
 have HR0:=mk0 hr0
 have HC0:=mk0 hc0
 clear hr0 hc0
 have HB:=mk0 (Below.refl w.heap.size w)
 have H:((spec_SuffixRows.f k l0).bind fun t229=>(spec_BwtOf.l0 k l0 (([]:List Int)) 0 t229)) = some r:=h
 clear h
 replace H:=bE H
 obtain⟨t229,A2,H⟩:=H
 obtain⟨y232,hy232⟩:∃ y_:List Int,y_ = (([]:List Int)):=⟨_,rfl⟩
 first|(with_reducible replace H:=yB hy232 H)|rw [← hy232] at H|skip
 have Ny232:=mk0 hy232
 clear hy232
 have H':=mk0 H
 clear H
 go_enter Try.func37,Try.ntmps37
 go_wp2_with (first|((with_reducible refine gate_callee (f:=30) rfl ?_);refine gL (some 7) Try.func30 #[.slice A0 l0.length c0] ?_;(with_reducible refine (spec_SuffixRows.calls k _ _ l0 t229 _ ?side1 ?side2 A2.out).mono ?_);(case side1=>exact kC HR0.out);(case side2=>exact HC0.out);rintro e w3 ⟨v230,rfl,ho0,hb⟩;refine⟨_,rfl,?_⟩;have HO231:=mk0 (Kd.R_lower ho0 (kZ HB.out));replace HB:=mk0 (kS HB.out hb);(try clear hb);(try clear ho0))|((with_reducible refine gate_dst (N:=8) rfl ?_);refine Kd.R_lit (Kd.int .i64) _ 3 ?hg (N:=8) ?hd (xs:=([]:List Int)) (inner:=[]) (ok:=fun _=>True) (okp:=fun _=>True) ?hr ?hp (fun _ hk=>hk) trivial (Below.refl _ _) (Nat.le_refl _) (by simp) ?_;(case hd=>rfl);(case hg=>rfl);(case hr=>first|(go_simp;done)|(go_simp;rfl));(case hp=>exact (Reps.none _ _));intro v233 w4 ho5 hb hg_ hnew_;clear hg_ hnew_;(first|rw [← Ny232.out] at ho5|(simp only [Int.reduceToNat] at ho5;rw [← Ny232.out] at ho5));have HO234:=mk0 (Kd.R_lower (Kd.R_new' ho5 (Kd.R_lt (rR HO231.out))) (kZ HB.out));replace HO231:=mk0 (Kd.R_elder' (rR HO231.out) (Kd.R_base ho5) hb);replace HB:=mk0 (kS HB.out hb);clear hb ho5))
 go_loopg [4,5] k (fun kq v4 v5 w'=>∃ (x4_1:List Int) (x5_1:Int),v5 = .int .i64 x5_1 ∧ Aside0 (spec_BwtOf.l0 kq l0 x4_1 x5_1 t229 = some r) ∧ Aside0 (kq ≤ k) ∧ Aside0 (Kd.R (Kd.int .i64) 3 w' w.heap.size (fun k_=>some k_ ≠ (v230:Value).ownBlock) v4 x4_1) ∧ Aside0 (Kd.R (Kd.int .i64) 3 w' w.heap.size (fun k_=>some k_ ≠ (v4:Value).ownBlock) v230 t229) ∧ Aside0 (Below w.heap.size w w'))
 case atStart=>exact⟨(y232),(0),eS,H',⟨Nat.le_refl _⟩,⟨rR (Kd.R_mono HO234.out (fun _ hk=>hk.2))⟩,⟨rR (Kd.R_mono HO231.out (fun _ hk=>hk.2))⟩,⟨kB HB.out⟩⟩
 case round =>
  clear H'
  try clear p2
  try clear c3
  obtain⟨x4_1,x5_1,rfl,HA,HK1,HO_4,HO_7,HB⟩:=hrel
  cases gk with
  | zero=>exact absurd HA.out (by simp [spec_BwtOf.l0])
  | succ k1 =>
   have H:=HA.out
   clear HA
   simp only [spec_BwtOf.l0] at H
   by_cases c6:x5_1 < (t229.length:Int)
   ·rw [if_pos c6] at H
    have c6b0:decide (x5_1 < (t229.length:Int)) = true:=decide_eq_true c6
    clear c6
    by_cases c7:0 ≤ x5_1
    ·rw [if_pos c7] at H
     have c7b0:decide (0 ≤ x5_1) = true:=decide_eq_true c7
     clear c7
     by_cases c8:(rd t229 x5_1) = 0
     ·rw [if_pos c8] at H
      have c8b0:((rd t229 x5_1) == 0) = true:=beq_iff_eq.mpr c8
      have c8b1:((rd t229 x5_1) != 0) = false:=bne_eq_false_iff_eq.mpr c8
      clear c8
      by_cases c9:x4_1.length < 17592186044416
      ·rw [if_pos c9] at H
       have LMc9:=mk0 c9
       clear c9
       obtain⟨y236,hy236⟩:∃ y_:List Int,y_ = (x4_1 ++ [0]):=⟨_,rfl⟩
       first|(with_reducible replace H:=yB hy236 H)|rw [← hy236] at H|skip
       have Ny236:=mk0 hy236
       clear hy236
       have H':=mk0 H
       clear H
       obtain⟨Ao10,co10,eo10⟩:=Kd.R_slice HO_7.out
       subst eo10
       have p235:0 ≤ (x5_1:Int):=oD
       have q235:x5_1 < (t229.length:Int):=oD
       obtain⟨ad235,e235,hx235_0⟩:=Kd.at_int (Kd.R_reads' HO_7.out).2.2 x5_1 p235 q235
       cases e235
       replace p235:=eq_true p235
       replace q235:=eq_true q235
       go_wp2_with (first|((with_reducible refine gate_builtin (b:=.append) (xs:=#[.tmp 20,.tmp 21]) rfl ?_);at_builtin;refine Kd.R_append (Kd.int .i64) (w0:=w) w.heap.size rfl (.tmp 20) (.tmp 21) 45 3 (.int .i64 0) 8 rfl Try.underlying45 info3 rfl (by decide) (by omega) u4 x4_1 0 [.int .i64 0] (fun k_=>some k_ ≠ (.slice (some ad235) t229.length co10:Value).ownBlock) (fun _=>False) rfl rfl ?aP (fun _ hk=>hk.elim) ?aF ?aO ?aB ?aS ?aL ?_;(case aP=>exact rfl);(case aB=>exact (kB HB.out));(case aF=>exact (fun k_ hk=>Kd.fresh' (Kd.R_lt (rR HO_7.out)) k_ hk));(case aO=>exact (rR HO_4.out));(case aS=>exact (kZ HB.out));(case aL=>have:=LMc9.out;omega);intro v237 w11 ho hb hg hat;rw [← Ny236.out] at ho;replace HO_7:=mk0 (Kd.R_after (ok:=(fun _=>True)) (rR (Kd.R_mono HO_7.out (fun _ hk=>⟨trivial,hk⟩))) hg hat);replace HB:=mk0 (hb);have HO238:=mk0 (ho);clear HO_4 ho hb hg hat))
       go_roundg k1
       case measure=>have:=HK1.out;omega
       case rel=>exact⟨(y236),(wrap64 (x5_1 + 1)),eS,H',⟨by have:=HK1.out;omega⟩,⟨rR HO238.out⟩,⟨rR (Kd.R_mono HO_7.out (fun _ hk=>hk.2))⟩,⟨kB HB.out⟩⟩
      ·rw [if_neg c9] at H
       exact nn H
     ·rw [if_neg c8] at H
      have c8b0:((rd t229 x5_1) == 0) = false:=beq_eq_false_iff_ne.mpr c8
      have c8b1:((rd t229 x5_1) != 0) = true:=bne_iff_ne.mpr c8
      obtain⟨ji12,hji12⟩:∃ j_:Int,(wrap64 ((rd t229 x5_1) - 1)) = j_:=⟨_,rfl⟩
      first|rw [hji12] at H|simp only [hji12] at H
      have hji12w:(IntKind.i64.wrap ((rd t229 x5_1) - 1)) = ji12:=(i64_w _).trans hji12
      by_cases c13:0 ≤ (ji12)
      ·rw [if_pos c13] at H
       have c13b0:decide (0 ≤ (ji12)) = true:=decide_eq_true c13
       clear c13
       by_cases c14:(ji12) < (l0.length:Int)
       ·rw [if_pos c14] at H
        have c14b0:decide ((ji12) < (l0.length:Int)) = true:=decide_eq_true c14
        clear c14
        by_cases c15:x4_1.length < 17592186044416
        ·rw [if_pos c15] at H
         have LMc15:=mk0 c15
         clear c15
         obtain⟨y241,hy241⟩:∃ y_:List Int,y_ = (x4_1 ++ [wrap64 ((wrap64 (rd l0 (ji12))) + 1)]):=⟨_,rfl⟩
         first|(with_reducible replace H:=yB hy241 H)|rw [← hy241] at H|skip
         have Ny241:=mk0 hy241
         clear hy241
         have H':=mk0 H
         clear H
         obtain⟨Ao16,co16,eo16⟩:=Kd.R_slice HO_7.out
         subst eo16
         have p235:0 ≤ (x5_1:Int):=oD
         have q235:x5_1 < (t229.length:Int):=oD
         obtain⟨ad235,e235,hx235_0⟩:=Kd.at_int (Kd.R_reads' HO_7.out).2.2 x5_1 p235 q235
         cases e235
         replace p235:=eq_true p235
         replace q235:=eq_true q235
         have p239:0 ≤ (x5_1:Int):=oD
         have q239:x5_1 < (t229.length:Int):=oD
         obtain⟨ad239,e239,hx239_0⟩:=Kd.at_int (Kd.R_reads' HO_7.out).2.2 x5_1 p239 q239
         obtain rfl:ad235 = ad239:=(by injection e239)
         replace p239:=eq_true p239
         replace q239:=eq_true q239
         have p240:0 ≤ ((ji12):Int):=oD
         have q240:(ji12) < (l0.length:Int):=oD
         obtain⟨ad240,e240,hx240_0⟩:=Kd.at_int HR0.out (ji12) p240 q240
         cases e240
         replace hx240_0:=(HB.out.cell (World.block_lt_of_cell? w _ hx240_0)).trans hx240_0
         replace p240:=eq_true p240
         replace q240:=eq_true q240
         go_wp2_with (first|((with_reducible refine gate_builtin (b:=.append) (xs:=#[.tmp 23,.tmp 34]) rfl ?_);at_builtin;refine Kd.R_append (Kd.int .i64) (w0:=w) w.heap.size rfl (.tmp 23) (.tmp 34) 45 3 (.int .i64 0) 8 rfl Try.underlying45 info3 rfl (by decide) (by omega) u4 x4_1 (wrap64 ((wrap64 (rd l0 (ji12))) + 1)) [.int .i64 (wrap64 ((wrap64 (rd l0 (ji12))) + 1))] (fun k_=>some k_ ≠ (.slice (some ad235) t229.length co16:Value).ownBlock) (fun _=>False) rfl rfl ?aP (fun _ hk=>hk.elim) ?aF ?aO ?aB ?aS ?aL ?_;(case aP=>exact rfl);(case aB=>exact (kB HB.out));(case aF=>exact (fun k_ hk=>Kd.fresh' (Kd.R_lt (rR HO_7.out)) k_ hk));(case aO=>exact (rR HO_4.out));(case aS=>exact (kZ HB.out));(case aL=>have:=LMc15.out;omega);intro v242 w17 ho hb hg hat;rw [← Ny241.out] at ho;replace HO_7:=mk0 (Kd.R_after (ok:=(fun _=>True)) (rR (Kd.R_mono HO_7.out (fun _ hk=>⟨trivial,hk⟩))) hg hat);replace HB:=mk0 (hb);have HO243:=mk0 (ho);clear HO_4 ho hb hg hat))
         go_roundg k1
         case measure=>have:=HK1.out;omega
         case rel=>exact⟨(y241),(wrap64 (x5_1 + 1)),eS,H',⟨by have:=HK1.out;omega⟩,⟨rR HO243.out⟩,⟨rR (Kd.R_mono HO_7.out (fun _ hk=>hk.2))⟩,⟨kB HB.out⟩⟩
        ·rw [if_neg c15] at H
         exact nn H
       ·rw [if_neg c14] at H
        exact nn H
      ·rw [if_neg c13] at H
       exact nn H
    ·rw [if_neg c7] at H
     exact nn H
   ·rw [if_neg c6] at H
    have c6b0:decide (x5_1 < (t229.length:Int)) = false:=decide_eq_false c6
    clear c6
    obtain rfl:=Option.some.inj H
    obtain⟨Ao18,co18,eo18⟩:=Kd.R_slice HO_7.out
    subst eo18
    go_wp2
    go_ret
    exact⟨_,eR,rR (Kd.R_mono HO_4.out (fun _ hk=>trivial)),kB HB.out⟩
/-! ### spec_l12Right: function 58 -/
def spec_l12Right.f (l0 : List Int) : Option (Bool) := some (decide ((l0.length : Int) ≤ 301))
set_option maxHeartbeats 8000000 in
set_option maxRecDepth 100000 in
theorem spec_l12Right.calls (A0 : Option Addr) (c0 : Nat) (l0 : List Int) (r : Bool) (w : World) (hr0 : Kd.C (Kd.int .i64) w A0 l0.length l0) (hc0 : l0.length ≤ c0) (h : spec_l12Right.f l0 = some r) :
  Calls Try.prog 58 #[.slice A0 l0.length c0] w fun e w' => e = .returned (.bool r) ∧ Drawn0 w w' := by
 have HR0:=mk0 hr0
 have HC0:=mk0 hc0
 clear hr0 hc0
 have H:(some (decide ((l0.length:Int) ≤ 301))) = some r:=h
 clear h
 obtain rfl:=Option.some.inj H
 go_enter Try.func58,Try.ntmps58
 go_wp2
 go_ret
 exact⟨by first|rfl|(simp;done)|(simp [*];done),by repeat (first|exact Drawn0.refl _|apply Drawn0.step)⟩
end Go.Proofs.Ytadhngelhognaaa.QFnShare
