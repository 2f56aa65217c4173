-- A walk, made by walk.py, a program of this session's.
import Derived.Test.YtjfoaiabbmkdpaaQFnExactFmOfx0
import Derived.Test.YtjfoaiabbmkdpaaQFnExactFmOfx1
namespace Go.Proofs.Ytjfoaiabbmkdpaa.QFnExactFmOf
open Go.RowKit Go.Proofs.YtjfoaiabbmkdpaaW.PrintWords Go.Proofs.YtjfoaiabbmkdpaaW.PrintLast Go.Proofs.YtjfoaiabbmkdpaaW.PrintMore
attribute [local go_sem] max2_int min2_int max_two min_two max_three min_three max_four min_four   -- for this text's walks alone
set_option linter.unusedVariables false
set_option linter.unusedSimpArgs false
/-! ### spec_BwtOf: function 16 -/
def spec_BwtOf.l0 : Nat → List Int → List Int → Int → List Int → Option (List Int)
 | 0, _, _, _, _ => none
 | k + 1, x0, x4, x5, x7 => if x5 < (x7.length : Int) then (if 0 ≤ x5 then (if (rd x7 x5) = 0 then (if x4.length < 17592186044416 then (spec_BwtOf.l0 k x0 (x4 ++ [0]) (wrap64 (x5 + 1)) x7) else (none)) else (if 0 ≤ (wrap64 ((rd x7 x5) - 1)) then (if (wrap64 ((rd x7 x5) - 1)) < (x0.length : Int) then (if x4.length < 17592186044416 then (spec_BwtOf.l0 k x0 (x4 ++ [wrap64 ((wrap64 (rd x0 (wrap64 ((rd x7 x5) - 1)))) + 1)]) (wrap64 (x5 + 1)) x7) else (none)) else (none)) else (none))) else (none)) else (some x4)
def spec_BwtOf.f (k : Nat) (l0 : List Int) : Option (List Int) := (spec_SuffixRows.f k l0).bind fun t143 => (spec_BwtOf.l0 k l0 (([] : List Int)) 0 t143)
set_option maxHeartbeats 8000000 in
set_option maxRecDepth 100000 in
theorem spec_BwtOf.calls (k : Nat) (A0 : Option Addr) (c0 : Nat) (l0 : List Int) (r : List Int) (w : World) (hr0 : Kd.C (Kd.int .u8) w A0 l0.length l0) (hc0 : l0.length ≤ c0) (h : spec_BwtOf.f k l0 = some r) :
  Calls Try.prog 16 #[.slice A0 l0.length c0] w fun e w' => ∃ v0_ : Value, e = .returned (v0_) ∧ Kd.R (Kd.int .i64) 3 w' w.heap.size (fun _ => True) v0_ r ∧ Below w.heap.size w w' := by
 have HR0:=mk0 hr0
 have HC0:=mk0 hc0
 clear hr0 hc0
 have HB:=mk0 (Below.refl w.heap.size w)
 have H:((spec_SuffixRows.f k l0).bind fun t143=>(spec_BwtOf.l0 k l0 (([]:List Int)) 0 t143)) = some r:=h
 clear h
 replace H:=bE H
 obtain⟨t143,A2,H⟩:=H
 obtain⟨y146,hy146⟩:∃ y_:List Int,y_ = (([]:List Int)):=⟨_,rfl⟩
 first|(with_reducible replace H:=yB hy146 H)|rw [← hy146] at H|skip
 have Ny146:=mk0 hy146
 clear hy146
 have H':=mk0 H
 clear H
 go_enter Try.func16,Try.ntmps16
 go_wp2_with (first|((with_reducible refine gate_callee (f:=14) rfl ?_);refine gL (some 7) Try.func14 #[.slice A0 l0.length c0] ?_;(with_reducible refine (spec_SuffixRows.calls k _ _ l0 t143 _ ?side1 ?side2 A2.out).mono ?_);(case side1=>exact kC HR0.out);(case side2=>exact HC0.out);rintro e w3 ⟨v144,rfl,ho0,hb⟩;refine⟨_,rfl,?_⟩;have HO145:=mk0 (Kd.R_lower ho0 (kZ HB.out));replace HB:=mk0 (kS HB.out hb);(try clear hb);(try clear ho0))|((with_reducible refine gate_dst (N:=8) rfl ?_);refine Kd.R_lit (Kd.int .i64) _ 3 ?hg (N:=8) ?hd (xs:=([]:List Int)) (inner:=[]) (ok:=fun _=>True) (okp:=fun _=>True) ?hr ?hp (fun _ hk=>hk) trivial (Below.refl _ _) (Nat.le_refl _) (by simp) ?_;(case hd=>rfl);(case hg=>rfl);(case hr=>first|(go_simp;done)|(go_simp;rfl));(case hp=>exact (Reps.none _ _));intro v147 w4 ho5 hb hg_ hnew_;clear hg_ hnew_;(first|rw [← Ny146.out] at ho5|(simp only [Int.reduceToNat] at ho5;rw [← Ny146.out] at ho5));have HO148:=mk0 (Kd.R_lower (Kd.R_new' ho5 (Kd.R_lt (rR HO145.out))) (kZ HB.out));replace HO145:=mk0 (Kd.R_elder' (rR HO145.out) (Kd.R_base ho5) hb);replace HB:=mk0 (kS HB.out hb);clear hb ho5))
 go_loopg [4,5] k (fun kq v4 v5 w'=>∃ (x4_1:List Int) (x5_1:Int),v5 = .int .i64 x5_1 ∧ Aside0 (spec_BwtOf.l0 kq l0 x4_1 x5_1 t143 = some r) ∧ Aside0 (kq ≤ k) ∧ Aside0 (Kd.R (Kd.int .i64) 3 w' w.heap.size (fun k_=>some k_ ≠ (v144:Value).ownBlock) v4 x4_1) ∧ Aside0 (Kd.R (Kd.int .i64) 3 w' w.heap.size (fun k_=>some k_ ≠ (v4:Value).ownBlock) v144 t143) ∧ Aside0 (Below w.heap.size w w'))
 case atStart=>exact⟨(y146),(0),eS,H',⟨Nat.le_refl _⟩,⟨rR (Kd.R_mono HO148.out (fun _ hk=>hk.2))⟩,⟨rR (Kd.R_mono HO145.out (fun _ hk=>hk.2))⟩,⟨kB HB.out⟩⟩
 case round =>
  clear H'
  try clear c1
  try clear p2
  obtain⟨x4_1,x5_1,rfl,HA,HK1,HO_4,HO_7,HB⟩:=hrel
  cases gk with
  | zero=>exact absurd HA.out (by simp [spec_BwtOf.l0])
  | succ k1 =>
   have H:=HA.out
   clear HA
   simp only [spec_BwtOf.l0] at H
   by_cases c6:x5_1 < (t143.length:Int)
   ·rw [if_pos c6] at H
    have c6b0:decide (x5_1 < (t143.length:Int)) = true:=decide_eq_true c6
    clear c6
    by_cases c7:0 ≤ x5_1
    ·rw [if_pos c7] at H
     have c7b0:decide (0 ≤ x5_1) = true:=decide_eq_true c7
     clear c7
     by_cases c8:(rd t143 x5_1) = 0
     ·rw [if_pos c8] at H
      have c8b0:((rd t143 x5_1) == 0) = true:=beq_iff_eq.mpr c8
      have c8b1:((rd t143 x5_1) != 0) = false:=bne_eq_false_iff_eq.mpr c8
      clear c8
      by_cases c9:x4_1.length < 17592186044416
      ·rw [if_pos c9] at H
       have LMc9:=mk0 c9
       clear c9
       obtain⟨y150,hy150⟩:∃ y_:List Int,y_ = (x4_1 ++ [0]):=⟨_,rfl⟩
       first|(with_reducible replace H:=yB hy150 H)|rw [← hy150] at H|skip
       have Ny150:=mk0 hy150
       clear hy150
       have H':=mk0 H
       clear H
       obtain⟨Ao10,co10,eo10⟩:=Kd.R_slice HO_7.out
       subst eo10
       have p149:0 ≤ (x5_1:Int):=oD
       have q149:x5_1 < (t143.length:Int):=oD
       obtain⟨ad149,e149,hx149_0⟩:=Kd.at_int (Kd.R_reads' HO_7.out).2.2 x5_1 p149 q149
       cases e149
       replace p149:=eq_true p149
       replace q149:=eq_true q149
       go_wp2_with (first|((with_reducible refine gate_builtin (b:=.append) (xs:=#[.tmp 20,.tmp 21]) rfl ?_);at_builtin;refine Kd.R_append (Kd.int .i64) (w0:=w) w.heap.size rfl (.tmp 20) (.tmp 21) 23 3 (.int .i64 0) 8 rfl Try.underlying23 info3 rfl (by decide) (by omega) u4 x4_1 0 [.int .i64 0] (fun k_=>some k_ ≠ (.slice (some ad149) t143.length co10:Value).ownBlock) (fun _=>False) rfl rfl ?aP (fun _ hk=>hk.elim) ?aF ?aO ?aB ?aS ?aL ?_;(case aP=>exact rfl);(case aB=>exact (kB HB.out));(case aF=>exact (fun k_ hk=>Kd.fresh' (Kd.R_lt (rR HO_7.out)) k_ hk));(case aO=>exact (rR HO_4.out));(case aS=>exact (kZ HB.out));(case aL=>have:=LMc9.out;omega);intro v151 w11 ho hb hg hat;rw [← Ny150.out] at ho;replace HO_7:=mk0 (Kd.R_after (ok:=(fun _=>True)) (rR (Kd.R_mono HO_7.out (fun _ hk=>⟨trivial,hk⟩))) hg hat);replace HB:=mk0 (hb);have HO152:=mk0 (ho);clear HO_4 ho hb hg hat))
       go_roundg k1
       case measure=>have:=HK1.out;omega
       case rel=>exact⟨(y150),(wrap64 (x5_1 + 1)),eS,H',⟨by have:=HK1.out;omega⟩,⟨rR HO152.out⟩,⟨rR (Kd.R_mono HO_7.out (fun _ hk=>hk.2))⟩,⟨kB HB.out⟩⟩
      ·rw [if_neg c9] at H
       exact nn H
     ·rw [if_neg c8] at H
      have c8b0:((rd t143 x5_1) == 0) = false:=beq_eq_false_iff_ne.mpr c8
      have c8b1:((rd t143 x5_1) != 0) = true:=bne_iff_ne.mpr c8
      obtain⟨ji12,hji12⟩:∃ j_:Int,(wrap64 ((rd t143 x5_1) - 1)) = j_:=⟨_,rfl⟩
      first|rw [hji12] at H|simp only [hji12] at H
      have hji12w:(IntKind.i64.wrap ((rd t143 x5_1) - 1)) = ji12:=(i64_w _).trans hji12
      by_cases c13:0 ≤ (ji12)
      ·rw [if_pos c13] at H
       have c13b0:decide (0 ≤ (ji12)) = true:=decide_eq_true c13
       clear c13
       by_cases c14:(ji12) < (l0.length:Int)
       ·rw [if_pos c14] at H
        have c14b0:decide ((ji12) < (l0.length:Int)) = true:=decide_eq_true c14
        clear c14
        by_cases c15:x4_1.length < 17592186044416
        ·rw [if_pos c15] at H
         have LMc15:=mk0 c15
         clear c15
         obtain⟨y155,hy155⟩:∃ y_:List Int,y_ = (x4_1 ++ [wrap64 ((wrap64 (rd l0 (ji12))) + 1)]):=⟨_,rfl⟩
         first|(with_reducible replace H:=yB hy155 H)|rw [← hy155] at H|skip
         have Ny155:=mk0 hy155
         clear hy155
         have H':=mk0 H
         clear H
         obtain⟨Ao16,co16,eo16⟩:=Kd.R_slice HO_7.out
         subst eo16
         have p149:0 ≤ (x5_1:Int):=oD
         have q149:x5_1 < (t143.length:Int):=oD
         obtain⟨ad149,e149,hx149_0⟩:=Kd.at_int (Kd.R_reads' HO_7.out).2.2 x5_1 p149 q149
         cases e149
         replace p149:=eq_true p149
         replace q149:=eq_true q149
         have p153:0 ≤ (x5_1:Int):=oD
         have q153:x5_1 < (t143.length:Int):=oD
         obtain⟨ad153,e153,hx153_0⟩:=Kd.at_int (Kd.R_reads' HO_7.out).2.2 x5_1 p153 q153
         obtain rfl:ad149 = ad153:=(by injection e153)
         replace p153:=eq_true p153
         replace q153:=eq_true q153
         have p154:0 ≤ ((ji12):Int):=oD
         have q154:(ji12) < (l0.length:Int):=oD
         obtain⟨ad154,e154,hx154_0⟩:=Kd.at_int HR0.out (ji12) p154 q154
         cases e154
         replace hx154_0:=(HB.out.cell (World.block_lt_of_cell? w _ hx154_0)).trans hx154_0
         replace p154:=eq_true p154
         replace q154:=eq_true q154
         go_wp2_with (first|((with_reducible refine gate_builtin (b:=.append) (xs:=#[.tmp 23,.tmp 34]) rfl ?_);at_builtin;refine Kd.R_append (Kd.int .i64) (w0:=w) w.heap.size rfl (.tmp 23) (.tmp 34) 23 3 (.int .i64 0) 8 rfl Try.underlying23 info3 rfl (by decide) (by omega) u4 x4_1 (wrap64 ((wrap64 (rd l0 (ji12))) + 1)) [.int .i64 (wrap64 ((wrap64 (rd l0 (ji12))) + 1))] (fun k_=>some k_ ≠ (.slice (some ad149) t143.length co16:Value).ownBlock) (fun _=>False) rfl rfl ?aP (fun _ hk=>hk.elim) ?aF ?aO ?aB ?aS ?aL ?_;(case aP=>exact rfl);(case aB=>exact (kB HB.out));(case aF=>exact (fun k_ hk=>Kd.fresh' (Kd.R_lt (rR HO_7.out)) k_ hk));(case aO=>exact (rR HO_4.out));(case aS=>exact (kZ HB.out));(case aL=>have:=LMc15.out;omega);intro v156 w17 ho hb hg hat;rw [← Ny155.out] at ho;replace HO_7:=mk0 (Kd.R_after (ok:=(fun _=>True)) (rR (Kd.R_mono HO_7.out (fun _ hk=>⟨trivial,hk⟩))) hg hat);replace HB:=mk0 (hb);have HO157:=mk0 (ho);clear HO_4 ho hb hg hat))
         go_roundg k1
         case measure=>have:=HK1.out;omega
         case rel=>exact⟨(y155),(wrap64 (x5_1 + 1)),eS,H',⟨by have:=HK1.out;omega⟩,⟨rR HO157.out⟩,⟨rR (Kd.R_mono HO_7.out (fun _ hk=>hk.2))⟩,⟨kB HB.out⟩⟩
        ·rw [if_neg c15] at H
         exact nn H
       ·rw [if_neg c14] at H
        exact nn H
      ·rw [if_neg c13] at H
       exact nn H
    ·rw [if_neg c7] at H
     exact nn H
   ·rw [if_neg c6] at H
    have c6b0:decide (x5_1 < (t143.length:Int)) = false:=decide_eq_false c6
    clear c6
    obtain rfl:=Option.some.inj H
    obtain⟨Ao18,co18,eo18⟩:=Kd.R_slice HO_7.out
    subst eo18
    go_wp2
    go_ret
    exact⟨_,eR,rR (Kd.R_mono HO_4.out (fun _ hk=>trivial)),kB HB.out⟩
/-! ### spec_SymsOk: function 39 -/
def spec_SymsOk.l0 : Nat → List Int → Int → Option (Bool)
 | 0, _, _ => none
 | k + 1, x0, x3 => if x3 < (x0.length : Int) then (if 0 ≤ x3 then (if (rd x0 x3) < 0 then (some false) else (if (rd x0 x3) > 256 then (some false) else (spec_SymsOk.l0 k x0 (wrap64 (x3 + 1))))) else (none)) else (some true)
def spec_SymsOk.f (k : Nat) (l0 : List Int) : Option (Bool) := if (l0.length : Int) > 301 then (some false) else (spec_SymsOk.l0 k l0 0)
set_option maxHeartbeats 8000000 in
set_option maxRecDepth 100000 in
theorem spec_SymsOk.calls (k : Nat) (A0 : Option Addr) (c0 : Nat) (l0 : List Int) (r : Bool) (w : World) (hr0 : Kd.C (Kd.int .i64) w A0 l0.length l0) (hc0 : l0.length ≤ c0) (h : spec_SymsOk.f k l0 = some r) :
  Calls Try.prog 39 #[.slice A0 l0.length c0] w fun e w' => e = .returned (.bool r) ∧ Drawn0 w w' := by
 have HR0:=mk0 hr0
 have HC0:=mk0 hc0
 clear hr0 hc0
 have H:(if (l0.length:Int) > 301 then (some false) else (spec_SymsOk.l0 k l0 0)) = some r:=h
 clear h
 by_cases c2:(l0.length:Int) > 301
 ·rw [if_pos c2] at H
  have c2b0:decide (301 < (l0.length:Int)) = true:=decide_eq_true c2
  have c2b1:decide (301 < l0.length) = true:=decide_eq_true (by omega)
  clear c2
  obtain rfl:=Option.some.inj H
  go_enter Try.func39,Try.ntmps39
  go_wp2
  go_ret
  exact⟨by first|rfl|(simp;done)|(simp [*];done),by repeat (first|exact Drawn0.refl _|apply Drawn0.step)⟩
 ·rw [if_neg c2] at H
  have c2b0:decide (301 < (l0.length:Int)) = false:=decide_eq_false c2
  have c2b1:decide (301 < l0.length) = false:=decide_eq_false (by omega)
  clear c2
  have H':=mk0 H
  clear H
  go_enter Try.func39,Try.ntmps39
  go_wp2
  go_loopg [3] k (fun kq v3 w'=>∃ (x3_1:Int),v3 = .int .i64 x3_1 ∧ Aside0 (spec_SymsOk.l0 kq l0 x3_1 = some r) ∧ Aside0 (kq ≤ k) ∧ Drawn0 w w')
  case atStart=>exact⟨(0),eS,H',⟨Nat.le_refl _⟩,by repeat (first|exact Drawn0.refl _|apply Drawn0.step)⟩
  case round =>
   clear H'
   try clear c2
   try clear c2b0
   try clear c2b1
   try clear p2
   obtain⟨x3_1,rfl,HA,HK1,⟨m1,rfl⟩⟩:=hrel
   cases gk with
   | zero=>exact absurd HA.out (by simp [spec_SymsOk.l0])
   | succ k1 =>
    have H:=HA.out
    clear HA
    simp only [spec_SymsOk.l0] at H
    by_cases c3:x3_1 < (l0.length:Int)
    ·rw [if_pos c3] at H
     have c3b0:decide (x3_1 < (l0.length:Int)) = true:=decide_eq_true c3
     clear c3
     by_cases c4:0 ≤ x3_1
     ·rw [if_pos c4] at H
      have c4b0:decide (0 ≤ x3_1) = true:=decide_eq_true c4
      clear c4
      by_cases c5:(rd l0 x3_1) < 0
      ·rw [if_pos c5] at H
       have c5b0:decide ((rd l0 x3_1) < 0) = true:=decide_eq_true c5
       clear c5
       obtain rfl:=Option.some.inj H
       have p158:0 ≤ (x3_1:Int):=oD
       have q158:x3_1 < (l0.length:Int):=oD
       obtain⟨ad158,e158,hx158_0⟩:=Kd.at_int HR0.out x3_1 p158 q158
       cases e158
       replace p158:=eq_true p158
       replace q158:=eq_true q158
       go_wp2
       go_ret
       exact⟨by first|rfl|(simp;done)|(simp [*];done),by repeat (first|exact Drawn0.refl _|apply Drawn0.step)⟩
      ·rw [if_neg c5] at H
       have c5b0:decide ((rd l0 x3_1) < 0) = false:=decide_eq_false c5
       clear c5
       by_cases c6:(rd l0 x3_1) > 256
       ·rw [if_pos c6] at H
        have c6b0:decide (256 < (rd l0 x3_1)) = true:=decide_eq_true c6
        clear c6
        obtain rfl:=Option.some.inj H
        have p158:0 ≤ (x3_1:Int):=oD
        have q158:x3_1 < (l0.length:Int):=oD
        obtain⟨ad158,e158,hx158_0⟩:=Kd.at_int HR0.out x3_1 p158 q158
        cases e158
        replace p158:=eq_true p158
        replace q158:=eq_true q158
        have p159:0 ≤ (x3_1:Int):=oD
        have q159:x3_1 < (l0.length:Int):=oD
        obtain⟨ad159,e159,hx159_0⟩:=Kd.at_int HR0.out x3_1 p159 q159
        obtain rfl:ad158 = ad159:=(by injection e159)
        replace p159:=eq_true p159
        replace q159:=eq_true q159
        go_wp2
        go_ret
        exact⟨by first|rfl|(simp;done)|(simp [*];done),by repeat (first|exact Drawn0.refl _|apply Drawn0.step)⟩
       ·rw [if_neg c6] at H
        have c6b0:decide (256 < (rd l0 x3_1)) = false:=decide_eq_false c6
        clear c6
        have H':=mk0 H
        clear H
        have p158:0 ≤ (x3_1:Int):=oD
        have q158:x3_1 < (l0.length:Int):=oD
        obtain⟨ad158,e158,hx158_0⟩:=Kd.at_int HR0.out x3_1 p158 q158
        cases e158
        replace p158:=eq_true p158
        replace q158:=eq_true q158
        have p159:0 ≤ (x3_1:Int):=oD
        have q159:x3_1 < (l0.length:Int):=oD
        obtain⟨ad159,e159,hx159_0⟩:=Kd.at_int HR0.out x3_1 p159 q159
        obtain rfl:ad158 = ad159:=(by injection e159)
        replace p159:=eq_true p159
        replace q159:=eq_true q159
        go_wp2
        go_roundg k1
        case measure=>have:=HK1.out;omega
        case rel=>exact⟨(wrap64 (x3_1 + 1)),eS,H',⟨by have:=HK1.out;omega⟩,by repeat (first|exact Drawn0.refl _|apply Drawn0.step)⟩
     ·rw [if_neg c4] at H
      exact nn H
    ·rw [if_neg c3] at H
     have c3b0:decide (x3_1 < (l0.length:Int)) = false:=decide_eq_false c3
     clear c3
     obtain rfl:=Option.some.inj H
     go_wp2
     go_ret
     exact⟨by first|rfl|(simp;done)|(simp [*];done),by repeat (first|exact Drawn0.refl _|apply Drawn0.step)⟩
/-! ### spec_Counts: function 17 -/
mutual
def spec_Counts.l0 : Nat → List Int → List Int → Int → Option (List Int)
 | 0, _, _, _ => none
 | k + 1, x0, x3, x4 => if x4 ≤ 257 then (spec_Counts.l1 k x0 x3 x4 0 0) else (some x3)
def spec_Counts.l1 : Nat → List Int → List Int → Int → Int → Int → Option (List Int)
 | 0, _, _, _, _, _ => none
 | k + 1, x0, x3, x4, x5, x6 => if x6 < (x0.length : Int) then (if 0 ≤ x6 then (if (rd x0 x6) < x4 then (spec_Counts.l1 k x0 x3 x4 (wrap64 (x5 + 1)) (wrap64 (x6 + 1))) else (spec_Counts.l1 k x0 x3 x4 x5 (wrap64 (x6 + 1)))) else (none)) else (if x3.length < 17592186044416 then (spec_Counts.l0 k x0 (x3 ++ [x5]) (wrap64 (x4 + 1))) else (none))
end
def spec_Counts.f (k : Nat) (l0 : List Int) : Option (List Int) := (spec_SymsOk.f k l0).bind fun t160 => (if t160 = true then (spec_Counts.l0 k l0 (([] : List Int)) 0) else (some ([] : List Int)))
set_option maxHeartbeats 8000000 in
set_option maxRecDepth 100000 in
theorem spec_Counts.calls (k : Nat) (A0 : Option Addr) (c0 : Nat) (l0 : List Int) (r : List Int) (w : World) (hr0 : Kd.C (Kd.int .i64) w A0 l0.length l0) (hc0 : l0.length ≤ c0) (h : spec_Counts.f k l0 = some r) :
  Calls Try.prog 17 #[.slice A0 l0.length c0] w fun e w' => ∃ v0_ : Value, e = .returned (v0_) ∧ Kd.R (Kd.int .i64) 3 w' w.heap.size (fun _ => True) v0_ r ∧ Below w.heap.size w w' := by
 have HR0:=mk0 hr0
 have HC0:=mk0 hc0
 clear hr0 hc0
 have HB:=mk0 (Below.refl w.heap.size w)
 have H:((spec_SymsOk.f k l0).bind fun t160=>(if t160 = true then (spec_Counts.l0 k l0 (([]:List Int)) 0) else (some ([]:List Int)))) = some r:=h
 clear h
 replace H:=bE H
 obtain⟨t160,A2,H⟩:=H
 by_cases c3:t160 = true
 ·subst c3
  replace H:=iT H
  obtain⟨y161,hy161⟩:∃ y_:List Int,y_ = (([]:List Int)):=⟨_,rfl⟩
  first|(with_reducible replace H:=yB hy161 H)|rw [← hy161] at H|skip
  have Ny161:=mk0 hy161
  clear hy161
  have H':=mk0 H
  clear H
  go_enter Try.func17,Try.ntmps17
  go_wp2_with (first|((with_reducible refine gate_callee (f:=39) rfl ?_);refine gL (some 8) Try.func39 #[.slice A0 l0.length c0] ?_;(with_reducible refine (spec_SymsOk.calls k _ _ l0 true _ ?side1 ?side2 A2.out).mono ?_);(case side1=>exact kC HR0.out);(case side2=>exact HC0.out);rintro e w' ⟨rfl,⟨nd,rfl⟩⟩;refine⟨_,rfl,?_⟩)|((with_reducible refine gate_dst (N:=10) rfl ?_);refine Kd.R_lit (Kd.int .i64) _ 3 ?hg (N:=10) ?hd (xs:=([]:List Int)) (inner:=[]) (ok:=fun _=>True) (okp:=fun _=>True) ?hr ?hp (fun _ hk=>hk) trivial (Below.refl _ _) (Nat.le_refl _) (by simp) ?_;(case hd=>rfl);(case hg=>rfl);(case hr=>first|(go_simp;done)|(go_simp;rfl));(case hp=>exact (Reps.none _ _));intro v162 w4 ho5 hb hg_ hnew_;clear hg_ hnew_;(first|rw [← Ny161.out] at ho5|(simp only [Int.reduceToNat] at ho5;rw [← Ny161.out] at ho5));have HO163:=mk0 (Kd.R_lower ho5 (kZ HB.out));replace HB:=mk0 (kS HB.out hb);clear hb ho5))
  go_loopg [3,4] k (fun kq v3 v4 w'=>∃ (x3_1:List Int) (x4_1:Int),v4 = .int .i64 x4_1 ∧ Aside0 (spec_Counts.l0 kq l0 x3_1 x4_1 = some r) ∧ Aside0 (kq ≤ k) ∧ Aside0 (Kd.R (Kd.int .i64) 3 w' w.heap.size (fun _=>True) v3 x3_1) ∧ Aside0 (Below w.heap.size w w'))
  case atStart=>exact⟨(y161),(0),eS,H',⟨Nat.le_refl _⟩,⟨rR HO163.out⟩,⟨kB HB.out⟩⟩
  case round =>
   clear H'
   try clear c1
   try clear p2
   try clear c3
   obtain⟨x3_1,x4_1,rfl,HA,HK1,HO_3,HB⟩:=hrel
   cases gk with
   | zero=>exact absurd HA.out (by simp [spec_Counts.l0])
   | succ k1 =>
    have H:=HA.out
    clear HA
    simp only [spec_Counts.l0] at H
    by_cases c6:x4_1 ≤ 257
    ·rw [if_pos c6] at H
     have c6b0:decide (x4_1 ≤ 257) = true:=decide_eq_true c6
     clear c6
     have H':=mk0 H
     clear H
     go_wp2
     go_loopg [5,6] k1 (fun kq v5 v6 w'=>∃ (x5_2:Int) (x6_2:Int),v5 = .int .i64 x5_2 ∧ v6 = .int .i64 x6_2 ∧ Aside0 (spec_Counts.l1 kq l0 x3_1 x4_1 x5_2 x6_2 = some r) ∧ Aside0 (kq ≤ k1) ∧ Aside0 (Kd.R (Kd.int .i64) 3 w' w.heap.size (fun _=>True) u3 x3_1) ∧ Aside0 (Below w.heap.size w w'))
     case atStart=>exact⟨(0),(0),eS,eS,H',⟨Nat.le_refl _⟩,⟨rR HO_3.out⟩,⟨kB HB.out⟩⟩
     case round =>
      clear H'
      try clear c1
      try clear p2
      try clear c3
      try clear c6
      try clear c6b0
      try clear p2
      obtain⟨x5_2,x6_2,rfl,rfl,HA,HK2,HO_3,HB⟩:=hrel
      cases gk with
      | zero=>exact absurd HA.out (by simp [spec_Counts.l1])
      | succ k2 =>
       have H:=HA.out
       clear HA
       simp only [spec_Counts.l1] at H
       by_cases c7:x6_2 < (l0.length:Int)
       ·rw [if_pos c7] at H
        have c7b0:decide (x6_2 < (l0.length:Int)) = true:=decide_eq_true c7
        clear c7
        by_cases c8:0 ≤ x6_2
        ·rw [if_pos c8] at H
         have c8b0:decide (0 ≤ x6_2) = true:=decide_eq_true c8
         clear c8
         by_cases c9:(rd l0 x6_2) < x4_1
         ·rw [if_pos c9] at H
          have c9b0:decide ((rd l0 x6_2) < x4_1) = true:=decide_eq_true c9
          clear c9
          have H':=mk0 H
          clear H
          have p167:0 ≤ (x6_2:Int):=oD
          have q167:x6_2 < (l0.length:Int):=oD
          obtain⟨ad167,e167,hx167_0⟩:=Kd.at_int HR0.out x6_2 p167 q167
          cases e167
          replace hx167_0:=(HB.out.cell (World.block_lt_of_cell? w _ hx167_0)).trans hx167_0
          replace p167:=eq_true p167
          replace q167:=eq_true q167
          go_wp2
          go_roundg k2
          case measure=>have:=HK1.out;have:=HK2.out;omega
          case rel=>exact⟨(wrap64 (x5_2 + 1)),(wrap64 (x6_2 + 1)),eS,eS,H',⟨by have:=HK1.out;have:=HK2.out;omega⟩,⟨rR HO_3.out⟩,⟨kB HB.out⟩⟩
         ·rw [if_neg c9] at H
          have c9b0:decide ((rd l0 x6_2) < x4_1) = false:=decide_eq_false c9
          clear c9
          have H':=mk0 H
          clear H
          have p167:0 ≤ (x6_2:Int):=oD
          have q167:x6_2 < (l0.length:Int):=oD
          obtain⟨ad167,e167,hx167_0⟩:=Kd.at_int HR0.out x6_2 p167 q167
          cases e167
          replace hx167_0:=(HB.out.cell (World.block_lt_of_cell? w _ hx167_0)).trans hx167_0
          replace p167:=eq_true p167
          replace q167:=eq_true q167
          go_wp2
          go_roundg k2
          case measure=>have:=HK1.out;have:=HK2.out;omega
          case rel=>exact⟨(x5_2),(wrap64 (x6_2 + 1)),eS,eS,H',⟨by have:=HK1.out;have:=HK2.out;omega⟩,⟨rR HO_3.out⟩,⟨kB HB.out⟩⟩
        ·rw [if_neg c8] at H
         exact nn H
       ·rw [if_neg c7] at H
        have c7b0:decide (x6_2 < (l0.length:Int)) = false:=decide_eq_false c7
        clear c7
        by_cases c10:x3_1.length < 17592186044416
        ·rw [if_pos c10] at H
         have LMc10:=mk0 c10
         clear c10
         obtain⟨y164,hy164⟩:∃ y_:List Int,y_ = (x3_1 ++ [x5_2]):=⟨_,rfl⟩
         first|(with_reducible replace H:=yB hy164 H)|rw [← hy164] at H|skip
         have Ny164:=mk0 hy164
         clear hy164
         have H':=mk0 H
         clear H
         go_wp2_with (first|((with_reducible refine gate_builtin (b:=.append) (xs:=#[.tmp 29,.tmp 31]) rfl ?_);at_builtin;refine Kd.R_append (Kd.int .i64) (w0:=w) w.heap.size rfl (.tmp 29) (.tmp 31) 23 3 (.int .i64 0) 8 rfl Try.underlying23 info3 rfl (by decide) (by omega) u3 x3_1 x5_2 [.int .i64 x5_2] (fun _=>True) (fun _=>False) rfl rfl ?aP (fun _ hk=>hk.elim) ?aF ?aO ?aB ?aS ?aL ?_;(case aP=>exact rfl);(case aB=>exact (kB HB.out));(case aF=>exact (fun _ _=>trivial));(case aO=>exact (rR HO_3.out));(case aS=>exact (kZ HB.out));(case aL=>have:=LMc10.out;omega);intro v165 w11 ho hb hg hat;rw [← Ny164.out] at ho;replace HB:=mk0 (hb);have HO166:=mk0 (ho);clear HO_3 ho hb hg hat))
         go_roundg k2
         case measure=>have:=HK1.out;have:=HK2.out;omega
         case rel=>exact⟨(y164),(wrap64 (x4_1 + 1)),eS,H',⟨by have:=HK1.out;have:=HK2.out;omega⟩,⟨rR HO166.out⟩,⟨kB HB.out⟩⟩
        ·rw [if_neg c10] at H
         exact nn H
    ·rw [if_neg c6] at H
     have c6b0:decide (x4_1 ≤ 257) = false:=decide_eq_false c6
     clear c6
     obtain rfl:=Option.some.inj H
     go_wp2
     go_ret
     exact⟨_,eR,rR HO_3.out,kB HB.out⟩
 ·replace c3:=Bool.eq_false_iff.mpr c3
  subst c3
  replace H:=iF H
  obtain rfl:=Option.some.inj H
  go_enter Try.func17,Try.ntmps17
  go_wp2_with (first|((with_reducible refine gate_callee (f:=39) rfl ?_);refine gL (some 8) Try.func39 #[.slice A0 l0.length c0] ?_;(with_reducible refine (spec_SymsOk.calls k _ _ l0 false _ ?side1 ?side2 A2.out).mono ?_);(case side1=>exact kC HR0.out);(case side2=>exact HC0.out);rintro e w' ⟨rfl,⟨nd,rfl⟩⟩;refine⟨_,rfl,?_⟩))
  go_ret
  exact⟨_,eR,by first|exact Kd.R_nil _ _ _ _ _|exact Kd.N_nil _ _ _ _ _|exact Kd.V_nil _ _ _ _ _|exact Kd.Q_nil _ _ _ _ _|exact Kd.S_nil _ _ _ _ _,kB HB.out⟩
/-! ### spec_l01Power: function 41 -/
def spec_l01Power.l0 : Nat → Int → Int → Option (Int)
 | 0, _, _ => none
 | k + 1, x0, x3 => if x0 > 0 then (spec_l01Power.l0 k (wrap64 (x0 - 1)) (IntKind.u64.wrap (2 * x3))) else (some x3)
def spec_l01Power.f (k : Nat) (a0 : Int) : Option (Int) := spec_l01Power.l0 k a0 1
set_option maxHeartbeats 8000000 in
set_option maxRecDepth 100000 in
theorem spec_l01Power.calls (k : Nat) (a0 : Int) (r : Int) (w : World) (h : spec_l01Power.f k a0 = some r) :
  Calls Try.prog 41 #[.int .i64 a0] w fun e w' => e = .returned (.int .u64 r) ∧ Drawn0 w w' := by
 have H:(spec_l01Power.l0 k a0 1) = some r:=h
 clear h
 have H':=mk0 H
 clear H
 go_enter Try.func41,Try.ntmps41
 go_wp2
 go_loopg [0,3] k (fun kq v0 v3 w'=>∃ (x0_1:Int) (x3_1:Int),v0 = .int .i64 x0_1 ∧ v3 = .int .u64 x3_1 ∧ Aside0 (spec_l01Power.l0 kq x0_1 x3_1 = some r) ∧ Aside0 (kq ≤ k) ∧ Drawn0 w w')
 case atStart=>exact⟨(a0),(1),eS,eS,H',⟨Nat.le_refl _⟩,by repeat (first|exact Drawn0.refl _|apply Drawn0.step)⟩
 case round =>
  clear H'
  obtain⟨x0_1,x3_1,rfl,rfl,HA,HK1,⟨m1,rfl⟩⟩:=hrel
  cases gk with
  | zero=>exact absurd HA.out (by simp [spec_l01Power.l0])
  | succ k1 =>
   have H:=HA.out
   clear HA
   simp only [spec_l01Power.l0] at H
   by_cases c2:x0_1 > 0
   ·rw [if_pos c2] at H
    have c2b0:decide (0 < x0_1) = true:=decide_eq_true c2
    clear c2
    have H':=mk0 H
    clear H
    go_wp2
    go_roundg k1
    case measure=>have:=HK1.out;omega
    case rel=>exact⟨(wrap64 (x0_1 - 1)),(IntKind.u64.wrap (2 * x3_1)),eS,eS,H',⟨by have:=HK1.out;omega⟩,by repeat (first|exact Drawn0.refl _|apply Drawn0.step)⟩
   ·rw [if_neg c2] at H
    have c2b0:decide (0 < x0_1) = false:=decide_eq_false c2
    clear c2
    obtain rfl:=Option.some.inj H
    go_wp2
    go_ret
    exact⟨by first|rfl|(simp;done)|(simp [*];done),by repeat (first|exact Drawn0.refl _|apply Drawn0.step)⟩
end Go.Proofs.Ytjfoaiabbmkdpaa.QFnExactFmOf
