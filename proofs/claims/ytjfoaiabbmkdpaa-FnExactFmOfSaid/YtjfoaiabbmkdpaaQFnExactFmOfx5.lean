-- A walk, made by walk.py, a program of this session's.
import Derived.Test.YtjfoaiabbmkdpaaQFnExactFmOfx0
import Derived.Test.YtjfoaiabbmkdpaaQFnExactFmOfx3
namespace Go.Proofs.Ytjfoaiabbmkdpaa.QFnExactFmOf
open Go.RowKit Go.Proofs.YtjfoaiabbmkdpaaW.PrintWords Go.Proofs.YtjfoaiabbmkdpaaW.PrintLast Go.Proofs.YtjfoaiabbmkdpaaW.PrintMore
attribute [local go_sem] max2_int min2_int max_two min_two max_three min_three max_four min_four   -- for this text's walks alone
set_option linter.unusedVariables false
set_option linter.unusedSimpArgs false
/-! ### spec_PackOf: function 21 -/
mutual
def spec_PackOf.j0 : Nat → List Int → Int → Bool → Option (Int × Int × Int × List Int × Bool)
 | 0, _, _, _ => none
 | k + 1, x0, x1, x29 => if x29 = true then (some (0, 0, 0, ([] : List Int), false)) else (spec_PackOf.l0 k x0 x1 (([] : List Int)) 0)
def spec_PackOf.l0 : Nat → List Int → Int → List Int → Int → Option (Int × Int × Int × List Int × Bool)
 | 0, _, _, _, _ => none
 | k + 1, x0, x1, x6, x7 => if x7 < (x0.length : Int) then (if 0 ≤ x7 then (if (rd x0 x7) < 0 then (spec_PackOf.j2 k x0 x1 x6 x7 (rd x0 x7) true) else ((spec_l02Pow.f k x1).bind fun t231 => (spec_PackOf.j2 k x0 x1 x6 x7 (rd x0 x7) (decide ((rd x0 x7) ≥ t231))))) else (none)) else ((spec_BitsOf.f k x6).bind fun bt235 => (some (x1, (x0.length : Int), bt235.1, bt235.2.1, true)))
def spec_PackOf.j2 : Nat → List Int → Int → List Int → Int → Int → Bool → Option (Int × Int × Int × List Int × Bool)
 | 0, _, _, _, _, _, _ => none
 | k + 1, x0, x1, x6, x7, x8, x49 => if x49 = true then (some (0, 0, 0, ([] : List Int), false)) else (spec_PackOf.l1 k x0 x1 x6 x7 x8 0)
def spec_PackOf.l1 : Nat → List Int → Int → List Int → Int → Int → Int → Option (Int × Int × Int × List Int × Bool)
 | 0, _, _, _, _, _, _ => none
 | k + 1, x0, x1, x6, x7, x8, x9 => if x9 < x1 then (if x6.length < 17592186044416 then (spec_PackOf.l1 k x0 x1 (x6 ++ [Int.tmod x8 2]) x7 (wrap64 (Int.tdiv x8 2)) (wrap64 (x9 + 1))) else (none)) else (spec_PackOf.l0 k x0 x1 x6 (wrap64 (x7 + 1)))
end
def spec_PackOf.f (k : Nat) (l0 : List Int) (a1 : Int) : Option (Int × Int × Int × List Int × Bool) := if a1 < 0 then (spec_PackOf.j0 k l0 a1 true) else (if a1 > 32 then (spec_PackOf.j0 k l0 a1 true) else (if (l0.length : Int) > 5000 then (spec_PackOf.j0 k l0 a1 true) else (spec_PackOf.j0 k l0 a1 (decide ((wrap64 ((l0.length : Int) * a1)) > 5000)))))
set_option maxHeartbeats 8000000 in
set_option maxRecDepth 100000 in
theorem spec_PackOf.calls (k : Nat) (A0 : Option Addr) (c0 : Nat) (l0 : List Int) (a1 : Int) (r1 : Int) (r2 : Int) (r3 : Int) (r4 : List Int) (r5 : Bool) (w : World) (hr0 : Kd.C (Kd.int .i64) w A0 l0.length l0) (hc0 : l0.length ≤ c0) (h : spec_PackOf.f k l0 a1 = some (r1, r2, r3, r4, r5)) :
  Calls Try.prog 21 #[.slice A0 l0.length c0, .int .i64 a1] w fun e w' => ∃ v3_ : Value, e = .returned (.tuple #[.agg #[.int .i64 r1, .int .i64 r2, .int .i64 r3, v3_], .bool r5]) ∧ Kd.R (Kd.int .u64) 67 w' w.heap.size (fun _ => True) v3_ r4 ∧ Below w.heap.size w w' := by
 have hu31:=Try.underlying31
 have hu29:=Try.underlying29
 have HR0:=mk0 hr0
 have HC0:=mk0 hc0
 clear hr0 hc0
 have HB:=mk0 (Below.refl w.heap.size w)
 have H:(if a1 < 0 then (spec_PackOf.j0 k l0 a1 true) else (if a1 > 32 then (spec_PackOf.j0 k l0 a1 true) else (if (l0.length:Int) > 5000 then (spec_PackOf.j0 k l0 a1 true) else (spec_PackOf.j0 k l0 a1 (decide ((wrap64 ((l0.length:Int) * a1)) > 5000)))))) = some (r1,r2,r3,r4,r5):=h
 clear h
 have HC3:=mk0 H
 clear H
 go_enter Try.func21,Try.ntmps21
 go_upto_region 1 with (first|((with_reducible refine gate_dst (N:=4) rfl ?_);(try (refine gate_guard (by rfl) ?_;dsimp only));refine box_event ?hg (N:=4) ?hd (cs:=#[.int .i64 0,.int .i64 0,.int .i64 0,.slice none 0 0]) (t:=31) ?hr ?_;(case hd=>rfl);(case hg=>rfl);(case hr=>first|(go_simp;done)|(go_simp;rfl));intro gb226 hg w4 hbox hb;have BK226:=mk0 (hbox);have GW226:=mk0 ((by rw [hg];exact (kZ HB.out):w.heap.size ≤ gb226));have GE226:=mk0 ((by rw [hg];exact (kZ HB.out):w.heap.size ≤ gb226));replace HB:=mk0 (kS HB.out hb);clear hb hbox hg))
 (try simp only [Act.put,sA,sO,sS])
 go_cut [29] (fun v29 wc=>∃ (kq:Nat) (x29_2:Bool),v29 = .bool x29_2 ∧ Aside0 (spec_PackOf.j0 kq l0 a1 x29_2 = some (r1,r2,r3,r4,r5)) ∧ Aside0 (kq ≤ k) ∧ Aside0 (wc.heap[gb226]? = some (.cells #[.int .i64 0,.int .i64 0,.int .i64 0,(.slice none 0 0)] 31 (0,0))) ∧ Aside0 (Below w.heap.size w wc))
 case first =>
  have H:=HC3.out
  clear HC3
  by_cases c5:a1 < 0
  ·rw [if_pos c5] at H
   have c5b0:decide (a1 < 0) = true:=decide_eq_true c5
   clear c5
   (first|rw [c5b0]|(simp only [i64_w,i32_w];rw [c5b0])|skip)
   have H':=mk0 H
   clear H
   go_wp2
   go_meet
   case rel=>exact⟨_,(true),eS,H',⟨by first|omega|exact Nat.le_refl _⟩,⟨kN BK226.out⟩,⟨kB HB.out⟩⟩
  rw [if_neg c5] at H
  have c5b0:decide (a1 < 0) = false:=decide_eq_false c5
  clear c5
  (first|rw [c5b0]|(simp only [i64_w,i32_w];rw [c5b0])|skip)
  by_cases c6:a1 > 32
  ·rw [if_pos c6] at H
   have c6b0:decide (32 < a1) = true:=decide_eq_true c6
   clear c6
   have H':=mk0 H
   clear H
   go_wp2
   go_meet
   case rel=>exact⟨_,(true),eS,H',⟨by first|omega|exact Nat.le_refl _⟩,⟨kN BK226.out⟩,⟨kB HB.out⟩⟩
  rw [if_neg c6] at H
  have c6b0:decide (32 < a1) = false:=decide_eq_false c6
  clear c6
  by_cases c7:(l0.length:Int) > 5000
  ·rw [if_pos c7] at H
   have c7b0:decide (5000 < (l0.length:Int)) = true:=decide_eq_true c7
   have c7b1:decide (5000 < l0.length) = true:=decide_eq_true (by omega)
   clear c7
   have H':=mk0 H
   clear H
   go_wp2
   go_meet
   case rel=>exact⟨_,(true),eS,H',⟨by first|omega|exact Nat.le_refl _⟩,⟨kN BK226.out⟩,⟨kB HB.out⟩⟩
  rw [if_neg c7] at H
  have c7b0:decide (5000 < (l0.length:Int)) = false:=decide_eq_false c7
  have c7b1:decide (5000 < l0.length) = false:=decide_eq_false (by omega)
  clear c7
  have H':=mk0 H
  clear H
  go_wp2
  go_meet
  case rel=>exact⟨_,(decide ((wrap64 ((l0.length:Int) * a1)) > 5000)),eS,H',⟨by first|omega|exact Nat.le_refl _⟩,⟨kN BK226.out⟩,⟨kB HB.out⟩⟩
 case rest =>
  clear HC3
  try clear c2
  try clear p2
  try clear c5
  try clear c5b0
  try clear c6
  try clear c6b0
  try clear p6
  try clear c7
  try clear c7b0
  try clear c7b1
  obtain⟨kq,x29_2,rfl,HA,HJ2,BK226,HB⟩:=hcut
  cases kq with
  | zero=>exact absurd HA.out (by simp [spec_PackOf.j0])
  | succ kj2 =>
   have H:=HA.out
   clear HA
   simp only [spec_PackOf.j0] at H
   by_cases c8:x29_2 = true
   ·subst c8
    replace H:=iT H
    simp only [Option.some.injEq,Prod.mk.injEq] at H
    obtain⟨rfl,rfl,rfl,rfl,rfl⟩:=H
    obtain⟨hcz9_0,hcz9_1,hcz9_2,hcz9_3,hfz9_0,hfz9_1,hfz9_2,hfz9_3⟩:=cz4 BK226.out
    go_wp2
    refine bodyPost_ret (results_ct rfl _ _ gb226 31 #[.int .i64 0,.int .i64 0,.int .i64 0,.slice none 0 0] (0,0) _ rfl (by (with_reducible repeat (first|apply nB|apply dB|apply aB));refine blk_put (cs:=#[.int .i64 0,.int .i64 0,.int .i64 0,.slice none 0 0]) ?_ 3 _ rfl;(with_reducible repeat (first|apply nB|apply dB|apply aB));refine blk_put (cs:=#[.int .i64 0,.int .i64 0,.int .i64 0,.slice none 0 0]) ?_ 2 _ rfl;(with_reducible repeat (first|apply nB|apply dB|apply aB));refine blk_put (cs:=#[.int .i64 0,.int .i64 0,.int .i64 0,.slice none 0 0]) ?_ 1 _ rfl;(with_reducible repeat (first|apply nB|apply dB|apply aB));refine blk_put (cs:=#[.int .i64 0,.int .i64 0,.int .i64 0,.slice none 0 0]) ?_ 0 _ rfl;(with_reducible repeat (first|apply nB|apply dB|apply aB));exact BK226.out) Try.underlying31 rfl (by kernel_rfl)) rfl ?_
    exact⟨_,eR,by first|exact Kd.R_nil _ _ _ _ _|exact Kd.N_nil _ _ _ _ _|exact Kd.V_nil _ _ _ _ _|exact Kd.Q_nil _ _ _ _ _|exact Kd.S_nil _ _ _ _ _,kB HB.out⟩
   replace c8:=Bool.eq_false_iff.mpr c8
   subst c8
   replace H:=iF H
   obtain⟨y227,hy227⟩:∃ y_:List Int,y_ = (([]:List Int)):=⟨_,rfl⟩
   first|(with_reducible replace H:=yB hy227 H)|rw [← hy227] at H|skip
   have Ny227:=mk0 hy227
   clear hy227
   have H':=mk0 H
   clear H
   go_wp2_with (first|((with_reducible refine gate_dst (N:=31) rfl ?_);(try (refine gate_guard (by rfl) ?_;dsimp only));refine Kd.R_lit (Kd.int .i64) _ 3 ?hg (N:=31) ?hd (xs:=([]:List Int)) (inner:=[]) (ok:=fun _=>True) (okp:=fun _=>True) ?hr ?hp (fun _ hk=>hk) trivial (Below.refl _ _) (Nat.le_refl _) (by simp) ?_;(case hd=>rfl);(case hg=>rfl);(case hr=>first|(go_simp;done)|(go_simp;rfl));(case hp=>exact (Reps.none _ _));intro v228 w10 ho11 hb hg_ hnew_;clear hg_ hnew_;(first|rw [← Ny227.out] at ho11|(simp only [Int.reduceToNat] at ho11;rw [← Ny227.out] at ho11));have HO229:=mk0 (Kd.R_lower ho11 (kZ HB.out));replace BK226:=mk0 (kK BK226.out hb);replace HB:=mk0 (kS HB.out hb);clear hb ho11))
   go_loopg [6,7] kj2 (fun kq v6 v7 w'=>∃ (x6_2:List Int) (x7_2:Int) (x227000_2:Int) (x227001_2:Int) (x227002_2:Int),v7 = .int .i64 x7_2 ∧ Aside0 (spec_PackOf.l0 kq l0 a1 x6_2 x7_2 = some (r1,r2,r3,r4,r5)) ∧ Aside0 (kq ≤ kj2) ∧ Aside0 (Kd.R (Kd.int .i64) 3 w' w.heap.size (fun _=>True) v6 x6_2) ∧ Aside0 (w'.heap[gb226]? = some (.cells #[.int .i64 x227000_2,.int .i64 x227001_2,.int .i64 x227002_2,(.slice none 0 0)] 31 (0,0))) ∧ Aside0 (Below w.heap.size w w'))
   case atStart=>exact⟨(y227),(0),(0),(0),(0),eS,H',⟨Nat.le_refl _⟩,⟨rR HO229.out⟩,⟨kN BK226.out⟩,⟨kB HB.out⟩⟩
   case round =>
    clear H'
    try clear c2
    try clear p2
    try clear c5
    try clear c5b0
    try clear c6
    try clear c6b0
    try clear p6
    try clear c7
    try clear c7b0
    try clear c7b1
    try clear c8
    try clear hcz9_0
    try clear hcz9_1
    try clear hcz9_2
    try clear hcz9_3
    try clear hfz9_0
    try clear hfz9_1
    try clear hfz9_2
    try clear hfz9_3
    try clear p2
    try clear p6
    obtain⟨x6_2,x7_2,x227000_2,x227001_2,x227002_2,rfl,HA,HK2,HO_6,BK226,HB⟩:=hrel
    cases gk with
    | zero=>exact absurd HA.out (by simp [spec_PackOf.l0])
    | succ k2 =>
     have H:=HA.out
     clear HA
     simp only [spec_PackOf.l0] at H
     by_cases c12:x7_2 < (l0.length:Int)
     rotate_left
     ·rw [if_neg c12] at H
      have c12b0:decide (x7_2 < (l0.length:Int)) = false:=decide_eq_false c12
      clear c12
      replace H:=bE H
      obtain⟨⟨t235,t236,t239⟩,A22,H⟩:=H
      dsimp only at H
      simp only [Option.some.injEq,Prod.mk.injEq] at H
      obtain⟨rfl,rfl,rfl,rfl,rfl⟩:=H
      obtain⟨Ao23,co23,eo23⟩:=Kd.R_slice HO_6.out
      subst eo23
      go_wp2_with (first|((with_reducible refine gate_callee (f:=20) rfl ?_);refine gL (some 65) Try.func20 #[.slice Ao23 x6_2.length co23] ?_;(with_reducible refine (spec_BitsOf.calls k2 _ _ x6_2 t235 t236 t239 _ ?side1 ?side2 A22.out).mono ?_);(case side1=>exact kC (Kd.R_reads' HO_6.out).2.2);(case side2=>exact (Kd.R_reads' HO_6.out).2.1);rintro e w24 ⟨v237,rfl,ho0,hb⟩;refine⟨_,rfl,?_⟩;replace HO_6:=mk0 (bR HO_6.out hb);have HO238:=mk0 (Kd.R_lower ho0 (kZ HB.out));replace BK226:=mk0 (kK BK226.out hb);replace HB:=mk0 (kS HB.out hb);(try clear hb);(try clear ho0))|((with_reducible refine gate_dst (N:=10) rfl ?_);(try (refine gate_guard (by rfl) ?_;dsimp only));refine box_event ?hg (N:=10) ?hd (cs:=#[.int .i64 0,.slice none 0 0]) (t:=29) ?hr ?_;(case hd=>rfl);(case hg=>rfl);(case hr=>first|(go_simp;done)|(go_simp;rfl));intro gb240 hg w25 hbox hb;replace HO_6:=mk0 (bR HO_6.out hb);replace HO238:=mk0 (bR HO238.out hb);have BK240:=mk0 (hbox);have GW240:=mk0 ((by rw [hg];exact (kZ HB.out):w.heap.size ≤ gb240));have GE240:=mk0 ((by rw [hg];exact (kZ HB.out):w.heap.size ≤ gb240));replace HB:=mk0 (kS HB.out hb);have NB226_240:=mk0 ((by rw [hg];exact Nat.ne_of_lt (kL BK226.out):gb226 ≠ gb240));have NB240_226:=mk0 ((by rw [hg];exact Nat.ne_of_gt (kL BK226.out):gb240 ≠ gb226));replace BK226:=mk0 (kK BK226.out hb);clear hb hbox hg;have hnb26:=NB240_226.out;have hnc26:=NB226_240.out;obtain⟨hcz27_0,hcz27_1,hfz27_0,hfz27_1⟩:=cz2 BK240.out;obtain⟨Ao28,co28,eo28⟩:=Kd.R_slice HO238.out;subst eo28;obtain⟨hcz29_0,hcz29_1,hcz29_2,hcz29_3,hfz29_0,hfz29_1,hfz29_2,hfz29_3⟩:=cz4 BK226.out))
      refine bodyPost_ret (results_ct rfl _ _ gb226 31 #[.int .i64 a1,.int .i64 (l0.length:Int),.int .i64 t235,.slice Ao28 t236.length co28] (0,0) _ rfl (by (with_reducible repeat (first|apply nB|apply dB|apply aB));refine blk_put (cs:=#[.int .i64 a1,.int .i64 (l0.length:Int),.int .i64 t235,.slice none 0 0]) ?_ 3 _ rfl;(with_reducible repeat (first|apply nB|apply dB|apply aB));refine blk_put (cs:=#[.int .i64 a1,.int .i64 (l0.length:Int),.int .i64 x227002_2,.slice none 0 0]) ?_ 2 _ rfl;(with_reducible repeat (first|apply nB|apply dB|apply aB));refine blk_put (cs:=#[.int .i64 a1,.int .i64 x227001_2,.int .i64 x227002_2,.slice none 0 0]) ?_ 1 _ rfl;(with_reducible repeat (first|apply nB|apply dB|apply aB));refine blk_put (cs:=#[.int .i64 x227000_2,.int .i64 x227001_2,.int .i64 x227002_2,.slice none 0 0]) ?_ 0 _ rfl;(with_reducible repeat (first|apply nB|apply dB|apply aB));refine blk_far ?_ NB226_240.out _;(with_reducible repeat (first|apply nB|apply dB|apply aB));refine blk_far ?_ NB226_240.out _;(with_reducible repeat (first|apply nB|apply dB|apply aB));exact BK226.out) Try.underlying31 rfl (by kernel_rfl)) rfl ?_
      exact⟨_,eR,by (with_reducible repeat (first|apply aR|apply nR|apply dR));exact Kd.R_mono (Kd.R_far (p:=⟨gb226,3,none⟩) (Kd.R_far (p:=⟨gb226,2,none⟩) (Kd.R_far (p:=⟨gb226,1,none⟩) (Kd.R_far (p:=⟨gb226,0,none⟩) (Kd.R_far (p:=⟨gb240,1,none⟩) (Kd.R_far (p:=⟨gb240,0,none⟩) (Kd.R_types (Kd.R_types HO238.out BK240.out (by decide)) BK226.out (by decide)) (fun _ hk=>hk.1.2) (.int .i64 t235)) (fun _ hk=>hk.1.2) (.slice Ao28 t236.length co28)) (fun _ hk=>hk.2) (.int .i64 a1)) (fun _ hk=>hk.2) (.int .i64 (l0.length:Int))) (fun _ hk=>hk.2) (.int .i64 t235)) (fun _ hk=>hk.2) (.slice Ao28 t236.length co28)) (fun _ hk=>trivial),kB HB.out⟩
     rw [if_pos c12] at H
     have c12b0:decide (x7_2 < (l0.length:Int)) = true:=decide_eq_true c12
     clear c12
     by_cases c13:0 ≤ x7_2
     rotate_left
     ·rw [if_neg c13] at H
      exact nn H
     rw [if_pos c13] at H
     have c13b0:decide (0 ≤ x7_2) = true:=decide_eq_true c13
     clear c13
     have HC14:=mk0 H
     clear H
     have p230:0 ≤ (x7_2:Int):=oD
     have q230:x7_2 < (l0.length:Int):=oD
     obtain⟨ad230,e230,hx230_0⟩:=Kd.at_int HR0.out x7_2 p230 q230
     cases e230
     replace hx230_0:=(HB.out.cell (World.block_lt_of_cell? w _ hx230_0)).trans hx230_0
     replace p230:=eq_true p230
     replace q230:=eq_true q230
     go_upto_region 8 with (fail)
     go_cut [49] (fun v49 wc=>∃ (kq:Nat) (x49_13:Bool),v49 = .bool x49_13 ∧ Aside0 (spec_PackOf.j2 kq l0 a1 x6_2 x7_2 (rd l0 x7_2) x49_13 = some (r1,r2,r3,r4,r5)) ∧ Aside0 (kq ≤ k2) ∧ Aside0 (Kd.R (Kd.int .i64) 3 wc w.heap.size (fun _=>True) u6 x6_2) ∧ Aside0 (wc.heap[gb226]? = some (.cells #[.int .i64 x227000_2,.int .i64 x227001_2,.int .i64 x227002_2,(.slice none 0 0)] 31 (0,0))) ∧ Aside0 (Below w.heap.size w wc))
     case first =>
      have H:=HC14.out
      clear HC14
      by_cases c15:(rd l0 x7_2) < 0
      ·rw [if_pos c15] at H
       have c15b0:decide ((rd l0 x7_2) < 0) = true:=decide_eq_true c15
       clear c15
       (first|rw [c15b0]|(simp only [i64_w,i32_w];rw [c15b0])|skip)
       have H':=mk0 H
       clear H
       go_wp2
       go_meet
       case rel=>exact⟨_,(true),eS,H',⟨by have:=HJ2.out;have:=HK2.out;first|omega|exact Nat.le_refl _⟩,⟨rR HO_6.out⟩,⟨kN BK226.out⟩,⟨kB HB.out⟩⟩
      rw [if_neg c15] at H
      have c15b0:decide ((rd l0 x7_2) < 0) = false:=decide_eq_false c15
      clear c15
      (first|rw [c15b0]|(simp only [i64_w,i32_w];rw [c15b0])|skip)
      replace H:=bE H
      obtain⟨t231,A16,H⟩:=H
      have H':=mk0 H
      clear H
      go_wp2_with (first|(go_at_call 40;(with_reducible refine (spec_l02Pow.calls k2 a1 t231 _ A16.out).mono ?_);rintro e w' ⟨rfl,⟨nd,rfl⟩⟩))
      go_meet
      case rel=>exact⟨_,(decide ((rd l0 x7_2) ≥ t231)),eS,H',⟨by have:=HJ2.out;have:=HK2.out;first|omega|exact Nat.le_refl _⟩,⟨rR HO_6.out⟩,⟨kN BK226.out⟩,⟨kB HB.out⟩⟩
     case rest =>
      clear HC14
      try clear c1
      try clear c2
      try clear p2
      try clear q2
      try clear hx2
      try clear c5
      try clear c5b0
      try clear c6
      try clear c6b0
      try clear p6
      try clear c7
      try clear c7b0
      try clear c7b1
      try clear c8
      try clear c12
      try clear c12b0
      try clear c13
      try clear c13b0
      try clear c15
      try clear c15b0
      try clear hcz9_0
      try clear hcz9_1
      try clear hcz9_2
      try clear hcz9_3
      try clear hfz9_0
      try clear hfz9_1
      try clear hfz9_2
      try clear hfz9_3
      try clear hx230_0
      try clear p2
      try clear p230
      try clear p6
      try clear q230
      obtain⟨kq,x49_13,rfl,HA,HJ13,HO_6,BK226,HB⟩:=hcut
      cases kq with
      | zero=>exact absurd HA.out (by simp [spec_PackOf.j2])
      | succ kj13 =>
       have H:=HA.out
       clear HA
       simp only [spec_PackOf.j2] at H
       by_cases c17:x49_13 = true
       ·subst c17
        replace H:=iT H
        simp only [Option.some.injEq,Prod.mk.injEq] at H
        obtain⟨rfl,rfl,rfl,rfl,rfl⟩:=H
        obtain⟨hcz18_0,hcz18_1,hcz18_2,hcz18_3,hfz18_0,hfz18_1,hfz18_2,hfz18_3⟩:=cz4 BK226.out
        go_wp2
        refine bodyPost_ret (results_ct rfl _ _ gb226 31 #[.int .i64 0,.int .i64 0,.int .i64 0,.slice none 0 0] (0,0) _ rfl (by (with_reducible repeat (first|apply nB|apply dB|apply aB));refine blk_put (cs:=#[.int .i64 0,.int .i64 0,.int .i64 0,.slice none 0 0]) ?_ 3 _ rfl;(with_reducible repeat (first|apply nB|apply dB|apply aB));refine blk_put (cs:=#[.int .i64 0,.int .i64 0,.int .i64 x227002_2,.slice none 0 0]) ?_ 2 _ rfl;(with_reducible repeat (first|apply nB|apply dB|apply aB));refine blk_put (cs:=#[.int .i64 0,.int .i64 x227001_2,.int .i64 x227002_2,.slice none 0 0]) ?_ 1 _ rfl;(with_reducible repeat (first|apply nB|apply dB|apply aB));refine blk_put (cs:=#[.int .i64 x227000_2,.int .i64 x227001_2,.int .i64 x227002_2,.slice none 0 0]) ?_ 0 _ rfl;(with_reducible repeat (first|apply nB|apply dB|apply aB));exact BK226.out) Try.underlying31 rfl (by kernel_rfl)) rfl ?_
        exact⟨_,eR,by first|exact Kd.R_nil _ _ _ _ _|exact Kd.N_nil _ _ _ _ _|exact Kd.V_nil _ _ _ _ _|exact Kd.Q_nil _ _ _ _ _|exact Kd.S_nil _ _ _ _ _,kB HB.out⟩
       replace c17:=Bool.eq_false_iff.mpr c17
       subst c17
       replace H:=iF H
       have H':=mk0 H
       clear H
       go_wp2
       go_loopg [6,8,9] kj13 (fun kq v6 v8 v9 w'=>∃ (x6_4:List Int) (x8_4:Int) (x9_4:Int),v8 = .int .i64 x8_4 ∧ v9 = .int .i64 x9_4 ∧ Aside0 (spec_PackOf.l1 kq l0 a1 x6_4 x7_2 x8_4 x9_4 = some (r1,r2,r3,r4,r5)) ∧ Aside0 (kq ≤ kj13) ∧ Aside0 (Kd.R (Kd.int .i64) 3 w' w.heap.size (fun _=>True) v6 x6_4) ∧ Aside0 (w'.heap[gb226]? = some (.cells #[.int .i64 x227000_2,.int .i64 x227001_2,.int .i64 x227002_2,(.slice none 0 0)] 31 (0,0))) ∧ Aside0 (Below w.heap.size w w'))
       case atStart=>exact⟨(x6_2),((rd l0 x7_2)),(0),eS,eS,H',⟨Nat.le_refl _⟩,⟨rR HO_6.out⟩,⟨kN BK226.out⟩,⟨kB HB.out⟩⟩
       case round =>
        clear H'
        try clear c1
        try clear c2
        try clear p2
        try clear q2
        try clear hx2
        try clear c5
        try clear c5b0
        try clear c6
        try clear c6b0
        try clear p6
        try clear c7
        try clear c7b0
        try clear c7b1
        try clear c8
        try clear c12
        try clear c12b0
        try clear c13
        try clear c13b0
        try clear c15
        try clear c15b0
        try clear c17
        try clear hcz18_0
        try clear hcz18_1
        try clear hcz18_2
        try clear hcz18_3
        try clear hcz9_0
        try clear hcz9_1
        try clear hcz9_2
        try clear hcz9_3
        try clear hfz18_0
        try clear hfz18_1
        try clear hfz18_2
        try clear hfz18_3
        try clear hfz9_0
        try clear hfz9_1
        try clear hfz9_2
        try clear hfz9_3
        try clear hx230_0
        try clear p2
        try clear p230
        try clear p6
        try clear q2
        try clear q230
        obtain⟨x6_4,x8_4,x9_4,rfl,rfl,HA,HK4,HO_6,BK226,HB⟩:=hrel
        cases gk with
        | zero=>exact absurd HA.out (by simp [spec_PackOf.l1])
        | succ k4 =>
         have H:=HA.out
         clear HA
         simp only [spec_PackOf.l1] at H
         by_cases c19:x9_4 < a1
         rotate_left
         ·rw [if_neg c19] at H
          have c19b0:decide (x9_4 < a1) = false:=decide_eq_false c19
          clear c19
          have H':=mk0 H
          clear H
          go_wp2
          go_roundg k4
          case measure=>have:=HJ2.out;have:=HK2.out;have:=HJ13.out;have:=HK4.out;omega
          case rel=>exact⟨(x6_4),(wrap64 (x7_2 + 1)),(x227000_2),(x227001_2),(x227002_2),eS,H',⟨by have:=HJ2.out;have:=HK2.out;have:=HJ13.out;have:=HK4.out;omega⟩,⟨rR HO_6.out⟩,⟨kN BK226.out⟩,⟨kB HB.out⟩⟩
         rw [if_pos c19] at H
         have c19b0:decide (x9_4 < a1) = true:=decide_eq_true c19
         clear c19
         by_cases c20:x6_4.length < 17592186044416
         rotate_left
         ·rw [if_neg c20] at H
          exact nn H
         rw [if_pos c20] at H
         have LMc20:=mk0 c20
         clear c20
         obtain⟨y232,hy232⟩:∃ y_:List Int,y_ = (x6_4 ++ [Int.tmod x8_4 2]):=⟨_,rfl⟩
         first|(with_reducible replace H:=yB hy232 H)|rw [← hy232] at H|skip
         have Ny232:=mk0 hy232
         clear hy232
         have H':=mk0 H
         clear H
         go_wp2_with (first|((with_reducible refine gate_builtin (b:=.append) (xs:=#[.tmp 56,.tmp 59]) rfl ?_);(try (refine gate_guard (by rfl) ?_;dsimp only));at_builtin;refine Kd.R_append (Kd.int .i64) (w0:=w) w.heap.size rfl (.tmp 56) (.tmp 59) 23 3 (.int .i64 0) 8 rfl Try.underlying23 info3 rfl (by decide) (by omega) u6 x6_4 (Int.tmod x8_4 2) [.int .i64 (Int.tmod x8_4 2)] (fun _=>True) (fun _=>False) rfl rfl ?aP (fun _ hk=>hk.elim) ?aF ?aO ?aB ?aS ?aL ?_;(case aP=>exact rfl);(case aB=>exact (kB HB.out));(case aF=>exact (fun _ _=>trivial));(case aO=>exact (rR HO_6.out));(case aS=>exact (kZ HB.out));(case aL=>have:=LMc20.out;omega);intro v233 w21 ho hb hg hat;rw [← Ny232.out] at ho;replace BK226:=mk0 (blk_grown (kN BK226.out) hg (Kd.R_ne HO_6.out BK226.out (by decide)));replace HB:=mk0 (hb);have HO234:=mk0 (ho);clear HO_6 ho hb hg hat))
         go_roundg k4
         case measure=>have:=HJ2.out;have:=HK2.out;have:=HJ13.out;have:=HK4.out;omega
         case rel=>exact⟨(y232),(wrap64 (Int.tdiv x8_4 2)),(wrap64 (x9_4 + 1)),eS,eS,H',⟨by have:=HJ2.out;have:=HK2.out;have:=HJ13.out;have:=HK4.out;omega⟩,⟨rR HO234.out⟩,⟨kN BK226.out⟩,⟨kB HB.out⟩⟩
/-! ### spec_WidthOf: function 22 -/
def spec_WidthOf.l0 : Nat → Int → Int → Option (Int)
 | 0, _, _ => none
 | k + 1, x0, x3 => if x0 > 0 then (spec_WidthOf.l0 k (wrap64 (Int.tdiv x0 2)) (wrap64 (x3 + 1))) else (some x3)
def spec_WidthOf.f (k : Nat) (a0 : Int) : Option (Int) := if a0 < 0 then (some (-1)) else (spec_WidthOf.l0 k a0 0)
set_option maxHeartbeats 8000000 in
set_option maxRecDepth 100000 in
theorem spec_WidthOf.calls (k : Nat) (a0 : Int) (r : Int) (w : World) (h : spec_WidthOf.f k a0 = some r) :
  Calls Try.prog 22 #[.int .i64 a0] w fun e w' => e = .returned (.int .i64 r) ∧ Drawn0 w w' := by
 have H:(if a0 < 0 then (some (-1)) else (spec_WidthOf.l0 k a0 0)) = some r:=h
 clear h
 by_cases c2:a0 < 0
 ·rw [if_pos c2] at H
  have c2b0:decide (a0 < 0) = true:=decide_eq_true c2
  clear c2
  obtain rfl:=Option.some.inj H
  go_enter Try.func22,Try.ntmps22
  go_wp2
  go_ret
  exact⟨by first|rfl|(simp;done)|(simp [*];done),by repeat (first|exact Drawn0.refl _|apply Drawn0.step)⟩
 ·rw [if_neg c2] at H
  have c2b0:decide (a0 < 0) = false:=decide_eq_false c2
  clear c2
  have H':=mk0 H
  clear H
  go_enter Try.func22,Try.ntmps22
  go_wp2
  go_loopg [0,3] k (fun kq v0 v3 w'=>∃ (x0_1:Int) (x3_1:Int),v0 = .int .i64 x0_1 ∧ v3 = .int .i64 x3_1 ∧ Aside0 (spec_WidthOf.l0 kq x0_1 x3_1 = some r) ∧ Aside0 (kq ≤ k) ∧ Drawn0 w w')
  case atStart=>exact⟨(a0),(0),eS,eS,H',⟨Nat.le_refl _⟩,by repeat (first|exact Drawn0.refl _|apply Drawn0.step)⟩
  case round =>
   clear H'
   try clear c2
   try clear c2b0
   try clear p2
   obtain⟨x0_1,x3_1,rfl,rfl,HA,HK1,⟨m1,rfl⟩⟩:=hrel
   cases gk with
   | zero=>exact absurd HA.out (by simp [spec_WidthOf.l0])
   | succ k1 =>
    have H:=HA.out
    clear HA
    simp only [spec_WidthOf.l0] at H
    by_cases c3:x0_1 > 0
    ·rw [if_pos c3] at H
     have c3b0:decide (0 < x0_1) = true:=decide_eq_true c3
     clear c3
     have H':=mk0 H
     clear H
     go_wp2
     go_roundg k1
     case measure=>have:=HK1.out;omega
     case rel=>exact⟨(wrap64 (Int.tdiv x0_1 2)),(wrap64 (x3_1 + 1)),eS,eS,H',⟨by have:=HK1.out;omega⟩,by repeat (first|exact Drawn0.refl _|apply Drawn0.step)⟩
    ·rw [if_neg c3] at H
     have c3b0:decide (0 < x0_1) = false:=decide_eq_false c3
     clear c3
     obtain rfl:=Option.some.inj H
     go_wp2
     go_ret
     exact⟨by first|rfl|(simp;done)|(simp [*];done),by repeat (first|exact Drawn0.refl _|apply Drawn0.step)⟩
end Go.Proofs.Ytjfoaiabbmkdpaa.QFnExactFmOf
