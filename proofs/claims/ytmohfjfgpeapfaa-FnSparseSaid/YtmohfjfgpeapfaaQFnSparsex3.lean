-- A walk, made by walk.py, a program of this session's.
import Derived.Test.YtmohfjfgpeapfaaQFnSparsex0
import Derived.Test.YtmohfjfgpeapfaaQFnSparsex1
import Derived.Test.YtmohfjfgpeapfaaQFnSparsex2
namespace Go.Proofs.Ytmohfjfgpeapfaa.QFnSparse
open Go.RowKit Go.Proofs.YtmohfjfgpeapfaaW.PrintWords Go.Proofs.YtmohfjfgpeapfaaW.PrintLast Go.Proofs.YtmohfjfgpeapfaaW.PrintMore
attribute [local go_sem] max2_int min2_int max_two min_two max_three min_three max_four min_four   -- for this text's walks alone
set_option linter.unusedVariables false
set_option linter.unusedSimpArgs false

/-! ### spec_PackOf: function 29 -/
mutual
def spec_PackOf.j0 : Nat → List Int → Int → Bool → Option (Int × Int × Int × List Int × Bool)
 | 0, _, _, _ => none
 | k + 1, x0, x1, x29 => if x29 = true then (some (0, 0, 0, ([] : List Int), false)) else (spec_PackOf.l0 k x0 x1 (([] : List Int)) 0)
def spec_PackOf.l0 : Nat → List Int → Int → List Int → Int → Option (Int × Int × Int × List Int × Bool)
 | 0, _, _, _, _ => none
 | k + 1, x0, x1, x6, x7 => if x7 < (x0.length : Int) then (if 0 ≤ x7 then (if (rd x0 x7) < 0 then (spec_PackOf.j2 k x0 x1 x6 x7 (rd x0 x7) true) else ((spec_l02Pow.f k x1).bind fun t203 => (spec_PackOf.j2 k x0 x1 x6 x7 (rd x0 x7) (decide ((rd x0 x7) ≥ t203))))) else (none)) else ((spec_BitsOf.f k x6).bind fun bt207 => (some (x1, (x0.length : Int), bt207.1, bt207.2.1, true)))
def spec_PackOf.j2 : Nat → List Int → Int → List Int → Int → Int → Bool → Option (Int × Int × Int × List Int × Bool)
 | 0, _, _, _, _, _, _ => none
 | k + 1, x0, x1, x6, x7, x8, x49 => if x49 = true then (some (0, 0, 0, ([] : List Int), false)) else (spec_PackOf.l1 k x0 x1 x6 x7 x8 0)
def spec_PackOf.l1 : Nat → List Int → Int → List Int → Int → Int → Int → Option (Int × Int × Int × List Int × Bool)
 | 0, _, _, _, _, _, _ => none
 | k + 1, x0, x1, x6, x7, x8, x9 => if x9 < x1 then (if x6.length < 17592186044416 then (spec_PackOf.l1 k x0 x1 (x6 ++ [Int.tmod x8 2]) x7 (wrap64 (Int.tdiv x8 2)) (wrap64 (x9 + 1))) else (none)) else (spec_PackOf.l0 k x0 x1 x6 (wrap64 (x7 + 1)))
end
def spec_PackOf.f (k : Nat) (l0 : List Int) (a1 : Int) : Option (Int × Int × Int × List Int × Bool) := if a1 < 0 then (spec_PackOf.j0 k l0 a1 true) else (if a1 > 32 then (spec_PackOf.j0 k l0 a1 true) else (if (l0.length : Int) > 5000 then (spec_PackOf.j0 k l0 a1 true) else (spec_PackOf.j0 k l0 a1 (decide ((wrap64 ((l0.length : Int) * a1)) > 5000)))))
theorem spec_PackOf.mono_l : ∀ k, (∀ y0 y1 y2, LeO (spec_PackOf.j0 k y0 y1 y2) (spec_PackOf.j0 (k + 1) y0 y1 y2)) ∧ (∀ y0 y1 y2 y3, LeO (spec_PackOf.l0 k y0 y1 y2 y3) (spec_PackOf.l0 (k + 1) y0 y1 y2 y3)) ∧ (∀ y0 y1 y2 y3 y4 y5, LeO (spec_PackOf.j2 k y0 y1 y2 y3 y4 y5) (spec_PackOf.j2 (k + 1) y0 y1 y2 y3 y4 y5)) ∧ (∀ y0 y1 y2 y3 y4 y5, LeO (spec_PackOf.l1 k y0 y1 y2 y3 y4 y5) (spec_PackOf.l1 (k + 1) y0 y1 y2 y3 y4 y5))
 | 0 => ⟨fun _ _ _ r h => by simp [spec_PackOf.j0] at h, fun _ _ _ _ r h => by simp [spec_PackOf.l0] at h, fun _ _ _ _ _ _ r h => by simp [spec_PackOf.j2] at h, fun _ _ _ _ _ _ r h => by simp [spec_PackOf.l1] at h⟩
 | k + 1 => by
  obtain ⟨ih0, ih1, ih2, ih3⟩ := spec_PackOf.mono_l k
  refine ⟨?_, ?_, ?_, ?_⟩
  ·intro y0 y1 y2
   unfold spec_PackOf.j0
   repeat' first|(with_reducible first|exact ih0 _ _ _|exact ih1 _ _ _ _|exact ih2 _ _ _ _ _ _|exact ih3 _ _ _ _ _ _|exact spec_BitsOf.mono _ _|exact spec_l02Pow.mono _ _|exact LeO.refl _|exact LeO.none _|refine LeO.ite ?_ ?_|refine LeO.bind ?_ (fun _ => ?_))|exact LeO.none _|refine LeO.ite ?_ ?_|refine LeO.bind ?_ (fun _ => ?_)
  ·intro y0 y1 y2 y3
   unfold spec_PackOf.l0
   repeat' first|(with_reducible first|exact ih0 _ _ _|exact ih1 _ _ _ _|exact ih2 _ _ _ _ _ _|exact ih3 _ _ _ _ _ _|exact spec_BitsOf.mono _ _|exact spec_l02Pow.mono _ _|exact LeO.refl _|exact LeO.none _|refine LeO.ite ?_ ?_|refine LeO.bind ?_ (fun _ => ?_))|exact LeO.none _|refine LeO.ite ?_ ?_|refine LeO.bind ?_ (fun _ => ?_)
  ·intro y0 y1 y2 y3 y4 y5
   unfold spec_PackOf.j2
   repeat' first|(with_reducible first|exact ih0 _ _ _|exact ih1 _ _ _ _|exact ih2 _ _ _ _ _ _|exact ih3 _ _ _ _ _ _|exact spec_BitsOf.mono _ _|exact spec_l02Pow.mono _ _|exact LeO.refl _|exact LeO.none _|refine LeO.ite ?_ ?_|refine LeO.bind ?_ (fun _ => ?_))|exact LeO.none _|refine LeO.ite ?_ ?_|refine LeO.bind ?_ (fun _ => ?_)
  ·intro y0 y1 y2 y3 y4 y5
   unfold spec_PackOf.l1
   repeat' first|(with_reducible first|exact ih0 _ _ _|exact ih1 _ _ _ _|exact ih2 _ _ _ _ _ _|exact ih3 _ _ _ _ _ _|exact spec_BitsOf.mono _ _|exact spec_l02Pow.mono _ _|exact LeO.refl _|exact LeO.none _|refine LeO.ite ?_ ?_|refine LeO.bind ?_ (fun _ => ?_))|exact LeO.none _|refine LeO.ite ?_ ?_|refine LeO.bind ?_ (fun _ => ?_)
theorem spec_PackOf.mono : ∀ a0 a1 k, LeO (spec_PackOf.f k a0 a1) (spec_PackOf.f (k + 1) a0 a1) := by
 intro a0 a1 k
 obtain ⟨ih0, ih1, ih2, ih3⟩ := spec_PackOf.mono_l k
 unfold spec_PackOf.f
 repeat' first|(with_reducible first|exact ih0 _ _ _|exact ih1 _ _ _ _|exact ih2 _ _ _ _ _ _|exact ih3 _ _ _ _ _ _|exact spec_BitsOf.mono _ _|exact spec_l02Pow.mono _ _|exact LeO.refl _|exact LeO.none _|refine LeO.ite ?_ ?_|refine LeO.bind ?_ (fun _ => ?_))|exact LeO.none _|refine LeO.ite ?_ ?_|refine LeO.bind ?_ (fun _ => ?_)
set_option maxHeartbeats 8000000 in
set_option maxRecDepth 100000 in
theorem spec_PackOf.calls (k : Nat) (A0 : Option Addr) (c0 : Nat) (l0 : List Int) (a1 : Int) (r1 : Int) (r2 : Int) (r3 : Int) (r4 : List Int) (r5 : Bool) (w : World) (hr0 : Kd.C (Kd.int .i64) w A0 l0.length l0) (hc0 : l0.length ≤ c0) (h : spec_PackOf.f k l0 a1 = some (r1, r2, r3, r4, r5)) :
  Calls Try.prog 29 #[.slice A0 l0.length c0, .int .i64 a1] w fun e w' => ∃ v3_ : Value, e = .returned (.tuple #[.agg #[.int .i64 r1, .int .i64 r2, .int .i64 r3, v3_], .bool r5]) ∧ Kd.R (Kd.int .u64) 78 w' w.heap.size (fun _ => True) v3_ r4 ∧ Below w.heap.size w w' := by
 have hu31:=Try.underlying31
 have hu29:=Try.underlying29
 have HR0:=mk0 hr0
 have HC0:=mk0 hc0
 clear hr0 hc0
 have HB:=mk0 (Below.refl w.heap.size w)
 have H:(if a1 < 0 then (spec_PackOf.j0 k l0 a1 true) else (if a1 > 32 then (spec_PackOf.j0 k l0 a1 true) else (if (l0.length:Int) > 5000 then (spec_PackOf.j0 k l0 a1 true) else (spec_PackOf.j0 k l0 a1 (decide ((wrap64 ((l0.length:Int) * a1)) > 5000)))))) = some (r1,r2,r3,r4,r5):=h
 clear h
 have HC3:=mk0 H
 clear H
 go_enter Try.func29,Try.ntmps29
 go_upto_region 1 with (first|((with_reducible refine gate_dst (N:=4) rfl ?_);(try (refine gate_guard (by rfl) ?_;dsimp only));refine box_event ?hg (N:=4) ?hd (cs:=#[.int .i64 0,.int .i64 0,.int .i64 0,.slice none 0 0]) (t:=31) ?hr ?_;(case hd=>rfl);(case hg=>rfl);(case hr=>first|(go_simp;done)|(go_simp;rfl));intro gb198 hg w4 hbox hb;have BK198:=mk0 (hbox);have GW198:=mk0 ((by rw [hg];exact (kZ HB.out):w.heap.size ≤ gb198));have GE198:=mk0 ((by rw [hg];exact (kZ HB.out):w.heap.size ≤ gb198));replace HB:=mk0 (kS HB.out hb);clear hb hbox hg))
 (try simp only [Act.put,sA,sO,sS])
 go_cut [29] (fun v29 wc=>∃ (kq:Nat) (x29_2:Bool),v29 = .bool x29_2 ∧ Aside0 (spec_PackOf.j0 kq l0 a1 x29_2 = some (r1,r2,r3,r4,r5)) ∧ Aside0 (kq ≤ k) ∧ Aside0 (wc.heap[gb198]? = some (.cells #[.int .i64 0,.int .i64 0,.int .i64 0,(.slice none 0 0)] 31 (0,0))) ∧ Aside0 (Below w.heap.size w wc))
 case first =>
  have H:=HC3.out
  clear HC3
  by_cases c5:a1 < 0
  ·rw [if_pos c5] at H
   have c5b0:decide (a1 < 0) = true:=decide_eq_true c5
   clear c5
   (first|rw [c5b0]|(simp only [i64_w,i32_w];rw [c5b0])|skip)
   have H':=mk0 H
   clear H
   go_wp2
   go_meet
   case rel=>exact⟨_,(true),(by first|rfl|(simp;done)|(simp [*];done)),H',⟨by first|omega|exact Nat.le_refl _⟩,⟨kN BK198.out⟩,⟨kB HB.out⟩⟩
  rw [if_neg c5] at H
  have c5b0:decide (a1 < 0) = false:=decide_eq_false c5
  clear c5
  (first|rw [c5b0]|(simp only [i64_w,i32_w];rw [c5b0])|skip)
  by_cases c6:a1 > 32
  ·rw [if_pos c6] at H
   have c6b0:decide (32 < a1) = true:=decide_eq_true c6
   clear c6
   have H':=mk0 H
   clear H
   go_wp2
   go_meet
   case rel=>exact⟨_,(true),(by first|rfl|(simp;done)|(simp [*];done)),H',⟨by first|omega|exact Nat.le_refl _⟩,⟨kN BK198.out⟩,⟨kB HB.out⟩⟩
  rw [if_neg c6] at H
  have c6b0:decide (32 < a1) = false:=decide_eq_false c6
  clear c6
  by_cases c7:(l0.length:Int) > 5000
  ·rw [if_pos c7] at H
   have c7b0:decide (5000 < (l0.length:Int)) = true:=decide_eq_true c7
   have c7b1:decide (5000 < l0.length) = true:=decide_eq_true (by omega)
   clear c7
   have H':=mk0 H
   clear H
   go_wp2
   go_meet
   case rel=>exact⟨_,(true),(by first|rfl|(simp;done)|(simp [*];done)),H',⟨by first|omega|exact Nat.le_refl _⟩,⟨kN BK198.out⟩,⟨kB HB.out⟩⟩
  rw [if_neg c7] at H
  have c7b0:decide (5000 < (l0.length:Int)) = false:=decide_eq_false c7
  have c7b1:decide (5000 < l0.length) = false:=decide_eq_false (by omega)
  clear c7
  have H':=mk0 H
  clear H
  go_wp2
  go_meet
  case rel=>exact⟨_,(decide ((wrap64 ((l0.length:Int) * a1)) > 5000)),(by first|rfl|(simp;done)|(simp [*];done)),H',⟨by first|omega|exact Nat.le_refl _⟩,⟨kN BK198.out⟩,⟨kB HB.out⟩⟩
 case rest =>
  clear HC3
  try clear c2
  try clear p2
  try clear c5
  try clear c5b0
  try clear c6
  try clear c6b0
  try clear p6
  try clear c7
  try clear c7b0
  try clear c7b1
  obtain⟨kq,x29_2,rfl,HA,HJ2,BK198,HB⟩:=hcut
  cases kq with
  | zero=>exact absurd HA.out (by simp [spec_PackOf.j0])
  | succ kj2 =>
   have H:=HA.out
   clear HA
   simp only [spec_PackOf.j0] at H
   by_cases c8:x29_2 = true
   ·subst c8
    have H1:(some (0,0,0,([]:List Int),false)) = some (r1,r2,r3,r4,r5):=by rw [if_pos rfl] at H;exact H
    clear H
    have H:=H1
    clear H1
    simp only [Option.some.injEq,Prod.mk.injEq] at H
    obtain⟨rfl,rfl,rfl,rfl,rfl⟩:=H
    obtain⟨hcz9_0,hcz9_1,hcz9_2,hcz9_3,hfz9_0,hfz9_1,hfz9_2,hfz9_3⟩:=cz4 BK198.out
    go_wp2
    refine bodyPost_ret (results_ct rfl _ _ gb198 31 #[.int .i64 0,.int .i64 0,.int .i64 0,.slice none 0 0] (0,0) _ rfl (by (with_reducible repeat (first|apply nB|apply dB|apply aB));refine blk_put (cs:=#[.int .i64 0,.int .i64 0,.int .i64 0,.slice none 0 0]) ?_ 3 _ rfl;(with_reducible repeat (first|apply nB|apply dB|apply aB));refine blk_put (cs:=#[.int .i64 0,.int .i64 0,.int .i64 0,.slice none 0 0]) ?_ 2 _ rfl;(with_reducible repeat (first|apply nB|apply dB|apply aB));refine blk_put (cs:=#[.int .i64 0,.int .i64 0,.int .i64 0,.slice none 0 0]) ?_ 1 _ rfl;(with_reducible repeat (first|apply nB|apply dB|apply aB));refine blk_put (cs:=#[.int .i64 0,.int .i64 0,.int .i64 0,.slice none 0 0]) ?_ 0 _ rfl;(with_reducible repeat (first|apply nB|apply dB|apply aB));exact BK198.out) Try.underlying31 rfl (by kernel_rfl)) rfl ?_
    exact⟨_,by first|rfl|(simp [errW_none,errW_some] <;> rfl)|(simp [*,errW_none,errW_some] <;> rfl),by first|exact Kd.R_nil _ _ _ _ _|exact Kd.N_nil _ _ _ _ _|exact Kd.V_nil _ _ _ _ _|exact Kd.Q_nil _ _ _ _ _|exact Kd.S_nil _ _ _ _ _,kB HB.out⟩
   replace c8:=Bool.eq_false_iff.mpr c8
   subst c8
   have H1:(spec_PackOf.l0 kj2 l0 a1 (([]:List Int)) 0) = some (r1,r2,r3,r4,r5):=by rw [if_neg (show ¬ (false = true) by decide)] at H;exact H
   clear H
   have H:=H1
   clear H1
   obtain⟨y199,hy199⟩:∃ y_:List Int,y_ = (([]:List Int)):=⟨_,rfl⟩
   replace H:(spec_PackOf.l0 kj2 l0 a1 y199 0) = some (r1,r2,r3,r4,r5):=by first|(rw [hy199];with_reducible exact H)|(have H2_:=(Option.bind_some _ _).symm.trans H;rw [hy199];with_reducible exact H2_)|(have H2_:=(Option.bind_some _ _).symm.trans H;with_reducible exact H2_)|with_reducible exact H|(rw [hy199];exact H)|exact H
   have Ny199:=mk0 hy199
   clear hy199
   have H':=mk0 H
   clear H
   go_wp2_with (first|((with_reducible refine gate_dst (N:=31) rfl ?_);(try (refine gate_guard (by rfl) ?_;dsimp only));refine Kd.R_lit (Kd.int .i64) _ 3 ?hg (N:=31) ?hd (xs:=([]:List Int)) (inner:=[]) (ok:=fun _=>True) (okp:=fun _=>True) ?hr ?hp (fun _ hk=>hk) trivial (Below.refl _ _) (Nat.le_refl _) (by simp) ?_;(case hd=>rfl);(case hg=>rfl);(case hr=>first|(go_simp;done)|(go_simp;rfl));(case hp=>exact (Reps.none _ _));intro v200 w10 ho11 hb hg_ hnew_;clear hg_ hnew_;(first|rw [← Ny199.out] at ho11|(simp only [Int.reduceToNat] at ho11;rw [← Ny199.out] at ho11));have HO201:=mk0 (Kd.R_lower ho11 (kZ HB.out));replace BK198:=mk0 (kK BK198.out hb);replace HB:=mk0 (kS HB.out hb);clear hb ho11))
   go_loopg [6,7] kj2 (fun kq v6 v7 w'=>∃ (x6_2:List Int) (x7_2:Int) (x199000_2:Int) (x199001_2:Int) (x199002_2:Int),v7 = .int .i64 x7_2 ∧ Aside0 (spec_PackOf.l0 kq l0 a1 x6_2 x7_2 = some (r1,r2,r3,r4,r5)) ∧ Aside0 (kq ≤ kj2) ∧ Aside0 (Kd.R (Kd.int .i64) 3 w' w.heap.size (fun _=>True) v6 x6_2) ∧ Aside0 (w'.heap[gb198]? = some (.cells #[.int .i64 x199000_2,.int .i64 x199001_2,.int .i64 x199002_2,(.slice none 0 0)] 31 (0,0))) ∧ Aside0 (Below w.heap.size w w'))
   case atStart=>exact⟨(y199),(0),(0),(0),(0),(by first|rfl|(simp;done)|(simp [*];done)),H',⟨Nat.le_refl _⟩,⟨rR HO201.out⟩,⟨kN BK198.out⟩,⟨kB HB.out⟩⟩
   case round =>
    clear H'
    try clear c2
    try clear p2
    try clear c5
    try clear c5b0
    try clear c6
    try clear c6b0
    try clear p6
    try clear c7
    try clear c7b0
    try clear c7b1
    try clear c8
    try clear hcz9_0
    try clear hcz9_1
    try clear hcz9_2
    try clear hcz9_3
    try clear hfz9_0
    try clear hfz9_1
    try clear hfz9_2
    try clear hfz9_3
    try clear p2
    try clear p6
    obtain⟨x6_2,x7_2,x199000_2,x199001_2,x199002_2,rfl,HA,HK2,HO_6,BK198,HB⟩:=hrel
    cases gk with
    | zero=>exact absurd HA.out (by simp [spec_PackOf.l0])
    | succ k2 =>
     have H:=HA.out
     clear HA
     simp only [spec_PackOf.l0] at H
     by_cases c12:x7_2 < (l0.length:Int)
     rotate_left
     ·rw [if_neg c12] at H
      have c12b0:decide (x7_2 < (l0.length:Int)) = false:=decide_eq_false c12
      clear c12
      replace H:=Option.bind_eq_some_iff.mp H
      obtain⟨⟨t207,t208,t211⟩,A220,H⟩:=H
      replace H:(some (a1,(l0.length:Int),t207,t208,true)) = some (r1,r2,r3,r4,r5):=H
      have A22:=mk0 A220
      clear A220
      simp only [Option.some.injEq,Prod.mk.injEq] at H
      obtain⟨rfl,rfl,rfl,rfl,rfl⟩:=H
      obtain⟨Ao23,co23,eo23⟩:=Kd.R_slice HO_6.out
      subst eo23
      go_wp2_with (first|((with_reducible refine gate_callee (f:=30) rfl ?_);refine goesL_ (some 65) rfl rfl Try.func30 (by kernel_rfl) rfl #[.slice Ao23 x6_2.length co23] rfl (by (try simp only [mA,mC,mN]);first|done|rfl|(simp only [List.length_drop,List.length_take];done)|(simp only [List.length_drop,List.length_take];rfl)) ?_;(with_reducible refine (spec_BitsOf.calls k2 _ _ x6_2 t207 t208 t211 _ ?side1 ?side2 A22.out).mono ?_);(case side1=>exact kC (Kd.R_reads' HO_6.out).2.2);(case side2=>exact (Kd.R_reads' HO_6.out).2.1);rintro e w24 ⟨v209,rfl,ho0,hb⟩;refine⟨_,rfl,?_⟩;replace HO_6:=mk0 (bR HO_6.out hb);have HO210:=mk0 (Kd.R_lower ho0 (kZ HB.out));replace BK198:=mk0 (kK BK198.out hb);replace HB:=mk0 (kS HB.out hb);(try clear hb);(try clear ho0))|((with_reducible refine gate_dst (N:=10) rfl ?_);(try (refine gate_guard (by rfl) ?_;dsimp only));refine box_event ?hg (N:=10) ?hd (cs:=#[.int .i64 0,.slice none 0 0]) (t:=29) ?hr ?_;(case hd=>rfl);(case hg=>rfl);(case hr=>first|(go_simp;done)|(go_simp;rfl));intro gb212 hg w25 hbox hb;replace HO_6:=mk0 (bR HO_6.out hb);replace HO210:=mk0 (bR HO210.out hb);have BK212:=mk0 (hbox);have GW212:=mk0 ((by rw [hg];exact (kZ HB.out):w.heap.size ≤ gb212));have GE212:=mk0 ((by rw [hg];exact (kZ HB.out):w.heap.size ≤ gb212));replace HB:=mk0 (kS HB.out hb);have NB198_212:=mk0 ((by rw [hg];exact Nat.ne_of_lt (kL BK198.out):gb198 ≠ gb212));have NB212_198:=mk0 ((by rw [hg];exact Nat.ne_of_gt (kL BK198.out):gb212 ≠ gb198));replace BK198:=mk0 (kK BK198.out hb);clear hb hbox hg;have hnb26:=NB212_198.out;have hnc26:=NB198_212.out;obtain⟨hcz27_0,hcz27_1,hfz27_0,hfz27_1⟩:=cz2 BK212.out;obtain⟨Ao28,co28,eo28⟩:=Kd.R_slice HO210.out;subst eo28;obtain⟨hcz29_0,hcz29_1,hcz29_2,hcz29_3,hfz29_0,hfz29_1,hfz29_2,hfz29_3⟩:=cz4 BK198.out))
      refine bodyPost_ret (results_ct rfl _ _ gb198 31 #[.int .i64 a1,.int .i64 (l0.length:Int),.int .i64 t207,.slice Ao28 t208.length co28] (0,0) _ rfl (by (with_reducible repeat (first|apply nB|apply dB|apply aB));refine blk_put (cs:=#[.int .i64 a1,.int .i64 (l0.length:Int),.int .i64 t207,.slice none 0 0]) ?_ 3 _ rfl;(with_reducible repeat (first|apply nB|apply dB|apply aB));refine blk_put (cs:=#[.int .i64 a1,.int .i64 (l0.length:Int),.int .i64 x199002_2,.slice none 0 0]) ?_ 2 _ rfl;(with_reducible repeat (first|apply nB|apply dB|apply aB));refine blk_put (cs:=#[.int .i64 a1,.int .i64 x199001_2,.int .i64 x199002_2,.slice none 0 0]) ?_ 1 _ rfl;(with_reducible repeat (first|apply nB|apply dB|apply aB));refine blk_put (cs:=#[.int .i64 x199000_2,.int .i64 x199001_2,.int .i64 x199002_2,.slice none 0 0]) ?_ 0 _ rfl;(with_reducible repeat (first|apply nB|apply dB|apply aB));refine blk_far ?_ NB198_212.out _;(with_reducible repeat (first|apply nB|apply dB|apply aB));refine blk_far ?_ NB198_212.out _;(with_reducible repeat (first|apply nB|apply dB|apply aB));exact BK198.out) Try.underlying31 rfl (by kernel_rfl)) rfl ?_
      exact⟨_,by first|rfl|(simp [errW_none,errW_some] <;> rfl)|(simp [*,errW_none,errW_some] <;> rfl),by (with_reducible repeat (first|apply aR|apply nR|apply dR));exact Kd.R_mono (Kd.R_far (p:=⟨gb198,3,none⟩) (Kd.R_far (p:=⟨gb198,2,none⟩) (Kd.R_far (p:=⟨gb198,1,none⟩) (Kd.R_far (p:=⟨gb198,0,none⟩) (Kd.R_far (p:=⟨gb212,1,none⟩) (Kd.R_far (p:=⟨gb212,0,none⟩) (Kd.R_types (Kd.R_types HO210.out BK212.out (by decide)) BK198.out (by decide)) (fun _ hk=>hk.1.2) (.int .i64 t207)) (fun _ hk=>hk.1.2) (.slice Ao28 t208.length co28)) (fun _ hk=>hk.2) (.int .i64 a1)) (fun _ hk=>hk.2) (.int .i64 (l0.length:Int))) (fun _ hk=>hk.2) (.int .i64 t207)) (fun _ hk=>hk.2) (.slice Ao28 t208.length co28)) (fun _ hk=>trivial),kB HB.out⟩

     rw [if_pos c12] at H
     have c12b0:decide (x7_2 < (l0.length:Int)) = true:=decide_eq_true c12
     clear c12
     by_cases c13:0 ≤ x7_2
     rotate_left
     ·rw [if_neg c13] at H
      exact absurd H (by simp)
     rw [if_pos c13] at H
     have c13b0:decide (0 ≤ x7_2) = true:=decide_eq_true c13
     clear c13
     have HC14:=mk0 H
     clear H
     have p202:0 ≤ (x7_2:Int):=of_decide_eq_true (by first|(with_reducible assumption)|assumption)
     have q202:x7_2 < (l0.length:Int):=of_decide_eq_true (by first|(with_reducible assumption)|assumption)
     obtain⟨ad202,e202,hx202_0⟩:=Kd.at_int HR0.out x7_2 p202 q202
     cases e202
     replace hx202_0:=(HB.out.cell (World.block_lt_of_cell? w _ hx202_0)).trans hx202_0
     replace p202:=eq_true p202
     replace q202:=eq_true q202
     go_upto_region 8 with (fail)
     go_cut [49] (fun v49 wc=>∃ (kq:Nat) (x49_13:Bool),v49 = .bool x49_13 ∧ Aside0 (spec_PackOf.j2 kq l0 a1 x6_2 x7_2 (rd l0 x7_2) x49_13 = some (r1,r2,r3,r4,r5)) ∧ Aside0 (kq ≤ k2) ∧ Aside0 (Kd.R (Kd.int .i64) 3 wc w.heap.size (fun _=>True) u6 x6_2) ∧ Aside0 (wc.heap[gb198]? = some (.cells #[.int .i64 x199000_2,.int .i64 x199001_2,.int .i64 x199002_2,(.slice none 0 0)] 31 (0,0))) ∧ Aside0 (Below w.heap.size w wc))
     case first =>
      have H:=HC14.out
      clear HC14
      by_cases c15:(rd l0 x7_2) < 0
      ·rw [if_pos c15] at H
       have c15b0:decide ((rd l0 x7_2) < 0) = true:=decide_eq_true c15
       clear c15
       (first|rw [c15b0]|(simp only [i64_w,i32_w];rw [c15b0])|skip)
       have H':=mk0 H
       clear H
       go_wp2
       go_meet
       case rel=>exact⟨_,(true),(by first|rfl|(simp;done)|(simp [*];done)),H',⟨by have:=HJ2.out;have:=HK2.out;first|omega|exact Nat.le_refl _⟩,⟨rR HO_6.out⟩,⟨kN BK198.out⟩,⟨kB HB.out⟩⟩
      rw [if_neg c15] at H
      have c15b0:decide ((rd l0 x7_2) < 0) = false:=decide_eq_false c15
      clear c15
      (first|rw [c15b0]|(simp only [i64_w,i32_w];rw [c15b0])|skip)
      replace H:=Option.bind_eq_some_iff.mp H
      obtain⟨t203,A160,H⟩:=H
      replace H:(spec_PackOf.j2 k2 l0 a1 x6_2 x7_2 (rd l0 x7_2) (decide ((rd l0 x7_2) ≥ t203))) = some (r1,r2,r3,r4,r5):=H
      have A16:=mk0 A160
      clear A160
      have H':=mk0 H
      clear H
      go_wp2_with (first|(go_at_call 27;(with_reducible refine (spec_l02Pow.calls k2 a1 t203 _ A16.out).mono ?_);rintro e w' ⟨rfl,⟨nd,rfl⟩⟩))
      go_meet
      case rel=>exact⟨_,(decide ((rd l0 x7_2) ≥ t203)),(by first|rfl|(simp;done)|(simp [*];done)),H',⟨by have:=HJ2.out;have:=HK2.out;first|omega|exact Nat.le_refl _⟩,⟨rR HO_6.out⟩,⟨kN BK198.out⟩,⟨kB HB.out⟩⟩
     case rest =>
      clear HC14
      try clear c1
      try clear c2
      try clear p2
      try clear q2
      try clear hx2
      try clear c5
      try clear c5b0
      try clear c6
      try clear c6b0
      try clear p6
      try clear c7
      try clear c7b0
      try clear c7b1
      try clear c8
      try clear c12
      try clear c12b0
      try clear c13
      try clear c13b0
      try clear c15
      try clear c15b0
      try clear hcz9_0
      try clear hcz9_1
      try clear hcz9_2
      try clear hcz9_3
      try clear hfz9_0
      try clear hfz9_1
      try clear hfz9_2
      try clear hfz9_3
      try clear hx202_0
      try clear p2
      try clear p202
      try clear p6
      try clear q202
      obtain⟨kq,x49_13,rfl,HA,HJ13,HO_6,BK198,HB⟩:=hcut
      cases kq with
      | zero=>exact absurd HA.out (by simp [spec_PackOf.j2])
      | succ kj13 =>
       have H:=HA.out
       clear HA
       simp only [spec_PackOf.j2] at H
       by_cases c17:x49_13 = true
       ·subst c17
        have H1:(some (0,0,0,([]:List Int),false)) = some (r1,r2,r3,r4,r5):=by rw [if_pos rfl] at H;exact H
        clear H
        have H:=H1
        clear H1
        simp only [Option.some.injEq,Prod.mk.injEq] at H
        obtain⟨rfl,rfl,rfl,rfl,rfl⟩:=H
        obtain⟨hcz18_0,hcz18_1,hcz18_2,hcz18_3,hfz18_0,hfz18_1,hfz18_2,hfz18_3⟩:=cz4 BK198.out
        go_wp2
        refine bodyPost_ret (results_ct rfl _ _ gb198 31 #[.int .i64 0,.int .i64 0,.int .i64 0,.slice none 0 0] (0,0) _ rfl (by (with_reducible repeat (first|apply nB|apply dB|apply aB));refine blk_put (cs:=#[.int .i64 0,.int .i64 0,.int .i64 0,.slice none 0 0]) ?_ 3 _ rfl;(with_reducible repeat (first|apply nB|apply dB|apply aB));refine blk_put (cs:=#[.int .i64 0,.int .i64 0,.int .i64 x199002_2,.slice none 0 0]) ?_ 2 _ rfl;(with_reducible repeat (first|apply nB|apply dB|apply aB));refine blk_put (cs:=#[.int .i64 0,.int .i64 x199001_2,.int .i64 x199002_2,.slice none 0 0]) ?_ 1 _ rfl;(with_reducible repeat (first|apply nB|apply dB|apply aB));refine blk_put (cs:=#[.int .i64 x199000_2,.int .i64 x199001_2,.int .i64 x199002_2,.slice none 0 0]) ?_ 0 _ rfl;(with_reducible repeat (first|apply nB|apply dB|apply aB));exact BK198.out) Try.underlying31 rfl (by kernel_rfl)) rfl ?_
        exact⟨_,by first|rfl|(simp [errW_none,errW_some] <;> rfl)|(simp [*,errW_none,errW_some] <;> rfl),by first|exact Kd.R_nil _ _ _ _ _|exact Kd.N_nil _ _ _ _ _|exact Kd.V_nil _ _ _ _ _|exact Kd.Q_nil _ _ _ _ _|exact Kd.S_nil _ _ _ _ _,kB HB.out⟩
       replace c17:=Bool.eq_false_iff.mpr c17
       subst c17
       have H1:(spec_PackOf.l1 kj13 l0 a1 x6_2 x7_2 (rd l0 x7_2) 0) = some (r1,r2,r3,r4,r5):=by rw [if_neg (show ¬ (false = true) by decide)] at H;exact H
       clear H
       have H:=H1
       clear H1
       have H':=mk0 H
       clear H
       go_wp2
       go_loopg [6,8,9] kj13 (fun kq v6 v8 v9 w'=>∃ (x6_4:List Int) (x8_4:Int) (x9_4:Int),v8 = .int .i64 x8_4 ∧ v9 = .int .i64 x9_4 ∧ Aside0 (spec_PackOf.l1 kq l0 a1 x6_4 x7_2 x8_4 x9_4 = some (r1,r2,r3,r4,r5)) ∧ Aside0 (kq ≤ kj13) ∧ Aside0 (Kd.R (Kd.int .i64) 3 w' w.heap.size (fun _=>True) v6 x6_4) ∧ Aside0 (w'.heap[gb198]? = some (.cells #[.int .i64 x199000_2,.int .i64 x199001_2,.int .i64 x199002_2,(.slice none 0 0)] 31 (0,0))) ∧ Aside0 (Below w.heap.size w w'))
       case atStart=>exact⟨(x6_2),((rd l0 x7_2)),(0),(by first|rfl|(simp;done)|(simp [*];done)),(by first|rfl|(simp;done)|(simp [*];done)),H',⟨Nat.le_refl _⟩,⟨rR HO_6.out⟩,⟨kN BK198.out⟩,⟨kB HB.out⟩⟩
       case round =>
        clear H'
        try clear c1
        try clear c2
        try clear p2
        try clear q2
        try clear hx2
        try clear c5
        try clear c5b0
        try clear c6
        try clear c6b0
        try clear p6
        try clear c7
        try clear c7b0
        try clear c7b1
        try clear c8
        try clear c12
        try clear c12b0
        try clear c13
        try clear c13b0
        try clear c15
        try clear c15b0
        try clear c17
        try clear hcz18_0
        try clear hcz18_1
        try clear hcz18_2
        try clear hcz18_3
        try clear hcz9_0
        try clear hcz9_1
        try clear hcz9_2
        try clear hcz9_3
        try clear hfz18_0
        try clear hfz18_1
        try clear hfz18_2
        try clear hfz18_3
        try clear hfz9_0
        try clear hfz9_1
        try clear hfz9_2
        try clear hfz9_3
        try clear hx202_0
        try clear p2
        try clear p202
        try clear p6
        try clear q2
        try clear q202
        obtain⟨x6_4,x8_4,x9_4,rfl,rfl,HA,HK4,HO_6,BK198,HB⟩:=hrel
        cases gk with
        | zero=>exact absurd HA.out (by simp [spec_PackOf.l1])
        | succ k4 =>
         have H:=HA.out
         clear HA
         simp only [spec_PackOf.l1] at H
         by_cases c19:x9_4 < a1
         rotate_left
         ·rw [if_neg c19] at H
          have c19b0:decide (x9_4 < a1) = false:=decide_eq_false c19
          clear c19
          have H':=mk0 H
          clear H
          go_wp2
          go_roundg k4
          case measure=>have:=HJ2.out;have:=HK2.out;have:=HJ13.out;have:=HK4.out;omega
          case rel=>exact⟨(x6_4),(wrap64 (x7_2 + 1)),(x199000_2),(x199001_2),(x199002_2),(by first|rfl|(simp;done)|(simp [*];done)),H',⟨by have:=HJ2.out;have:=HK2.out;have:=HJ13.out;have:=HK4.out;omega⟩,⟨rR HO_6.out⟩,⟨kN BK198.out⟩,⟨kB HB.out⟩⟩
         rw [if_pos c19] at H
         have c19b0:decide (x9_4 < a1) = true:=decide_eq_true c19
         clear c19
         by_cases c20:x6_4.length < 17592186044416
         rotate_left
         ·rw [if_neg c20] at H
          exact absurd H (by simp)
         rw [if_pos c20] at H
         have LMc20:=mk0 c20
         clear c20
         obtain⟨y204,hy204⟩:∃ y_:List Int,y_ = (x6_4 ++ [Int.tmod x8_4 2]):=⟨_,rfl⟩
         replace H:(spec_PackOf.l1 k4 l0 a1 y204 x7_2 (wrap64 (Int.tdiv x8_4 2)) (wrap64 (x9_4 + 1))) = some (r1,r2,r3,r4,r5):=by first|(rw [hy204];with_reducible exact H)|(have H2_:=(Option.bind_some _ _).symm.trans H;rw [hy204];with_reducible exact H2_)|(have H2_:=(Option.bind_some _ _).symm.trans H;with_reducible exact H2_)|with_reducible exact H|(rw [hy204];exact H)|exact H
         have Ny204:=mk0 hy204
         clear hy204
         have H':=mk0 H
         clear H
         go_wp2_with (first|((with_reducible refine gate_builtin (b:=.append) (xs:=#[.tmp 56,.tmp 59]) rfl ?_);(try (refine gate_guard (by rfl) ?_;dsimp only));at_builtin;refine Kd.R_append (Kd.int .i64) (w0:=w) w.heap.size rfl (.tmp 56) (.tmp 59) 24 3 (.int .i64 0) 8 rfl Try.underlying24 info3 rfl (by decide) (by omega) u6 x6_4 (Int.tmod x8_4 2) [.int .i64 (Int.tmod x8_4 2)] (fun _=>True) (fun _=>False) rfl rfl ?aP (fun _ hk=>hk.elim) ?aF ?aO ?aB ?aS ?aL ?_;(case aP=>exact rfl);(case aB=>exact (kB HB.out));(case aF=>exact (fun _ _=>trivial));(case aO=>exact (rR HO_6.out));(case aS=>exact (kZ HB.out));(case aL=>have:=LMc20.out;omega);intro v205 w21 ho hb hg hat;rw [← Ny204.out] at ho;replace BK198:=mk0 (blk_grown (kN BK198.out) hg (Kd.R_ne HO_6.out BK198.out (by decide)));replace HB:=mk0 (hb);have HO206:=mk0 (ho);clear HO_6 ho hb hg hat))
         go_roundg k4
         case measure=>have:=HJ2.out;have:=HK2.out;have:=HJ13.out;have:=HK4.out;omega
         case rel=>exact⟨(y204),(wrap64 (Int.tdiv x8_4 2)),(wrap64 (x9_4 + 1)),(by first|rfl|(simp;done)|(simp [*];done)),(by first|rfl|(simp;done)|(simp [*];done)),H',⟨by have:=HJ2.out;have:=HK2.out;have:=HJ13.out;have:=HK4.out;omega⟩,⟨rR HO206.out⟩,⟨kN BK198.out⟩,⟨kB HB.out⟩⟩
end Go.Proofs.Ytmohfjfgpeapfaa.QFnSparse
