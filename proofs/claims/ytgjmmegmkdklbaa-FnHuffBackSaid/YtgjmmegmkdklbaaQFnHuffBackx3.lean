-- A walk, made by walk.py, a program of this session's.
import Derived.Test.YtgjmmegmkdklbaaQFnHuffBackx0
import Derived.Test.YtgjmmegmkdklbaaQFnHuffBackx1
import Derived.Test.YtgjmmegmkdklbaaQFnHuffBackx2
namespace Go.Proofs.Ytgjmmegmkdklbaa.QFnHuffBack
open Go.RowKit Go.Proofs.YtgjmmegmkdklbaaW.PrintWords Go.Proofs.YtgjmmegmkdklbaaW.PrintLast Go.Proofs.YtgjmmegmkdklbaaW.PrintMore
attribute [local go_sem] max2_int min2_int max_two min_two max_three min_three max_four min_four   -- for this text's walks alone
set_option linter.unusedVariables false
set_option linter.unusedSimpArgs false

/-! ### spec_HuffWrite: function 12 -/
mutual
def spec_HuffWrite.j0 : Nat → List Int → List Int → List Int → Bool → Option (Int × List Int × Bool)
 | 0, _, _, _, _ => none
 | k + 1, x0, x1, x6, x19 => if x19 = true then (some (0, ([] : List Int), false)) else (spec_HuffWrite.l0 k x0 x1 x6 (([] : List Int)) 0)
def spec_HuffWrite.l0 : Nat → List Int → List Int → List Int → List Int → Int → Option (Int × List Int × Bool)
 | 0, _, _, _, _, _ => none
 | k + 1, x0, x1, x6, x7, x8 => if x8 < (x0.length : Int) then (if 0 ≤ x8 then (if (rd x0 x8) < 0 then (spec_HuffWrite.j2 k x0 x1 x6 x7 x8 (rd x0 x8) true) else (if (rd x0 x8) ≥ (x1.length : Int) then (spec_HuffWrite.j2 k x0 x1 x6 x7 x8 (rd x0 x8) true) else (if 0 ≤ (rd x0 x8) then (if (rd x0 x8) < (x1.length : Int) then (spec_HuffWrite.j2 k x0 x1 x6 x7 x8 (rd x0 x8) ((rd x1 (rd x0 x8)) == 0)) else (none)) else (none)))) else (none)) else ((spec_BitsOf.f k x7).bind fun bt154 => (some (bt154.1, bt154.2.1, bt154.2.2)))
def spec_HuffWrite.j2 : Nat → List Int → List Int → List Int → List Int → Int → Int → Bool → Option (Int × List Int × Bool)
 | 0, _, _, _, _, _, _, _ => none
 | k + 1, x0, x1, x6, x7, x8, x9, x46 => if x46 = true then (some (0, ([] : List Int), false)) else (if 0 ≤ x9 then (if x9 < (x6.length : Int) then (if x9 < (x1.length : Int) then ((spec_l08Code.f k (rd x6 x9) (rd x1 x9)).bind fun t148 => (if x7.length + t148.length < 17592186044416 then (spec_HuffWrite.l0 k x0 x1 x6 (x7 ++ t148) (wrap64 (x8 + 1))) else (none))) else (none)) else (none)) else (none))
end
def spec_HuffWrite.f (k : Nat) (l0 : List Int) (l1 : List Int) : Option (Int × List Int × Bool) := (spec_HuffCodes.f k l1).bind fun t137 => ((spec_HuffOk.f k l1).bind fun t140 => (if t140 = true then (spec_HuffWrite.j0 k l0 l1 t137 (decide ((l0.length : Int) > 5000))) else (spec_HuffWrite.j0 k l0 l1 t137 true)))
theorem spec_HuffWrite.mono_l : ∀ k, (∀ y0 y1 y2 y3, LeO (spec_HuffWrite.j0 k y0 y1 y2 y3) (spec_HuffWrite.j0 (k + 1) y0 y1 y2 y3)) ∧ (∀ y0 y1 y2 y3 y4, LeO (spec_HuffWrite.l0 k y0 y1 y2 y3 y4) (spec_HuffWrite.l0 (k + 1) y0 y1 y2 y3 y4)) ∧ (∀ y0 y1 y2 y3 y4 y5 y6, LeO (spec_HuffWrite.j2 k y0 y1 y2 y3 y4 y5 y6) (spec_HuffWrite.j2 (k + 1) y0 y1 y2 y3 y4 y5 y6))
 | 0 => ⟨fun _ _ _ _ r h => by simp [spec_HuffWrite.j0] at h, fun _ _ _ _ _ r h => by simp [spec_HuffWrite.l0] at h, fun _ _ _ _ _ _ _ r h => by simp [spec_HuffWrite.j2] at h⟩
 | k + 1 => by
  obtain ⟨ih0, ih1, ih2⟩ := spec_HuffWrite.mono_l k
  refine ⟨?_, ?_, ?_⟩
  ·intro y0 y1 y2 y3
   unfold spec_HuffWrite.j0
   repeat' first|(with_reducible first|exact ih0 _ _ _ _|exact ih1 _ _ _ _ _|exact ih2 _ _ _ _ _ _ _|exact spec_BitsOf.mono _ _|exact spec_HuffCodes.mono _ _|exact spec_HuffOk.mono _ _|exact spec_l08Code.mono _ _ _|exact LeO.refl _|exact LeO.none _|refine LeO.ite ?_ ?_|refine LeO.bind ?_ (fun _ => ?_))|exact LeO.none _|refine LeO.ite ?_ ?_|refine LeO.bind ?_ (fun _ => ?_)
  ·intro y0 y1 y2 y3 y4
   unfold spec_HuffWrite.l0
   repeat' first|(with_reducible first|exact ih0 _ _ _ _|exact ih1 _ _ _ _ _|exact ih2 _ _ _ _ _ _ _|exact spec_BitsOf.mono _ _|exact spec_HuffCodes.mono _ _|exact spec_HuffOk.mono _ _|exact spec_l08Code.mono _ _ _|exact LeO.refl _|exact LeO.none _|refine LeO.ite ?_ ?_|refine LeO.bind ?_ (fun _ => ?_))|exact LeO.none _|refine LeO.ite ?_ ?_|refine LeO.bind ?_ (fun _ => ?_)
  ·intro y0 y1 y2 y3 y4 y5 y6
   unfold spec_HuffWrite.j2
   repeat' first|(with_reducible first|exact ih0 _ _ _ _|exact ih1 _ _ _ _ _|exact ih2 _ _ _ _ _ _ _|exact spec_BitsOf.mono _ _|exact spec_HuffCodes.mono _ _|exact spec_HuffOk.mono _ _|exact spec_l08Code.mono _ _ _|exact LeO.refl _|exact LeO.none _|refine LeO.ite ?_ ?_|refine LeO.bind ?_ (fun _ => ?_))|exact LeO.none _|refine LeO.ite ?_ ?_|refine LeO.bind ?_ (fun _ => ?_)
theorem spec_HuffWrite.mono : ∀ a0 a1 k, LeO (spec_HuffWrite.f k a0 a1) (spec_HuffWrite.f (k + 1) a0 a1) := by
 intro a0 a1 k
 obtain ⟨ih0, ih1, ih2⟩ := spec_HuffWrite.mono_l k
 unfold spec_HuffWrite.f
 repeat' first|(with_reducible first|exact ih0 _ _ _ _|exact ih1 _ _ _ _ _|exact ih2 _ _ _ _ _ _ _|exact spec_BitsOf.mono _ _|exact spec_HuffCodes.mono _ _|exact spec_HuffOk.mono _ _|exact spec_l08Code.mono _ _ _|exact LeO.refl _|exact LeO.none _|refine LeO.ite ?_ ?_|refine LeO.bind ?_ (fun _ => ?_))|exact LeO.none _|refine LeO.ite ?_ ?_|refine LeO.bind ?_ (fun _ => ?_)
def spec_HuffWrite.T11 : Bool × List (List Nat × List Nat) := (true, [([], []), ([], []), ([], []), ([1, 2], [1, 2]), ([3], [3]), ([], []), ([], []), ([5, 6], [5, 6]), ([7], [7]), ([4, 8], [4, 8]), ([0, 9, 9], [0, 9]), ([10, 10, 0, 1, 2, 3, 4, 5, 6, 7, 8, 9, 10], [0, 10])])
def spec_HuffWrite.B11 : List Nat := [0, 0, 0, 6, 14, 0, 0, 96, 224, 510, 1023, 2047]
theorem spec_HuffWrite.tab11 : rtab .any (opsOf Try.f12 11) = spec_HuffWrite.T11 := by kernel_rfl
theorem spec_HuffWrite.bits11 : waitsOk spec_HuffWrite.T11.2 spec_HuffWrite.B11 = true := by kernel_rfl
abbrev spec_HuffWrite.m0 : Array Bool := #[F,F,F,F,F,F,F,F,F,F,F,F]
abbrev spec_HuffWrite.m1 : Array Bool := #[T,F,F,F,F,F,F,F,F,F,F,F]
abbrev spec_HuffWrite.m2 : Array Bool := #[T,T,F,F,F,F,F,F,F,F,F,F]
abbrev spec_HuffWrite.m3 : Array Bool := #[T,T,T,F,F,F,F,F,F,F,F,F]
abbrev spec_HuffWrite.m4 : Array Bool := #[T,T,T,T,F,F,F,F,F,F,F,F]
abbrev spec_HuffWrite.m5 : Array Bool := #[T,T,T,T,F,T,F,F,F,F,F,F]
abbrev spec_HuffWrite.m6 : Array Bool := #[T,T,T,T,F,T,T,F,F,F,F,F]
abbrev spec_HuffWrite.m7 : Array Bool := #[T,T,T,T,F,T,T,T,F,F,F,F]
abbrev spec_HuffWrite.m8 : Array Bool := #[T,T,T,T,T,T,T,T,F,F,F,F]
abbrev spec_HuffWrite.m9 : Array Bool := #[T,T,T,T,T,T,T,T,T,F,F,F]
abbrev spec_HuffWrite.m10 : Array Bool := #[T,T,T,T,T,T,T,T,T,T,F,F]
abbrev spec_HuffWrite.m11 : Array Bool := #[T,T,T,T,T,T,T,T,T,T,T,F]
abbrev spec_HuffWrite.m12 : Array Bool := #[T,T,T,T,T,T,T,T,T,T,T,T]
set_option maxHeartbeats 8000000 in
set_option maxRecDepth 100000 in
theorem spec_HuffWrite.calls (k : Nat) (A0 : Option Addr) (c0 : Nat) (l0 : List Int) (A1 : Option Addr) (c1 : Nat) (l1 : List Int) (r1 : Int) (r2 : List Int) (r3 : Bool) (w : World) (hr0 : Kd.C (Kd.int .i64) w A0 l0.length l0) (hc0 : l0.length ≤ c0) (hr1 : Kd.C (Kd.int .i64) w A1 l1.length l1) (hc1 : l1.length ≤ c1) (h : spec_HuffWrite.f k l0 l1 = some (r1, r2, r3)) :
  Calls Try.prog 12 #[.slice A0 l0.length c0, .slice A1 l1.length c1] w fun e w' => ∃ v1_ : Value, e = .returned (.tuple #[.agg #[.int .i64 r1, v1_], .bool r3]) ∧ Kd.R (Kd.int .u64) 82 w' w.heap.size (fun _ => True) v1_ r2 ∧ Below w.heap.size w w' := by
 have hu30:=Try.underlying30
 have HR0:=mk0 hr0
 have HC0:=mk0 hc0
 clear hr0 hc0
 have HR1:=mk0 hr1
 have HC1:=mk0 hc1
 clear hr1 hc1
 have HB:=mk0 (Below.refl w.heap.size w)
 have H:((spec_HuffCodes.f k l1).bind fun t137=>((spec_HuffOk.f k l1).bind fun t140=>(if t140 = true then (spec_HuffWrite.j0 k l0 l1 t137 (decide ((l0.length:Int) > 5000))) else (spec_HuffWrite.j0 k l0 l1 t137 true)))) = some (r1,r2,r3):=h
 clear h
 replace H:=Option.bind_eq_some_iff.mp H
 obtain⟨t137,A30,H⟩:=H
 replace H:((spec_HuffOk.f k l1).bind fun t140=>(if t140 = true then (spec_HuffWrite.j0 k l0 l1 t137 (decide ((l0.length:Int) > 5000))) else (spec_HuffWrite.j0 k l0 l1 t137 true))) = some (r1,r2,r3):=H
 have A3:=mk0 A30
 clear A30
 have HC4:=mk0 H
 clear H
 go_enter Try.func12,Try.ntmps12
 go_upto_region 2 with (first|((with_reducible refine gate_dst (N:=4) rfl ?_);(try (refine gate_guard (by rfl) ?_;dsimp only));refine box_event ?hg (N:=4) ?hd (cs:=#[.int .i64 0,.slice none 0 0]) (t:=30) ?hr ?_;(case hd=>rfl);(case hg=>rfl);(case hr=>first|(go_simp;done)|(go_simp;rfl));intro gb136 hg w5 hbox hb;have BK136:=mk0 (hbox);have GW136:=mk0 ((by rw [hg];exact (kZ HB.out):w.heap.size ≤ gb136));have GE136:=mk0 ((by rw [hg];exact (kZ HB.out):w.heap.size ≤ gb136));replace HB:=mk0 (kS HB.out hb);clear hb hbox hg)|((with_reducible refine gate_callee (f:=38) rfl ?_);refine goesL_ (some 11) rfl rfl Try.func38 (by kernel_rfl) rfl #[.slice A1 l1.length c1] rfl (by (try simp only [mA,mC,mN]);first|done|rfl|(simp only [List.length_drop,List.length_take];done)|(simp only [List.length_drop,List.length_take];rfl)) ?_;(with_reducible refine (spec_HuffCodes.calls k _ _ l1 t137 _ ?side1 ?side2 A3.out).mono ?_);(case side1=>exact kC (Kd.C_below HR1.out HB.out));(case side2=>exact HC1.out);rintro e w6 ⟨v138,rfl,ho0,hb⟩;refine⟨_,rfl,?_⟩;have HO139:=mk0 (Kd.R_lower ho0 (kZ HB.out));replace BK136:=mk0 (kK BK136.out hb);replace HB:=mk0 (kS HB.out hb);(try clear hb);(try clear ho0)))
 (try simp only [Act.put,sA,sO,sS])
 go_cut [19] (fun v19 wc=>∃ (kq:Nat) (x19_3:Bool),v19 = .bool x19_3 ∧ Aside0 (spec_HuffWrite.j0 kq l0 l1 t137 x19_3 = some (r1,r2,r3)) ∧ Aside0 (kq ≤ k) ∧ Aside0 (Kd.R (Kd.int .i64) 3 wc w.heap.size (fun _=>True) v138 t137) ∧ Aside0 (wc.heap[gb136]? = some (.cells #[.int .i64 0,(.slice none 0 0)] 30 (0,0))) ∧ Aside0 (Below w.heap.size w wc))
 case first =>
  have H:=HC4.out
  clear HC4
  replace H:=Option.bind_eq_some_iff.mp H
  obtain⟨t140,A70,H⟩:=H
  replace H:(if t140 = true then (spec_HuffWrite.j0 k l0 l1 t137 (decide ((l0.length:Int) > 5000))) else (spec_HuffWrite.j0 k l0 l1 t137 true)) = some (r1,r2,r3):=H
  have A7:=mk0 A70
  clear A70
  by_cases c8:t140 = true
  ·subst c8
   have H1:(spec_HuffWrite.j0 k l0 l1 t137 (decide ((l0.length:Int) > 5000))) = some (r1,r2,r3):=by rw [if_pos rfl] at H;exact H
   clear H
   have H:=H1
   clear H1
   have H':=mk0 H
   clear H
   go_wp2_with (first|((with_reducible refine gate_callee (f:=11) rfl ?_);refine goesL_ (some 13) rfl rfl Try.func11 (by kernel_rfl) rfl #[.slice A1 l1.length c1] rfl (by (try simp only [mA,mC,mN]);first|done|rfl|(simp only [List.length_drop,List.length_take];done)|(simp only [List.length_drop,List.length_take];rfl)) ?_;(with_reducible refine (spec_HuffOk.calls k _ _ l1 true _ ?side1 ?side2 A7.out).mono ?_);(case side1=>exact kC (Kd.C_below HR1.out HB.out));(case side2=>exact HC1.out);rintro e w' ⟨rfl,⟨nd,rfl⟩⟩;refine⟨_,rfl,?_⟩))
   go_meet
   case rel=>exact⟨_,(decide ((l0.length:Int) > 5000)),(by first|rfl|(simp;done)|(simp [*];done)),H',⟨by first|omega|exact Nat.le_refl _⟩,⟨rR HO139.out⟩,⟨kN BK136.out⟩,⟨kB HB.out⟩⟩
  replace c8:=Bool.eq_false_iff.mpr c8
  subst c8
  have H1:(spec_HuffWrite.j0 k l0 l1 t137 true) = some (r1,r2,r3):=by rw [if_neg (show ¬ (false = true) by decide)] at H;exact H
  clear H
  have H:=H1
  clear H1
  have H':=mk0 H
  clear H
  go_wp2_with (first|((with_reducible refine gate_callee (f:=11) rfl ?_);refine goesL_ (some 13) rfl rfl Try.func11 (by kernel_rfl) rfl #[.slice A1 l1.length c1] rfl (by (try simp only [mA,mC,mN]);first|done|rfl|(simp only [List.length_drop,List.length_take];done)|(simp only [List.length_drop,List.length_take];rfl)) ?_;(with_reducible refine (spec_HuffOk.calls k _ _ l1 false _ ?side1 ?side2 A7.out).mono ?_);(case side1=>exact kC (Kd.C_below HR1.out HB.out));(case side2=>exact HC1.out);rintro e w' ⟨rfl,⟨nd,rfl⟩⟩;refine⟨_,rfl,?_⟩))
  go_meet
  case rel=>exact⟨_,(true),(by first|rfl|(simp;done)|(simp [*];done)),H',⟨by first|omega|exact Nat.le_refl _⟩,⟨rR HO139.out⟩,⟨kN BK136.out⟩,⟨kB HB.out⟩⟩
 case rest =>
  clear HC4
  try clear c1
  try clear p2
  try clear c3
  try clear c8
  obtain⟨kq,x19_3,rfl,HA,HJ3,HO_6,BK136,HB⟩:=hcut
  cases kq with
  | zero=>exact absurd HA.out (by simp [spec_HuffWrite.j0])
  | succ kj3 =>
   have H:=HA.out
   clear HA
   simp only [spec_HuffWrite.j0] at H
   by_cases c9:x19_3 = true
   ·subst c9
    have H1:(some (0,([]:List Int),false)) = some (r1,r2,r3):=by rw [if_pos rfl] at H;exact H
    clear H
    have H:=H1
    clear H1
    simp only [Option.some.injEq,Prod.mk.injEq] at H
    obtain⟨rfl,rfl,rfl⟩:=H
    obtain⟨hcz10_0,hcz10_1,hfz10_0,hfz10_1⟩:=cz2 BK136.out
    go_wp2
    refine bodyPost_ret (results_ct rfl _ _ gb136 30 #[.int .i64 0,.slice none 0 0] (0,0) _ rfl (by (with_reducible repeat (first|apply nB|apply dB|apply aB));refine blk_put (cs:=#[.int .i64 0,.slice none 0 0]) ?_ 1 _ rfl;(with_reducible repeat (first|apply nB|apply dB|apply aB));refine blk_put (cs:=#[.int .i64 0,.slice none 0 0]) ?_ 0 _ rfl;(with_reducible repeat (first|apply nB|apply dB|apply aB));exact BK136.out) Try.underlying30 rfl (by kernel_rfl)) rfl ?_
    exact⟨_,by first|rfl|(simp [errW_none,errW_some] <;> rfl)|(simp [*,errW_none,errW_some] <;> rfl),by first|exact Kd.R_nil _ _ _ _ _|exact Kd.N_nil _ _ _ _ _|exact Kd.V_nil _ _ _ _ _|exact Kd.Q_nil _ _ _ _ _|exact Kd.S_nil _ _ _ _ _,kB HB.out⟩
   replace c9:=Bool.eq_false_iff.mpr c9
   subst c9
   have H1:(spec_HuffWrite.l0 kj3 l0 l1 t137 (([]:List Int)) 0) = some (r1,r2,r3):=by rw [if_neg (show ¬ (false = true) by decide)] at H;exact H
   clear H
   have H:=H1
   clear H1
   obtain⟨y141,hy141⟩:∃ y_:List Int,y_ = (([]:List Int)):=⟨_,rfl⟩
   replace H:(spec_HuffWrite.l0 kj3 l0 l1 t137 y141 0) = some (r1,r2,r3):=by first|(rw [hy141];with_reducible exact H)|(have H2_:=(Option.bind_some _ _).symm.trans H;rw [hy141];with_reducible exact H2_)|(have H2_:=(Option.bind_some _ _).symm.trans H;with_reducible exact H2_)|with_reducible exact H|(rw [hy141];exact H)|exact H
   have Ny141:=mk0 hy141
   clear hy141
   have H':=mk0 H
   clear H
   go_wp2_with (first|((with_reducible refine gate_dst (N:=21) rfl ?_);(try (refine gate_guard (by rfl) ?_;dsimp only));refine Kd.R_lit (Kd.int .i64) _ 3 ?hg (N:=21) ?hd (xs:=([]:List Int)) (inner:=[]) (ok:=fun _=>True) (okp:=fun _=>True) ?hr ?hp (fun _ hk=>hk) trivial (Below.refl _ _) (Nat.le_refl _) (by simp) ?_;(case hd=>rfl);(case hg=>rfl);(case hr=>first|(go_simp;done)|(go_simp;rfl));(case hp=>exact (Reps.none _ _));intro v142 w11 ho12 hb hg_ hnew_;clear hg_ hnew_;(first|rw [← Ny141.out] at ho12|(simp only [Int.reduceToNat] at ho12;rw [← Ny141.out] at ho12));have HO143:=mk0 (Kd.R_lower (Kd.R_new' ho12 (Kd.R_lt (rR HO_6.out))) (kZ HB.out));replace HO_6:=mk0 (Kd.R_elder' (rR HO_6.out) (Kd.R_base ho12) hb);replace BK136:=mk0 (kK BK136.out hb);replace HB:=mk0 (kS HB.out hb);clear hb ho12))
   go_loopg [7,8] kj3 (fun kq v7 v8 w'=>∃ (x7_2:List Int) (x8_2:Int) (x137000_2:Int),v8 = .int .i64 x8_2 ∧ Aside0 (spec_HuffWrite.l0 kq l0 l1 t137 x7_2 x8_2 = some (r1,r2,r3)) ∧ Aside0 (kq ≤ kj3) ∧ Aside0 (Kd.R (Kd.int .i64) 3 w' w.heap.size (fun k_=>some k_ ≠ (v7:Value).ownBlock) v138 t137) ∧ Aside0 (Kd.R (Kd.int .i64) 3 w' w.heap.size (fun k_=>some k_ ≠ (v138:Value).ownBlock) v7 x7_2) ∧ Aside0 (w'.heap[gb136]? = some (.cells #[.int .i64 x137000_2,(.slice none 0 0)] 30 (0,0))) ∧ Aside0 (Below w.heap.size w w'))
   case atStart=>exact⟨(y141),(0),(0),(by first|rfl|(simp;done)|(simp [*];done)),H',⟨Nat.le_refl _⟩,⟨by (with_reducible repeat (first|apply aR|apply nR|apply dR));exact Kd.R_mono HO_6.out (by first|exact fun _ hk=>hk.2|(intro k_ hk;simp only [hk,ne_eq,and_self,not_false_eq_true]))⟩,⟨by (with_reducible repeat (first|apply aR|apply nR|apply dR));exact Kd.R_mono HO143.out (by first|exact fun _ hk=>hk.2|(intro k_ hk;simp only [hk,ne_eq,and_self,not_false_eq_true]))⟩,⟨kN BK136.out⟩,⟨kB HB.out⟩⟩
   case round =>
    clear H'
    try clear c1
    try clear p2
    try clear c3
    try clear c8
    try clear c9
    try clear c11
    try clear c12
    try clear hcz10_0
    try clear hcz10_1
    try clear hfz10_0
    try clear hfz10_1
    try clear p2
    obtain⟨x7_2,x8_2,x137000_2,rfl,HA,HK2,HO_6,HO_7,BK136,HB⟩:=hrel
    cases gk with
    | zero=>exact absurd HA.out (by simp [spec_HuffWrite.l0])
    | succ k2 =>
     have H:=HA.out
     clear HA
     simp only [spec_HuffWrite.l0] at H
     by_cases c13:x8_2 < (l0.length:Int)
     rotate_left
     ·rw [if_neg c13] at H
      have c13b0:decide (x8_2 < (l0.length:Int)) = false:=decide_eq_false c13
      clear c13
      replace H:=Option.bind_eq_some_iff.mp H
      obtain⟨⟨t154,t155,t158⟩,A320,H⟩:=H
      replace H:(some (t154,t155,t158)) = some (r1,r2,r3):=H
      have A32:=mk0 A320
      clear A320
      simp only [Option.some.injEq,Prod.mk.injEq] at H
      obtain⟨rfl,rfl,rfl⟩:=H
      obtain⟨Ao33,co33,eo33⟩:=Kd.R_slice HO_7.out
      subst eo33
      go_wp2_with (first|((with_reducible refine gate_callee (f:=40) rfl ?_);refine goesL_ (some 60) rfl rfl Try.func40 (by kernel_rfl) rfl #[.slice Ao33 x7_2.length co33] rfl (by (try simp only [mA,mC,mN]);first|done|rfl|(simp only [List.length_drop,List.length_take];done)|(simp only [List.length_drop,List.length_take];rfl)) ?_;(with_reducible refine (spec_BitsOf.calls k2 _ _ x7_2 t154 t155 t158 _ ?side1 ?side2 A32.out).mono ?_);(case side1=>exact kC (Kd.R_reads' HO_7.out).2.2);(case side2=>exact (Kd.R_reads' HO_7.out).2.1);rintro e w34 ⟨v156,rfl,ho0,hb⟩;refine⟨_,rfl,?_⟩;replace HO_6:=mk0 (bR HO_6.out hb);replace HO_7:=mk0 (bR HO_7.out hb);have HO157:=mk0 (Kd.R_lower ho0 (kZ HB.out));replace BK136:=mk0 (kK BK136.out hb);replace HB:=mk0 (kS HB.out hb);(try clear hb);(try clear ho0);obtain⟨hcz35_0,hcz35_1,hfz35_0,hfz35_1⟩:=cz2 BK136.out;obtain⟨Ao36,co36,eo36⟩:=Kd.R_slice HO157.out;subst eo36))
      refine bodyPost_ret (results_ct rfl _ _ gb136 30 #[.int .i64 t154,.slice Ao36 t155.length co36] (0,0) _ rfl (by (with_reducible repeat (first|apply nB|apply dB|apply aB));refine blk_put (cs:=#[.int .i64 t154,.slice none 0 0]) ?_ 1 _ rfl;(with_reducible repeat (first|apply nB|apply dB|apply aB));refine blk_put (cs:=#[.int .i64 x137000_2,.slice none 0 0]) ?_ 0 _ rfl;(with_reducible repeat (first|apply nB|apply dB|apply aB));exact BK136.out) Try.underlying30 rfl (by kernel_rfl)) rfl ?_
      exact⟨_,by first|rfl|(simp [errW_none,errW_some] <;> rfl)|(simp [*,errW_none,errW_some] <;> rfl),by (with_reducible repeat (first|apply aR|apply nR|apply dR));exact Kd.R_mono (Kd.R_far (p:=⟨gb136,1,none⟩) (Kd.R_far (p:=⟨gb136,0,none⟩) (Kd.R_types HO157.out BK136.out (by decide)) (by first|exact fun _ hk=>hk.2|(intro k_ hk;simp only [hk,ne_eq,and_self,not_false_eq_true])) (.int .i64 t154)) (by first|exact fun _ hk=>hk.2|(intro k_ hk;simp only [hk,ne_eq,and_self,not_false_eq_true])) (.slice Ao36 t155.length co36)) (fun _ hk=>trivial),kB HB.out⟩

     rw [if_pos c13] at H
     have c13b0:decide (x8_2 < (l0.length:Int)) = true:=decide_eq_true c13
     clear c13
     by_cases c14:0 ≤ x8_2
     rotate_left
     ·rw [if_neg c14] at H
      exact absurd H (by simp)
     rw [if_pos c14] at H
     have c14b0:decide (0 ≤ x8_2) = true:=decide_eq_true c14
     clear c14
     have HC15:=mk0 H
     clear H
     have p144:0 ≤ (x8_2:Int):=of_decide_eq_true (by first|(with_reducible assumption)|assumption)
     have q144:x8_2 < (l0.length:Int):=of_decide_eq_true (by first|(with_reducible assumption)|assumption)
     obtain⟨ad144,e144,hx144_0⟩:=Kd.at_int HR0.out x8_2 p144 q144
     cases e144
     replace hx144_0:=(HB.out.cell (World.block_lt_of_cell? w _ hx144_0)).trans hx144_0
     replace p144:=eq_true p144
     replace q144:=eq_true q144
     go_upto_region 9 with (fail)
     go_cut [46] (fun v46 wc=>∃ (kq:Nat) (x46_14:Bool),v46 = .bool x46_14 ∧ Aside0 (spec_HuffWrite.j2 kq l0 l1 t137 x7_2 x8_2 (rd l0 x8_2) x46_14 = some (r1,r2,r3)) ∧ Aside0 (kq ≤ k2) ∧ Aside0 (Kd.R (Kd.int .i64) 3 wc w.heap.size (fun k_=>some k_ ≠ (u7:Value).ownBlock) v138 t137) ∧ Aside0 (Kd.R (Kd.int .i64) 3 wc w.heap.size (fun k_=>some k_ ≠ (v138:Value).ownBlock) u7 x7_2) ∧ Aside0 (wc.heap[gb136]? = some (.cells #[.int .i64 x137000_2,(.slice none 0 0)] 30 (0,0))) ∧ Aside0 (Below w.heap.size w wc))
     case first =>
      have H:=HC15.out
      clear HC15
      by_cases c16:(rd l0 x8_2) < 0
      ·rw [if_pos c16] at H
       have c16b0:decide ((rd l0 x8_2) < 0) = true:=decide_eq_true c16
       clear c16
       (first|rw [c16b0]|(simp only [i64_w,i32_w];rw [c16b0])|skip)
       have H':=mk0 H
       clear H
       go_wp2
       go_meet
       case rel=>exact⟨_,(true),(by first|rfl|(simp;done)|(simp [*];done)),H',⟨by have:=HJ3.out;have:=HK2.out;first|omega|exact Nat.le_refl _⟩,⟨rR HO_6.out⟩,⟨rR HO_7.out⟩,⟨kN BK136.out⟩,⟨kB HB.out⟩⟩
      rw [if_neg c16] at H
      have c16b0:decide ((rd l0 x8_2) < 0) = false:=decide_eq_false c16
      clear c16
      (first|rw [c16b0]|(simp only [i64_w,i32_w];rw [c16b0])|skip)
      by_cases c17:(rd l0 x8_2) ≥ (l1.length:Int)
      ·rw [if_pos c17] at H
       have c17b0:decide ((l1.length:Int) ≤ (rd l0 x8_2)) = true:=decide_eq_true c17
       clear c17
       have H':=mk0 H
       clear H
       go_wp2
       go_meet
       case rel=>exact⟨_,(true),(by first|rfl|(simp;done)|(simp [*];done)),H',⟨by have:=HJ3.out;have:=HK2.out;first|omega|exact Nat.le_refl _⟩,⟨rR HO_6.out⟩,⟨rR HO_7.out⟩,⟨kN BK136.out⟩,⟨kB HB.out⟩⟩
      rw [if_neg c17] at H
      have c17b0:decide ((l1.length:Int) ≤ (rd l0 x8_2)) = false:=decide_eq_false c17
      clear c17
      by_cases c18:0 ≤ (rd l0 x8_2)
      rotate_left
      ·rw [if_neg c18] at H
       exact absurd H (by simp)
      rw [if_pos c18] at H
      have c18b0:decide (0 ≤ (rd l0 x8_2)) = true:=decide_eq_true c18
      clear c18
      by_cases c19:(rd l0 x8_2) < (l1.length:Int)
      rotate_left
      ·rw [if_neg c19] at H
       exact absurd H (by simp)
      rw [if_pos c19] at H
      have c19b0:decide ((rd l0 x8_2) < (l1.length:Int)) = true:=decide_eq_true c19
      clear c19
      have H':=mk0 H
      clear H
      have p145:0 ≤ ((rd l0 x8_2):Int):=of_decide_eq_true (by first|(with_reducible assumption)|assumption)
      have q145:(rd l0 x8_2) < (l1.length:Int):=of_decide_eq_true (by first|(with_reducible assumption)|assumption)
      obtain⟨ad145,e145,hx145_0⟩:=Kd.at_int HR1.out (rd l0 x8_2) p145 q145
      cases e145
      replace hx145_0:=(HB.out.cell (World.block_lt_of_cell? w _ hx145_0)).trans hx145_0
      replace p145:=eq_true p145
      replace q145:=eq_true q145
      go_wp2
      go_meet
      case rel=>exact⟨_,(((rd l1 (rd l0 x8_2)) == 0)),(by first|rfl|(simp;done)|(simp [*];done)),H',⟨by have:=HJ3.out;have:=HK2.out;first|omega|exact Nat.le_refl _⟩,⟨rR HO_6.out⟩,⟨rR HO_7.out⟩,⟨kN BK136.out⟩,⟨kB HB.out⟩⟩
     case rest =>
      clear HC15
      try clear c1
      try clear p1
      try clear q1
      try clear hx1
      try clear p2
      try clear c3
      try clear c8
      try clear c9
      try clear c11
      try clear c12
      try clear c13
      try clear c13b0
      try clear c14
      try clear c14b0
      try clear p14
      try clear q14
      try clear hx14
      try clear c16
      try clear c16b0
      try clear c17
      try clear c17b0
      try clear c18
      try clear c18b0
      try clear c19
      try clear c19b0
      try clear hcz10_0
      try clear hcz10_1
      try clear hfz10_0
      try clear hfz10_1
      try clear hx144_0
      try clear hx145_0
      try clear p144
      try clear p145
      try clear p2
      try clear q144
      try clear q145
      obtain⟨kq,x46_14,rfl,HA,HJ14,HO_6,HO_7,BK136,HB⟩:=hcut
      cases kq with
      | zero=>exact absurd HA.out (by simp [spec_HuffWrite.j2])
      | succ kj14 =>
       have H:=HA.out
       clear HA
       simp only [spec_HuffWrite.j2] at H
       by_cases c20:x46_14 = true
       ·subst c20
        have H1:(some (0,([]:List Int),false)) = some (r1,r2,r3):=by rw [if_pos rfl] at H;exact H
        clear H
        have H:=H1
        clear H1
        simp only [Option.some.injEq,Prod.mk.injEq] at H
        obtain⟨rfl,rfl,rfl⟩:=H
        obtain⟨hcz21_0,hcz21_1,hfz21_0,hfz21_1⟩:=cz2 BK136.out
        go_wp2
        refine bodyPost_ret (results_ct rfl _ _ gb136 30 #[.int .i64 0,.slice none 0 0] (0,0) _ rfl (by (with_reducible repeat (first|apply nB|apply dB|apply aB));refine blk_put (cs:=#[.int .i64 0,.slice none 0 0]) ?_ 1 _ rfl;(with_reducible repeat (first|apply nB|apply dB|apply aB));refine blk_put (cs:=#[.int .i64 x137000_2,.slice none 0 0]) ?_ 0 _ rfl;(with_reducible repeat (first|apply nB|apply dB|apply aB));exact BK136.out) Try.underlying30 rfl (by kernel_rfl)) rfl ?_
        exact⟨_,by first|rfl|(simp [errW_none,errW_some] <;> rfl)|(simp [*,errW_none,errW_some] <;> rfl),by first|exact Kd.R_nil _ _ _ _ _|exact Kd.N_nil _ _ _ _ _|exact Kd.V_nil _ _ _ _ _|exact Kd.Q_nil _ _ _ _ _|exact Kd.S_nil _ _ _ _ _,kB HB.out⟩
       replace c20:=Bool.eq_false_iff.mpr c20
       subst c20
       have H1:(if 0 ≤ (rd l0 x8_2) then (if (rd l0 x8_2) < (t137.length:Int) then (if (rd l0 x8_2) < (l1.length:Int) then ((spec_l08Code.f kj14 (rd t137 (rd l0 x8_2)) (rd l1 (rd l0 x8_2))).bind fun t148=>(if x7_2.length + t148.length < 17592186044416 then (spec_HuffWrite.l0 kj14 l0 l1 t137 (x7_2 ++ t148) (wrap64 (x8_2 + 1))) else (none))) else (none)) else (none)) else (none)) = some (r1,r2,r3):=by rw [if_neg (show ¬ (false = true) by decide)] at H;exact H
       clear H
       have H:=H1
       clear H1
       by_cases c22:0 ≤ (rd l0 x8_2)
       rotate_left
       ·rw [if_neg c22] at H
        exact absurd H (by simp)
       rw [if_pos c22] at H
       have c22b0:decide (0 ≤ (rd l0 x8_2)) = true:=decide_eq_true c22
       clear c22
       by_cases c23:(rd l0 x8_2) < (t137.length:Int)
       rotate_left
       ·rw [if_neg c23] at H
        exact absurd H (by simp)
       rw [if_pos c23] at H
       have c23b0:decide ((rd l0 x8_2) < (t137.length:Int)) = true:=decide_eq_true c23
       clear c23
       by_cases c24:(rd l0 x8_2) < (l1.length:Int)
       rotate_left
       ·rw [if_neg c24] at H
        exact absurd H (by simp)
       rw [if_pos c24] at H
       have c24b0:decide ((rd l0 x8_2) < (l1.length:Int)) = true:=decide_eq_true c24
       clear c24
       replace H:=Option.bind_eq_some_iff.mp H
       obtain⟨t148,A250,H⟩:=H
       replace H:(if x7_2.length + t148.length < 17592186044416 then (spec_HuffWrite.l0 kj14 l0 l1 t137 (x7_2 ++ t148) (wrap64 (x8_2 + 1))) else (none)) = some (r1,r2,r3):=H
       have A25:=mk0 A250
       clear A250
       by_cases c26:x7_2.length + t148.length < 17592186044416
       rotate_left
       ·rw [if_neg c26] at H
        exact absurd H (by simp)
       rw [if_pos c26] at H
       have LMc26:=mk0 c26
       clear c26
       obtain⟨y151,hy151⟩:∃ y_:List Int,y_ = (x7_2 ++ t148):=⟨_,rfl⟩
       replace H:(spec_HuffWrite.l0 kj14 l0 l1 t137 y151 (wrap64 (x8_2 + 1))) = some (r1,r2,r3):=by first|(rw [hy151];with_reducible exact H)|(have H2_:=(Option.bind_some _ _).symm.trans H;rw [hy151];with_reducible exact H2_)|(have H2_:=(Option.bind_some _ _).symm.trans H;with_reducible exact H2_)|with_reducible exact H|(rw [hy151];exact H)|exact H
       have Ny151:=mk0 hy151
       clear hy151
       have H':=mk0 H
       clear H
       try go_wp2
       replace HO_6:=mk0 (dR HO_6.out)
       replace HO_7:=mk0 (dR HO_7.out)
       replace BK136:=mk0 (dB BK136.out)
       replace HB:=mk0 (dZ HB.out)
       obtain⟨Ao28,co28,eo28⟩:=Kd.R_slice HO_6.out
       (first|subst eo28|(injection eo28 with f1_ f2_ f3_;have f4_:=f1_.symm;have f5_:=f3_.symm;clear f1_ f2_ f3_;subst f4_;subst f5_))
       have p146:0 ≤ ((rd l0 x8_2):Int):=of_decide_eq_true (by first|(with_reducible assumption)|assumption)
       have q146:(rd l0 x8_2) < (t137.length:Int):=of_decide_eq_true (by first|(with_reducible assumption)|assumption)
       obtain⟨ad146,e146,hx146_0⟩:=Kd.at_int (Kd.R_reads' HO_6.out).2.2 (rd l0 x8_2) p146 q146
       cases e146
       replace p146:=eq_true p146
       replace q146:=eq_true q146
       have p147:0 ≤ ((rd l0 x8_2):Int):=of_decide_eq_true (by first|(with_reducible assumption)|assumption)
       have q147:(rd l0 x8_2) < (l1.length:Int):=of_decide_eq_true (by first|(with_reducible assumption)|assumption)
       obtain⟨ad147,e147,hx147_0⟩:=Kd.at_int HR1.out (rd l0 x8_2) p147 q147
       have hw147_0:=hx147_0
       cases e147
       replace hx147_0:=(HB.out.cell (World.block_lt_of_cell? w _ hx147_0)).trans hx147_0
       replace p147:=eq_true p147
       replace q147:=eq_true q147
       refine start_ (n:=12) (S:=fun w'=>w'.cell? (ad146.add ((rd l0 x8_2)).toNat) = some (.int .i64 (rd t137 (rd l0 x8_2))) ∧ w'.cell? (ad147.add ((rd l0 x8_2)).toNat) = some (.int .i64 (rd l1 (rd l0 x8_2)))) (ds:=[10]) spec_HuffWrite.m0 (by kernel_rfl) rfl rfl ⟨hx146_0,((HB.out.cell (World.block_lt_of_cell? w _ hw147_0)).trans hw147_0)⟩ (fun hHeld=>?_);refine with_tabW spec_HuffWrite.tab11 spec_HuffWrite.bits11 (fun HT_ HW_=>?_)
       generalize wc.drew = w27 at HO_6 HO_7 BK136 HB hx146_0 hx147_0 hHeld ⊢
       refine pure_ (i:=0) (N:=some 48) (v:=?_) (a':=?_) spec_HuffWrite.m1 rfl rfl (any_of HT_.out (by kernel_rfl)) (fun _ _ _ h=>h) (Or.inl ⟨by rfl,?_⟩) ?_ ?_
       rotate_left
       ·intro w'
        go_simp
        with_reducible rfl
       rotate_left
       ·simp only [Act.put,sA,sO,sS,i64_w,i32_w]
        rfl
       refine pure_ (i:=1) (N:=some 49) (v:=?_) (a':=?_) spec_HuffWrite.m2 rfl rfl (any_of HT_.out (by kernel_rfl)) (fun _ _ _ h=>h) (Or.inl ⟨by rfl,?_⟩) ?_ ?_
       rotate_left
       ·intro w'
        go_simp
        with_reducible rfl
       rotate_left
       ·simp only [Act.put,sA,sO,sS,i64_w,i32_w]
        rfl
       refine pure_ (i:=2) (N:=some 50) (v:=?_) (a':=?_) spec_HuffWrite.m3 rfl rfl (any_of HT_.out (by kernel_rfl)) (fun _ _ _ h=>h) (Or.inl ⟨by rfl,?_⟩) ?_ ?_
       rotate_left
       ·intro w'
        go_simp
        with_reducible rfl
       rotate_left
       ·simp only [Act.put,sA,sO,sS,i64_w,i32_w]
        rfl
       refine pure_ (i:=3) (N:=some 51) (v:=?_) (a':=?_) spec_HuffWrite.m4 rfl rfl (any_of HT_.out (by kernel_rfl)) (fun _ _ _ h=>h) (Or.inl ⟨by rfl,?_⟩) ?_ ?_
       rotate_left
       ·intro w'
        go_simp
        with_reducible rfl
       rotate_left
       ·simp only [Act.put,sA,sO,sS,i64_w,i32_w]
        rfl
       refine pure_ (i:=5) (N:=some 53) (v:=?_) (a':=?_) spec_HuffWrite.m5 rfl rfl (any_of HT_.out (by kernel_rfl)) (fun _ _ _ h=>h) (Or.inl ⟨by rfl,?_⟩) ?_ ?_
       rotate_left
       ·intro w'
        go_simp
        with_reducible rfl
       rotate_left
       ·simp only [Act.put,sA,sO,sS,i64_w,i32_w]
        rfl
       refine pure_ (i:=6) (N:=some 54) (v:=?_) (a':=?_) spec_HuffWrite.m6 rfl rfl (any_of HT_.out (by kernel_rfl)) (fun _ _ _ h=>h) (Or.inl ⟨by rfl,?_⟩) ?_ ?_
       rotate_left
       ·intro w'
        go_simp
        with_reducible rfl
       rotate_left
       ·simp only [Act.put,sA,sO,sS,i64_w,i32_w]
        rfl
       refine pure_ (i:=7) (N:=some 55) (v:=?_) (a':=?_) spec_HuffWrite.m7 rfl rfl (any_of HT_.out (by kernel_rfl)) (fun _ _ _ h=>h) (Or.inl ⟨by rfl,?_⟩) ?_ ?_
       rotate_left
       ·intro w'
        go_simp
        with_reducible rfl
       rotate_left
       ·simp only [Act.put,sA,sO,sS,i64_w,i32_w]
        rfl
       refine take_ (i:=4) (N:=some 52) (v:=?_) (a':=?_) spec_HuffWrite.m8 rfl rfl (take_ofW HT_.out HW_.out (by kernel_rfl)) (fun _ _ _ h=>h) (Or.inl ⟨by rfl,?_⟩) hHeld ?_ ?_
       rotate_left
       ·rintro w' ⟨s0,s1⟩
        go_simp
        with_reducible rfl
       rotate_left
       ·simp only [Act.put,sA,sO,sS,i64_w,i32_w]
        rfl
       refine take_ (i:=8) (N:=some 56) (v:=?_) (a':=?_) spec_HuffWrite.m9 rfl rfl (take_ofW HT_.out HW_.out (by kernel_rfl)) (fun _ _ _ h=>h) (Or.inl ⟨by rfl,?_⟩) hHeld ?_ ?_
       rotate_left
       ·rintro w' ⟨s0,s1⟩
        go_simp
        with_reducible rfl
       rotate_left
       ·simp only [Act.put,sA,sO,sS,i64_w,i32_w]
        rfl
       refine one_ (i:=9) (N:=some 57) spec_HuffWrite.m10 rfl rfl (one_of HT_.out (by kernel_rfl)) (by decide) (fun K hK=>?_)
       refine goes_ Try.func39 (by kernel_rfl) rfl #[.int .i64 (rd t137 (rd l0 x8_2)),.int .i64 (rd l1 (rd l0 x8_2))] (by rfl) rfl rfl (by (try simp only [mA,mC,mN]);first|done|rfl|(simp only [List.length_drop,List.length_take];done)|(simp only [List.length_drop,List.length_take];rfl)) ?_
       with_reducible refine (spec_l08Code.calls kj14 (rd t137 (rd l0 x8_2)) (rd l1 (rd l0 x8_2)) t148 _ A25.out).mono ?_
       rintro e w29 ⟨v149,rfl,ho0,hb⟩
       have HS0_:=(hb.cell (World.block_lt_of_cell? _ _ (hHeld.1))).trans (hHeld.1)
       refine⟨_,rfl,?_⟩
       have HO150:=mk0 (Kd.R_lower (Kd.R_new' (Kd.R_new' ho0 (Kd.R_lt (rR HO_6.out))) (Kd.R_lt (rR HO_7.out))) (kZ HB.out))
       replace HO_6:=mk0 (Kd.R_elder' (rR HO_6.out) (Kd.R_base ho0) hb)
       replace HO_7:=mk0 (Kd.R_elder' (rR HO_7.out) (Kd.R_base ho0) hb)
       replace BK136:=mk0 (kK BK136.out hb)
       replace HB:=mk0 (kS HB.out hb)
       (try clear hb)
       (try clear ho0)
       obtain⟨Ao31,co31,eo31⟩:=Kd.R_slice HO150.out
       (first|subst eo31|(injection eo31 with f1_ f2_ f3_;have f4_:=f1_.symm;have f5_:=f3_.symm;clear f1_ f2_ f3_;subst f4_;subst f5_))
       refine hK.out _ _ ⟨HS0_,((HB.out.cell (World.block_lt_of_cell? w _ hw147_0)).trans hw147_0)⟩ (fun hHeld=>?_)
       clear hK K
       refine norm_ (a':=?_) ?_ ?_
       rotate_left
       ·show Act.put _ (some 57) _ = _
        simp only [Act.put,sA,sO,sS,i64_w,i32_w]
        rfl
       refine last_ (i:=10) (N:=some 58) spec_HuffWrite.m11 rfl rfl (one_of HT_.out (by kernel_rfl)) (by decide) (fun K hK=>?_)
       refine Kd.R_append_rows_step (Kd.int .i64) (w0:=w) w.heap.size (by rfl) (.tmp 48) (.tmp 57) 24 3 (.int .i64 0) 8 rfl Try.underlying24 info3 rfl (by decide) (by omega) u7 x7_2 t148 _ _ _ (fun k_=>some k_ ≠ (.slice (some ad146) t137.length co28:Value).ownBlock ∧ some k_ ≠ (.slice Ao31 t148.length co31:Value).ownBlock) (fun _=>False) rfl rfl ?aO ?aR (fun _ _ h=>h) (fun _ h=>h.elim) ?aF ?aB ?aS ?aL ?_
       (case aR=>repeat (first|exact (Kd.R_reads' HO150.out).2.2|(with_reducible first|apply aC|apply nC|apply dC)))
       (case aB=>exact (kB HB.out))
       (case aF=>exact (fun k_ hk=>⟨Kd.fresh' (Kd.R_lt (rR HO_6.out)) k_ hk,Kd.fresh' (Kd.R_lt (rR HO150.out)) k_ hk⟩))
       (case aO=>exact (rR HO_7.out))
       (case aS=>exact (kZ HB.out))
       (case aL=>have:=LMc26.out;omega)
       intro v152 w30 ho hb hg hat
       rw [← Ny151.out] at ho
       replace HO_6:=mk0 (Kd.R_after (ok:=(fun k_=>some k_ ≠ (.slice Ao31 t148.length co31:Value).ownBlock)) (by (with_reducible repeat (first|apply aR|apply nR|apply dR));exact Kd.R_mono HO_6.out (by first|exact fun _ hk=>⟨hk.2,hk.1⟩|(intro k_ hk;simp only [hk,ne_eq,and_self,not_false_eq_true]))) hg hat)
       replace BK136:=mk0 (blk_grown (kN BK136.out) hg (Kd.R_ne HO_7.out BK136.out (by decide)))
       replace HO150:=mk0 (Kd.R_after (ok:=(fun k_=>some k_ ≠ (.slice (some ad146) t137.length co28:Value).ownBlock)) (by (with_reducible repeat (first|apply aR|apply nR|apply dR));exact Kd.R_mono HO150.out (by first|exact fun _ hk=>⟨hk.1.2,hk.2⟩|(intro k_ hk;simp only [hk,ne_eq,and_self,not_false_eq_true]))) hg hat)
       replace HB:=mk0 (hb)
       have HO153:=mk0 (ho)
       clear HO_7
       clear ho hb hg hat
       refine hK.out _ _ ?_
       clear hK K
       refine norm_ (a':=?_) ?_ ?_
       rotate_left
       ·show Act.put _ (some 58) _ = _
        simp only [Act.put,sA,sO,sS,i64_w,i32_w]
        rfl
       refine pure_ (i:=11) (N:=some 7) (v:=?_) (a':=?_) spec_HuffWrite.m12 rfl rfl (any_of HT_.out (by kernel_rfl)) (fun _ _ _ h=>h) (Or.inl ⟨by rfl,?_⟩) ?_ ?_
       rotate_left
       ·intro w'
        go_simp
        with_reducible rfl
       rotate_left
       ·simp only [Act.put,sA,sO,sS,i64_w,i32_w]
        rfl
       refine done_ (done_of HT_.out (by kernel_rfl)) ?_
       try go_wp2
       go_roundg kj14
       case measure=>have:=HJ3.out;have:=HK2.out;have:=HJ14.out;omega
       case rel=>exact⟨(y151),(wrap64 (x8_2 + 1)),(x137000_2),(by first|rfl|(simp;done)|(simp [*];done)),H',⟨by have:=HJ3.out;have:=HK2.out;have:=HJ14.out;omega⟩,⟨by (with_reducible repeat (first|apply aR|apply nR|apply dR));exact Kd.R_mono HO_6.out (by first|exact fun _ hk=>hk.2|(intro k_ hk;simp only [hk,ne_eq,and_self,not_false_eq_true]))⟩,⟨by (with_reducible repeat (first|apply aR|apply nR|apply dR));exact Kd.R_mono HO153.out (by first|exact fun _ hk=>hk.1|(intro k_ hk;simp only [hk,ne_eq,and_self,not_false_eq_true]))⟩,⟨kN BK136.out⟩,⟨kB HB.out⟩⟩
-- NOT PRINTED: function 77 (slices_IndexFunc_int_int)

-- NOT PRINTED: function 72 (slices_ContainsFunc_int_int)

-- NOT PRINTED: function 53 (impl_areAll_int)

/-! ### slices_Max_int_int: function 68 -/
def slices_Max_int_int.l0 : Nat → List Int → Int → Int → Option (Int)
 | 0, _, _, _ => none
 | k + 1, x0, x3, x4 => if x4 < (x0.length : Int) then (if 0 ≤ x4 then (slices_Max_int_int.l0 k x0 (mx x3 (rd x0 x4)) (wrap64 (x4 + 1))) else (none)) else (some x3)
def slices_Max_int_int.f (k : Nat) (l0 : List Int) : Option (Int) := if (l0.length : Int) < 1 then (none) else (if 0 < (l0.length : Int) then (slices_Max_int_int.l0 k l0 (rd l0 0) 1) else (none))
theorem slices_Max_int_int.mono_l : ∀ k, (∀ y0 y1 y2, LeO (slices_Max_int_int.l0 k y0 y1 y2) (slices_Max_int_int.l0 (k + 1) y0 y1 y2))
 | 0 => fun _ _ _ r h => by simp [slices_Max_int_int.l0] at h
 | k + 1 => by
  have ih0 := slices_Max_int_int.mono_l k
  ·intro y0 y1 y2
   unfold slices_Max_int_int.l0
   repeat' first|(with_reducible first|exact ih0 _ _ _|exact LeO.refl _|exact LeO.none _|refine LeO.ite ?_ ?_|refine LeO.bind ?_ (fun _ => ?_))|exact LeO.none _|refine LeO.ite ?_ ?_|refine LeO.bind ?_ (fun _ => ?_)
theorem slices_Max_int_int.mono : ∀ a0 k, LeO (slices_Max_int_int.f k a0) (slices_Max_int_int.f (k + 1) a0) := by
 intro a0 k
 have ih0 := slices_Max_int_int.mono_l k
 unfold slices_Max_int_int.f
 repeat' first|(with_reducible first|exact ih0 _ _ _|exact LeO.refl _|exact LeO.none _|refine LeO.ite ?_ ?_|refine LeO.bind ?_ (fun _ => ?_))|exact LeO.none _|refine LeO.ite ?_ ?_|refine LeO.bind ?_ (fun _ => ?_)
set_option maxHeartbeats 8000000 in
set_option maxRecDepth 100000 in
theorem slices_Max_int_int.calls (k : Nat) (A0 : Option Addr) (c0 : Nat) (l0 : List Int) (r : Int) (w : World) (hr0 : Kd.C (Kd.int .i64) w A0 l0.length l0) (hc0 : l0.length ≤ c0) (h : slices_Max_int_int.f k l0 = some r) :
  Calls Try.prog 68 #[.slice A0 l0.length c0] w fun e w' => e = .returned (.int .i64 r) ∧ Below w.heap.size w w' := by
 have HR0:=mk0 hr0
 have HC0:=mk0 hc0
 clear hr0 hc0
 have HB:=mk0 (Below.refl w.heap.size w)
 have H:(if (l0.length:Int) < 1 then (none) else (if 0 < (l0.length:Int) then (slices_Max_int_int.l0 k l0 (rd l0 0) 1) else (none))) = some r:=h
 clear h
 by_cases c2:(l0.length:Int) < 1
 ·rw [if_pos c2] at H
  exact absurd H (by simp)
 ·rw [if_neg c2] at H
  have c2b0:decide ((l0.length:Int) < 1) = false:=decide_eq_false c2
  have c2b1:decide (l0.length < 1) = false:=decide_eq_false (by omega)
  clear c2
  by_cases c3:0 < (l0.length:Int)
  ·rw [if_pos c3] at H
   have c3b0:decide (0 < (l0.length:Int)) = true:=decide_eq_true c3
   have c3b1:decide (0 < l0.length) = true:=decide_eq_true (by omega)
   clear c3
   have H':=mk0 H
   clear H
   have p159:0 ≤ (0:Int):=(by omega)
   have q159:0 < (l0.length:Int):=of_decide_eq_true (by first|(with_reducible assumption)|assumption)
   obtain⟨ad159,e159,hx159_0⟩:=Kd.at_int HR0.out 0 p159 q159
   cases e159
   have qi159:(0 < l0.length) = True:=eq_true (by omega)
   (try rw [show ((0:Int)).toNat = 0 from rfl] at hx159_0)
   (try rw [Addr.add_zero'] at hx159_0)
   replace p159:=eq_true p159
   replace q159:=eq_true q159
   go_enter Try.func68,Try.ntmps68
   go_wp2
   go_loopg [3,4] k (fun kq v3 v4 w'=>∃ (x3_1:Int) (x4_1:Int),v3 = .int .i64 x3_1 ∧ v4 = .int .i64 x4_1 ∧ Aside0 (slices_Max_int_int.l0 kq l0 x3_1 x4_1 = some r) ∧ Aside0 (kq ≤ k) ∧ Aside0 (Below w.heap.size w w'))
   case atStart=>exact⟨(rd l0 0),(1),(by first|rfl|(simp;done)|(simp [*];done)),(by first|rfl|(simp;done)|(simp [*];done)),H',⟨Nat.le_refl _⟩,⟨kB HB.out⟩⟩
   case round =>
    clear H'
    try clear p1
    try clear q1
    try clear hx1
    try clear qi1
    try clear c2
    try clear c2b0
    try clear c2b1
    try clear p2
    try clear c3
    try clear c3b0
    try clear c3b1
    try clear hx159_0
    try clear p159
    try clear q159
    obtain⟨x3_1,x4_1,rfl,rfl,HA,HK1,HB⟩:=hrel
    cases gk with
    | zero=>exact absurd HA.out (by simp [slices_Max_int_int.l0])
    | succ k1 =>
     have H:=HA.out
     clear HA
     simp only [slices_Max_int_int.l0] at H
     by_cases c4:x4_1 < (l0.length:Int)
     ·rw [if_pos c4] at H
      have c4b0:decide (x4_1 < (l0.length:Int)) = true:=decide_eq_true c4
      clear c4
      by_cases c5:0 ≤ x4_1
      ·rw [if_pos c5] at H
       have c5b0:decide (0 ≤ x4_1) = true:=decide_eq_true c5
       clear c5
       obtain⟨ji6,hji6⟩:∃ j_:Int,(mx x3_1 (rd l0 x4_1)) = j_:=⟨_,rfl⟩
       replace H:(slices_Max_int_int.l0 k1 l0 ji6 (wrap64 (x4_1 + 1))) = some r:=by first|(rw [hji6] at H;exact H)|(simp only [hji6] at H ⊢;exact H)
       have hji6_:(if x3_1 < (rd l0 x4_1) then (rd l0 x4_1) else x3_1) = ji6:=hji6
       have H':=mk0 H
       clear H
       have p160:0 ≤ (x4_1:Int):=of_decide_eq_true (by first|(with_reducible assumption)|assumption)
       have q160:x4_1 < (l0.length:Int):=of_decide_eq_true (by first|(with_reducible assumption)|assumption)
       obtain⟨ad160,e160,hx160_0⟩:=Kd.at_int HR0.out x4_1 p160 q160
       obtain rfl:ad159 = ad160:=(by injection e160)
       replace hx160_0:=(HB.out.cell (World.block_lt_of_cell? w _ hx160_0)).trans hx160_0
       replace p160:=eq_true p160
       replace q160:=eq_true q160
       go_wp2
       go_roundg k1
       case measure=>have:=HK1.out;omega
       case rel=>exact⟨(ji6),(wrap64 (x4_1 + 1)),(by first|rfl|(simp;done)|(simp only [← hji6] <;> (first|rfl|simp))|(simp [*];done)),(by first|rfl|(simp;done)|(simp [*];done)),H',⟨by have:=HK1.out;omega⟩,⟨kB HB.out⟩⟩
      ·rw [if_neg c5] at H
       exact absurd H (by simp)
     ·rw [if_neg c4] at H
      have c4b0:decide (x4_1 < (l0.length:Int)) = false:=decide_eq_false c4
      clear c4
      obtain rfl:=Option.some.inj H
      go_wp2
      go_ret
      exact⟨by first|rfl|(simp [errW_none,errW_some] <;> rfl)|(simp [*,errW_none,errW_some] <;> rfl),kB HB.out⟩
  ·rw [if_neg c3] at H
   exact absurd H (by simp)


/-! ### impl_areAll_67: areAll at the function value 67 -/
def impl_areAll_67.f (l0 : List Int) : Option (Bool) := if l0.length ≤ maxLen then some (l0.all Fv.p67) else none
theorem impl_areAll_67.calls (A0 : Option Addr) (c0 : Nat) (l0 : List Int) (r : Bool) (w : World) (hr0 : Kd.C (Kd.int .i64) w A0 l0.length l0) (hc0 : l0.length ≤ c0) (h : impl_areAll_67.f l0 = some r) :
    Calls Try.prog 53 #[.slice A0 l0.length c0, .func (.func 67) #[] #[]] w fun e w' => e = .returned (.bool r) ∧ Below w.heap.size w w' := by
  unfold impl_areAll_67.f at h
  by_cases hm : l0.length ≤ maxLen
  · rw [if_pos hm] at h
    obtain rfl := Option.some.inj h
    exact Fv.areAll 67 #[] _ (enters_of Try.func67 (by kernel_rfl) rfl) A0 c0 l0 w hr0 hc0 hm (Fv.tells67 w)
  · rw [if_neg hm] at h
    exact absurd h (by simp)

/-! ### impl_HuffOk: function 35 -/
mutual
def impl_HuffOk.j0 : Nat → List Int → Bool → Option (Bool)
 | 0, _, _ => none
 | k + 1, x0, x14 => if x14 = true then (some false) else (impl_HuffOk.l0 k x0 0 0 x0 (x0.length : Int) 0)
def impl_HuffOk.l0 : Nat → List Int → Int → Int → List Int → Int → Int → Option (Bool)
 | 0, _, _, _, _, _, _ => none
 | k + 1, x0, x3, x4, x15, x16, x17 => if x17 < x16 then (if 0 ≤ x17 then (if x17 < (x15.length : Int) then (if (rd x15 x17) > 0 then (if 0 ≤ (wrap64 (60 - (rd x15 x17))) then (impl_HuffOk.l0 k x0 (wrap64 (x3 + 1)) (mn (wrap64 (x4 + (shl .i64 1 (wrap64 (60 - (rd x15 x17)))))) 1152921504606846977) x15 x16 (wrap64 (x17 + 1))) else (none)) else (impl_HuffOk.l0 k x0 x3 x4 x15 x16 (wrap64 (x17 + 1)))) else (none)) else (none)) else (if x4 = 1152921504606846976 then (some true) else (if x3 = 1 then ((slices_Max_int_int.f k x0).bind fun t163 => (some (t163 == 1))) else (some false)))
end
def impl_HuffOk.f (k : Nat) (l0 : List Int) : Option (Bool) := if (l0.length : Int) > 300 then (impl_HuffOk.j0 k l0 true) else ((impl_areAll_67.f l0).bind fun t161 => (impl_HuffOk.j0 k l0 (!t161)))
theorem impl_HuffOk.mono_l : ∀ k, (∀ y0 y1, LeO (impl_HuffOk.j0 k y0 y1) (impl_HuffOk.j0 (k + 1) y0 y1)) ∧ (∀ y0 y1 y2 y3 y4 y5, LeO (impl_HuffOk.l0 k y0 y1 y2 y3 y4 y5) (impl_HuffOk.l0 (k + 1) y0 y1 y2 y3 y4 y5))
 | 0 => ⟨fun _ _ r h => by simp [impl_HuffOk.j0] at h, fun _ _ _ _ _ _ r h => by simp [impl_HuffOk.l0] at h⟩
 | k + 1 => by
  obtain ⟨ih0, ih1⟩ := impl_HuffOk.mono_l k
  refine ⟨?_, ?_⟩
  ·intro y0 y1
   unfold impl_HuffOk.j0
   repeat' first|(with_reducible first|exact ih0 _ _|exact ih1 _ _ _ _ _ _|exact slices_Max_int_int.mono _ _|exact LeO.refl _|exact LeO.none _|refine LeO.ite ?_ ?_|refine LeO.bind ?_ (fun _ => ?_))|exact LeO.none _|refine LeO.ite ?_ ?_|refine LeO.bind ?_ (fun _ => ?_)
  ·intro y0 y1 y2 y3 y4 y5
   unfold impl_HuffOk.l0
   repeat' first|(with_reducible first|exact ih0 _ _|exact ih1 _ _ _ _ _ _|exact slices_Max_int_int.mono _ _|exact LeO.refl _|exact LeO.none _|refine LeO.ite ?_ ?_|refine LeO.bind ?_ (fun _ => ?_))|exact LeO.none _|refine LeO.ite ?_ ?_|refine LeO.bind ?_ (fun _ => ?_)
theorem impl_HuffOk.mono : ∀ a0 k, LeO (impl_HuffOk.f k a0) (impl_HuffOk.f (k + 1) a0) := by
 intro a0 k
 obtain ⟨ih0, ih1⟩ := impl_HuffOk.mono_l k
 unfold impl_HuffOk.f
 repeat' first|(with_reducible first|exact ih0 _ _|exact ih1 _ _ _ _ _ _|exact slices_Max_int_int.mono _ _|exact LeO.refl _|exact LeO.none _|refine LeO.ite ?_ ?_|refine LeO.bind ?_ (fun _ => ?_))|exact LeO.none _|refine LeO.ite ?_ ?_|refine LeO.bind ?_ (fun _ => ?_)
set_option maxHeartbeats 8000000 in
set_option maxRecDepth 100000 in
theorem impl_HuffOk.calls (k : Nat) (A0 : Option Addr) (c0 : Nat) (l0 : List Int) (r : Bool) (w : World) (hr0 : Kd.C (Kd.int .i64) w A0 l0.length l0) (hc0 : l0.length ≤ c0) (h : impl_HuffOk.f k l0 = some r) :
  Calls Try.prog 35 #[.slice A0 l0.length c0] w fun e w' => e = .returned (.bool r) ∧ Below w.heap.size w w' := by
 have HR0:=mk0 hr0
 have HC0:=mk0 hc0
 clear hr0 hc0
 have HB:=mk0 (Below.refl w.heap.size w)
 have H:(if (l0.length:Int) > 300 then (impl_HuffOk.j0 k l0 true) else ((impl_areAll_67.f l0).bind fun t161=>(impl_HuffOk.j0 k l0 (!t161)))) = some r:=h
 clear h
 have HC2:=mk0 H
 clear H
 go_enter Try.func35,Try.ntmps35
 go_upto_region 1 with (fail)
 go_cut [14] (fun v14 wc=>∃ (kq:Nat) (x14_1:Bool),v14 = .bool x14_1 ∧ Aside0 (impl_HuffOk.j0 kq l0 x14_1 = some r) ∧ Aside0 (kq ≤ k) ∧ Aside0 (Below w.heap.size w wc))
 case first =>
  have H:=HC2.out
  clear HC2
  by_cases c3:(l0.length:Int) > 300
  ·rw [if_pos c3] at H
   have c3b0:decide (300 < (l0.length:Int)) = true:=decide_eq_true c3
   have c3b1:decide (300 < l0.length) = true:=decide_eq_true (by omega)
   clear c3
   (first|rw [c3b0]|(simp only [i64_w,i32_w];rw [c3b0])|skip)
   have H':=mk0 H
   clear H
   go_wp2
   go_meet
   case rel=>exact⟨_,(true),(by first|rfl|(simp;done)|(simp [*];done)),H',⟨by first|omega|exact Nat.le_refl _⟩,⟨kB HB.out⟩⟩
  ·rw [if_neg c3] at H
   have c3b0:decide (300 < (l0.length:Int)) = false:=decide_eq_false c3
   have c3b1:decide (300 < l0.length) = false:=decide_eq_false (by omega)
   clear c3
   (first|rw [c3b0]|(simp only [i64_w,i32_w];rw [c3b0])|skip)
   replace H:=Option.bind_eq_some_iff.mp H
   obtain⟨t161,A40,H⟩:=H
   replace H:(impl_HuffOk.j0 k l0 (!t161)) = some r:=H
   have A4:=mk0 A40
   clear A40
   have H':=mk0 H
   clear H
   go_wp2_with (first|(go_at_call 53;(with_reducible refine (impl_areAll_67.calls _ _ l0 t161 _ ?side1 ?side2 A4.out).mono ?_);(case side1=>exact kC (Kd.C_below HR0.out HB.out));(case side2=>exact HC0.out);rintro e w5 ⟨rfl,hb⟩;replace HB:=mk0 (kS HB.out hb);(try clear hb)))
   go_meet
   case rel=>exact⟨_,(!t161),(by first|rfl|(simp;done)|(simp [*];done)),H',⟨by first|omega|exact Nat.le_refl _⟩,⟨kB HB.out⟩⟩
 case rest =>
  clear HC2
  try clear p2
  try clear c3
  try clear c3b0
  try clear c3b1
  obtain⟨kq,x14_1,rfl,HA,HJ1,HB⟩:=hcut
  cases kq with
  | zero=>exact absurd HA.out (by simp [impl_HuffOk.j0])
  | succ kj1 =>
   have H:=HA.out
   clear HA
   simp only [impl_HuffOk.j0] at H
   by_cases c6:x14_1 = true
   ·subst c6
    have H1:(some false) = some r:=by rw [if_pos rfl] at H;exact H
    clear H
    have H:=H1
    clear H1
    obtain rfl:=Option.some.inj H
    go_wp2
    go_ret
    exact⟨by first|rfl|(simp [errW_none,errW_some] <;> rfl)|(simp [*,errW_none,errW_some] <;> rfl),kB HB.out⟩
   ·replace c6:=Bool.eq_false_iff.mpr c6
    subst c6
    have H1:(impl_HuffOk.l0 kj1 l0 0 0 l0 (l0.length:Int) 0) = some r:=by rw [if_neg (show ¬ (false = true) by decide)] at H;exact H
    clear H
    have H:=H1
    clear H1
    have H':=mk0 H
    clear H
    go_wp2
    go_loopg [3,4,17] kj1 (fun kq v3 v4 v17 w'=>∃ (x3_2:Int) (x4_2:Int) (x17_2:Int),v3 = .int .i64 x3_2 ∧ v4 = .int .i64 x4_2 ∧ v17 = .int .i64 x17_2 ∧ Aside0 (impl_HuffOk.l0 kq l0 x3_2 x4_2 l0 (l0.length:Int) x17_2 = some r) ∧ Aside0 (kq ≤ kj1) ∧ Aside0 (Below w.heap.size w w'))
    case atStart=>exact⟨(0),(0),(0),(by first|rfl|(simp;done)|(simp [*];done)),(by first|rfl|(simp;done)|(simp [*];done)),(by first|rfl|(simp;done)|(simp [*];done)),H',⟨Nat.le_refl _⟩,⟨kB HB.out⟩⟩
    case round =>
     clear H'
     try clear p2
     try clear c3
     try clear c3b0
     try clear c3b1
     try clear c6
     try clear p2
     obtain⟨x3_2,x4_2,x17_2,rfl,rfl,rfl,HA,HK2,HB⟩:=hrel
     cases gk with
     | zero=>exact absurd HA.out (by simp [impl_HuffOk.l0])
     | succ k2 =>
      have H:=HA.out
      clear HA
      simp only [impl_HuffOk.l0] at H
      by_cases c7:x17_2 < (l0.length:Int)
      ·rw [if_pos c7] at H
       have c7b0:decide (x17_2 < (l0.length:Int)) = true:=decide_eq_true c7
       clear c7
       by_cases c8:0 ≤ x17_2
       ·rw [if_pos c8] at H
        have c8b0:decide (0 ≤ x17_2) = true:=decide_eq_true c8
        clear c8
        by_cases c9:x17_2 < (l0.length:Int)
        ·rw [if_pos c9] at H
         have c9b0:decide (x17_2 < (l0.length:Int)) = true:=decide_eq_true c9
         clear c9
         by_cases c10:(rd l0 x17_2) > 0
         ·rw [if_pos c10] at H
          have c10b0:decide (0 < (rd l0 x17_2)) = true:=decide_eq_true c10
          clear c10
          obtain⟨ji11,hji11⟩:∃ j_:Int,(wrap64 (60 - (rd l0 x17_2))) = j_:=⟨_,rfl⟩
          replace H:(if 0 ≤ (ji11) then (impl_HuffOk.l0 k2 l0 (wrap64 (x3_2 + 1)) (mn (wrap64 (x4_2 + (shl .i64 1 (ji11)))) 1152921504606846977) l0 (l0.length:Int) (wrap64 (x17_2 + 1))) else (none)) = some r:=by first|(rw [hji11] at H;exact H)|(simp only [hji11] at H ⊢;exact H)
          have hji11w:(IntKind.i64.wrap (60 - (rd l0 x17_2))) = ji11:=(i64_w _).trans hji11
          by_cases c12:0 ≤ (ji11)
          ·rw [if_pos c12] at H
           have c12b0:=eq_true c12
           have c12b1:decide (0 ≤ (ji11)) = true:=decide_eq_true c12
           clear c12
           obtain⟨ji13,hji13⟩:∃ j_:Int,(shl .i64 1 (ji11)) = j_:=⟨_,rfl⟩
           replace H:(impl_HuffOk.l0 k2 l0 (wrap64 (x3_2 + 1)) (mn (wrap64 (x4_2 + (ji13))) 1152921504606846977) l0 (l0.length:Int) (wrap64 (x17_2 + 1))) = some r:=by first|(rw [hji13] at H;exact H)|(simp only [hji13] at H ⊢;exact H)
           have hji13_:(IntKind.i64.wrap (1 * 2 ^ min (ji11).toNat 64)) = ji13:=hji13
           have hji13z:(ji11) ≤ 64 → (IntKind.i64.wrap (1 * 2 ^ (ji11).toNat)) = ji13:=shl_small hji13
           have hji13u:(IntKind.i64.wrap (2 ^ min (ji11).toNat 64)) = ji13:=by have h_:=hji13_;rw [Int.one_mul] at h_;exact h_
           have hji13v:(ji11) ≤ 64 → (IntKind.i64.wrap (2 ^ (ji11).toNat)) = ji13:=fun hle_=>by have h_:=hji13z hle_;rw [Int.one_mul] at h_;exact h_
           have hji13y:(wrap64 (1 * 2 ^ min (ji11).toNat 64)) = ji13:=(i64_w _).symm.trans hji13_
           have hji13x:(ji11) ≤ 64 → (wrap64 (1 * 2 ^ (ji11).toNat)) = ji13:=fun h_=>(i64_w _).symm.trans (hji13z h_)
           obtain⟨ji14,hji14⟩:∃ j_:Int,(mn (wrap64 (x4_2 + (ji13))) 1152921504606846977) = j_:=⟨_,rfl⟩
           replace H:(impl_HuffOk.l0 k2 l0 (wrap64 (x3_2 + 1)) ji14 l0 (l0.length:Int) (wrap64 (x17_2 + 1))) = some r:=by first|(rw [hji14] at H;exact H)|(simp only [hji14] at H ⊢;exact H)
           have hji14_:(if 1152921504606846977 < (wrap64 (x4_2 + (ji13))) then 1152921504606846977 else (wrap64 (x4_2 + (ji13)))) = ji14:=hji14
           have H':=mk0 H
           clear H
           have p162:0 ≤ (x17_2:Int):=of_decide_eq_true (by first|(with_reducible assumption)|assumption)
           have q162:x17_2 < (l0.length:Int):=of_decide_eq_true (by first|(with_reducible assumption)|assumption)
           obtain⟨ad162,e162,hx162_0⟩:=Kd.at_int HR0.out x17_2 p162 q162
           cases e162
           replace hx162_0:=(HB.out.cell (World.block_lt_of_cell? w _ hx162_0)).trans hx162_0
           replace p162:=eq_true p162
           replace q162:=eq_true q162
           go_wp2
           go_roundg k2
           case measure=>have:=HJ1.out;have:=HK2.out;omega
           case rel=>exact⟨(wrap64 (x3_2 + 1)),(ji14),(wrap64 (x17_2 + 1)),(by first|rfl|(simp;done)|(simp [*];done)),(by first|rfl|(simp;done)|(simp only [← hji14] <;> (first|rfl|simp))|(simp [*];done)),(by first|rfl|(simp;done)|(simp [*];done)),H',⟨by have:=HJ1.out;have:=HK2.out;omega⟩,⟨kB HB.out⟩⟩
          ·rw [if_neg c12] at H
           exact absurd H (by simp)
         ·rw [if_neg c10] at H
          have c10b0:decide (0 < (rd l0 x17_2)) = false:=decide_eq_false c10
          clear c10
          have H':=mk0 H
          clear H
          have p162:0 ≤ (x17_2:Int):=of_decide_eq_true (by first|(with_reducible assumption)|assumption)
          have q162:x17_2 < (l0.length:Int):=of_decide_eq_true (by first|(with_reducible assumption)|assumption)
          obtain⟨ad162,e162,hx162_0⟩:=Kd.at_int HR0.out x17_2 p162 q162
          cases e162
          replace hx162_0:=(HB.out.cell (World.block_lt_of_cell? w _ hx162_0)).trans hx162_0
          replace p162:=eq_true p162
          replace q162:=eq_true q162
          go_wp2
          go_roundg k2
          case measure=>have:=HJ1.out;have:=HK2.out;omega
          case rel=>exact⟨(x3_2),(x4_2),(wrap64 (x17_2 + 1)),(by first|rfl|(simp;done)|(simp [*];done)),(by first|rfl|(simp;done)|(simp [*];done)),(by first|rfl|(simp;done)|(simp [*];done)),H',⟨by have:=HJ1.out;have:=HK2.out;omega⟩,⟨kB HB.out⟩⟩
        ·rw [if_neg c9] at H
         exact absurd H (by simp)
       ·rw [if_neg c8] at H
        exact absurd H (by simp)
      ·rw [if_neg c7] at H
       have c7b0:decide (x17_2 < (l0.length:Int)) = false:=decide_eq_false c7
       clear c7
       by_cases c15:x4_2 = 1152921504606846976
       ·rw [if_pos c15] at H
        have c15b0:(x4_2 == 1152921504606846976) = true:=beq_iff_eq.mpr c15
        have c15b1:(x4_2 != 1152921504606846976) = false:=bne_eq_false_iff_eq.mpr c15
        clear c15
        obtain rfl:=Option.some.inj H
        go_wp2
        go_ret
        exact⟨by first|rfl|(simp [errW_none,errW_some] <;> rfl)|(simp [*,errW_none,errW_some] <;> rfl),kB HB.out⟩
       ·rw [if_neg c15] at H
        have c15b0:(x4_2 == 1152921504606846976) = false:=beq_eq_false_iff_ne.mpr c15
        have c15b1:(x4_2 != 1152921504606846976) = true:=bne_iff_ne.mpr c15
        by_cases c16:x3_2 = 1
        ·rw [if_pos c16] at H
         have c16b0:(x3_2 == 1) = true:=beq_iff_eq.mpr c16
         have c16b1:(x3_2 != 1) = false:=bne_eq_false_iff_eq.mpr c16
         clear c16
         replace H:=Option.bind_eq_some_iff.mp H
         obtain⟨t163,A170,H⟩:=H
         replace H:(some (t163 == 1)) = some r:=H
         have A17:=mk0 A170
         clear A170
         obtain rfl:=Option.some.inj H
         go_wp2_with (first|(go_at_call 68;(with_reducible refine (slices_Max_int_int.calls k2 _ _ l0 t163 _ ?side1 ?side2 A17.out).mono ?_);(case side1=>exact kC (Kd.C_below HR0.out HB.out));(case side2=>exact HC0.out);rintro e w18 ⟨rfl,hb⟩;replace HB:=mk0 (kS HB.out hb);(try clear hb)))
         go_ret
         exact⟨by first|rfl|(simp [errW_none,errW_some] <;> rfl)|(simp [*,errW_none,errW_some] <;> rfl),kB HB.out⟩
        ·rw [if_neg c16] at H
         have c16b0:(x3_2 == 1) = false:=beq_eq_false_iff_ne.mpr c16
         have c16b1:(x3_2 != 1) = true:=bne_iff_ne.mpr c16
         obtain rfl:=Option.some.inj H
         go_wp2
         go_ret
         exact⟨by first|rfl|(simp [errW_none,errW_some] <;> rfl)|(simp [*,errW_none,errW_some] <;> rfl),kB HB.out⟩

end Go.Proofs.Ytgjmmegmkdklbaa.QFnHuffBack
