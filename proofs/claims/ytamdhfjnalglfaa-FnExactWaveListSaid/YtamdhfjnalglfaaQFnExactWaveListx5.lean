-- A walk, made by walk.py, a program of this session's.
import Derived.Test.YtamdhfjnalglfaaQFnExactWaveListx0
import Derived.Test.YtamdhfjnalglfaaQFnExactWaveListx4
namespace Go.Proofs.Ytamdhfjnalglfaa.QFnExactWaveList
open Go.RowKit Go.Proofs.YtamdhfjnalglfaaW.PrintWords Go.Proofs.YtamdhfjnalglfaaW.PrintLast Go.Proofs.YtamdhfjnalglfaaW.PrintMore
attribute [local go_sem] max2_int min2_int max_two min_two max_three min_three max_four min_four   -- for this text's walks alone
set_option linter.unusedVariables false
set_option linter.unusedSimpArgs false

/-! ### impl_WaveList: function 19 -/
def impl_WaveList.f (k : Nat) (a0_0 : Int) (l0_1 : List Int) (l0_2 : List (S64)) : Option (List Int) := (impl_Wave_read.f k a0_0 l0_1 l0_2).bind fun bt203 => (if bt203.2 = true then (some bt203.1) else (some ([] : List Int)))
theorem impl_WaveList.mono : ∀ a0 a1 a2 k, LeO (impl_WaveList.f k a0 a1 a2) (impl_WaveList.f (k + 1) a0 a1 a2) := by
 intro a0 a1 a2 k
 unfold impl_WaveList.f
 repeat' first|(with_reducible first|exact impl_Wave_read.mono _ _ _ _|exact LeO.refl _|exact LeO.none _|refine LeO.ite ?_ ?_|refine LeO.bind ?_ (fun _ => ?_))|exact LeO.none _|refine LeO.ite ?_ ?_|refine LeO.bind ?_ (fun _ => ?_)
set_option maxHeartbeats 8000000 in
set_option maxRecDepth 100000 in
theorem impl_WaveList.calls (k : Nat) (a0_0 : Int) (A0_1 : Option Addr) (c0_1 : Nat) (l0_1 : List Int) (A0_2 : Option Addr) (c0_2 : Nat) (l0_2 : List (S64)) (r : List Int) (w : World) (hr0_1 : Kd.C (Kd.int .i64) w A0_1 l0_1.length l0_1) (hc0_1 : l0_1.length ≤ c0_1) (hr0_2 : Kd.C k64 w A0_2 l0_2.length l0_2) (hc0_2 : l0_2.length ≤ c0_2) (h : impl_WaveList.f k a0_0 l0_1 l0_2 = some r) :
  Calls Try.prog 19 #[.agg #[.int .i64 a0_0, .slice A0_1 l0_1.length c0_1, .slice A0_2 l0_2.length c0_2]] w fun e w' => ∃ v0_ : Value, e = .returned (v0_) ∧ Kd.R (Kd.int .i64) 3 w' w.heap.size (fun _ => True) v0_ r ∧ Below w.heap.size w w' := by
 have hu30:=Try.underlying30
 have HR0_1:=mk0 hr0_1
 have HC0_1:=mk0 hc0_1
 clear hr0_1 hc0_1
 have HR0_2:=mk0 hr0_2
 have HC0_2:=mk0 hc0_2
 clear hr0_2 hc0_2
 have HB:=mk0 (Below.refl w.heap.size w)
 have H:((impl_Wave_read.f k a0_0 l0_1 l0_2).bind fun bt203=>(if bt203.2 = true then (some bt203.1) else (some ([]:List Int)))) = some r:=h
 clear h
 replace H:=Option.bind_eq_some_iff.mp H
 obtain⟨⟨t203,t206⟩,A20,H⟩:=H
 replace H:(if t206 = true then (some t203) else (some ([]:List Int))) = some r:=H
 have A2:=mk0 A20
 clear A20
 by_cases c3:t206 = true
 ·subst c3
  have H1:(some t203) = some r:=by rw [if_pos rfl] at H;exact H
  clear H
  have H:=H1
  clear H1
  obtain rfl:=Option.some.inj H
  go_enter Try.func19,Try.ntmps19
  go_wp2_with (first|((with_reducible refine gate_dst (N:=1) rfl ?_);refine box_event ?hg (N:=1) ?hd (cs:=#[.int .i64 a0_0,.slice A0_1 l0_1.length c0_1,.slice A0_2 l0_2.length c0_2]) (t:=30) ?hr ?_;(case hd=>rfl);(case hg=>rfl);(case hr=>first|(go_simp;done)|(go_simp;rfl));intro gb202 hg w4 hbox hb;have n0_:=mk0 (below_step (by repeat (first|(with_reducible first|exact HB.out|apply aZ|apply nZ|apply dZ)|exact HB.out)) hb);have n1_:=mk0 (hbox);have n2_:=mk0 ((by rw [hg];exact (below_size (by repeat (first|(with_reducible first|exact HB.out|apply aZ|apply nZ|apply dZ)|exact HB.out))):w.heap.size ≤ gb202));have n3_:=mk0 ((by rw [hg];exact (below_size (by repeat (first|(with_reducible first|exact HB.out|apply aZ|apply nZ|apply dZ)|exact HB.out))):w.heap.size ≤ gb202));clear HB;have HB:=n0_;have BK202:=n1_;have GW202:=n2_;have GE202:=n3_;clear n0_ n1_ n2_ n3_ hb hbox hg;have hcz5_0:w4.cell? ⟨gb202,0,none⟩ = some (.int .i64 a0_0):=(blk_cell BK202.out 0).trans rfl;have hcz5_1:w4.cell? ⟨gb202,1,none⟩ = some (.slice A0_1 l0_1.length c0_1):=(blk_cell BK202.out 1).trans rfl;have hcz5_2:w4.cell? ⟨gb202,2,none⟩ = some (.slice A0_2 l0_2.length c0_2):=(blk_cell BK202.out 2).trans rfl;have hfz5_0:=blk_frozen BK202.out 0;have hfz5_1:=blk_frozen BK202.out 1;have hfz5_2:=blk_frozen BK202.out 2)|((with_reducible refine gate_callee (f:=40) rfl ?_);refine goesL_ (some 7) rfl rfl Try.func40 (by kernel_rfl) rfl #[.agg #[.int .i64 a0_0,.slice A0_1 l0_1.length c0_1,.slice A0_2 l0_2.length c0_2]] rfl (by (try simp only [mA,mC,mN]);first|done|rfl|(simp only [List.length_drop,List.length_take];done)|(simp only [List.length_drop,List.length_take];rfl)) ?_;(with_reducible refine (impl_Wave_read.calls k a0_0 _ _ l0_1 _ _ l0_2 t203 true _ ?side1 ?side2 ?side3 ?side4 A2.out).mono ?_);(case side1=>repeat (first|exact (Kd.C_below HR0_1.out HB.out)|(with_reducible first|apply aC|apply nC|apply dC)));(case side2=>exact HC0_1.out);(case side3=>repeat (first|exact (Kd.C_below HR0_2.out HB.out)|(with_reducible first|apply aC|apply nC|apply dC)));(case side4=>exact HC0_2.out);rintro e w6 ⟨v204,rfl,ho0,hb⟩;refine⟨_,rfl,?_⟩;have n0_:=mk0 (Kd.R_lower ho0 (below_size (by repeat (first|(with_reducible first|exact HB.out|apply aZ|apply nZ|apply dZ|refine sZ ?_ GE202.out)|exact HB.out))));have n1_:=mk0 (blk_below (g:=gb202) (o:=.cells #[.int .i64 a0_0,.slice A0_1 l0_1.length c0_1,.slice A0_2 l0_2.length c0_2] 30 (0,0)) (by (with_reducible repeat (first|apply nB|apply dB|apply aB));exact BK202.out) hb);have n2_:=mk0 (below_step (by repeat (first|(with_reducible first|exact HB.out|apply aZ|apply nZ|apply dZ|refine sZ ?_ GE202.out)|exact HB.out)) hb);clear BK202 HB;have HO205:=n0_;have BK202:=n1_;have HB:=n2_;clear n0_ n1_ n2_;(try clear hb);(try clear hb2);(try clear hk);(try clear hi);(try clear ho0)))
  go_ret
  exact⟨_,by first|rfl|(simp [errW_none,errW_some] <;> rfl)|(simp [*,errW_none,errW_some] <;> rfl),by (with_reducible repeat (first|apply aR|apply nR|apply dR));exact HO205.out,by repeat (first|(with_reducible first|exact HB.out|apply aZ|apply nZ|apply dZ|refine sZ ?_ GE202.out)|exact HB.out)⟩
 ·replace c3:=Bool.eq_false_iff.mpr c3
  subst c3
  have H1:(some ([]:List Int)) = some r:=by rw [if_neg (show ¬ (false = true) by decide)] at H;exact H
  clear H
  have H:=H1
  clear H1
  obtain rfl:=Option.some.inj H
  go_enter Try.func19,Try.ntmps19
  go_wp2_with (first|((with_reducible refine gate_dst (N:=1) rfl ?_);refine box_event ?hg (N:=1) ?hd (cs:=#[.int .i64 a0_0,.slice A0_1 l0_1.length c0_1,.slice A0_2 l0_2.length c0_2]) (t:=30) ?hr ?_;(case hd=>rfl);(case hg=>rfl);(case hr=>first|(go_simp;done)|(go_simp;rfl));intro gb202 hg w7 hbox hb;have n0_:=mk0 (below_step (by repeat (first|(with_reducible first|exact HB.out|apply aZ|apply nZ|apply dZ)|exact HB.out)) hb);have n1_:=mk0 (hbox);have n2_:=mk0 ((by rw [hg];exact (below_size (by repeat (first|(with_reducible first|exact HB.out|apply aZ|apply nZ|apply dZ)|exact HB.out))):w.heap.size ≤ gb202));have n3_:=mk0 ((by rw [hg];exact (below_size (by repeat (first|(with_reducible first|exact HB.out|apply aZ|apply nZ|apply dZ)|exact HB.out))):w.heap.size ≤ gb202));clear HB;have HB:=n0_;have BK202:=n1_;have GW202:=n2_;have GE202:=n3_;clear n0_ n1_ n2_ n3_ hb hbox hg;have hcz8_0:w7.cell? ⟨gb202,0,none⟩ = some (.int .i64 a0_0):=(blk_cell BK202.out 0).trans rfl;have hcz8_1:w7.cell? ⟨gb202,1,none⟩ = some (.slice A0_1 l0_1.length c0_1):=(blk_cell BK202.out 1).trans rfl;have hcz8_2:w7.cell? ⟨gb202,2,none⟩ = some (.slice A0_2 l0_2.length c0_2):=(blk_cell BK202.out 2).trans rfl;have hfz8_0:=blk_frozen BK202.out 0;have hfz8_1:=blk_frozen BK202.out 1;have hfz8_2:=blk_frozen BK202.out 2)|((with_reducible refine gate_callee (f:=40) rfl ?_);refine goesL_ (some 7) rfl rfl Try.func40 (by kernel_rfl) rfl #[.agg #[.int .i64 a0_0,.slice A0_1 l0_1.length c0_1,.slice A0_2 l0_2.length c0_2]] rfl (by (try simp only [mA,mC,mN]);first|done|rfl|(simp only [List.length_drop,List.length_take];done)|(simp only [List.length_drop,List.length_take];rfl)) ?_;(with_reducible refine (impl_Wave_read.calls k a0_0 _ _ l0_1 _ _ l0_2 t203 false _ ?side1 ?side2 ?side3 ?side4 A2.out).mono ?_);(case side1=>repeat (first|exact (Kd.C_below HR0_1.out HB.out)|(with_reducible first|apply aC|apply nC|apply dC)));(case side2=>exact HC0_1.out);(case side3=>repeat (first|exact (Kd.C_below HR0_2.out HB.out)|(with_reducible first|apply aC|apply nC|apply dC)));(case side4=>exact HC0_2.out);rintro e w9 ⟨v204,rfl,ho0,hb⟩;refine⟨_,rfl,?_⟩;have n0_:=mk0 (Kd.R_lower ho0 (below_size (by repeat (first|(with_reducible first|exact HB.out|apply aZ|apply nZ|apply dZ|refine sZ ?_ GE202.out)|exact HB.out))));have n1_:=mk0 (blk_below (g:=gb202) (o:=.cells #[.int .i64 a0_0,.slice A0_1 l0_1.length c0_1,.slice A0_2 l0_2.length c0_2] 30 (0,0)) (by (with_reducible repeat (first|apply nB|apply dB|apply aB));exact BK202.out) hb);have n2_:=mk0 (below_step (by repeat (first|(with_reducible first|exact HB.out|apply aZ|apply nZ|apply dZ|refine sZ ?_ GE202.out)|exact HB.out)) hb);clear BK202 HB;have HO205:=n0_;have BK202:=n1_;have HB:=n2_;clear n0_ n1_ n2_;(try clear hb);(try clear hb2);(try clear hk);(try clear hi);(try clear ho0)))
  go_ret
  exact⟨_,by first|rfl|(simp [errW_none,errW_some] <;> rfl)|(simp [*,errW_none,errW_some] <;> rfl),by first|exact Kd.R_nil _ _ _ _ _|exact Kd.N_nil _ _ _ _ _|exact Kd.V_nil _ _ _ _ _|exact Kd.Q_nil _ _ _ _ _|exact Kd.S_nil _ _ _ _ _,by repeat (first|(with_reducible first|exact HB.out|apply aZ|apply nZ|apply dZ|refine sZ ?_ GE202.out)|exact HB.out)⟩

/-! ### spec_l01Power: function 69 -/
def spec_l01Power.l0 : Nat → Int → Int → Option (Int)
 | 0, _, _ => none
 | k + 1, x0, x3 => if x0 > 0 then (spec_l01Power.l0 k (wrap64 (x0 - 1)) (IntKind.u64.wrap (2 * x3))) else (some x3)
def spec_l01Power.f (k : Nat) (a0 : Int) : Option (Int) := spec_l01Power.l0 k a0 1
theorem spec_l01Power.mono_l : ∀ k, (∀ y0 y1, LeO (spec_l01Power.l0 k y0 y1) (spec_l01Power.l0 (k + 1) y0 y1))
 | 0 => fun _ _ r h => by simp [spec_l01Power.l0] at h
 | k + 1 => by
  have ih0 := spec_l01Power.mono_l k
  ·intro y0 y1
   unfold spec_l01Power.l0
   repeat' first|(with_reducible first|exact ih0 _ _|exact LeO.refl _|exact LeO.none _|refine LeO.ite ?_ ?_|refine LeO.bind ?_ (fun _ => ?_))|exact LeO.none _|refine LeO.ite ?_ ?_|refine LeO.bind ?_ (fun _ => ?_)
theorem spec_l01Power.mono : ∀ a0 k, LeO (spec_l01Power.f k a0) (spec_l01Power.f (k + 1) a0) := by
 intro a0 k
 have ih0 := spec_l01Power.mono_l k
 unfold spec_l01Power.f
 repeat' first|(with_reducible first|exact ih0 _ _|exact LeO.refl _|exact LeO.none _|refine LeO.ite ?_ ?_|refine LeO.bind ?_ (fun _ => ?_))|exact LeO.none _|refine LeO.ite ?_ ?_|refine LeO.bind ?_ (fun _ => ?_)
set_option maxHeartbeats 8000000 in
set_option maxRecDepth 100000 in
theorem spec_l01Power.calls (k : Nat) (a0 : Int) (r : Int) (w : World) (h : spec_l01Power.f k a0 = some r) :
  Calls Try.prog 69 #[.int .i64 a0] w fun e w' => e = .returned (.int .u64 r) ∧ Drawn0 w w' := by
 have H:(spec_l01Power.l0 k a0 1) = some r:=h
 clear h
 have H':=mk0 H
 clear H
 go_enter Try.func69,Try.ntmps69
 go_wp2
 go_loopg [0,3] k (fun kq v0 v3 w'=>∃ (x0_1:Int) (x3_1:Int),v0 = .int .i64 x0_1 ∧ v3 = .int .u64 x3_1 ∧ Aside0 (spec_l01Power.l0 kq x0_1 x3_1 = some r) ∧ Aside0 (kq ≤ k) ∧ Drawn0 w w')
 case atStart=>exact⟨(a0),(1),(by first|rfl|(simp;done)|(simp [*];done)),(by first|rfl|(simp;done)|(simp [*];done)),H',⟨Nat.le_refl _⟩,by repeat (first|exact Drawn0.refl _|apply Drawn0.step)⟩
 case round =>
  clear H'
  obtain⟨x0_1,x3_1,rfl,rfl,HA,HK1,⟨m1,rfl⟩⟩:=hrel
  cases gk with
  | zero=>exact absurd HA.out (by simp [spec_l01Power.l0])
  | succ k1 =>
   have H:=HA.out
   clear HA
   simp only [spec_l01Power.l0] at H
   by_cases c2:x0_1 > 0
   ·rw [if_pos c2] at H
    have c2b0:decide (0 < x0_1) = true:=decide_eq_true c2
    clear c2
    have H':=mk0 H
    clear H
    go_wp2
    go_roundg k1
    case measure=>have:=HK1.out;omega
    case rel=>exact⟨(wrap64 (x0_1 - 1)),(IntKind.u64.wrap (2 * x3_1)),(by first|rfl|(simp;done)|(simp [*];done)),(by first|rfl|(simp;done)|(simp [*];done)),H',⟨by have:=HK1.out;omega⟩,by repeat (first|exact Drawn0.refl _|apply Drawn0.step)⟩
   ·rw [if_neg c2] at H
    have c2b0:decide (0 < x0_1) = false:=decide_eq_false c2
    clear c2
    obtain rfl:=Option.some.inj H
    go_wp2
    go_ret
    exact⟨by first|rfl|(simp;done)|(simp [*];done),by repeat (first|exact Drawn0.refl _|apply Drawn0.step)⟩

/-! ### spec_BitsOf: function 49 -/
mutual
def spec_BitsOf.l0 : Nat → List Int → Int → Int → List Int → Option (Int × List Int × Bool)
 | 0, _, _, _, _ => none
 | k + 1, x0, x5, x209000, x209001 => if x5 < (x0.length : Int) then (if 0 ≤ x5 then (if (rd x0 x5) = 0 then (spec_BitsOf.j1 k x0 x5 false x209000 x209001) else (spec_BitsOf.j1 k x0 x5 ((rd x0 x5) != 1) x209000 x209001)) else (none)) else (some (x209000, x209001, true))
def spec_BitsOf.j1 : Nat → List Int → Int → Bool → Int → List Int → Option (Int × List Int × Bool)
 | 0, _, _, _, _, _ => none
 | k + 1, x0, x5, x30, x209000, x209001 => if x30 = true then (some (0, ([] : List Int), false)) else (if (Int.tmod x5 64) = 0 then (if x209001.length < 17592186044416 then (spec_BitsOf.j2 k x0 x5 x209000 (x209001 ++ [0])) else (none)) else (spec_BitsOf.j2 k x0 x5 x209000 x209001))
def spec_BitsOf.j2 : Nat → List Int → Int → Int → List Int → Option (Int × List Int × Bool)
 | 0, _, _, _, _ => none
 | k + 1, x0, x5, x209000, x209001 => if 0 ≤ x5 then (if x5 < (x0.length : Int) then (if (rd x0 x5) = 1 then (if 0 ≤ (wrap64 (Int.tdiv x5 64)) then (if (wrap64 (Int.tdiv x5 64)) < (x209001.length : Int) then ((spec_l01Power.f k (Int.tmod x5 64)).bind fun t216 => (spec_BitsOf.l0 k x0 (wrap64 (x5 + 1)) x209000 (x209001.set ((wrap64 (Int.tdiv x5 64)) : Int).toNat (IntKind.u64.wrap ((rd x209001 (wrap64 (Int.tdiv x5 64))) + t216))))) else (none)) else (none)) else (spec_BitsOf.l0 k x0 (wrap64 (x5 + 1)) x209000 x209001)) else (none)) else (none)
end
def spec_BitsOf.f (k : Nat) (l0 : List Int) : Option (Int × List Int × Bool) := if (l0.length : Int) > 5000 then (some (0, ([] : List Int), false)) else (spec_BitsOf.l0 k l0 0 (l0.length : Int) ([] : List Int))
theorem spec_BitsOf.mono_l : ∀ k, (∀ y0 y1 y2 y3, LeO (spec_BitsOf.l0 k y0 y1 y2 y3) (spec_BitsOf.l0 (k + 1) y0 y1 y2 y3)) ∧ (∀ y0 y1 y2 y3 y4, LeO (spec_BitsOf.j1 k y0 y1 y2 y3 y4) (spec_BitsOf.j1 (k + 1) y0 y1 y2 y3 y4)) ∧ (∀ y0 y1 y2 y3, LeO (spec_BitsOf.j2 k y0 y1 y2 y3) (spec_BitsOf.j2 (k + 1) y0 y1 y2 y3))
 | 0 => ⟨fun _ _ _ _ r h => by simp [spec_BitsOf.l0] at h, fun _ _ _ _ _ r h => by simp [spec_BitsOf.j1] at h, fun _ _ _ _ r h => by simp [spec_BitsOf.j2] at h⟩
 | k + 1 => by
  obtain ⟨ih0, ih1, ih2⟩ := spec_BitsOf.mono_l k
  refine ⟨?_, ?_, ?_⟩
  ·intro y0 y1 y2 y3
   unfold spec_BitsOf.l0
   repeat' first|(with_reducible first|exact ih0 _ _ _ _|exact ih1 _ _ _ _ _|exact ih2 _ _ _ _|exact spec_l01Power.mono _ _|exact LeO.refl _|exact LeO.none _|refine LeO.ite ?_ ?_|refine LeO.bind ?_ (fun _ => ?_))|exact LeO.none _|refine LeO.ite ?_ ?_|refine LeO.bind ?_ (fun _ => ?_)
  ·intro y0 y1 y2 y3 y4
   unfold spec_BitsOf.j1
   repeat' first|(with_reducible first|exact ih0 _ _ _ _|exact ih1 _ _ _ _ _|exact ih2 _ _ _ _|exact spec_l01Power.mono _ _|exact LeO.refl _|exact LeO.none _|refine LeO.ite ?_ ?_|refine LeO.bind ?_ (fun _ => ?_))|exact LeO.none _|refine LeO.ite ?_ ?_|refine LeO.bind ?_ (fun _ => ?_)
  ·intro y0 y1 y2 y3
   unfold spec_BitsOf.j2
   repeat' first|(with_reducible first|exact ih0 _ _ _ _|exact ih1 _ _ _ _ _|exact ih2 _ _ _ _|exact spec_l01Power.mono _ _|exact LeO.refl _|exact LeO.none _|refine LeO.ite ?_ ?_|refine LeO.bind ?_ (fun _ => ?_))|exact LeO.none _|refine LeO.ite ?_ ?_|refine LeO.bind ?_ (fun _ => ?_)
theorem spec_BitsOf.mono : ∀ a0 k, LeO (spec_BitsOf.f k a0) (spec_BitsOf.f (k + 1) a0) := by
 intro a0 k
 obtain ⟨ih0, ih1, ih2⟩ := spec_BitsOf.mono_l k
 unfold spec_BitsOf.f
 repeat' first|(with_reducible first|exact ih0 _ _ _ _|exact ih1 _ _ _ _ _|exact ih2 _ _ _ _|exact spec_l01Power.mono _ _|exact LeO.refl _|exact LeO.none _|refine LeO.ite ?_ ?_|refine LeO.bind ?_ (fun _ => ?_))|exact LeO.none _|refine LeO.ite ?_ ?_|refine LeO.bind ?_ (fun _ => ?_)
def spec_BitsOf.T12 : Bool × List (List Nat × List Nat) := (true, [([], []), ([0], [0]), ([], []), ([2], [2]), ([], []), ([4], [4]), ([], []), ([6], [6]), ([5, 7], [5, 7]), ([8], [8]), ([], []), ([10], [10]), ([11], [11]), ([9, 12], [9, 12]), ([1, 3, 0, 1, 2, 3, 4, 5, 6, 7, 8, 9, 10, 11, 12, 13], [1, 3]), ([14, 13, 12, 0, 1, 2, 3, 4, 5, 6, 7, 8, 9, 10, 11, 12, 13], [13, 14])])
def spec_BitsOf.B12 : List Nat := [0, 1, 0, 4, 0, 16, 0, 64, 240, 496, 0, 1024, 3072, 8176, 16383, 32767]
theorem spec_BitsOf.tab12 : rtab .any (opsOf Try.f49 12) = spec_BitsOf.T12 := by kernel_rfl
theorem spec_BitsOf.bits12 : waitsOk spec_BitsOf.T12.2 spec_BitsOf.B12 = true := by kernel_rfl
abbrev spec_BitsOf.m0 : Array Bool := #[F,F,F,F,F,F,F,F,F,F,F,F,F,F,F,F]
abbrev spec_BitsOf.m1 : Array Bool := #[T,F,F,F,F,F,F,F,F,F,F,F,F,F,F,F]
abbrev spec_BitsOf.m2 : Array Bool := #[T,F,T,F,F,F,F,F,F,F,F,F,F,F,F,F]
abbrev spec_BitsOf.m3 : Array Bool := #[T,F,T,T,F,F,F,F,F,F,F,F,F,F,F,F]
abbrev spec_BitsOf.m4 : Array Bool := #[T,F,T,T,T,F,F,F,F,F,F,F,F,F,F,F]
abbrev spec_BitsOf.m5 : Array Bool := #[T,F,T,T,T,F,T,F,F,F,F,F,F,F,F,F]
abbrev spec_BitsOf.m6 : Array Bool := #[T,F,T,T,T,F,T,T,F,F,F,F,F,F,F,F]
abbrev spec_BitsOf.m7 : Array Bool := #[T,F,T,T,T,F,T,T,F,F,T,F,F,F,F,F]
abbrev spec_BitsOf.m8 : Array Bool := #[T,F,T,T,T,F,T,T,F,F,T,T,F,F,F,F]
abbrev spec_BitsOf.m9 : Array Bool := #[T,T,T,T,T,F,T,T,F,F,T,T,F,F,F,F]
abbrev spec_BitsOf.m10 : Array Bool := #[T,T,T,T,T,T,T,T,F,F,T,T,F,F,F,F]
abbrev spec_BitsOf.m11 : Array Bool := #[T,T,T,T,T,T,T,T,T,F,T,T,F,F,F,F]
abbrev spec_BitsOf.m12 : Array Bool := #[T,T,T,T,T,T,T,T,T,T,T,T,F,F,F,F]
abbrev spec_BitsOf.m13 : Array Bool := #[T,T,T,T,T,T,T,T,T,T,T,T,T,F,F,F]
abbrev spec_BitsOf.m14 : Array Bool := #[T,T,T,T,T,T,T,T,T,T,T,T,T,T,F,F]
abbrev spec_BitsOf.m15 : Array Bool := #[T,T,T,T,T,T,T,T,T,T,T,T,T,T,T,F]
abbrev spec_BitsOf.m16 : Array Bool := #[T,T,T,T,T,T,T,T,T,T,T,T,T,T,T,T]
set_option maxHeartbeats 8000000 in
set_option maxRecDepth 100000 in
theorem spec_BitsOf.calls (k : Nat) (A0 : Option Addr) (c0 : Nat) (l0 : List Int) (r1 : Int) (r2 : List Int) (r3 : Bool) (w : World) (hr0 : Kd.C (Kd.int .i64) w A0 l0.length l0) (hc0 : l0.length ≤ c0) (h : spec_BitsOf.f k l0 = some (r1, r2, r3)) :
  Calls Try.prog 49 #[.slice A0 l0.length c0] w fun e w' => ∃ v1_ : Value, e = .returned (.tuple #[.agg #[.int .i64 r1, v1_], .bool r3]) ∧ Kd.R (Kd.int .u64) 84 w' w.heap.size (fun _ => True) v1_ r2 ∧ Below w.heap.size w w' := by
 have hu64:=Try.underlying64
 have HR0:=mk0 hr0
 have HC0:=mk0 hc0
 clear hr0 hc0
 have HB:=mk0 (Below.refl w.heap.size w)
 have H:(if (l0.length:Int) > 5000 then (some (0,([]:List Int),false)) else (spec_BitsOf.l0 k l0 0 (l0.length:Int) ([]:List Int))) = some (r1,r2,r3):=h
 clear h
 by_cases c2:(l0.length:Int) > 5000
 ·rw [if_pos c2] at H
  have c2b0:decide (5000 < (l0.length:Int)) = true:=decide_eq_true c2
  have c2b1:decide (5000 < l0.length) = true:=decide_eq_true (by omega)
  clear c2
  simp only [Option.some.injEq,Prod.mk.injEq] at H
  obtain⟨rfl,rfl,rfl⟩:=H
  go_enter Try.func49,Try.ntmps49
  go_wp2_with (first|((with_reducible refine gate_dst (N:=2) rfl ?_);refine box_event ?hg (N:=2) ?hd (cs:=#[.int .i64 0,.slice none 0 0]) (t:=64) ?hr ?_;(case hd=>rfl);(case hg=>rfl);(case hr=>first|(go_simp;done)|(go_simp;rfl));intro gb207 hg w3 hbox hb;have n0_:=mk0 (below_step (by repeat (first|(with_reducible first|exact HB.out|apply aZ|apply nZ|apply dZ)|exact HB.out)) hb);have n1_:=mk0 (hbox);have n2_:=mk0 ((by rw [hg];exact (below_size (by repeat (first|(with_reducible first|exact HB.out|apply aZ|apply nZ|apply dZ)|exact HB.out))):w.heap.size ≤ gb207));have n3_:=mk0 ((by rw [hg];exact (below_size (by repeat (first|(with_reducible first|exact HB.out|apply aZ|apply nZ|apply dZ)|exact HB.out))):w.heap.size ≤ gb207));clear HB;have HB:=n0_;have BK207:=n1_;have GW207:=n2_;have GE207:=n3_;clear n0_ n1_ n2_ n3_ hb hbox hg;have hcz4_0:w3.cell? ⟨gb207,0,none⟩ = some (.int .i64 0):=(blk_cell BK207.out 0).trans rfl;have hcz4_1:w3.cell? ⟨gb207,1,none⟩ = some (.slice none 0 0):=(blk_cell BK207.out 1).trans rfl;have hfz4_0:=blk_frozen BK207.out 0;have hfz4_1:=blk_frozen BK207.out 1))
  refine bodyPost_ret (results_ct rfl _ _ gb207 64 #[.int .i64 0,.slice none 0 0] (0,0) _ rfl (by (with_reducible repeat (first|apply nB|apply dB|apply aB));refine blk_put (cs:=#[.int .i64 0,.slice none 0 0]) ?_ 1 _ rfl;(with_reducible repeat (first|apply nB|apply dB|apply aB));refine blk_put (cs:=#[.int .i64 0,.slice none 0 0]) ?_ 0 _ rfl;(with_reducible repeat (first|apply nB|apply dB|apply aB));exact BK207.out) Try.underlying64 rfl (by kernel_rfl)) rfl ?_
  exact⟨_,by first|rfl|(simp [errW_none,errW_some] <;> rfl)|(simp [*,errW_none,errW_some] <;> rfl),by first|exact Kd.R_nil _ _ _ _ _|exact Kd.N_nil _ _ _ _ _|exact Kd.V_nil _ _ _ _ _|exact Kd.Q_nil _ _ _ _ _|exact Kd.S_nil _ _ _ _ _,by repeat (first|(with_reducible first|exact HB.out|apply aZ|apply nZ|apply dZ|refine sZ ?_ GE207.out)|exact HB.out)⟩
 rw [if_neg c2] at H
 have c2b0:decide (5000 < (l0.length:Int)) = false:=decide_eq_false c2
 have c2b1:decide (5000 < l0.length) = false:=decide_eq_false (by omega)
 clear c2
 have H':=mk0 H
 clear H
 go_enter Try.func49,Try.ntmps49
 go_wp2_with (first|((with_reducible refine gate_dst (N:=2) rfl ?_);refine box_event ?hg (N:=2) ?hd (cs:=#[.int .i64 0,.slice none 0 0]) (t:=64) ?hr ?_;(case hd=>rfl);(case hg=>rfl);(case hr=>first|(go_simp;done)|(go_simp;rfl));intro gb207 hg w5 hbox hb;have n0_:=mk0 (below_step (by repeat (first|(with_reducible first|exact HB.out|apply aZ|apply nZ|apply dZ)|exact HB.out)) hb);have n1_:=mk0 (hbox);have n2_:=mk0 ((by rw [hg];exact (below_size (by repeat (first|(with_reducible first|exact HB.out|apply aZ|apply nZ|apply dZ)|exact HB.out))):w.heap.size ≤ gb207));have n3_:=mk0 ((by rw [hg];exact (below_size (by repeat (first|(with_reducible first|exact HB.out|apply aZ|apply nZ|apply dZ)|exact HB.out))):w.heap.size ≤ gb207));clear HB;have HB:=n0_;have BK207:=n1_;have GW207:=n2_;have GE207:=n3_;clear n0_ n1_ n2_ n3_ hb hbox hg)|((with_reducible refine gate_dst (N:=4) rfl ?_);refine box_event ?hg (N:=4) ?hd (cs:=#[.int .i64 0,.slice none 0 0]) (t:=64) ?hr ?_;(case hd=>rfl);(case hg=>rfl);(case hr=>first|(go_simp;done)|(go_simp;rfl));intro gb208 hg w6 hbox hb;have n0_:=mk0 (blk_below (g:=gb207) (o:=.cells #[.int .i64 0,.slice none 0 0] 64 (0,0)) (by (with_reducible repeat (first|apply nB|apply dB|apply aB));exact BK207.out) hb);have n1_:=mk0 (below_step (by repeat (first|(with_reducible first|exact HB.out|apply aZ|apply nZ|apply dZ|refine sZ ?_ GE207.out)|exact HB.out)) hb);have n2_:=mk0 (hbox);have n3_:=mk0 ((by rw [hg];exact (below_size (by repeat (first|(with_reducible first|exact HB.out|apply aZ|apply nZ|apply dZ|refine sZ ?_ GE207.out)|exact HB.out))):w.heap.size ≤ gb208));have n4_:=mk0 ((by rw [hg];exact (below_size (by repeat (first|(with_reducible first|exact HB.out|apply aZ|apply nZ|apply dZ|refine sZ ?_ GE207.out)|exact HB.out))):w.heap.size ≤ gb208));have n5_:=mk0 ((by rw [hg];exact Nat.ne_of_lt (blk_lt (g:=gb207) (o:=.cells #[.int .i64 0,.slice none 0 0] 64 (0,0)) (by (with_reducible repeat (first|apply nB|apply dB|apply aB));exact BK207.out)):gb207 ≠ gb208));have n6_:=mk0 ((by rw [hg];exact Nat.ne_of_gt (blk_lt (g:=gb207) (o:=.cells #[.int .i64 0,.slice none 0 0] 64 (0,0)) (by (with_reducible repeat (first|apply nB|apply dB|apply aB));exact BK207.out)):gb208 ≠ gb207));clear BK207 HB;have BK207:=n0_;have HB:=n1_;have BK208:=n2_;have GW208:=n3_;have GE208:=n4_;have NB207_208:=n5_;have NB208_207:=n6_;clear n0_ n1_ n2_ n3_ n4_ n5_ n6_ hb hbox hg;have hnb7:=NB208_207.out;have hnc7:=NB207_208.out;have hcz8_0:w6.cell? ⟨gb208,0,none⟩ = some (.int .i64 0):=(blk_cell BK208.out 0).trans rfl;have hcz8_1:w6.cell? ⟨gb208,1,none⟩ = some (.slice none 0 0):=(blk_cell BK208.out 1).trans rfl;have hfz8_0:=blk_frozen BK208.out 0;have hfz8_1:=blk_frozen BK208.out 1))
 go_loopg [5] k (fun kq v5 w'=>∃ (x5_1:Int) (x208000_1:Int) (x209001_1:List Int) (u209001:Value),v5 = .int .i64 x5_1 ∧ Aside0 (spec_BitsOf.l0 kq l0 x5_1 (l0.length:Int) x209001_1 = some (r1,r2,r3)) ∧ Aside0 (kq ≤ k) ∧ Aside0 (Kd.R (Kd.int .u64) 84 w' w.heap.size (fun _=>True) u209001 x209001_1) ∧ Aside0 (w'.heap[gb207]? = some (.cells #[.int .i64 x208000_1,(.slice none 0 0)] 64 (0,0))) ∧ Aside0 (w'.heap[gb208]? = some (.cells #[.int .i64 (l0.length:Int),u209001] 64 (0,0))) ∧ Aside0 (Below w.heap.size w w'))
 case atStart=>exact⟨(0),(0),(([]:List Int)),(.slice none 0 0),(by first|rfl|(simp;done)|(simp [*];done)),H',⟨Nat.le_refl _⟩,⟨by first|exact Kd.R_nil _ _ _ _ _|exact Kd.N_nil _ _ _ _ _|exact Kd.V_nil _ _ _ _ _|exact Kd.Q_nil _ _ _ _ _|exact Kd.S_nil _ _ _ _ _⟩,⟨by (with_reducible repeat (first|apply nB|apply dB|apply aB));refine blk_far ?_ NB207_208.out _;(with_reducible repeat (first|apply nB|apply dB|apply aB));refine blk_far ?_ NB207_208.out _;(with_reducible repeat (first|apply nB|apply dB|apply aB));exact BK207.out⟩,⟨by (with_reducible repeat (first|apply nB|apply dB|apply aB));refine blk_put (cs:=#[.int .i64 (l0.length:Int),.slice none 0 0]) ?_ 1 _ rfl;(with_reducible repeat (first|apply nB|apply dB|apply aB));refine blk_put (cs:=#[.int .i64 0,.slice none 0 0]) ?_ 0 _ rfl;(with_reducible repeat (first|apply nB|apply dB|apply aB));exact BK208.out⟩,⟨by repeat (first|(with_reducible first|exact HB.out|apply aZ|apply nZ|apply dZ|refine sZ ?_ GE207.out|refine sZ ?_ GE208.out)|exact HB.out)⟩⟩
 case round =>
  clear H'
  try clear c2
  try clear c2b0
  try clear c2b1
  try clear p2
  try clear c4
  try clear c7
  try clear hcz4_0
  try clear hcz4_1
  try clear hcz8_0
  try clear hcz8_1
  try clear hfz4_0
  try clear hfz4_1
  try clear hfz8_0
  try clear hfz8_1
  obtain⟨x5_1,x208000_1,x209001_1,u209001,rfl,HA,HK1,HO_209001,BK207,BK208,HB⟩:=hrel
  cases gk with
  | zero=>exact absurd HA.out (by simp [spec_BitsOf.l0])
  | succ k1 =>
   have H:=HA.out
   clear HA
   simp only [spec_BitsOf.l0] at H
   by_cases c9:x5_1 < (l0.length:Int)
   rotate_left
   ·rw [if_neg c9] at H
    have c9b0:decide (x5_1 < (l0.length:Int)) = false:=decide_eq_false c9
    clear c9
    simp only [Option.some.injEq,Prod.mk.injEq] at H
    obtain⟨rfl,rfl,rfl⟩:=H
    have hnb35:=NB208_207.out
    have hnc35:=NB207_208.out
    have hcz36_0:wr.cell? ⟨gb208,0,none⟩ = some (.int .i64 (l0.length:Int)):=(blk_cell BK208.out 0).trans rfl
    have hcz36_1:wr.cell? ⟨gb208,1,none⟩ = some (u209001):=(blk_cell BK208.out 1).trans rfl
    have hfz36_0:=blk_frozen BK208.out 0
    have hfz36_1:=blk_frozen BK208.out 1
    have hcz37_0:wr.cell? ⟨gb207,0,none⟩ = some (.int .i64 x208000_1):=(blk_cell BK207.out 0).trans rfl
    have hcz37_1:wr.cell? ⟨gb207,1,none⟩ = some (.slice none 0 0):=(blk_cell BK207.out 1).trans rfl
    have hfz37_0:=blk_frozen BK207.out 0
    have hfz37_1:=blk_frozen BK207.out 1
    obtain⟨Ao38,co38,eo38⟩:=Kd.R_slice HO_209001.out
    subst eo38
    go_wp2
    refine bodyPost_ret (results_ct rfl _ _ gb207 64 #[.int .i64 (l0.length:Int),.slice Ao38 x209001_1.length co38] (0,0) _ rfl (by (with_reducible repeat (first|apply nB|apply dB|apply aB));refine blk_put (cs:=#[.int .i64 (l0.length:Int),.slice none 0 0]) ?_ 1 _ rfl;(with_reducible repeat (first|apply nB|apply dB|apply aB));refine blk_put (cs:=#[.int .i64 x208000_1,.slice none 0 0]) ?_ 0 _ rfl;(with_reducible repeat (first|apply nB|apply dB|apply aB));exact BK207.out) Try.underlying64 rfl (by kernel_rfl)) rfl ?_
    exact⟨_,by first|rfl|(simp [errW_none,errW_some] <;> rfl)|(simp [*,errW_none,errW_some] <;> rfl),by (with_reducible repeat (first|apply aR|apply nR|apply dR));exact Kd.R_mono (Kd.R_far (p:=⟨gb207,1,none⟩) (Kd.R_far (p:=⟨gb207,0,none⟩) (Kd.R_types HO_209001.out BK207.out (by decide)) (by first|exact fun _ hk=>hk.2|(intro k_ hk;simp only [hk,ne_eq,and_self,not_false_eq_true])) (.int .i64 (l0.length:Int))) (by first|exact fun _ hk=>hk.2|(intro k_ hk;simp only [hk,ne_eq,and_self,not_false_eq_true])) (.slice Ao38 x209001_1.length co38)) (fun _ hk=>trivial),by repeat (first|(with_reducible first|exact HB.out|apply aZ|apply nZ|apply dZ|refine sZ ?_ GE207.out|refine sZ ?_ GE208.out)|exact HB.out)⟩

   rw [if_pos c9] at H
   have c9b0:decide (x5_1 < (l0.length:Int)) = true:=decide_eq_true c9
   clear c9
   have HC10:=mk0 H
   clear H
   go_upto_region 7 with (fail)
   go_cut [30] (fun v30 wc=>∃ (kq:Nat) (x30_9:Bool),v30 = .bool x30_9 ∧ Aside0 (spec_BitsOf.j1 kq l0 x5_1 x30_9 (l0.length:Int) x209001_1 = some (r1,r2,r3)) ∧ Aside0 (kq ≤ k1) ∧ Aside0 (Kd.R (Kd.int .u64) 84 wc w.heap.size (fun _=>True) u209001 x209001_1) ∧ Aside0 (wc.heap[gb207]? = some (.cells #[.int .i64 x208000_1,(.slice none 0 0)] 64 (0,0))) ∧ Aside0 (wc.heap[gb208]? = some (.cells #[.int .i64 (l0.length:Int),u209001] 64 (0,0))) ∧ Aside0 (Below w.heap.size w wc))
   case first =>
    have H:=HC10.out
    clear HC10
    by_cases c11:0 ≤ x5_1
    rotate_left
    ·rw [if_neg c11] at H
     exact absurd H (by simp)
    rw [if_pos c11] at H
    have c11b0:decide (0 ≤ x5_1) = true:=decide_eq_true c11
    clear c11
    (first|rw [c11b0]|(simp only [i64_w,i32_w];rw [c11b0])|skip)
    by_cases c12:(rd l0 x5_1) = 0
    ·rw [if_pos c12] at H
     have c12b0:((rd l0 x5_1) == 0) = true:=beq_iff_eq.mpr c12
     have c12b1:((rd l0 x5_1) != 0) = false:=bne_eq_false_iff_eq.mpr c12
     clear c12
     have H':=mk0 H
     clear H
     have p209:0 ≤ (x5_1:Int):=of_decide_eq_true (by first|(with_reducible assumption)|assumption)
     have q209:x5_1 < (l0.length:Int):=of_decide_eq_true (by first|(with_reducible assumption)|assumption)
     obtain⟨ad209,e209,hx209_0⟩:=Kd.at_int HR0.out x5_1 p209 q209
     cases e209
     replace hx209_0:=(HB.out.cell (World.block_lt_of_cell? w _ hx209_0)).trans hx209_0
     replace p209:=eq_true p209
     replace q209:=eq_true q209
     go_wp2
     go_meet
     case rel=>exact⟨_,(false),(by first|rfl|(simp;done)|(simp [*];done)),H',⟨by have:=HK1.out;first|omega|exact Nat.le_refl _⟩,⟨by (with_reducible repeat (first|apply aR|apply nR|apply dR));exact HO_209001.out⟩,⟨by (with_reducible repeat (first|apply nB|apply dB|apply aB));exact BK207.out⟩,⟨by (with_reducible repeat (first|apply nB|apply dB|apply aB));exact BK208.out⟩,⟨by repeat (first|(with_reducible first|exact HB.out|apply aZ|apply nZ|apply dZ|refine sZ ?_ GE207.out|refine sZ ?_ GE208.out)|exact HB.out)⟩⟩
    rw [if_neg c12] at H
    have c12b0:((rd l0 x5_1) == 0) = false:=beq_eq_false_iff_ne.mpr c12
    have c12b1:((rd l0 x5_1) != 0) = true:=bne_iff_ne.mpr c12
    have H':=mk0 H
    clear H
    have p209:0 ≤ (x5_1:Int):=of_decide_eq_true (by first|(with_reducible assumption)|assumption)
    have q209:x5_1 < (l0.length:Int):=of_decide_eq_true (by first|(with_reducible assumption)|assumption)
    obtain⟨ad209,e209,hx209_0⟩:=Kd.at_int HR0.out x5_1 p209 q209
    cases e209
    replace hx209_0:=(HB.out.cell (World.block_lt_of_cell? w _ hx209_0)).trans hx209_0
    replace p209:=eq_true p209
    replace q209:=eq_true q209
    have p210:0 ≤ (x5_1:Int):=of_decide_eq_true (by first|(with_reducible assumption)|assumption)
    have q210:x5_1 < (l0.length:Int):=of_decide_eq_true (by first|(with_reducible assumption)|assumption)
    obtain⟨ad210,e210,hx210_0⟩:=Kd.at_int HR0.out x5_1 p210 q210
    obtain rfl:ad209 = ad210:=(by injection e210)
    replace hx210_0:=(HB.out.cell (World.block_lt_of_cell? w _ hx210_0)).trans hx210_0
    replace p210:=eq_true p210
    replace q210:=eq_true q210
    go_wp2
    go_meet
    case rel=>exact⟨_,(((rd l0 x5_1) != 1)),(by first|rfl|(simp;done)|(simp [*];done)),H',⟨by have:=HK1.out;first|omega|exact Nat.le_refl _⟩,⟨by (with_reducible repeat (first|apply aR|apply nR|apply dR));exact HO_209001.out⟩,⟨by (with_reducible repeat (first|apply nB|apply dB|apply aB));exact BK207.out⟩,⟨by (with_reducible repeat (first|apply nB|apply dB|apply aB));exact BK208.out⟩,⟨by repeat (first|(with_reducible first|exact HB.out|apply aZ|apply nZ|apply dZ|refine sZ ?_ GE207.out|refine sZ ?_ GE208.out)|exact HB.out)⟩⟩
   case rest =>
    clear HC10
    try clear c1
    try clear c2
    try clear c2b0
    try clear c2b1
    try clear p2
    try clear q2
    try clear hx2
    try clear c4
    try clear c7
    try clear c9
    try clear c9b0
    try clear c11
    try clear c11b0
    try clear c12
    try clear c12b0
    try clear c12b1
    try clear hcz4_0
    try clear hcz4_1
    try clear hcz8_0
    try clear hcz8_1
    try clear hfz4_0
    try clear hfz4_1
    try clear hfz8_0
    try clear hfz8_1
    try clear hx209_0
    try clear hx210_0
    try clear p2
    try clear p209
    try clear p210
    try clear q209
    try clear q210
    obtain⟨kq,x30_9,rfl,HA,HJ9,HO_209001,BK207,BK208,HB⟩:=hcut
    cases kq with
    | zero=>exact absurd HA.out (by simp [spec_BitsOf.j1])
    | succ kj9 =>
     have H:=HA.out
     clear HA
     simp only [spec_BitsOf.j1] at H
     by_cases c13:x30_9 = true
     ·subst c13
      have H1:(some (0,([]:List Int),false)) = some (r1,r2,r3):=by rw [if_pos rfl] at H;exact H
      clear H
      have H:=H1
      clear H1
      simp only [Option.some.injEq,Prod.mk.injEq] at H
      obtain⟨rfl,rfl,rfl⟩:=H
      have hnb14:=NB207_208.out
      have hnc14:=NB208_207.out
      have hcz15_0:wc.cell? ⟨gb207,0,none⟩ = some (.int .i64 x208000_1):=(blk_cell BK207.out 0).trans rfl
      have hcz15_1:wc.cell? ⟨gb207,1,none⟩ = some (.slice none 0 0):=(blk_cell BK207.out 1).trans rfl
      have hfz15_0:=blk_frozen BK207.out 0
      have hfz15_1:=blk_frozen BK207.out 1
      go_wp2
      refine bodyPost_ret (results_ct rfl _ _ gb207 64 #[.int .i64 0,.slice none 0 0] (0,0) _ rfl (by (with_reducible repeat (first|apply nB|apply dB|apply aB));refine blk_put (cs:=#[.int .i64 0,.slice none 0 0]) ?_ 1 _ rfl;(with_reducible repeat (first|apply nB|apply dB|apply aB));refine blk_put (cs:=#[.int .i64 x208000_1,.slice none 0 0]) ?_ 0 _ rfl;(with_reducible repeat (first|apply nB|apply dB|apply aB));exact BK207.out) Try.underlying64 rfl (by kernel_rfl)) rfl ?_
      exact⟨_,by first|rfl|(simp [errW_none,errW_some] <;> rfl)|(simp [*,errW_none,errW_some] <;> rfl),by first|exact Kd.R_nil _ _ _ _ _|exact Kd.N_nil _ _ _ _ _|exact Kd.V_nil _ _ _ _ _|exact Kd.Q_nil _ _ _ _ _|exact Kd.S_nil _ _ _ _ _,by repeat (first|(with_reducible first|exact HB.out|apply aZ|apply nZ|apply dZ|refine sZ ?_ GE207.out|refine sZ ?_ GE208.out)|exact HB.out)⟩
     replace c13:=Bool.eq_false_iff.mpr c13
     subst c13
     have H1:(if (Int.tmod x5_1 64) = 0 then (if x209001_1.length < 17592186044416 then (spec_BitsOf.j2 kj9 l0 x5_1 (l0.length:Int) (x209001_1 ++ [0])) else (none)) else (spec_BitsOf.j2 kj9 l0 x5_1 (l0.length:Int) x209001_1)) = some (r1,r2,r3):=by rw [if_neg (show ¬ (false = true) by decide)] at H;exact H
     clear H
     have H:=H1
     clear H1
     have HC16:=mk0 H
     clear H
     go_upto_if 34 with (fail)
     go_cut [] (fun wc=>∃ (kq:Nat) (x209001_15:List Int) (u209001:Value),Aside0 (spec_BitsOf.j2 kq l0 x5_1 (l0.length:Int) x209001_15 = some (r1,r2,r3)) ∧ Aside0 (kq ≤ kj9) ∧ Aside0 (Kd.R (Kd.int .u64) 84 wc w.heap.size (fun _=>True) u209001 x209001_15) ∧ Aside0 (wc.heap[gb207]? = some (.cells #[.int .i64 x208000_1,(.slice none 0 0)] 64 (0,0))) ∧ Aside0 (wc.heap[gb208]? = some (.cells #[.int .i64 (l0.length:Int),u209001] 64 (0,0))) ∧ Aside0 (Below w.heap.size w wc))
     case first =>
      have H:=HC16.out
      clear HC16
      by_cases c17:(Int.tmod x5_1 64) = 0
      rotate_left
      ·rw [if_neg c17] at H
       have c17b0:((Int.tmod x5_1 64) == 0) = false:=beq_eq_false_iff_ne.mpr c17
       have c17b1:((Int.tmod x5_1 64) != 0) = true:=bne_iff_ne.mpr c17
       (first|rw [c17b0]|(simp only [i64_w,i32_w];rw [c17b0])|skip)
       have H':=mk0 H
       clear H
       go_wp2
       go_meet
       case rel=>exact⟨_,(x209001_1),(u209001),H',⟨by have:=HK1.out;have:=HJ9.out;first|omega|exact Nat.le_refl _⟩,⟨by (with_reducible repeat (first|apply aR|apply nR|apply dR));exact HO_209001.out⟩,⟨by (with_reducible repeat (first|apply nB|apply dB|apply aB));exact BK207.out⟩,⟨by (with_reducible repeat (first|apply nB|apply dB|apply aB));exact BK208.out⟩,⟨by repeat (first|(with_reducible first|exact HB.out|apply aZ|apply nZ|apply dZ|refine sZ ?_ GE207.out|refine sZ ?_ GE208.out)|exact HB.out)⟩⟩
      rw [if_pos c17] at H
      have c17b0:((Int.tmod x5_1 64) == 0) = true:=beq_iff_eq.mpr c17
      have c17b1:((Int.tmod x5_1 64) != 0) = false:=bne_eq_false_iff_eq.mpr c17
      clear c17
      (first|rw [c17b0]|(simp only [i64_w,i32_w];rw [c17b0])|skip)
      by_cases c18:x209001_1.length < 17592186044416
      rotate_left
      ·rw [if_neg c18] at H
       exact absurd H (by simp)
      rw [if_pos c18] at H
      have LMc18:=mk0 c18
      clear c18
      obtain⟨y211,hy211⟩:∃ y_:List Int,y_ = (x209001_1 ++ [0]):=⟨_,rfl⟩
      replace H:(spec_BitsOf.j2 kj9 l0 x5_1 (l0.length:Int) y211) = some (r1,r2,r3):=by first|(rw [hy211];with_reducible exact H)|(have H2_:=(Option.bind_some _ _).symm.trans H;rw [hy211];with_reducible exact H2_)|(have H2_:=(Option.bind_some _ _).symm.trans H;with_reducible exact H2_)|with_reducible exact H|(rw [hy211];exact H)|exact H
      have Ny211:=mk0 hy211
      clear hy211
      have H':=mk0 H
      clear H
      have hnb19:=NB208_207.out
      have hnc19:=NB207_208.out
      have hcz20_0:wc.cell? ⟨gb208,0,none⟩ = some (.int .i64 (l0.length:Int)):=(blk_cell BK208.out 0).trans rfl
      have hcz20_1:wc.cell? ⟨gb208,1,none⟩ = some (u209001):=(blk_cell BK208.out 1).trans rfl
      have hfz20_0:=blk_frozen BK208.out 0
      have hfz20_1:=blk_frozen BK208.out 1
      go_wp2_with (first|((with_reducible refine gate_builtin (b:=.append) (xs:=#[.tmp 36,.tmp 37]) rfl ?_);at_builtin;refine Kd.R_append (Kd.int .u64) (w0:=w) w.heap.size rfl (.tmp 36) (.tmp 37) 62 84 (.int .u64 0) 8 rfl Try.underlying62 info84 rfl (by decide) (by omega) u209001 x209001_1 0 [.int .u64 0] (fun _=>True) (fun _=>False) rfl rfl ?aP (fun _ hk=>hk.elim) ?aF ?aO ?aB ?aS ?aL ?_;(case aP=>exact rfl);(case aB=>exact (by repeat (first|(with_reducible first|exact HB.out|apply aZ|apply nZ|apply dZ|refine sZ ?_ GE207.out|refine sZ ?_ GE208.out)|exact HB.out)));(case aF=>exact (fun _ _=>trivial));(case aO=>exact (by (with_reducible repeat (first|apply aR|apply nR|apply dR));exact HO_209001.out));(case aS=>exact (below_size (by repeat (first|(with_reducible first|exact HB.out|apply aZ|apply nZ|apply dZ|refine sZ ?_ GE207.out|refine sZ ?_ GE208.out)|exact HB.out))));(case aL=>have:=LMc18.out;omega);intro v212 w21 ho hb hg hat;rw [← Ny211.out] at ho;have n0_:=mk0 (blk_grown (g:=gb207) (o:=.cells #[.int .i64 x208000_1,.slice none 0 0] 64 (0,0)) (by (with_reducible repeat (first|apply nB|apply dB|apply aB));exact BK207.out) hg (Kd.R_ne HO_209001.out BK207.out (by decide)));have n1_:=mk0 (blk_grown (g:=gb208) (o:=.cells #[.int .i64 (l0.length:Int),u209001] 64 (0,0)) (by (with_reducible repeat (first|apply nB|apply dB|apply aB));exact BK208.out) hg (Kd.R_ne HO_209001.out BK208.out (by decide)));have n2_:=mk0 (hb);have n3_:=mk0 (ho);clear BK207 BK208 HB HO_209001;have BK207:=n0_;have BK208:=n1_;have HB:=n2_;have HO213:=n3_;clear n0_ n1_ n2_ n3_ ho hb hg hat;obtain⟨Ao22,co22,eo22⟩:=Kd.R_slice HO213.out;subst eo22;have hcz23_0:w21.cell? ⟨gb208,0,none⟩ = some (.int .i64 (l0.length:Int)):=(blk_cell BK208.out 0).trans rfl;have hcz23_1:w21.cell? ⟨gb208,1,none⟩ = some (u209001):=(blk_cell BK208.out 1).trans rfl;have hfz23_0:=blk_frozen BK208.out 0;have hfz23_1:=blk_frozen BK208.out 1))
      go_meet
      case rel=>exact⟨_,(y211),(.slice Ao22 y211.length co22),H',⟨by have:=HK1.out;have:=HJ9.out;first|omega|exact Nat.le_refl _⟩,⟨by (with_reducible repeat (first|apply aR|apply nR|apply dR));exact Kd.R_mono (Kd.R_far (p:=⟨gb208,1,none⟩) (Kd.R_types HO213.out BK208.out (by decide)) (by first|exact fun _ hk=>hk.2|(intro k_ hk;simp only [hk,ne_eq,and_self,not_false_eq_true])) (.slice Ao22 y211.length co22)) (fun _ hk=>trivial)⟩,⟨by (with_reducible repeat (first|apply nB|apply dB|apply aB));refine blk_far ?_ NB207_208.out _;(with_reducible repeat (first|apply nB|apply dB|apply aB));exact BK207.out⟩,⟨by (with_reducible repeat (first|apply nB|apply dB|apply aB));refine blk_put (cs:=#[.int .i64 (l0.length:Int),u209001]) ?_ 1 _ rfl;(with_reducible repeat (first|apply nB|apply dB|apply aB));exact BK208.out⟩,⟨by repeat (first|(with_reducible first|exact HB.out|apply aZ|apply nZ|apply dZ|refine sZ ?_ GE207.out|refine sZ ?_ GE208.out)|exact HB.out)⟩⟩
     case rest =>
      clear HC16
      try clear c1
      try clear c2
      try clear c2b0
      try clear c2b1
      try clear p2
      try clear q2
      try clear hx2
      try clear c4
      try clear c7
      try clear c9
      try clear c9b0
      try clear c11
      try clear c11b0
      try clear c12
      try clear c12b0
      try clear c12b1
      try clear c13
      try clear c14
      try clear c17
      try clear c17b0
      try clear c17b1
      try clear c18
      try clear c19
      try clear p20
      try clear q20
      try clear hx20
      try clear p21
      try clear q21
      try clear hx21
      try clear hcz15_0
      try clear hcz15_1
      try clear hcz20_0
      try clear hcz20_1
      try clear hcz23_0
      try clear hcz23_1
      try clear hcz4_0
      try clear hcz4_1
      try clear hcz8_0
      try clear hcz8_1
      try clear hfz15_0
      try clear hfz15_1
      try clear hfz20_0
      try clear hfz20_1
      try clear hfz23_0
      try clear hfz23_1
      try clear hfz4_0
      try clear hfz4_1
      try clear hfz8_0
      try clear hfz8_1
      try clear hx209_0
      try clear hx210_0
      try clear p2
      try clear p209
      try clear p210
      try clear q2
      try clear q209
      try clear q210
      obtain⟨kq,x209001_15,u209001,HA,HJ15,HO_209001,BK207,BK208,HB⟩:=hcut
      cases kq with
      | zero=>exact absurd HA.out (by simp [spec_BitsOf.j2])
      | succ kj15 =>
       have H:=HA.out
       clear HA
       simp only [spec_BitsOf.j2] at H
       by_cases c24:0 ≤ x5_1
       rotate_left
       ·rw [if_neg c24] at H
        exact absurd H (by simp)
       rw [if_pos c24] at H
       have c24b0:decide (0 ≤ x5_1) = true:=decide_eq_true c24
       clear c24
       by_cases c25:x5_1 < (l0.length:Int)
       rotate_left
       ·rw [if_neg c25] at H
        exact absurd H (by simp)
       rw [if_pos c25] at H
       have c25b0:decide (x5_1 < (l0.length:Int)) = true:=decide_eq_true c25
       clear c25
       by_cases c26:(rd l0 x5_1) = 1
       rotate_left
       ·rw [if_neg c26] at H
        have c26b0:((rd l0 x5_1) == 1) = false:=beq_eq_false_iff_ne.mpr c26
        have c26b1:((rd l0 x5_1) != 1) = true:=bne_iff_ne.mpr c26
        have H':=mk0 H
        clear H
        have p214:0 ≤ (x5_1:Int):=of_decide_eq_true (by first|(with_reducible assumption)|assumption)
        have q214:x5_1 < (l0.length:Int):=of_decide_eq_true (by first|(with_reducible assumption)|assumption)
        obtain⟨ad214,e214,hx214_0⟩:=Kd.at_int HR0.out x5_1 p214 q214
        cases e214
        replace hx214_0:=(HB.out.cell (World.block_lt_of_cell? w _ hx214_0)).trans hx214_0
        replace p214:=eq_true p214
        replace q214:=eq_true q214
        go_wp2
        go_roundg kj15
        case measure=>have:=HK1.out;have:=HJ9.out;have:=HJ15.out;omega
        case rel=>exact⟨(wrap64 (x5_1 + 1)),(x208000_1),(x209001_15),(u209001),(by first|rfl|(simp;done)|(simp [*];done)),H',⟨by have:=HK1.out;have:=HJ9.out;have:=HJ15.out;omega⟩,⟨by (with_reducible repeat (first|apply aR|apply nR|apply dR));exact HO_209001.out⟩,⟨by (with_reducible repeat (first|apply nB|apply dB|apply aB));exact BK207.out⟩,⟨by (with_reducible repeat (first|apply nB|apply dB|apply aB));exact BK208.out⟩,⟨by repeat (first|(with_reducible first|exact HB.out|apply aZ|apply nZ|apply dZ|refine sZ ?_ GE207.out|refine sZ ?_ GE208.out)|exact HB.out)⟩⟩
       rw [if_pos c26] at H
       have c26b0:((rd l0 x5_1) == 1) = true:=beq_iff_eq.mpr c26
       have c26b1:((rd l0 x5_1) != 1) = false:=bne_eq_false_iff_eq.mpr c26
       clear c26
       obtain⟨ji27,hji27⟩:∃ j_:Int,(wrap64 (Int.tdiv x5_1 64)) = j_:=⟨_,rfl⟩
       replace H:(if 0 ≤ (ji27) then (if (ji27) < (x209001_15.length:Int) then ((spec_l01Power.f kj15 (Int.tmod x5_1 64)).bind fun t216=>(spec_BitsOf.l0 kj15 l0 (wrap64 (x5_1 + 1)) (l0.length:Int) (x209001_15.set ((ji27):Int).toNat (IntKind.u64.wrap ((rd x209001_15 (ji27)) + t216))))) else (none)) else (none)) = some (r1,r2,r3):=by first|(rw [hji27] at H;exact H)|(simp only [hji27] at H ⊢;exact H)
       have hji27w:(IntKind.i64.wrap (Int.tdiv x5_1 64)) = ji27:=(i64_w _).trans hji27
       by_cases c28:0 ≤ (ji27)
       rotate_left
       ·rw [if_neg c28] at H
        exact absurd H (by simp)
       rw [if_pos c28] at H
       have c28b0:decide (0 ≤ (ji27)) = true:=decide_eq_true c28
       clear c28
       by_cases c29:(ji27) < (x209001_15.length:Int)
       rotate_left
       ·rw [if_neg c29] at H
        exact absurd H (by simp)
       rw [if_pos c29] at H
       have c29b0:decide ((ji27) < (x209001_15.length:Int)) = true:=decide_eq_true c29
       clear c29
       replace H:=Option.bind_eq_some_iff.mp H
       obtain⟨t216,A300,H⟩:=H
       replace H:(spec_BitsOf.l0 kj15 l0 (wrap64 (x5_1 + 1)) (l0.length:Int) (x209001_15.set ((ji27):Int).toNat (IntKind.u64.wrap ((rd x209001_15 (ji27)) + t216)))) = some (r1,r2,r3):=H
       have A30:=mk0 A300
       clear A300
       obtain⟨y217,hy217⟩:∃ y_:List Int,y_ = (x209001_15.set ((ji27):Int).toNat (IntKind.u64.wrap ((rd x209001_15 (ji27)) + t216))):=⟨_,rfl⟩
       replace H:(spec_BitsOf.l0 kj15 l0 (wrap64 (x5_1 + 1)) (l0.length:Int) y217) = some (r1,r2,r3):=by first|(rw [hy217];with_reducible exact H)|(have H2_:=(Option.bind_some _ _).symm.trans H;rw [hy217];with_reducible exact H2_)|(have H2_:=(Option.bind_some _ _).symm.trans H;with_reducible exact H2_)|with_reducible exact H|(rw [hy217];exact H)|exact H
       have Ny217:=mk0 hy217
       clear hy217
       have H':=mk0 H
       clear H
       have p214:0 ≤ (x5_1:Int):=of_decide_eq_true (by first|(with_reducible assumption)|assumption)
       have q214:x5_1 < (l0.length:Int):=of_decide_eq_true (by first|(with_reducible assumption)|assumption)
       obtain⟨ad214,e214,hx214_0⟩:=Kd.at_int HR0.out x5_1 p214 q214
       cases e214
       replace hx214_0:=(HB.out.cell (World.block_lt_of_cell? w _ hx214_0)).trans hx214_0
       replace p214:=eq_true p214
       replace q214:=eq_true q214
       try go_wp2
       have n0_:=mk0 (dR HO_209001.out)
       have n1_:=mk0 (dB BK207.out)
       have n2_:=mk0 (dB BK208.out)
       have n3_:=mk0 (dZ HB.out)
       clear HO_209001
       clear BK207
       clear BK208
       clear HB
       have HO_209001:=n0_
       have BK207:=n1_
       have BK208:=n2_
       have HB:=n3_
       clear n0_ n1_ n2_ n3_
       obtain⟨Ao33,co33,eo33⟩:=Kd.R_slice HO_209001.out
       (first|subst eo33|(injection eo33 with f1_ f2_ f3_;have f4_:=f1_.symm;have f5_:=f3_.symm;clear f1_ f2_ f3_;subst f4_;subst f5_))
       have p215:0 ≤ ((ji27):Int):=of_decide_eq_true (by first|(with_reducible assumption)|assumption)
       have q215:(ji27) < (x209001_15.length:Int):=of_decide_eq_true (by first|(with_reducible assumption)|assumption)
       obtain⟨ad215,e215,hx215_0⟩:=Kd.at_int (Kd.R_reads' HO_209001.out).2.2 (ji27) p215 q215
       cases e215
       replace p215:=eq_true p215
       replace q215:=eq_true q215
       refine start_ (n:=16) (S:=fun w'=>w'.cell? ⟨gb208,0,none⟩ = some (.int .i64 (l0.length:Int)) ∧ w'.cell? ⟨gb208,1,none⟩ = some (.slice (some ad215) x209001_15.length co33) ∧ w'.cell? (ad215.add ((ji27)).toNat) = some (.int .u64 (rd x209001_15 (ji27)))) (ds:=[15]) spec_BitsOf.m0 (by kernel_rfl) rfl rfl ⟨(blk_cell BK208.out 0).trans rfl,(blk_cell BK208.out 1).trans rfl,hx215_0⟩ (fun hHeld=>?_);refine with_tabW spec_BitsOf.tab12 spec_BitsOf.bits12 (fun HT_ HW_=>?_)
       generalize wc.drew = w32 at HO_209001 BK207 BK208 HB hx215_0 hHeld ⊢
       refine pure_ (i:=0) (N:=some 45) (v:=?_) (a':=?_) spec_BitsOf.m1 rfl rfl (any_of HT_.out (by kernel_rfl)) (fun _ _ _ h=>h) (Or.inl ⟨by rfl,?_⟩) ?_ ?_
       rotate_left
       ·intro w'
        go_simp
        with_reducible rfl
       rotate_left
       ·simp only [Act.put,sA,sO,sS,i64_w,i32_w]
        rfl
       refine pure_ (i:=2) (N:=some 47) (v:=?_) (a':=?_) spec_BitsOf.m2 rfl rfl (any_of HT_.out (by kernel_rfl)) (fun _ _ _ h=>h) (Or.inl ⟨by rfl,?_⟩) ?_ ?_
       rotate_left
       ·intro w'
        go_simp
        with_reducible rfl
       rotate_left
       ·simp only [Act.put,sA,sO,sS,i64_w,i32_w]
        rfl
       refine pure_ (i:=3) (N:=some 48) (v:=?_) (a':=?_) spec_BitsOf.m3 rfl rfl (any_of HT_.out (by kernel_rfl)) (fun _ _ _ h=>h) (Or.inl ⟨by rfl,?_⟩) ?_ ?_
       rotate_left
       ·intro w'
        go_simp
        with_reducible rfl
       rotate_left
       ·simp only [Act.put,sA,sO,sS,i64_w,i32_w]
        rfl
       refine pure_ (i:=4) (N:=some 49) (v:=?_) (a':=?_) spec_BitsOf.m4 rfl rfl (any_of HT_.out (by kernel_rfl)) (fun _ _ _ h=>h) (Or.inl ⟨by rfl,?_⟩) ?_ ?_
       rotate_left
       ·intro w'
        go_simp
        with_reducible rfl
       rotate_left
       ·simp only [Act.put,sA,sO,sS,i64_w,i32_w]
        rfl
       refine pure_ (i:=6) (N:=some 51) (v:=?_) (a':=?_) spec_BitsOf.m5 rfl rfl (any_of HT_.out (by kernel_rfl)) (fun _ _ _ h=>h) (Or.inl ⟨by rfl,?_⟩) ?_ ?_
       rotate_left
       ·intro w'
        go_simp
        with_reducible rfl
       rotate_left
       ·simp only [Act.put,sA,sO,sS,i64_w,i32_w]
        rfl
       refine pure_ (i:=7) (N:=some 52) (v:=?_) (a':=?_) spec_BitsOf.m6 rfl rfl (any_of HT_.out (by kernel_rfl)) (fun _ _ _ h=>h) (Or.inl ⟨by rfl,?_⟩) ?_ ?_
       rotate_left
       ·intro w'
        go_simp
        with_reducible rfl
       rotate_left
       ·simp only [Act.put,sA,sO,sS,i64_w,i32_w]
        rfl
       refine pure_ (i:=10) (N:=some 55) (v:=?_) (a':=?_) spec_BitsOf.m7 rfl rfl (any_of HT_.out (by kernel_rfl)) (fun _ _ _ h=>h) (Or.inl ⟨by rfl,?_⟩) ?_ ?_
       rotate_left
       ·intro w'
        go_simp
        with_reducible rfl
       rotate_left
       ·simp only [Act.put,sA,sO,sS,i64_w,i32_w]
        rfl
       refine pure_ (i:=11) (N:=some 56) (v:=?_) (a':=?_) spec_BitsOf.m8 rfl rfl (any_of HT_.out (by kernel_rfl)) (fun _ _ _ h=>h) (Or.inl ⟨by rfl,?_⟩) ?_ ?_
       rotate_left
       ·intro w'
        go_simp
        with_reducible rfl
       rotate_left
       ·simp only [Act.put,sA,sO,sS,i64_w,i32_w]
        rfl
       refine take_ (i:=1) (N:=some 46) (v:=?_) (a':=?_) spec_BitsOf.m9 rfl rfl (take_ofW HT_.out HW_.out (by kernel_rfl)) (fun _ _ _ h=>h) (Or.inl ⟨by rfl,?_⟩) hHeld ?_ ?_
       rotate_left
       ·rintro w' ⟨s0,s1,s2⟩
        go_simp
        with_reducible rfl
       rotate_left
       ·simp only [Act.put,sA,sO,sS,i64_w,i32_w]
        rfl
       refine take_ (i:=5) (N:=some 50) (v:=?_) (a':=?_) spec_BitsOf.m10 rfl rfl (take_ofW HT_.out HW_.out (by kernel_rfl)) (fun _ _ _ h=>h) (Or.inl ⟨by rfl,?_⟩) hHeld ?_ ?_
       rotate_left
       ·rintro w' ⟨s0,s1,s2⟩
        go_simp
        with_reducible rfl
       rotate_left
       ·simp only [Act.put,sA,sO,sS,i64_w,i32_w]
        rfl
       refine pure_ (i:=8) (N:=some 53) (v:=?_) (a':=?_) spec_BitsOf.m11 rfl rfl (any_of HT_.out (by kernel_rfl)) (fun _ _ _ h=>h) (Or.inl ⟨by rfl,?_⟩) ?_ ?_
       rotate_left
       ·intro w'
        go_simp
        with_reducible rfl
       rotate_left
       ·simp only [Act.put,sA,sO,sS,i64_w,i32_w]
        rfl
       refine take_ (i:=9) (N:=some 54) (v:=?_) (a':=?_) spec_BitsOf.m12 rfl rfl (take_ofW HT_.out HW_.out (by kernel_rfl)) (fun _ _ _ h=>h) (Or.inl ⟨by rfl,?_⟩) hHeld ?_ ?_
       rotate_left
       ·rintro w' ⟨s0,s1,s2⟩
        go_simp
        with_reducible rfl
       rotate_left
       ·simp only [Act.put,sA,sO,sS,i64_w,i32_w]
        rfl
       refine one_ (i:=12) (N:=some 57) spec_BitsOf.m13 rfl rfl (one_of HT_.out (by kernel_rfl)) (by decide) (fun K hK=>?_)
       refine goes_ Try.func69 (by kernel_rfl) rfl #[.int .i64 (Int.tmod x5_1 64)] (by rfl) rfl rfl (by (try simp only [mA,mC,mN]);first|done|rfl|(simp only [List.length_drop,List.length_take];done)|(simp only [List.length_drop,List.length_take];rfl)) ?_
       with_reducible refine (spec_l01Power.calls kj15 (Int.tmod x5_1 64) t216 _ A30.out).mono ?_
       rintro e w' ⟨rfl,⟨nd,rfl⟩⟩
       refine⟨_,rfl,?_⟩
       have p31:0 ≤ ((ji27):Int):=of_decide_eq_true (by first|(with_reducible assumption)|assumption)
       have q31:((ji27):Int) < ((x209001_15.length:Int):Int):=of_decide_eq_true (by first|(with_reducible assumption)|assumption)
       obtain⟨go31,co31,eo31,gb31,gl31,cl31,HG31⟩:=Kd.R_form HO_209001.out (by omega)
       (first|cases eo31|(injection eo31 with ea_ en_ ec_;(first|subst ea_|(injection ea_ with ea_;subst ea_));subst ec_;clear en_))
       have GB31:=mk0 gb31
       have GG31:=mk0 HG31
       clear gb31 gl31 HG31
       (first|simp only [add_plain] at hx215_0|skip)
       obtain⟨hx31_0,hf31_0⟩:=Kd.R_celln 0 HO_209001.out ((ji27):Int) p31 q31
       replace p31:=eq_true p31
       replace q31:=eq_true q31
       have HP34:=Kd.R_putn HO_209001.out ((ji27):Int) (IntKind.u64.wrap ((rd x209001_15 (ji27)) + t216))
       rw [← Ny217.out] at HP34
       have HQ34:=mk0 HP34
       clear HP34
       refine hK.out _ _ ⟨(blk_cell BK208.out 0).trans rfl,(blk_cell BK208.out 1).trans rfl,hHeld.2.2⟩ (fun hHeld=>?_)
       clear hK K
       refine norm_ (a':=?_) ?_ ?_
       rotate_left
       ·show Act.put _ (some 57) _ = _
        simp only [Act.put,sA,sO,sS,i64_w,i32_w]
        rfl
       refine pure_ (i:=13) (N:=some 58) (v:=?_) (a':=?_) spec_BitsOf.m14 rfl rfl (any_of HT_.out (by kernel_rfl)) (fun _ _ _ h=>h) (Or.inl ⟨by rfl,?_⟩) ?_ ?_
       rotate_left
       ·intro w'
        go_simp
        with_reducible rfl
       rotate_left
       ·simp only [Act.put,sA,sO,sS,i64_w,i32_w]
        rfl
       refine pure_ (i:=14) (N:=some 59) (v:=?_) (a':=?_) spec_BitsOf.m15 rfl rfl (any_of HT_.out (by kernel_rfl)) (fun _ _ _ h=>h) (Or.inl ⟨by rfl,?_⟩) ?_ ?_
       rotate_left
       ·intro w'
        go_simp
        with_reducible rfl
       rotate_left
       ·simp only [Act.put,sA,sO,sS,i64_w,i32_w]
        rfl
       refine last_ (i:=15) (N:=none) spec_BitsOf.m16 rfl rfl (one_of HT_.out (by kernel_rfl)) (by decide) (fun K hK=>?_)
       refine skip_ (w1:=?_) (by rfl) rfl ?_ ?_
       rotate_left
       ·go_simp
        rfl
       refine hK.out _ _ ?_
       clear hK K
       refine done_ (done_of HT_.out (by kernel_rfl)) ?_
       try go_wp2
       go_roundg kj15
       case measure=>have:=HK1.out;have:=HJ9.out;have:=HJ15.out;omega
       case rel=>exact⟨(wrap64 (x5_1 + 1)),(x208000_1),(y217),(.slice (some ⟨go31,0,none⟩) x209001_15.length co33),(by first|rfl|(simp;done)|(simp [*];done)),H',⟨by have:=HK1.out;have:=HJ9.out;have:=HJ15.out;omega⟩,⟨by (with_reducible repeat (first|apply aR|apply nR|apply dR));exact HQ34.out⟩,⟨by (with_reducible repeat (first|apply nB|apply dB|apply aB));refine blk_far ?_ (by have h_:=Kd.R_ne HO_209001.out BK207.out (by decide);intro e_;exact h_ (by rw [e_];rfl)) _;(with_reducible repeat (first|apply nB|apply dB|apply aB));exact BK207.out⟩,⟨by (with_reducible repeat (first|apply nB|apply dB|apply aB));refine blk_far ?_ (by have h_:=Kd.R_ne HO_209001.out BK208.out (by decide);intro e_;exact h_ (by rw [e_];rfl)) _;(with_reducible repeat (first|apply nB|apply dB|apply aB));exact BK208.out⟩,⟨by repeat (first|(with_reducible first|exact HB.out|apply aZ|apply nZ|apply dZ|refine sZ ?_ GB31.out|refine sZ ?_ GE207.out|refine sZ ?_ GE208.out)|exact HB.out)⟩⟩
/-! ### spec_l01List: function 62 -/
mutual
def spec_l01List.l0 : Nat → List Int → Int → Int → List Int → Option (List Int)
 | 0, _, _, _, _ => none
 | k + 1, x3, x4, x219000, x219001 => if x4 < x219000 then (if 0 ≤ (wrap64 (Int.tdiv x4 64)) then (if (wrap64 (Int.tdiv x4 64)) < (x219001.length : Int) then (spec_l01List.l1 k x3 x4 (rd x219001 (wrap64 (Int.tdiv x4 64))) (Int.tmod x4 64) x219000 x219001) else (none)) else (none)) else (some x3)
def spec_l01List.l1 : Nat → List Int → Int → Int → Int → Int → List Int → Option (List Int)
 | 0, _, _, _, _, _, _ => none
 | k + 1, x3, x4, x5, x6, x219000, x219001 => if x6 > 0 then (spec_l01List.l1 k x3 x4 (IntKind.u64.wrap (Int.tdiv x5 2)) (wrap64 (x6 - 1)) x219000 x219001) else (if x3.length < 17592186044416 then (spec_l01List.l0 k (x3 ++ [wrap64 (Int.tmod x5 2)]) (wrap64 (x4 + 1)) x219000 x219001) else (none))
end
def spec_l01List.f (k : Nat) (a0_0 : Int) (l0_1 : List Int) : Option (List Int) := spec_l01List.l0 k (([] : List Int)) 0 a0_0 l0_1
theorem spec_l01List.mono_l : ∀ k, (∀ y0 y1 y2 y3, LeO (spec_l01List.l0 k y0 y1 y2 y3) (spec_l01List.l0 (k + 1) y0 y1 y2 y3)) ∧ (∀ y0 y1 y2 y3 y4 y5, LeO (spec_l01List.l1 k y0 y1 y2 y3 y4 y5) (spec_l01List.l1 (k + 1) y0 y1 y2 y3 y4 y5))
 | 0 => ⟨fun _ _ _ _ r h => by simp [spec_l01List.l0] at h, fun _ _ _ _ _ _ r h => by simp [spec_l01List.l1] at h⟩
 | k + 1 => by
  obtain ⟨ih0, ih1⟩ := spec_l01List.mono_l k
  refine ⟨?_, ?_⟩
  ·intro y0 y1 y2 y3
   unfold spec_l01List.l0
   repeat' first|(with_reducible first|exact ih0 _ _ _ _|exact ih1 _ _ _ _ _ _|exact LeO.refl _|exact LeO.none _|refine LeO.ite ?_ ?_|refine LeO.bind ?_ (fun _ => ?_))|exact LeO.none _|refine LeO.ite ?_ ?_|refine LeO.bind ?_ (fun _ => ?_)
  ·intro y0 y1 y2 y3 y4 y5
   unfold spec_l01List.l1
   repeat' first|(with_reducible first|exact ih0 _ _ _ _|exact ih1 _ _ _ _ _ _|exact LeO.refl _|exact LeO.none _|refine LeO.ite ?_ ?_|refine LeO.bind ?_ (fun _ => ?_))|exact LeO.none _|refine LeO.ite ?_ ?_|refine LeO.bind ?_ (fun _ => ?_)
theorem spec_l01List.mono : ∀ a0 a1 k, LeO (spec_l01List.f k a0 a1) (spec_l01List.f (k + 1) a0 a1) := by
 intro a0 a1 k
 obtain ⟨ih0, ih1⟩ := spec_l01List.mono_l k
 unfold spec_l01List.f
 repeat' first|(with_reducible first|exact ih0 _ _ _ _|exact ih1 _ _ _ _ _ _|exact LeO.refl _|exact LeO.none _|refine LeO.ite ?_ ?_|refine LeO.bind ?_ (fun _ => ?_))|exact LeO.none _|refine LeO.ite ?_ ?_|refine LeO.bind ?_ (fun _ => ?_)
set_option maxHeartbeats 8000000 in
set_option maxRecDepth 100000 in
theorem spec_l01List.calls (k : Nat) (a0_0 : Int) (A0_1 : Option Addr) (c0_1 : Nat) (l0_1 : List Int) (r : List Int) (w : World) (hr0_1 : Kd.C (Kd.int .u64) w A0_1 l0_1.length l0_1) (hc0_1 : l0_1.length ≤ c0_1) (h : spec_l01List.f k a0_0 l0_1 = some r) :
  Calls Try.prog 62 #[.agg #[.int .i64 a0_0, .slice A0_1 l0_1.length c0_1]] w fun e w' => ∃ v0_ : Value, e = .returned (v0_) ∧ Kd.R (Kd.int .i64) 3 w' w.heap.size (fun _ => True) v0_ r ∧ Below w.heap.size w w' := by
 have hu64:=Try.underlying64
 have HR0_1:=mk0 hr0_1
 have HC0_1:=mk0 hc0_1
 clear hr0_1 hc0_1
 have HB:=mk0 (Below.refl w.heap.size w)
 have H:(spec_l01List.l0 k (([]:List Int)) 0 a0_0 l0_1) = some r:=h
 clear h
 obtain⟨y219,hy219⟩:∃ y_:List Int,y_ = (([]:List Int)):=⟨_,rfl⟩
 replace H:(spec_l01List.l0 k y219 0 a0_0 l0_1) = some r:=by first|(rw [hy219];with_reducible exact H)|(have H2_:=(Option.bind_some _ _).symm.trans H;rw [hy219];with_reducible exact H2_)|(have H2_:=(Option.bind_some _ _).symm.trans H;with_reducible exact H2_)|with_reducible exact H|(rw [hy219];exact H)|exact H
 have Ny219:=mk0 hy219
 clear hy219
 have H':=mk0 H
 clear H
 go_enter Try.func62,Try.ntmps62
 go_wp2_with (first|((with_reducible refine gate_dst (N:=1) rfl ?_);refine box_event ?hg (N:=1) ?hd (cs:=#[.int .i64 a0_0,.slice A0_1 l0_1.length c0_1]) (t:=64) ?hr ?_;(case hd=>rfl);(case hg=>rfl);(case hr=>first|(go_simp;done)|(go_simp;rfl));intro gb218 hg w2 hbox hb;have n0_:=mk0 (below_step (by repeat (first|(with_reducible first|exact HB.out|apply aZ|apply nZ|apply dZ)|exact HB.out)) hb);have n1_:=mk0 (hbox);have n2_:=mk0 ((by rw [hg];exact (below_size (by repeat (first|(with_reducible first|exact HB.out|apply aZ|apply nZ|apply dZ)|exact HB.out))):w.heap.size ≤ gb218));have n3_:=mk0 ((by rw [hg];exact (below_size (by repeat (first|(with_reducible first|exact HB.out|apply aZ|apply nZ|apply dZ)|exact HB.out))):w.heap.size ≤ gb218));clear HB;have HB:=n0_;have BK218:=n1_;have GW218:=n2_;have GE218:=n3_;clear n0_ n1_ n2_ n3_ hb hbox hg)|((with_reducible refine gate_dst (N:=7) rfl ?_);refine Kd.R_lit (Kd.int .i64) _ 3 ?hg (N:=7) ?hd (xs:=([]:List Int)) (inner:=[]) (ok:=fun _=>True) (okp:=fun _=>True) ?hr ?hp (fun _ hk=>hk) trivial (Below.refl _ _) (Nat.le_refl _) (by simp) ?_;(case hd=>rfl);(case hg=>rfl);(case hr=>first|(go_simp;done)|(go_simp;rfl));(case hp=>exact (Reps.none _ _));intro v220 w3 ho4 hb hg_ hnew_;clear hg_ hnew_;(first|rw [← Ny219.out] at ho4|(simp only [Int.reduceToNat] at ho4;rw [← Ny219.out] at ho4));have n0_:=mk0 (Kd.R_lower ho4 (below_size (by repeat (first|(with_reducible first|exact HB.out|apply aZ|apply nZ|apply dZ|refine sZ ?_ GE218.out)|exact HB.out))));have n1_:=mk0 (blk_below (g:=gb218) (o:=.cells #[.int .i64 a0_0,.slice A0_1 l0_1.length c0_1] 64 (0,0)) (by (with_reducible repeat (first|apply nB|apply dB|apply aB));exact BK218.out) hb);have n2_:=mk0 (below_step (by repeat (first|(with_reducible first|exact HB.out|apply aZ|apply nZ|apply dZ|refine sZ ?_ GE218.out)|exact HB.out)) hb);clear BK218 HB;have HO221:=n0_;have BK218:=n1_;have HB:=n2_;clear n0_ n1_ n2_ hb ho4))
 go_loopg [3,4] k (fun kq v3 v4 w'=>∃ (x3_1:List Int) (x4_1:Int),v4 = .int .i64 x4_1 ∧ Aside0 (spec_l01List.l0 kq x3_1 x4_1 a0_0 l0_1 = some r) ∧ Aside0 (kq ≤ k) ∧ Aside0 (Kd.R (Kd.int .i64) 3 w' w.heap.size (fun _=>True) v3 x3_1) ∧ Aside0 (w'.heap[gb218]? = some (.cells #[.int .i64 a0_0,(.slice A0_1 l0_1.length c0_1)] 64 (0,0))) ∧ Aside0 (Below w.heap.size w w'))
 case atStart=>exact⟨(y219),(0),(by first|rfl|(simp;done)|(simp [*];done)),H',⟨Nat.le_refl _⟩,⟨by (with_reducible repeat (first|apply aR|apply nR|apply dR));exact HO221.out⟩,⟨by (with_reducible repeat (first|apply nB|apply dB|apply aB));exact BK218.out⟩,⟨by repeat (first|(with_reducible first|exact HB.out|apply aZ|apply nZ|apply dZ|refine sZ ?_ GE218.out)|exact HB.out)⟩⟩
 case round =>
  clear H'
  try clear p2
  obtain⟨x3_1,x4_1,rfl,HA,HK1,HO_3,BK218,HB⟩:=hrel
  cases gk with
  | zero=>exact absurd HA.out (by simp [spec_l01List.l0])
  | succ k1 =>
   have H:=HA.out
   clear HA
   simp only [spec_l01List.l0] at H
   by_cases c5:x4_1 < a0_0
   ·rw [if_pos c5] at H
    have c5b0:decide (x4_1 < a0_0) = true:=decide_eq_true c5
    clear c5
    obtain⟨ji6,hji6⟩:∃ j_:Int,(wrap64 (Int.tdiv x4_1 64)) = j_:=⟨_,rfl⟩
    replace H:(if 0 ≤ (ji6) then (if (ji6) < (l0_1.length:Int) then (spec_l01List.l1 k1 x3_1 x4_1 (rd l0_1 (ji6)) (Int.tmod x4_1 64) a0_0 l0_1) else (none)) else (none)) = some r:=by first|(rw [hji6] at H;exact H)|(simp only [hji6] at H ⊢;exact H)
    have hji6w:(IntKind.i64.wrap (Int.tdiv x4_1 64)) = ji6:=(i64_w _).trans hji6
    by_cases c7:0 ≤ (ji6)
    ·rw [if_pos c7] at H
     have c7b0:decide (0 ≤ (ji6)) = true:=decide_eq_true c7
     clear c7
     by_cases c8:(ji6) < (l0_1.length:Int)
     ·rw [if_pos c8] at H
      have c8b0:decide ((ji6) < (l0_1.length:Int)) = true:=decide_eq_true c8
      clear c8
      have H':=mk0 H
      clear H
      have hcz9_0:wr.cell? ⟨gb218,0,none⟩ = some (.int .i64 a0_0):=(blk_cell BK218.out 0).trans rfl
      have hcz9_1:wr.cell? ⟨gb218,1,none⟩ = some (.slice A0_1 l0_1.length c0_1):=(blk_cell BK218.out 1).trans rfl
      have hfz9_0:=blk_frozen BK218.out 0
      have hfz9_1:=blk_frozen BK218.out 1
      have p222:0 ≤ ((ji6):Int):=of_decide_eq_true (by first|(with_reducible assumption)|assumption)
      have q222:(ji6) < (l0_1.length:Int):=of_decide_eq_true (by first|(with_reducible assumption)|assumption)
      obtain⟨ad222,e222,hx222_0⟩:=Kd.at_int HR0_1.out (ji6) p222 q222
      cases e222
      replace hx222_0:=(HB.out.cell (World.block_lt_of_cell? w _ hx222_0)).trans hx222_0
      replace p222:=eq_true p222
      replace q222:=eq_true q222
      go_wp2
      go_loopg [5,6] k1 (fun kq v5 v6 w'=>∃ (x5_2:Int) (x6_2:Int),v5 = .int .u64 x5_2 ∧ v6 = .int .i64 x6_2 ∧ Aside0 (spec_l01List.l1 kq x3_1 x4_1 x5_2 x6_2 a0_0 l0_1 = some r) ∧ Aside0 (kq ≤ k1) ∧ Aside0 (Kd.R (Kd.int .i64) 3 w' w.heap.size (fun _=>True) u3 x3_1) ∧ Aside0 (w'.heap[gb218]? = some (.cells #[.int .i64 a0_0,(.slice (some ad222) l0_1.length c0_1)] 64 (0,0))) ∧ Aside0 (Below w.heap.size w w'))
      case atStart=>exact⟨(rd l0_1 (ji6)),(Int.tmod x4_1 64),(by first|rfl|(simp;done)|(simp only [← hji6] <;> (first|rfl|simp))|(simp [*];done)),(by first|rfl|(simp;done)|(simp [*];done)),H',⟨Nat.le_refl _⟩,⟨by (with_reducible repeat (first|apply aR|apply nR|apply dR));exact HO_3.out⟩,⟨by (with_reducible repeat (first|apply nB|apply dB|apply aB));exact BK218.out⟩,⟨by repeat (first|(with_reducible first|exact HB.out|apply aZ|apply nZ|apply dZ|refine sZ ?_ GE218.out)|exact HB.out)⟩⟩
      case round =>
       clear H'
       try clear p2
       try clear q2
       try clear hx2
       try clear c5
       try clear c5b0
       try clear c6
       try clear p6
       try clear c7
       try clear c7b0
       try clear c8
       try clear c8b0
       try clear hcz9_0
       try clear hcz9_1
       try clear hfz9_0
       try clear hfz9_1
       try clear hx222_0
       try clear p2
       try clear p222
       try clear q222
       obtain⟨x5_2,x6_2,rfl,rfl,HA,HK2,HO_3,BK218,HB⟩:=hrel
       cases gk with
       | zero=>exact absurd HA.out (by simp [spec_l01List.l1])
       | succ k2 =>
        have H:=HA.out
        clear HA
        simp only [spec_l01List.l1] at H
        by_cases c10:x6_2 > 0
        ·rw [if_pos c10] at H
         have c10b0:decide (0 < x6_2) = true:=decide_eq_true c10
         clear c10
         have H':=mk0 H
         clear H
         go_wp2
         go_roundg k2
         case measure=>have:=HK1.out;have:=HK2.out;omega
         case rel=>exact⟨(IntKind.u64.wrap (Int.tdiv x5_2 2)),(wrap64 (x6_2 - 1)),(by first|rfl|(simp;done)|(simp [*];done)),(by first|rfl|(simp;done)|(simp [*];done)),H',⟨by have:=HK1.out;have:=HK2.out;omega⟩,⟨by (with_reducible repeat (first|apply aR|apply nR|apply dR));exact HO_3.out⟩,⟨by (with_reducible repeat (first|apply nB|apply dB|apply aB));exact BK218.out⟩,⟨by repeat (first|(with_reducible first|exact HB.out|apply aZ|apply nZ|apply dZ|refine sZ ?_ GE218.out)|exact HB.out)⟩⟩
        ·rw [if_neg c10] at H
         have c10b0:decide (0 < x6_2) = false:=decide_eq_false c10
         clear c10
         by_cases c11:x3_1.length < 17592186044416
         ·rw [if_pos c11] at H
          have LMc11:=mk0 c11
          clear c11
          obtain⟨y223,hy223⟩:∃ y_:List Int,y_ = (x3_1 ++ [wrap64 (Int.tmod x5_2 2)]):=⟨_,rfl⟩
          replace H:(spec_l01List.l0 k2 y223 (wrap64 (x4_1 + 1)) a0_0 l0_1) = some r:=by first|(rw [hy223];with_reducible exact H)|(have H2_:=(Option.bind_some _ _).symm.trans H;rw [hy223];with_reducible exact H2_)|(have H2_:=(Option.bind_some _ _).symm.trans H;with_reducible exact H2_)|with_reducible exact H|(rw [hy223];exact H)|exact H
          have Ny223:=mk0 hy223
          clear hy223
          have H':=mk0 H
          clear H
          go_wp2_with (first|((with_reducible refine gate_builtin (b:=.append) (xs:=#[.tmp 28,.tmp 32]) rfl ?_);at_builtin;refine Kd.R_append (Kd.int .i64) (w0:=w) w.heap.size rfl (.tmp 28) (.tmp 32) 22 3 (.int .i64 0) 8 rfl Try.underlying22 info3 rfl (by decide) (by omega) u3 x3_1 (wrap64 (Int.tmod x5_2 2)) [.int .i64 (wrap64 (Int.tmod x5_2 2))] (fun _=>True) (fun _=>False) rfl rfl ?aP (fun _ hk=>hk.elim) ?aF ?aO ?aB ?aS ?aL ?_;(case aP=>exact rfl);(case aB=>exact (by repeat (first|(with_reducible first|exact HB.out|apply aZ|apply nZ|apply dZ|refine sZ ?_ GE218.out)|exact HB.out)));(case aF=>exact (fun _ _=>trivial));(case aO=>exact (by (with_reducible repeat (first|apply aR|apply nR|apply dR));exact HO_3.out));(case aS=>exact (below_size (by repeat (first|(with_reducible first|exact HB.out|apply aZ|apply nZ|apply dZ|refine sZ ?_ GE218.out)|exact HB.out))));(case aL=>have:=LMc11.out;omega);intro v224 w12 ho hb hg hat;rw [← Ny223.out] at ho;have n0_:=mk0 (blk_grown (g:=gb218) (o:=.cells #[.int .i64 a0_0,.slice (some ad222) l0_1.length c0_1] 64 (0,0)) (by (with_reducible repeat (first|apply nB|apply dB|apply aB));exact BK218.out) hg (Kd.R_ne HO_3.out BK218.out (by decide)));have n1_:=mk0 (hb);have n2_:=mk0 (ho);clear BK218 HB HO_3;have BK218:=n0_;have HB:=n1_;have HO225:=n2_;clear n0_ n1_ n2_ ho hb hg hat))
          go_roundg k2
          case measure=>have:=HK1.out;have:=HK2.out;omega
          case rel=>exact⟨(y223),(wrap64 (x4_1 + 1)),(by first|rfl|(simp;done)|(simp [*];done)),H',⟨by have:=HK1.out;have:=HK2.out;omega⟩,⟨by (with_reducible repeat (first|apply aR|apply nR|apply dR));exact HO225.out⟩,⟨by (with_reducible repeat (first|apply nB|apply dB|apply aB));exact BK218.out⟩,⟨by repeat (first|(with_reducible first|exact HB.out|apply aZ|apply nZ|apply dZ|refine sZ ?_ GE218.out)|exact HB.out)⟩⟩
         ·rw [if_neg c11] at H
          exact absurd H (by simp)
     ·rw [if_neg c8] at H
      exact absurd H (by simp)
    ·rw [if_neg c7] at H
     exact absurd H (by simp)
   ·rw [if_neg c5] at H
    have c5b0:decide (x4_1 < a0_0) = false:=decide_eq_false c5
    clear c5
    obtain rfl:=Option.some.inj H
    have hcz13_0:wr.cell? ⟨gb218,0,none⟩ = some (.int .i64 a0_0):=(blk_cell BK218.out 0).trans rfl
    have hcz13_1:wr.cell? ⟨gb218,1,none⟩ = some (.slice A0_1 l0_1.length c0_1):=(blk_cell BK218.out 1).trans rfl
    have hfz13_0:=blk_frozen BK218.out 0
    have hfz13_1:=blk_frozen BK218.out 1
    go_wp2
    go_ret
    exact⟨_,by first|rfl|(simp [errW_none,errW_some] <;> rfl)|(simp [*,errW_none,errW_some] <;> rfl),by (with_reducible repeat (first|apply aR|apply nR|apply dR));exact HO_3.out,by repeat (first|(with_reducible first|exact HB.out|apply aZ|apply nZ|apply dZ|refine sZ ?_ GE218.out)|exact HB.out)⟩

end Go.Proofs.Ytamdhfjnalglfaa.QFnExactWaveList
