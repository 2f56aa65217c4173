-- A walk, made by walk.py, a program of this session's.
import Derived.Test.YtamdhfjnalglfaaQFnExactWaveListx0
import Derived.Test.YtamdhfjnalglfaaQFnExactWaveListx6
namespace Go.Proofs.Ytamdhfjnalglfaa.QFnExactWaveList
open Go.RowKit Go.Proofs.YtamdhfjnalglfaaW.PrintWords Go.Proofs.YtamdhfjnalglfaaW.PrintLast Go.Proofs.YtamdhfjnalglfaaW.PrintMore
attribute [local go_sem] max2_int min2_int max_two min_two max_three min_three max_four min_four   -- for this text's walks alone
set_option linter.unusedVariables false
set_option linter.unusedSimpArgs false

/-! ### spec_WaveOk: function 36 -/
mutual
def spec_WaveOk.j0 : Nat → Bool → Int → List Int → List (S64) → Option (Bool)
 | 0, _, _, _, _ => none
 | k + 1, x23, x246000, x246001, x246002 => if x23 = true then (some false) else (spec_WaveOk.l0 k 0 x246000 x246001 x246002)
def spec_WaveOk.l0 : Nat → Int → Int → List Int → List (S64) → Option (Bool)
 | 0, _, _, _, _ => none
 | k + 1, x3, x246000, x246001, x246002 => if x3 < 9 then (if 0 ≤ x3 then (if x3 < (x246002.length : Int) then (if ((rd_T64 x246002 x3).f0) = x246000 then ((spec_BitsOk.f k ((rd_T64 x246002 x3).f0) ((rd_T64 x246002 x3).f1)).bind fun t248 => (if t248 = true then ((spec_Rank.f k ((rd_T64 x246002 x3).f0) ((rd_T64 x246002 x3).f1) 0 x246000).bind fun t250 => (if x3 < (x246001.length : Int) then (spec_WaveOk.j2 k x3 (t250 != (rd x246001 x3)) x246000 x246001 x246002) else (none))) else (spec_WaveOk.j2 k x3 true x246000 x246001 x246002))) else (spec_WaveOk.j2 k x3 true x246000 x246001 x246002)) else (none)) else (none)) else (some true)
def spec_WaveOk.j2 : Nat → Int → Bool → Int → List Int → List (S64) → Option (Bool)
 | 0, _, _, _, _, _ => none
 | k + 1, x3, x61, x246000, x246001, x246002 => if x61 = true then (some false) else (spec_WaveOk.l0 k (wrap64 (x3 + 1)) x246000 x246001 x246002)
end
def spec_WaveOk.f (k : Nat) (a0_0 : Int) (l0_1 : List Int) (l0_2 : List (S64)) : Option (Bool) := if a0_0 < 0 then (spec_WaveOk.j0 k true a0_0 l0_1 l0_2) else (if a0_0 > 1000 then (spec_WaveOk.j0 k true a0_0 l0_1 l0_2) else (if (l0_2.length : Int) = 9 then (spec_WaveOk.j0 k ((l0_1.length : Int) != 9) a0_0 l0_1 l0_2) else (spec_WaveOk.j0 k true a0_0 l0_1 l0_2)))
theorem spec_WaveOk.mono_l : ∀ k, (∀ y0 y1 y2 y3, LeO (spec_WaveOk.j0 k y0 y1 y2 y3) (spec_WaveOk.j0 (k + 1) y0 y1 y2 y3)) ∧ (∀ y0 y1 y2 y3, LeO (spec_WaveOk.l0 k y0 y1 y2 y3) (spec_WaveOk.l0 (k + 1) y0 y1 y2 y3)) ∧ (∀ y0 y1 y2 y3 y4, LeO (spec_WaveOk.j2 k y0 y1 y2 y3 y4) (spec_WaveOk.j2 (k + 1) y0 y1 y2 y3 y4))
 | 0 => ⟨fun _ _ _ _ r h => by simp [spec_WaveOk.j0] at h, fun _ _ _ _ r h => by simp [spec_WaveOk.l0] at h, fun _ _ _ _ _ r h => by simp [spec_WaveOk.j2] at h⟩
 | k + 1 => by
  obtain ⟨ih0, ih1, ih2⟩ := spec_WaveOk.mono_l k
  refine ⟨?_, ?_, ?_⟩
  ·intro y0 y1 y2 y3
   unfold spec_WaveOk.j0
   repeat' first|(with_reducible first|exact ih0 _ _ _ _|exact ih1 _ _ _ _|exact ih2 _ _ _ _ _|exact spec_BitsOk.mono _ _ _|exact spec_Rank.mono _ _ _ _ _|exact LeO.refl _|exact LeO.none _|refine LeO.ite ?_ ?_|refine LeO.bind ?_ (fun _ => ?_))|exact LeO.none _|refine LeO.ite ?_ ?_|refine LeO.bind ?_ (fun _ => ?_)
  ·intro y0 y1 y2 y3
   unfold spec_WaveOk.l0
   repeat' first|(with_reducible first|exact ih0 _ _ _ _|exact ih1 _ _ _ _|exact ih2 _ _ _ _ _|exact spec_BitsOk.mono _ _ _|exact spec_Rank.mono _ _ _ _ _|exact LeO.refl _|exact LeO.none _|refine LeO.ite ?_ ?_|refine LeO.bind ?_ (fun _ => ?_))|exact LeO.none _|refine LeO.ite ?_ ?_|refine LeO.bind ?_ (fun _ => ?_)
  ·intro y0 y1 y2 y3 y4
   unfold spec_WaveOk.j2
   repeat' first|(with_reducible first|exact ih0 _ _ _ _|exact ih1 _ _ _ _|exact ih2 _ _ _ _ _|exact spec_BitsOk.mono _ _ _|exact spec_Rank.mono _ _ _ _ _|exact LeO.refl _|exact LeO.none _|refine LeO.ite ?_ ?_|refine LeO.bind ?_ (fun _ => ?_))|exact LeO.none _|refine LeO.ite ?_ ?_|refine LeO.bind ?_ (fun _ => ?_)
theorem spec_WaveOk.mono : ∀ a0 a1 a2 k, LeO (spec_WaveOk.f k a0 a1 a2) (spec_WaveOk.f (k + 1) a0 a1 a2) := by
 intro a0 a1 a2 k
 obtain ⟨ih0, ih1, ih2⟩ := spec_WaveOk.mono_l k
 unfold spec_WaveOk.f
 repeat' first|(with_reducible first|exact ih0 _ _ _ _|exact ih1 _ _ _ _|exact ih2 _ _ _ _ _|exact spec_BitsOk.mono _ _ _|exact spec_Rank.mono _ _ _ _ _|exact LeO.refl _|exact LeO.none _|refine LeO.ite ?_ ?_|refine LeO.bind ?_ (fun _ => ?_))|exact LeO.none _|refine LeO.ite ?_ ?_|refine LeO.bind ?_ (fun _ => ?_)
def spec_WaveOk.T6 : Bool × List (List Nat × List Nat) := (true, [([], []), ([0], [0]), ([], []), ([1, 2], [1, 2]), ([3], [3]), ([4], [4]), ([], []), ([6], [6]), ([5, 7], [5, 7]), ([8], [8]), ([9], [9]), ([10, 9], [9, 10]), ([9], [9]), ([11, 12, 9], [9, 11, 12]), ([13, 9], [9, 13]), ([14, 9, 9], [9, 14]), ([15, 9], [9, 15]), ([9, 16], [9, 16]), ([17, 15], [17]), ([18], [18]), ([19, 18], [18, 19]), ([18], [18]), ([20, 21, 18], [18, 20, 21]), ([22, 18], [18, 22]), ([18], [18]), ([24, 18], [18, 24]), ([23, 25, 18, 18], [18, 23, 25]), ([18], [18]), ([27, 18], [18, 27]), ([18], [18]), ([28, 29, 18], [18, 28, 29]), ([30, 18], [18, 30]), ([26, 31, 18], [18, 26, 31]), ([18, 32], [18, 32])])
def spec_WaveOk.B6 : List Nat := [0, 1, 0, 7, 15, 31, 0, 64, 255, 511, 1023, 2047, 1023, 8191, 16383, 32767, 65535, 131071, 262143, 524287, 1048575, 524287, 4194303, 8388607, 524287, 17301503, 67108863, 524287, 134742015, 524287, 940048383, 2013790207, 4294967295, 8589934591]
theorem spec_WaveOk.tab6 : rtab .any (opsOf Try.f36 6) = spec_WaveOk.T6 := by kernel_rfl
theorem spec_WaveOk.bits6 : waitsOk spec_WaveOk.T6.2 spec_WaveOk.B6 = true := by kernel_rfl
abbrev spec_WaveOk.m0 : Array Bool := #[F,F,F,F,F,F,F,F,F,F,F,F,F,F,F,F,F,F,F,F,F,F,F,F,F,F,F,F,F,F,F,F,F,F]
abbrev spec_WaveOk.m1 : Array Bool := #[T,F,F,F,F,F,F,F,F,F,F,F,F,F,F,F,F,F,F,F,F,F,F,F,F,F,F,F,F,F,F,F,F,F]
abbrev spec_WaveOk.m2 : Array Bool := #[T,F,T,F,F,F,F,F,F,F,F,F,F,F,F,F,F,F,F,F,F,F,F,F,F,F,F,F,F,F,F,F,F,F]
abbrev spec_WaveOk.m3 : Array Bool := #[T,F,T,F,F,F,T,F,F,F,F,F,F,F,F,F,F,F,F,F,F,F,F,F,F,F,F,F,F,F,F,F,F,F]
abbrev spec_WaveOk.m4 : Array Bool := #[T,T,T,F,F,F,T,F,F,F,F,F,F,F,F,F,F,F,F,F,F,F,F,F,F,F,F,F,F,F,F,F,F,F]
abbrev spec_WaveOk.m5 : Array Bool := #[T,T,T,T,F,F,T,F,F,F,F,F,F,F,F,F,F,F,F,F,F,F,F,F,F,F,F,F,F,F,F,F,F,F]
abbrev spec_WaveOk.m6 : Array Bool := #[T,T,T,T,T,F,T,F,F,F,F,F,F,F,F,F,F,F,F,F,F,F,F,F,F,F,F,F,F,F,F,F,F,F]
abbrev spec_WaveOk.m7 : Array Bool := #[T,T,T,T,T,T,T,F,F,F,F,F,F,F,F,F,F,F,F,F,F,F,F,F,F,F,F,F,F,F,F,F,F,F]
abbrev spec_WaveOk.m8 : Array Bool := #[T,T,T,T,T,T,T,T,F,F,F,F,F,F,F,F,F,F,F,F,F,F,F,F,F,F,F,F,F,F,F,F,F,F]
abbrev spec_WaveOk.m9 : Array Bool := #[T,T,T,T,T,T,T,T,T,F,F,F,F,F,F,F,F,F,F,F,F,F,F,F,F,F,F,F,F,F,F,F,F,F]
abbrev spec_WaveOk.m10 : Array Bool := #[T,T,T,T,T,T,T,T,T,T,F,F,F,F,F,F,F,F,F,F,F,F,F,F,F,F,F,F,F,F,F,F,F,F]
abbrev spec_WaveOk.m11 : Array Bool := #[T,T,T,T,T,T,T,T,T,T,T,F,F,F,F,F,F,F,F,F,F,F,F,F,F,F,F,F,F,F,F,F,F,F]
abbrev spec_WaveOk.m12 : Array Bool := #[T,T,T,T,T,T,T,T,T,T,T,T,F,F,F,F,F,F,F,F,F,F,F,F,F,F,F,F,F,F,F,F,F,F]
abbrev spec_WaveOk.m13 : Array Bool := #[T,T,T,T,T,T,T,T,T,T,T,T,T,F,F,F,F,F,F,F,F,F,F,F,F,F,F,F,F,F,F,F,F,F]
abbrev spec_WaveOk.m14 : Array Bool := #[T,T,T,T,T,T,T,T,T,T,T,T,T,T,F,F,F,F,F,F,F,F,F,F,F,F,F,F,F,F,F,F,F,F]
abbrev spec_WaveOk.m15 : Array Bool := #[T,T,T,T,T,T,T,T,T,T,T,T,T,T,T,F,F,F,F,F,F,F,F,F,F,F,F,F,F,F,F,F,F,F]
abbrev spec_WaveOk.m16 : Array Bool := #[T,T,T,T,T,T,T,T,T,T,T,T,T,T,T,T,F,F,F,F,F,F,F,F,F,F,F,F,F,F,F,F,F,F]
abbrev spec_WaveOk.m17 : Array Bool := #[T,T,T,T,T,T,T,T,T,T,T,T,T,T,T,T,T,F,F,F,F,F,F,F,F,F,F,F,F,F,F,F,F,F]
abbrev spec_WaveOk.m18 : Array Bool := #[T,T,T,T,T,T,T,T,T,T,T,T,T,T,T,T,T,T,F,F,F,F,F,F,F,F,F,F,F,F,F,F,F,F]
abbrev spec_WaveOk.m19 : Array Bool := #[T,T,T,T,T,T,T,T,T,T,T,T,T,T,T,T,T,T,T,F,F,F,F,F,F,F,F,F,F,F,F,F,F,F]
abbrev spec_WaveOk.m20 : Array Bool := #[T,T,T,T,T,T,T,T,T,T,T,T,T,T,T,T,T,T,T,T,F,F,F,F,F,F,F,F,F,F,F,F,F,F]
abbrev spec_WaveOk.m21 : Array Bool := #[T,T,T,T,T,T,T,T,T,T,T,T,T,T,T,T,T,T,T,T,T,F,F,F,F,F,F,F,F,F,F,F,F,F]
abbrev spec_WaveOk.m22 : Array Bool := #[T,T,T,T,T,T,T,T,T,T,T,T,T,T,T,T,T,T,T,T,T,T,F,F,F,F,F,F,F,F,F,F,F,F]
abbrev spec_WaveOk.m23 : Array Bool := #[T,T,T,T,T,T,T,T,T,T,T,T,T,T,T,T,T,T,T,T,T,T,T,F,F,F,F,F,F,F,F,F,F,F]
abbrev spec_WaveOk.m24 : Array Bool := #[T,T,T,T,T,T,T,T,T,T,T,T,T,T,T,T,T,T,T,T,T,T,T,T,F,F,F,F,F,F,F,F,F,F]
abbrev spec_WaveOk.m25 : Array Bool := #[T,T,T,T,T,T,T,T,T,T,T,T,T,T,T,T,T,T,T,T,T,T,T,T,T,F,F,F,F,F,F,F,F,F]
abbrev spec_WaveOk.m26 : Array Bool := #[T,T,T,T,T,T,T,T,T,T,T,T,T,T,T,T,T,T,T,T,T,T,T,T,T,T,F,F,F,F,F,F,F,F]
abbrev spec_WaveOk.m27 : Array Bool := #[T,T,T,T,T,T,T,T,T,T,T,T,T,T,T,T,T,T,T,T,T,T,T,T,T,T,T,F,F,F,F,F,F,F]
abbrev spec_WaveOk.m28 : Array Bool := #[T,T,T,T,T,T,T,T,T,T,T,T,T,T,T,T,T,T,T,T,T,T,T,T,T,T,T,T,F,F,F,F,F,F]
abbrev spec_WaveOk.m29 : Array Bool := #[T,T,T,T,T,T,T,T,T,T,T,T,T,T,T,T,T,T,T,T,T,T,T,T,T,T,T,T,T,F,F,F,F,F]
abbrev spec_WaveOk.m30 : Array Bool := #[T,T,T,T,T,T,T,T,T,T,T,T,T,T,T,T,T,T,T,T,T,T,T,T,T,T,T,T,T,T,F,F,F,F]
abbrev spec_WaveOk.m31 : Array Bool := #[T,T,T,T,T,T,T,T,T,T,T,T,T,T,T,T,T,T,T,T,T,T,T,T,T,T,T,T,T,T,T,F,F,F]
abbrev spec_WaveOk.m32 : Array Bool := #[T,T,T,T,T,T,T,T,T,T,T,T,T,T,T,T,T,T,T,T,T,T,T,T,T,T,T,T,T,T,T,T,F,F]
abbrev spec_WaveOk.m33 : Array Bool := #[T,T,T,T,T,T,T,T,T,T,T,T,T,T,T,T,T,T,T,T,T,T,T,T,T,T,T,T,T,T,T,T,T,F]
abbrev spec_WaveOk.m34 : Array Bool := #[T,T,T,T,T,T,T,T,T,T,T,T,T,T,T,T,T,T,T,T,T,T,T,T,T,T,T,T,T,T,T,T,T,T]
abbrev spec_WaveOk.m35 : Array Bool := #[T,T,T,T,T,T,T,T,T,T,T,F,T,F,F,F,F,F,F,F,F,F,F,F,F,F,F,F,F,F,F,F,F,F]
abbrev spec_WaveOk.m36 : Array Bool := #[T,T,T,T,T,T,T,T,T,T,T,T,T,T,T,T,T,T,T,T,F,T,F,F,F,F,F,F,F,F,F,F,F,F]
abbrev spec_WaveOk.m37 : Array Bool := #[T,T,T,T,T,T,T,T,T,T,T,T,T,T,T,T,T,T,T,T,F,T,F,F,T,F,F,F,F,F,F,F,F,F]
abbrev spec_WaveOk.m38 : Array Bool := #[T,T,T,T,T,T,T,T,T,T,T,T,T,T,T,T,T,T,T,T,F,T,F,F,T,F,F,T,F,F,F,F,F,F]
abbrev spec_WaveOk.m39 : Array Bool := #[T,T,T,T,T,T,T,T,T,T,T,T,T,T,T,T,T,T,T,T,F,T,F,F,T,F,F,T,F,T,F,F,F,F]
abbrev spec_WaveOk.m40 : Array Bool := #[T,T,T,T,T,T,T,T,T,T,T,T,T,T,T,T,T,T,T,T,T,T,F,F,T,F,F,T,F,T,F,F,F,F]
abbrev spec_WaveOk.m41 : Array Bool := #[T,T,T,T,T,T,T,T,T,T,T,T,T,T,T,T,T,T,T,T,T,T,T,F,T,F,F,T,F,T,F,F,F,F]
abbrev spec_WaveOk.m42 : Array Bool := #[T,T,T,T,T,T,T,T,T,T,T,T,T,T,T,T,T,T,T,T,T,T,T,T,T,F,F,T,F,T,F,F,F,F]
abbrev spec_WaveOk.m43 : Array Bool := #[T,T,T,T,T,T,T,T,T,T,T,T,T,T,T,T,T,T,T,T,T,T,T,T,T,T,F,T,F,T,F,F,F,F]
abbrev spec_WaveOk.m44 : Array Bool := #[T,T,T,T,T,T,T,T,T,T,T,T,T,T,T,T,T,T,T,T,T,T,T,T,T,T,F,T,T,T,F,F,F,F]
abbrev spec_WaveOk.m45 : Array Bool := #[T,T,T,T,T,T,T,T,T,T,T,T,T,T,T,T,T,T,T,T,T,T,T,T,T,T,F,T,T,T,T,F,F,F]
abbrev spec_WaveOk.m46 : Array Bool := #[T,T,T,T,T,T,T,T,T,T,T,T,T,T,T,T,T,T,T,T,T,T,T,T,T,T,F,T,T,T,T,T,F,F]
set_option maxHeartbeats 8000000 in
set_option maxRecDepth 100000 in
theorem spec_WaveOk.calls (k : Nat) (a0_0 : Int) (A0_1 : Option Addr) (c0_1 : Nat) (l0_1 : List Int) (A0_2 : Option Addr) (c0_2 : Nat) (l0_2 : List (S64)) (r : Bool) (w : World) (hr0_1 : Kd.C (Kd.int .i64) w A0_1 l0_1.length l0_1) (hc0_1 : l0_1.length ≤ c0_1) (hr0_2 : Kd.C k64 w A0_2 l0_2.length l0_2) (hc0_2 : l0_2.length ≤ c0_2) (h : spec_WaveOk.f k a0_0 l0_1 l0_2 = some r) :
  Calls Try.prog 36 #[.agg #[.int .i64 a0_0, .slice A0_1 l0_1.length c0_1, .slice A0_2 l0_2.length c0_2]] w fun e w' => e = .returned (.bool r) ∧ Below w.heap.size w w' := by
 have hu30:=Try.underlying30
 have hu64:=Try.underlying64
 have HR0_1:=mk0 hr0_1
 have HC0_1:=mk0 hc0_1
 clear hr0_1 hc0_1
 have HR0_2:=mk0 hr0_2
 have HC0_2:=mk0 hc0_2
 clear hr0_2 hc0_2
 have HB:=mk0 (Below.refl w.heap.size w)
 have H:(if a0_0 < 0 then (spec_WaveOk.j0 k true a0_0 l0_1 l0_2) else (if a0_0 > 1000 then (spec_WaveOk.j0 k true a0_0 l0_1 l0_2) else (if (l0_2.length:Int) = 9 then (spec_WaveOk.j0 k ((l0_1.length:Int) != 9) a0_0 l0_1 l0_2) else (spec_WaveOk.j0 k true a0_0 l0_1 l0_2)))) = some r:=h
 clear h
 have HC2:=mk0 H
 clear H
 go_enter Try.func36,Try.ntmps36
 go_upto_region 1 with (first|((with_reducible refine gate_dst (N:=1) rfl ?_);(try (refine gate_guard (by rfl) ?_;dsimp only));refine box_event ?hg (N:=1) ?hd (cs:=#[.int .i64 a0_0,.slice A0_1 l0_1.length c0_1,.slice A0_2 l0_2.length c0_2]) (t:=30) ?hr ?_;(case hd=>rfl);(case hg=>rfl);(case hr=>first|(go_simp;done)|(go_simp;rfl));intro gb245 hg w3 hbox hb;have n0_:=mk0 (below_step (by repeat (first|(with_reducible first|exact HB.out|apply aZ|apply nZ|apply dZ)|exact HB.out)) hb);have n1_:=mk0 (hbox);have n2_:=mk0 ((by rw [hg];exact (below_size (by repeat (first|(with_reducible first|exact HB.out|apply aZ|apply nZ|apply dZ)|exact HB.out))):w.heap.size ≤ gb245));have n3_:=mk0 ((by rw [hg];exact (below_size (by repeat (first|(with_reducible first|exact HB.out|apply aZ|apply nZ|apply dZ)|exact HB.out))):w.heap.size ≤ gb245));clear HB;have HB:=n0_;have BK245:=n1_;have GW245:=n2_;have GE245:=n3_;clear n0_ n1_ n2_ n3_ hb hbox hg))
 (try simp only [Act.put,sA,sO,sS])
 go_cut [23] (fun v23 wc=>∃ (kq:Nat) (x23_1:Bool),v23 = .bool x23_1 ∧ Aside0 (spec_WaveOk.j0 kq x23_1 a0_0 l0_1 l0_2 = some r) ∧ Aside0 (kq ≤ k) ∧ Aside0 (wc.heap[gb245]? = some (.cells #[.int .i64 a0_0,(.slice A0_1 l0_1.length c0_1),(.slice A0_2 l0_2.length c0_2)] 30 (0,0))) ∧ Aside0 (Below w.heap.size w wc))
 case first =>
  have H:=HC2.out
  clear HC2
  by_cases c4:a0_0 < 0
  ·rw [if_pos c4] at H
   have c4b0:decide (a0_0 < 0) = true:=decide_eq_true c4
   clear c4
   (first|rw [c4b0]|(simp only [i64_w,i32_w];rw [c4b0])|skip)
   have H':=mk0 H
   clear H
   have hcz5_0:w3.cell? ⟨gb245,0,none⟩ = some (.int .i64 a0_0):=(blk_cell BK245.out 0).trans rfl
   have hcz5_1:w3.cell? ⟨gb245,1,none⟩ = some (.slice A0_1 l0_1.length c0_1):=(blk_cell BK245.out 1).trans rfl
   have hcz5_2:w3.cell? ⟨gb245,2,none⟩ = some (.slice A0_2 l0_2.length c0_2):=(blk_cell BK245.out 2).trans rfl
   have hfz5_0:=blk_frozen BK245.out 0
   have hfz5_1:=blk_frozen BK245.out 1
   have hfz5_2:=blk_frozen BK245.out 2
   go_wp2
   go_meet
   case rel=>exact⟨_,(true),(by first|rfl|(simp;done)|(simp [*];done)),H',⟨by first|omega|exact Nat.le_refl _⟩,⟨by (with_reducible repeat (first|apply nB|apply dB|apply aB));exact BK245.out⟩,⟨by repeat (first|(with_reducible first|exact HB.out|apply aZ|apply nZ|apply dZ|refine sZ ?_ GE245.out)|exact HB.out)⟩⟩
  rw [if_neg c4] at H
  have c4b0:decide (a0_0 < 0) = false:=decide_eq_false c4
  clear c4
  (first|rw [c4b0]|(simp only [i64_w,i32_w];rw [c4b0])|skip)
  by_cases c6:a0_0 > 1000
  ·rw [if_pos c6] at H
   have c6b0:decide (1000 < a0_0) = true:=decide_eq_true c6
   clear c6
   have H':=mk0 H
   clear H
   have hcz7_0:w3.cell? ⟨gb245,0,none⟩ = some (.int .i64 a0_0):=(blk_cell BK245.out 0).trans rfl
   have hcz7_1:w3.cell? ⟨gb245,1,none⟩ = some (.slice A0_1 l0_1.length c0_1):=(blk_cell BK245.out 1).trans rfl
   have hcz7_2:w3.cell? ⟨gb245,2,none⟩ = some (.slice A0_2 l0_2.length c0_2):=(blk_cell BK245.out 2).trans rfl
   have hfz7_0:=blk_frozen BK245.out 0
   have hfz7_1:=blk_frozen BK245.out 1
   have hfz7_2:=blk_frozen BK245.out 2
   go_wp2
   go_meet
   case rel=>exact⟨_,(true),(by first|rfl|(simp;done)|(simp [*];done)),H',⟨by first|omega|exact Nat.le_refl _⟩,⟨by (with_reducible repeat (first|apply nB|apply dB|apply aB));exact BK245.out⟩,⟨by repeat (first|(with_reducible first|exact HB.out|apply aZ|apply nZ|apply dZ|refine sZ ?_ GE245.out)|exact HB.out)⟩⟩
  rw [if_neg c6] at H
  have c6b0:decide (1000 < a0_0) = false:=decide_eq_false c6
  clear c6
  by_cases c8:(l0_2.length:Int) = 9
  rotate_left
  ·rw [if_neg c8] at H
   have c8b0:((l0_2.length:Int) == 9) = false:=beq_eq_false_iff_ne.mpr c8
   (try simp only [hl246_1] at c8b0)
   (try simp only [hl247_1] at c8b0)
   (try simp only [hl249_1] at c8b0)
   have c8b1:((l0_2.length:Int) != 9) = true:=bne_iff_ne.mpr c8
   (try simp only [hl246_1] at c8b1)
   (try simp only [hl247_1] at c8b1)
   (try simp only [hl249_1] at c8b1)
   have H':=mk0 H
   clear H
   have hcz10_0:w3.cell? ⟨gb245,0,none⟩ = some (.int .i64 a0_0):=(blk_cell BK245.out 0).trans rfl
   have hcz10_1:w3.cell? ⟨gb245,1,none⟩ = some (.slice A0_1 l0_1.length c0_1):=(blk_cell BK245.out 1).trans rfl
   have hcz10_2:w3.cell? ⟨gb245,2,none⟩ = some (.slice A0_2 l0_2.length c0_2):=(blk_cell BK245.out 2).trans rfl
   have hfz10_0:=blk_frozen BK245.out 0
   have hfz10_1:=blk_frozen BK245.out 1
   have hfz10_2:=blk_frozen BK245.out 2
   go_wp2
   go_meet
   case rel=>exact⟨_,(true),(by first|rfl|(simp;done)|(simp [*];done)),H',⟨by first|omega|exact Nat.le_refl _⟩,⟨by (with_reducible repeat (first|apply nB|apply dB|apply aB));exact BK245.out⟩,⟨by repeat (first|(with_reducible first|exact HB.out|apply aZ|apply nZ|apply dZ|refine sZ ?_ GE245.out)|exact HB.out)⟩⟩
  rw [if_pos c8] at H
  have c8b0:((l0_2.length:Int) == 9) = true:=beq_iff_eq.mpr c8
  (try simp only [hl246_1] at c8b0)
  (try simp only [hl247_1] at c8b0)
  (try simp only [hl249_1] at c8b0)
  have c8b1:((l0_2.length:Int) != 9) = false:=bne_eq_false_iff_eq.mpr c8
  (try simp only [hl246_1] at c8b1)
  (try simp only [hl247_1] at c8b1)
  (try simp only [hl249_1] at c8b1)
  clear c8
  have H':=mk0 H
  clear H
  have hcz9_0:w3.cell? ⟨gb245,0,none⟩ = some (.int .i64 a0_0):=(blk_cell BK245.out 0).trans rfl
  have hcz9_1:w3.cell? ⟨gb245,1,none⟩ = some (.slice A0_1 l0_1.length c0_1):=(blk_cell BK245.out 1).trans rfl
  have hcz9_2:w3.cell? ⟨gb245,2,none⟩ = some (.slice A0_2 l0_2.length c0_2):=(blk_cell BK245.out 2).trans rfl
  have hfz9_0:=blk_frozen BK245.out 0
  have hfz9_1:=blk_frozen BK245.out 1
  have hfz9_2:=blk_frozen BK245.out 2
  go_wp2
  go_meet
  case rel=>exact⟨_,(((l0_1.length:Int) != 9)),(by first|rfl|(simp;done)|(simp [*];done)),H',⟨by first|omega|exact Nat.le_refl _⟩,⟨by (with_reducible repeat (first|apply nB|apply dB|apply aB));exact BK245.out⟩,⟨by repeat (first|(with_reducible first|exact HB.out|apply aZ|apply nZ|apply dZ|refine sZ ?_ GE245.out)|exact HB.out)⟩⟩
 case rest =>
  clear HC2
  try clear p2
  try clear c3
  try clear c4
  try clear c4b0
  try clear c6
  try clear c6b0
  try clear c8
  try clear c8b0
  try clear c8b1
  try clear hcz10_0
  try clear hcz10_1
  try clear hcz10_2
  try clear hcz5_0
  try clear hcz5_1
  try clear hcz5_2
  try clear hcz7_0
  try clear hcz7_1
  try clear hcz7_2
  try clear hcz9_0
  try clear hcz9_1
  try clear hcz9_2
  try clear hfz10_0
  try clear hfz10_1
  try clear hfz10_2
  try clear hfz5_0
  try clear hfz5_1
  try clear hfz5_2
  try clear hfz7_0
  try clear hfz7_1
  try clear hfz7_2
  try clear hfz9_0
  try clear hfz9_1
  try clear hfz9_2
  obtain⟨kq,x23_1,rfl,HA,HJ1,BK245,HB⟩:=hcut
  cases kq with
  | zero=>exact absurd HA.out (by simp [spec_WaveOk.j0])
  | succ kj1 =>
   have H:=HA.out
   clear HA
   simp only [spec_WaveOk.j0] at H
   by_cases c11:x23_1 = true
   ·subst c11
    have H1:(some false) = some r:=by rw [if_pos rfl] at H;exact H
    clear H
    have H:=H1
    clear H1
    obtain rfl:=Option.some.inj H
    go_wp2
    go_ret
    exact⟨by first|rfl|(simp [errW_none,errW_some] <;> rfl)|(simp [*,errW_none,errW_some] <;> rfl),by repeat (first|(with_reducible first|exact HB.out|apply aZ|apply nZ|apply dZ|refine sZ ?_ GE245.out)|exact HB.out)⟩
   replace c11:=Bool.eq_false_iff.mpr c11
   subst c11
   have H1:(spec_WaveOk.l0 kj1 0 a0_0 l0_1 l0_2) = some r:=by rw [if_neg (show ¬ (false = true) by decide)] at H;exact H
   clear H
   have H:=H1
   clear H1
   have H':=mk0 H
   clear H
   go_wp2
   go_loopg [3] kj1 (fun kq v3 w'=>∃ (x3_2:Int),v3 = .int .i64 x3_2 ∧ Aside0 (spec_WaveOk.l0 kq x3_2 a0_0 l0_1 l0_2 = some r) ∧ Aside0 (kq ≤ kj1) ∧ Aside0 (w'.heap[gb245]? = some (.cells #[.int .i64 a0_0,(.slice A0_1 l0_1.length c0_1),(.slice A0_2 l0_2.length c0_2)] 30 (0,0))) ∧ Aside0 (Below w.heap.size w w'))
   case atStart=>exact⟨(0),(by first|rfl|(simp;done)|(simp [*];done)),H',⟨Nat.le_refl _⟩,⟨by (with_reducible repeat (first|apply nB|apply dB|apply aB));exact BK245.out⟩,⟨by repeat (first|(with_reducible first|exact HB.out|apply aZ|apply nZ|apply dZ|refine sZ ?_ GE245.out)|exact HB.out)⟩⟩
   case round =>
    clear H'
    try clear c1
    try clear p2
    try clear c3
    try clear c4
    try clear c4b0
    try clear c6
    try clear c6b0
    try clear c8
    try clear c8b0
    try clear c8b1
    try clear c11
    try clear hcz10_0
    try clear hcz10_1
    try clear hcz10_2
    try clear hcz5_0
    try clear hcz5_1
    try clear hcz5_2
    try clear hcz7_0
    try clear hcz7_1
    try clear hcz7_2
    try clear hcz9_0
    try clear hcz9_1
    try clear hcz9_2
    try clear hfz10_0
    try clear hfz10_1
    try clear hfz10_2
    try clear hfz5_0
    try clear hfz5_1
    try clear hfz5_2
    try clear hfz7_0
    try clear hfz7_1
    try clear hfz7_2
    try clear hfz9_0
    try clear hfz9_1
    try clear hfz9_2
    try clear p2
    obtain⟨x3_2,rfl,HA,HK2,BK245,HB⟩:=hrel
    cases gk with
    | zero=>exact absurd HA.out (by simp [spec_WaveOk.l0])
    | succ k2 =>
     have H:=HA.out
     clear HA
     simp only [spec_WaveOk.l0] at H
     by_cases c12:x3_2 < 9
     rotate_left
     ·rw [if_neg c12] at H
      have c12b0:decide (x3_2 < 9) = false:=decide_eq_false c12
      clear c12
      obtain rfl:=Option.some.inj H
      go_wp2
      go_ret
      exact⟨by first|rfl|(simp [errW_none,errW_some] <;> rfl)|(simp [*,errW_none,errW_some] <;> rfl),by repeat (first|(with_reducible first|exact HB.out|apply aZ|apply nZ|apply dZ|refine sZ ?_ GE245.out)|exact HB.out)⟩

     rw [if_pos c12] at H
     have c12b0:decide (x3_2 < 9) = true:=decide_eq_true c12
     clear c12
     have HC13:=mk0 H
     clear H
     go_upto_region 6 with (fail)
     go_cut [61] (fun v61 wc=>∃ (kq:Nat) (x61_12:Bool),v61 = .bool x61_12 ∧ Aside0 (spec_WaveOk.j2 kq x3_2 x61_12 a0_0 l0_1 l0_2 = some r) ∧ Aside0 (kq ≤ k2) ∧ Aside0 (wc.heap[gb245]? = some (.cells #[.int .i64 a0_0,(.slice A0_1 l0_1.length c0_1),(.slice A0_2 l0_2.length c0_2)] 30 (0,0))) ∧ Aside0 (Below w.heap.size w wc))
     case first =>
      have H:=HC13.out
      clear HC13
      by_cases c14:0 ≤ x3_2
      rotate_left
      ·rw [if_neg c14] at H
       exact absurd H (by simp)
      rw [if_pos c14] at H
      have c14b0:decide (0 ≤ x3_2) = true:=decide_eq_true c14
      clear c14
      (first|rw [c14b0]|(simp only [i64_w,i32_w];rw [c14b0])|skip)
      by_cases c15:x3_2 < (l0_2.length:Int)
      rotate_left
      ·rw [if_neg c15] at H
       exact absurd H (by simp)
      rw [if_pos c15] at H
      have c15b0:decide (x3_2 < (l0_2.length:Int)) = true:=decide_eq_true c15
      (try simp only [hl246_1] at c15b0)
      (try simp only [hl247_1] at c15b0)
      (try simp only [hl249_1] at c15b0)
      clear c15
      by_cases c16:((rd_T64 l0_2 x3_2).f0) = a0_0
      rotate_left
      ·rw [if_neg c16] at H
       have c16b0:(((rd_T64 l0_2 x3_2).f0) == a0_0) = false:=beq_eq_false_iff_ne.mpr c16
       have c16b1:(((rd_T64 l0_2 x3_2).f0) != a0_0) = true:=bne_iff_ne.mpr c16
       have H':=mk0 H
       clear H
       try go_wp2
       have n0_:=mk0 (dB BK245.out)
       have n1_:=mk0 (dZ HB.out)
       clear BK245
       clear HB
       have BK245:=n0_
       have HB:=n1_
       clear n0_ n1_
       have p246:0 ≤ (x3_2:Int):=of_decide_eq_true (by first|(with_reducible assumption)|assumption)
       have q246:x3_2 < (l0_2.length:Int):=of_decide_eq_true (by first|(with_reducible assumption)|assumption)
       obtain⟨ad246,A246_1,c246_1,e246,hx246_0,hx246_1,hl246_1,hi246_1⟩:=at_T64 HR0_2.out x3_2 p246 q246
       have hw246_1:=hx246_1
       have hw246_0:=hx246_0
       cases e246
       replace hx246_0:=(HB.out.cell (World.block_lt_of_cell? w _ hx246_0)).trans hx246_0
       replace hx246_1:=(HB.out.cell (World.block_lt_of_cell? w _ hx246_1)).trans hx246_1
       have HR246_1:=mk0 hi246_1
       have HC246_1:=mk0 hl246_1
       clear hi246_1 hl246_1
       replace p246:=eq_true p246
       replace q246:=eq_true q246
       refine start_ (n:=34) (S:=fun w'=>w'.cell? ⟨gb245,0,none⟩ = some (.int .i64 a0_0) ∧ w'.cell? ⟨gb245,1,none⟩ = some (.slice A0_1 l0_1.length c0_1) ∧ w'.cell? ⟨gb245,2,none⟩ = some (.slice (some ad246) l0_2.length c0_2) ∧ w'.cell? (ad246.add ((x3_2).toNat * 2)) = some (.int .i64 ((rd_T64 l0_2 x3_2).f0)) ∧ w'.cell? ⟨(ad246.add ((x3_2).toNat * 2)).block,(ad246.add ((x3_2).toNat * 2)).off + 1,none⟩ = some (.slice A246_1 ((rd_T64 l0_2 x3_2).f1).length c246_1)) (ds:=[]) spec_WaveOk.m0 (by kernel_rfl) rfl rfl ⟨(blk_cell BK245.out 0).trans rfl,(blk_cell BK245.out 1).trans rfl,(blk_cell BK245.out 2).trans rfl,((HB.out.cell (World.block_lt_of_cell? w _ hw246_0)).trans hw246_0),((HB.out.cell (World.block_lt_of_cell? w _ hw246_1)).trans hw246_1)⟩ (fun hHeld=>?_);refine with_tabW spec_WaveOk.tab6 spec_WaveOk.bits6 (fun HT_ HW_=>?_)
       generalize wr.drew = w26 at BK245 HB HR246_1 hx246_0 hx246_1 hHeld ⊢
       refine pure_ (i:=0) (N:=some 28) (v:=?_) (a':=?_) spec_WaveOk.m1 rfl rfl (any_of HT_.out (by kernel_rfl)) (fun _ _ _ h=>h) (Or.inl ⟨by rfl,?_⟩) ?_ ?_
       rotate_left
       ·intro w'
        go_simp
        with_reducible rfl
       rotate_left
       ·simp only [Act.put,sA,sO,sS,i64_w,i32_w]
        rfl
       refine pure_ (i:=2) (N:=some 30) (v:=?_) (a':=?_) spec_WaveOk.m2 rfl rfl (any_of HT_.out (by kernel_rfl)) (fun _ _ _ h=>h) (Or.inl ⟨by rfl,?_⟩) ?_ ?_
       rotate_left
       ·intro w'
        go_simp
        with_reducible rfl
       rotate_left
       ·simp only [Act.put,sA,sO,sS,i64_w,i32_w]
        rfl
       refine pure_ (i:=6) (N:=some 34) (v:=?_) (a':=?_) spec_WaveOk.m3 rfl rfl (any_of HT_.out (by kernel_rfl)) (fun _ _ _ h=>h) (Or.inl ⟨by rfl,?_⟩) ?_ ?_
       rotate_left
       ·intro w'
        go_simp
        with_reducible rfl
       rotate_left
       ·simp only [Act.put,sA,sO,sS,i64_w,i32_w]
        rfl
       refine take_ (i:=1) (N:=some 29) (v:=?_) (a':=?_) spec_WaveOk.m4 rfl rfl (take_ofW HT_.out HW_.out (by kernel_rfl)) (fun _ _ _ h=>h) (Or.inl ⟨by rfl,?_⟩) hHeld ?_ ?_
       rotate_left
       ·rintro w' ⟨s0,s1,s2,s3,s4⟩
        go_simp
        with_reducible rfl
       rotate_left
       ·simp only [Act.put,sA,sO,sS,i64_w,i32_w]
        rfl
       refine pure_ (i:=3) (N:=some 31) (v:=?_) (a':=?_) spec_WaveOk.m5 rfl rfl (any_of HT_.out (by kernel_rfl)) (fun _ _ _ h=>h) (Or.inl ⟨by rfl,?_⟩) ?_ ?_
       rotate_left
       ·intro w'
        go_simp
        with_reducible rfl
       rotate_left
       ·simp only [Act.put,sA,sO,sS,i64_w,i32_w]
        rfl
       refine pure_ (i:=4) (N:=some 32) (v:=?_) (a':=?_) spec_WaveOk.m6 rfl rfl (any_of HT_.out (by kernel_rfl)) (fun _ _ _ h=>h) (Or.inl ⟨by rfl,?_⟩) ?_ ?_
       rotate_left
       ·intro w'
        go_simp
        with_reducible rfl
       rotate_left
       ·simp only [Act.put,sA,sO,sS,i64_w,i32_w]
        rfl
       refine take_ (i:=5) (N:=some 33) (v:=?_) (a':=?_) spec_WaveOk.m7 rfl rfl (take_ofW HT_.out HW_.out (by kernel_rfl)) (fun _ _ _ h=>h) (Or.inl ⟨by rfl,?_⟩) hHeld ?_ ?_
       rotate_left
       ·rintro w' ⟨s0,s1,s2,s3,s4⟩
        go_simp
        with_reducible rfl
       rotate_left
       ·simp only [Act.put,sA,sO,sS,i64_w,i32_w]
        rfl
       refine take_ (i:=7) (N:=some 35) (v:=?_) (a':=?_) spec_WaveOk.m8 rfl rfl (take_ofW HT_.out HW_.out (by kernel_rfl)) (fun _ _ _ h=>h) (Or.inl ⟨by rfl,?_⟩) hHeld ?_ ?_
       rotate_left
       ·rintro w' ⟨s0,s1,s2,s3,s4⟩
        go_simp
        with_reducible rfl
       rotate_left
       ·simp only [Act.put,sA,sO,sS,i64_w,i32_w]
        rfl
       refine pure_ (i:=8) (N:=some 36) (v:=?_) (a':=?_) spec_WaveOk.m9 rfl rfl (any_of HT_.out (by kernel_rfl)) (fun _ _ _ h=>h) (Or.inl ⟨by rfl,?_⟩) ?_ ?_
       rotate_left
       ·intro w'
        go_simp
        with_reducible rfl
       rotate_left
       ·simp only [Act.put,sA,sO,sS,i64_w,i32_w]
        rfl
       refine pure_ (i:=9) (N:=some 37) (v:=?_) (a':=?_) spec_WaveOk.m10 rfl rfl (any_of HT_.out (by kernel_rfl)) (fun _ _ _ h=>h) (Or.inl ⟨by rfl,?_⟩) ?_ ?_
       rotate_left
       ·intro w'
        go_simp
        with_reducible rfl
       rotate_left
       ·simp only [Act.put,sA,sO,sS,i64_w,i32_w]
        rfl
       refine pure_ (i:=10) (N:=some 38) (v:=undef) (a':=?_) spec_WaveOk.m11 rfl rfl (any_of HT_.out (by kernel_rfl)) (fun _ _ _ h=>h) (Or.inr ⟨by rfl,rfl⟩) ?_ ?_
       rotate_left
       ·simp only [Act.put,sA,sO,sS,i64_w,i32_w]
        rfl
       refine pure_ (i:=11) (N:=some 39) (v:=undef) (a':=?_) spec_WaveOk.m12 rfl rfl (any_of HT_.out (by kernel_rfl)) (fun _ _ _ h=>h) (Or.inr ⟨by rfl,rfl⟩) ?_ ?_
       rotate_left
       ·simp only [Act.put,sA,sO,sS,i64_w,i32_w]
        rfl
       refine pure_ (i:=12) (N:=some 40) (v:=undef) (a':=?_) spec_WaveOk.m13 rfl rfl (any_of HT_.out (by kernel_rfl)) (fun _ _ _ h=>h) (Or.inr ⟨by rfl,rfl⟩) ?_ ?_
       rotate_left
       ·simp only [Act.put,sA,sO,sS,i64_w,i32_w]
        rfl
       refine pure_ (i:=13) (N:=some 41) (v:=undef) (a':=?_) spec_WaveOk.m14 rfl rfl (any_of HT_.out (by kernel_rfl)) (fun _ _ _ h=>h) (Or.inr ⟨by rfl,rfl⟩) ?_ ?_
       rotate_left
       ·simp only [Act.put,sA,sO,sS,i64_w,i32_w]
        rfl
       refine pure_ (i:=14) (N:=some 42) (v:=undef) (a':=?_) spec_WaveOk.m15 rfl rfl (any_of HT_.out (by kernel_rfl)) (fun _ _ _ h=>h) (Or.inr ⟨by rfl,rfl⟩) ?_ ?_
       rotate_left
       ·simp only [Act.put,sA,sO,sS,i64_w,i32_w]
        rfl
       refine pure_ (i:=15) (N:=some 43) (v:=undef) (a':=?_) spec_WaveOk.m16 rfl rfl (any_of HT_.out (by kernel_rfl)) (fun _ _ _ h=>h) (Or.inr ⟨by rfl,rfl⟩) ?_ ?_
       rotate_left
       ·simp only [Act.put,sA,sO,sS,i64_w,i32_w]
        rfl
       refine pure_ (i:=16) (N:=some 44) (v:=undef) (a':=?_) spec_WaveOk.m17 rfl rfl (any_of HT_.out (by kernel_rfl)) (fun _ _ _ h=>h) (Or.inr ⟨by rfl,rfl⟩) ?_ ?_
       rotate_left
       ·simp only [Act.put,sA,sO,sS,i64_w,i32_w]
        rfl
       refine pure_ (i:=17) (N:=some 45) (v:=?_) (a':=?_) spec_WaveOk.m18 rfl rfl (any_of HT_.out (by kernel_rfl)) (fun _ _ _ h=>h) (Or.inl ⟨by rfl,?_⟩) ?_ ?_
       rotate_left
       ·intro w'
        go_simp
        with_reducible rfl
       rotate_left
       ·simp only [Act.put,sA,sO,sS,i64_w,i32_w]
        rfl
       refine pure_ (i:=18) (N:=some 46) (v:=?_) (a':=?_) spec_WaveOk.m19 rfl rfl (any_of HT_.out (by kernel_rfl)) (fun _ _ _ h=>h) (Or.inl ⟨by rfl,?_⟩) ?_ ?_
       rotate_left
       ·intro w'
        go_simp
        with_reducible rfl
       rotate_left
       ·simp only [Act.put,sA,sO,sS,i64_w,i32_w]
        rfl
       refine pure_ (i:=19) (N:=some 47) (v:=undef) (a':=?_) spec_WaveOk.m20 rfl rfl (any_of HT_.out (by kernel_rfl)) (fun _ _ _ h=>h) (Or.inr ⟨by rfl,rfl⟩) ?_ ?_
       rotate_left
       ·simp only [Act.put,sA,sO,sS,i64_w,i32_w]
        rfl
       refine pure_ (i:=20) (N:=some 48) (v:=undef) (a':=?_) spec_WaveOk.m21 rfl rfl (any_of HT_.out (by kernel_rfl)) (fun _ _ _ h=>h) (Or.inr ⟨by rfl,rfl⟩) ?_ ?_
       rotate_left
       ·simp only [Act.put,sA,sO,sS,i64_w,i32_w]
        rfl
       refine pure_ (i:=21) (N:=some 49) (v:=undef) (a':=?_) spec_WaveOk.m22 rfl rfl (any_of HT_.out (by kernel_rfl)) (fun _ _ _ h=>h) (Or.inr ⟨by rfl,rfl⟩) ?_ ?_
       rotate_left
       ·simp only [Act.put,sA,sO,sS,i64_w,i32_w]
        rfl
       refine pure_ (i:=22) (N:=some 50) (v:=undef) (a':=?_) spec_WaveOk.m23 rfl rfl (any_of HT_.out (by kernel_rfl)) (fun _ _ _ h=>h) (Or.inr ⟨by rfl,rfl⟩) ?_ ?_
       rotate_left
       ·simp only [Act.put,sA,sO,sS,i64_w,i32_w]
        rfl
       refine pure_ (i:=23) (N:=some 51) (v:=undef) (a':=?_) spec_WaveOk.m24 rfl rfl (any_of HT_.out (by kernel_rfl)) (fun _ _ _ h=>h) (Or.inr ⟨by rfl,rfl⟩) ?_ ?_
       rotate_left
       ·simp only [Act.put,sA,sO,sS,i64_w,i32_w]
        rfl
       refine pure_ (i:=24) (N:=some 52) (v:=undef) (a':=?_) spec_WaveOk.m25 rfl rfl (any_of HT_.out (by kernel_rfl)) (fun _ _ _ h=>h) (Or.inr ⟨by rfl,rfl⟩) ?_ ?_
       rotate_left
       ·simp only [Act.put,sA,sO,sS,i64_w,i32_w]
        rfl
       refine pure_ (i:=25) (N:=some 53) (v:=undef) (a':=?_) spec_WaveOk.m26 rfl rfl (any_of HT_.out (by kernel_rfl)) (fun _ _ _ h=>h) (Or.inr ⟨by rfl,rfl⟩) ?_ ?_
       rotate_left
       ·simp only [Act.put,sA,sO,sS,i64_w,i32_w]
        rfl
       refine pure_ (i:=26) (N:=some 54) (v:=undef) (a':=?_) spec_WaveOk.m27 rfl rfl (any_of HT_.out (by kernel_rfl)) (fun _ _ _ h=>h) (Or.inr ⟨by rfl,rfl⟩) ?_ ?_
       rotate_left
       ·simp only [Act.put,sA,sO,sS,i64_w,i32_w]
        rfl
       refine pure_ (i:=27) (N:=some 55) (v:=undef) (a':=?_) spec_WaveOk.m28 rfl rfl (any_of HT_.out (by kernel_rfl)) (fun _ _ _ h=>h) (Or.inr ⟨by rfl,rfl⟩) ?_ ?_
       rotate_left
       ·simp only [Act.put,sA,sO,sS,i64_w,i32_w]
        rfl
       refine pure_ (i:=28) (N:=some 56) (v:=undef) (a':=?_) spec_WaveOk.m29 rfl rfl (any_of HT_.out (by kernel_rfl)) (fun _ _ _ h=>h) (Or.inr ⟨by rfl,rfl⟩) ?_ ?_
       rotate_left
       ·simp only [Act.put,sA,sO,sS,i64_w,i32_w]
        rfl
       refine pure_ (i:=29) (N:=some 57) (v:=undef) (a':=?_) spec_WaveOk.m30 rfl rfl (any_of HT_.out (by kernel_rfl)) (fun _ _ _ h=>h) (Or.inr ⟨by rfl,rfl⟩) ?_ ?_
       rotate_left
       ·simp only [Act.put,sA,sO,sS,i64_w,i32_w]
        rfl
       refine pure_ (i:=30) (N:=some 58) (v:=undef) (a':=?_) spec_WaveOk.m31 rfl rfl (any_of HT_.out (by kernel_rfl)) (fun _ _ _ h=>h) (Or.inr ⟨by rfl,rfl⟩) ?_ ?_
       rotate_left
       ·simp only [Act.put,sA,sO,sS,i64_w,i32_w]
        rfl
       refine pure_ (i:=31) (N:=some 59) (v:=undef) (a':=?_) spec_WaveOk.m32 rfl rfl (any_of HT_.out (by kernel_rfl)) (fun _ _ _ h=>h) (Or.inr ⟨by rfl,rfl⟩) ?_ ?_
       rotate_left
       ·simp only [Act.put,sA,sO,sS,i64_w,i32_w]
        rfl
       refine pure_ (i:=32) (N:=some 60) (v:=undef) (a':=?_) spec_WaveOk.m33 rfl rfl (any_of HT_.out (by kernel_rfl)) (fun _ _ _ h=>h) (Or.inr ⟨by rfl,rfl⟩) ?_ ?_
       rotate_left
       ·simp only [Act.put,sA,sO,sS,i64_w,i32_w]
        rfl
       refine pure_ (i:=33) (N:=some 61) (v:=?_) (a':=?_) spec_WaveOk.m34 rfl rfl (any_of HT_.out (by kernel_rfl)) (fun _ _ _ h=>h) (Or.inl ⟨by rfl,?_⟩) ?_ ?_
       rotate_left
       ·intro w'
        go_simp
        with_reducible rfl
       rotate_left
       ·simp only [Act.put,sA,sO,sS,i64_w,i32_w]
        rfl
       refine done_ (done_of HT_.out (by kernel_rfl)) ?_
       try go_wp2
       go_meet
       case rel=>exact⟨_,(true),(by first|rfl|(simp;done)|(simp [*];done)),H',⟨by have:=HJ1.out;have:=HK2.out;first|omega|exact Nat.le_refl _⟩,⟨by (with_reducible repeat (first|apply nB|apply dB|apply aB));exact BK245.out⟩,⟨by repeat (first|(with_reducible first|exact HB.out|apply aZ|apply nZ|apply dZ|refine sZ ?_ GE245.out)|exact HB.out)⟩⟩
      rw [if_pos c16] at H
      have c16b0:(((rd_T64 l0_2 x3_2).f0) == a0_0) = true:=beq_iff_eq.mpr c16
      have c16b1:(((rd_T64 l0_2 x3_2).f0) != a0_0) = false:=bne_eq_false_iff_eq.mpr c16
      clear c16
      replace H:=Option.bind_eq_some_iff.mp H
      obtain⟨t248,A170,H⟩:=H
      replace H:(if t248 = true then ((spec_Rank.f k2 ((rd_T64 l0_2 x3_2).f0) ((rd_T64 l0_2 x3_2).f1) 0 a0_0).bind fun t250=>(if x3_2 < (l0_1.length:Int) then (spec_WaveOk.j2 k2 x3_2 (t250 != (rd l0_1 x3_2)) a0_0 l0_1 l0_2) else (none))) else (spec_WaveOk.j2 k2 x3_2 true a0_0 l0_1 l0_2)) = some r:=H
      have A17:=mk0 A170
      clear A170
      by_cases c18:t248 = true
      rotate_left
      ·replace c18:=Bool.eq_false_iff.mpr c18
       subst c18
       have H1:(spec_WaveOk.j2 k2 x3_2 true a0_0 l0_1 l0_2) = some r:=by rw [if_neg (show ¬ (false = true) by decide)] at H;exact H
       clear H
       have H:=H1
       clear H1
       have H':=mk0 H
       clear H
       try go_wp2
       have n0_:=mk0 (dB BK245.out)
       have n1_:=mk0 (dZ HB.out)
       clear BK245
       clear HB
       have BK245:=n0_
       have HB:=n1_
       clear n0_ n1_
       have p246:0 ≤ (x3_2:Int):=of_decide_eq_true (by first|(with_reducible assumption)|assumption)
       have q246:x3_2 < (l0_2.length:Int):=of_decide_eq_true (by first|(with_reducible assumption)|assumption)
       obtain⟨ad246,A246_1,c246_1,e246,hx246_0,hx246_1,hl246_1,hi246_1⟩:=at_T64 HR0_2.out x3_2 p246 q246
       have hw246_1:=hx246_1
       have hw246_0:=hx246_0
       cases e246
       replace hx246_0:=(HB.out.cell (World.block_lt_of_cell? w _ hx246_0)).trans hx246_0
       replace hx246_1:=(HB.out.cell (World.block_lt_of_cell? w _ hx246_1)).trans hx246_1
       have HR246_1:=mk0 hi246_1
       have HC246_1:=mk0 hl246_1
       clear hi246_1 hl246_1
       replace p246:=eq_true p246
       replace q246:=eq_true q246
       have p247:0 ≤ (x3_2:Int):=of_decide_eq_true (by first|(with_reducible assumption)|assumption)
       have q247:x3_2 < (l0_2.length:Int):=of_decide_eq_true (by first|(with_reducible assumption)|assumption)
       obtain⟨ad247,A247_1,c247_1,e247,hx247_0,hx247_1,hl247_1,hi247_1⟩:=at_T64 HR0_2.out x3_2 p247 q247
       have hw247_1:=hx247_1
       have hw247_0:=hx247_0
       obtain rfl:ad246 = ad247:=(by injection e247)
       replace hx247_0:=(HB.out.cell (World.block_lt_of_cell? w _ hx247_0)).trans hx247_0
       replace hx247_1:=(HB.out.cell (World.block_lt_of_cell? w _ hx247_1)).trans hx247_1
       have HR247_1:=mk0 hi247_1
       have HC247_1:=mk0 hl247_1
       clear hi247_1 hl247_1
       replace p247:=eq_true p247
       replace q247:=eq_true q247
       have ea_:=Option.some.inj (hx246_1.symm.trans hx247_1)
       injection ea_ with ea_ en_ ec_
       subst ea_
       subst ec_
       clear en_
       refine start_ (n:=34) (S:=fun w'=>w'.cell? ⟨gb245,0,none⟩ = some (.int .i64 a0_0) ∧ w'.cell? ⟨gb245,1,none⟩ = some (.slice A0_1 l0_1.length c0_1) ∧ w'.cell? ⟨gb245,2,none⟩ = some (.slice (some ad246) l0_2.length c0_2) ∧ w'.cell? (ad246.add ((x3_2).toNat * 2)) = some (.int .i64 ((rd_T64 l0_2 x3_2).f0)) ∧ w'.cell? ⟨(ad246.add ((x3_2).toNat * 2)).block,(ad246.add ((x3_2).toNat * 2)).off + 1,none⟩ = some (.slice A246_1 ((rd_T64 l0_2 x3_2).f1).length c246_1) ∧ w'.cell? (ad246.add ((x3_2).toNat * 2)) = some (.int .i64 ((rd_T64 l0_2 x3_2).f0)) ∧ w'.cell? ⟨(ad246.add ((x3_2).toNat * 2)).block,(ad246.add ((x3_2).toNat * 2)).off + 1,none⟩ = some (.slice A246_1 ((rd_T64 l0_2 x3_2).f1).length c246_1)) (ds:=[]) spec_WaveOk.m0 (by kernel_rfl) rfl rfl ⟨(blk_cell BK245.out 0).trans rfl,(blk_cell BK245.out 1).trans rfl,(blk_cell BK245.out 2).trans rfl,((HB.out.cell (World.block_lt_of_cell? w _ hw246_0)).trans hw246_0),((HB.out.cell (World.block_lt_of_cell? w _ hw246_1)).trans hw246_1),((HB.out.cell (World.block_lt_of_cell? w _ hw247_0)).trans hw247_0),((HB.out.cell (World.block_lt_of_cell? w _ hw247_1)).trans hw247_1)⟩ (fun hHeld=>?_);refine with_tabW spec_WaveOk.tab6 spec_WaveOk.bits6 (fun HT_ HW_=>?_)
       generalize wr.drew = w24 at BK245 HB HR246_1 HR247_1 hx246_0 hx246_1 hx247_0 hx247_1 hHeld ⊢
       refine pure_ (i:=0) (N:=some 28) (v:=?_) (a':=?_) spec_WaveOk.m1 rfl rfl (any_of HT_.out (by kernel_rfl)) (fun _ _ _ h=>h) (Or.inl ⟨by rfl,?_⟩) ?_ ?_
       rotate_left
       ·intro w'
        go_simp
        with_reducible rfl
       rotate_left
       ·simp only [Act.put,sA,sO,sS,i64_w,i32_w]
        rfl
       refine pure_ (i:=2) (N:=some 30) (v:=?_) (a':=?_) spec_WaveOk.m2 rfl rfl (any_of HT_.out (by kernel_rfl)) (fun _ _ _ h=>h) (Or.inl ⟨by rfl,?_⟩) ?_ ?_
       rotate_left
       ·intro w'
        go_simp
        with_reducible rfl
       rotate_left
       ·simp only [Act.put,sA,sO,sS,i64_w,i32_w]
        rfl
       refine pure_ (i:=6) (N:=some 34) (v:=?_) (a':=?_) spec_WaveOk.m3 rfl rfl (any_of HT_.out (by kernel_rfl)) (fun _ _ _ h=>h) (Or.inl ⟨by rfl,?_⟩) ?_ ?_
       rotate_left
       ·intro w'
        go_simp
        with_reducible rfl
       rotate_left
       ·simp only [Act.put,sA,sO,sS,i64_w,i32_w]
        rfl
       refine take_ (i:=1) (N:=some 29) (v:=?_) (a':=?_) spec_WaveOk.m4 rfl rfl (take_ofW HT_.out HW_.out (by kernel_rfl)) (fun _ _ _ h=>h) (Or.inl ⟨by rfl,?_⟩) hHeld ?_ ?_
       rotate_left
       ·rintro w' ⟨s0,s1,s2,s3,s4,s5,s6⟩
        go_simp
        with_reducible rfl
       rotate_left
       ·simp only [Act.put,sA,sO,sS,i64_w,i32_w]
        rfl
       refine pure_ (i:=3) (N:=some 31) (v:=?_) (a':=?_) spec_WaveOk.m5 rfl rfl (any_of HT_.out (by kernel_rfl)) (fun _ _ _ h=>h) (Or.inl ⟨by rfl,?_⟩) ?_ ?_
       rotate_left
       ·intro w'
        go_simp
        with_reducible rfl
       rotate_left
       ·simp only [Act.put,sA,sO,sS,i64_w,i32_w]
        rfl
       refine pure_ (i:=4) (N:=some 32) (v:=?_) (a':=?_) spec_WaveOk.m6 rfl rfl (any_of HT_.out (by kernel_rfl)) (fun _ _ _ h=>h) (Or.inl ⟨by rfl,?_⟩) ?_ ?_
       rotate_left
       ·intro w'
        go_simp
        with_reducible rfl
       rotate_left
       ·simp only [Act.put,sA,sO,sS,i64_w,i32_w]
        rfl
       refine take_ (i:=5) (N:=some 33) (v:=?_) (a':=?_) spec_WaveOk.m7 rfl rfl (take_ofW HT_.out HW_.out (by kernel_rfl)) (fun _ _ _ h=>h) (Or.inl ⟨by rfl,?_⟩) hHeld ?_ ?_
       rotate_left
       ·rintro w' ⟨s0,s1,s2,s3,s4,s5,s6⟩
        go_simp
        with_reducible rfl
       rotate_left
       ·simp only [Act.put,sA,sO,sS,i64_w,i32_w]
        rfl
       refine take_ (i:=7) (N:=some 35) (v:=?_) (a':=?_) spec_WaveOk.m8 rfl rfl (take_ofW HT_.out HW_.out (by kernel_rfl)) (fun _ _ _ h=>h) (Or.inl ⟨by rfl,?_⟩) hHeld ?_ ?_
       rotate_left
       ·rintro w' ⟨s0,s1,s2,s3,s4,s5,s6⟩
        go_simp
        with_reducible rfl
       rotate_left
       ·simp only [Act.put,sA,sO,sS,i64_w,i32_w]
        rfl
       refine pure_ (i:=8) (N:=some 36) (v:=?_) (a':=?_) spec_WaveOk.m9 rfl rfl (any_of HT_.out (by kernel_rfl)) (fun _ _ _ h=>h) (Or.inl ⟨by rfl,?_⟩) ?_ ?_
       rotate_left
       ·intro w'
        go_simp
        with_reducible rfl
       rotate_left
       ·simp only [Act.put,sA,sO,sS,i64_w,i32_w]
        rfl
       refine pure_ (i:=9) (N:=some 37) (v:=?_) (a':=?_) spec_WaveOk.m10 rfl rfl (any_of HT_.out (by kernel_rfl)) (fun _ _ _ h=>h) (Or.inl ⟨by rfl,?_⟩) ?_ ?_
       rotate_left
       ·intro w'
        go_simp
        with_reducible rfl
       rotate_left
       ·simp only [Act.put,sA,sO,sS,i64_w,i32_w]
        rfl
       refine pure_ (i:=10) (N:=some 38) (v:=?_) (a':=?_) spec_WaveOk.m11 rfl rfl (any_of HT_.out (by kernel_rfl)) (fun _ _ _ h=>h) (Or.inl ⟨by rfl,?_⟩) ?_ ?_
       rotate_left
       ·intro w'
        go_simp
        with_reducible rfl
       rotate_left
       ·simp only [Act.put,sA,sO,sS,i64_w,i32_w]
        rfl
       refine pure_ (i:=12) (N:=some 40) (v:=?_) (a':=?_) spec_WaveOk.m35 rfl rfl (any_of HT_.out (by kernel_rfl)) (fun _ _ _ h=>h) (Or.inl ⟨by rfl,?_⟩) ?_ ?_
       rotate_left
       ·intro w'
        go_simp
        with_reducible rfl
       rotate_left
       ·simp only [Act.put,sA,sO,sS,i64_w,i32_w]
        rfl
       refine take_ (i:=11) (N:=some 39) (v:=?_) (a':=?_) spec_WaveOk.m13 rfl rfl (take_ofW HT_.out HW_.out (by kernel_rfl)) (fun _ _ _ h=>h) (Or.inl ⟨by rfl,?_⟩) hHeld ?_ ?_
       rotate_left
       ·rintro w' ⟨s0,s1,s2,s3,s4,s5,s6⟩
        go_simp
        with_reducible rfl
       rotate_left
       ·simp only [Act.put,sA,sO,sS,i64_w,i32_w]
        rfl
       refine pure_ (i:=13) (N:=some 41) (v:=?_) (a':=?_) spec_WaveOk.m14 rfl rfl (any_of HT_.out (by kernel_rfl)) (fun _ _ _ h=>h) (Or.inl ⟨by rfl,?_⟩) ?_ ?_
       rotate_left
       ·intro w'
        go_simp
        with_reducible rfl
       rotate_left
       ·simp only [Act.put,sA,sO,sS,i64_w,i32_w]
        rfl
       refine take_ (i:=14) (N:=some 42) (v:=?_) (a':=?_) spec_WaveOk.m15 rfl rfl (take_ofW HT_.out HW_.out (by kernel_rfl)) (fun _ _ _ h=>h) (Or.inl ⟨by rfl,?_⟩) hHeld ?_ ?_
       rotate_left
       ·rintro w' ⟨s0,s1,s2,s3,s4,s5,s6⟩
        go_simp
        with_reducible rfl
       rotate_left
       ·simp only [Act.put,sA,sO,sS,i64_w,i32_w]
        rfl
       refine one_ (i:=15) (N:=some 43) spec_WaveOk.m16 rfl rfl (one_of HT_.out (by kernel_rfl)) (by decide) (fun K hK=>?_)
       refine goes_ Try.func60 (by kernel_rfl) rfl #[.agg #[.int .i64 ((rd_T64 l0_2 x3_2).f0),.slice A246_1 ((rd_T64 l0_2 x3_2).f1).length c246_1]] (by rfl) rfl rfl (by (try simp only [mA,mC,mN]);first|done|rfl|(simp only [List.length_drop,List.length_take];done)|(simp only [List.length_drop,List.length_take];rfl)) ?_
       with_reducible refine (spec_BitsOk.calls k2 ((rd_T64 l0_2 x3_2).f0) _ _ ((rd_T64 l0_2 x3_2).f1) false _ ?side1 ?side2 A17.out).mono ?_
       (case side1=>repeat (first|exact (Kd.C_below HR247_1.out HB.out)|(with_reducible first|apply aC|apply nC|apply dC)))
       (case side2=>exact HC247_1.out)
       rintro e w25 ⟨rfl,hb⟩
       refine⟨_,rfl,?_⟩
       have n0_:=mk0 (blk_below (g:=gb245) (o:=.cells #[.int .i64 a0_0,.slice A0_1 l0_1.length c0_1,.slice (some ad246) l0_2.length c0_2] 30 (0,0)) (by (with_reducible repeat (first|apply nB|apply dB|apply aB));exact BK245.out) hb)
       have n1_:=mk0 (below_step (by repeat (first|(with_reducible first|exact HB.out|apply aZ|apply nZ|apply dZ|refine sZ ?_ GE245.out)|exact HB.out)) hb)
       clear BK245
       clear HB
       have BK245:=n0_
       have HB:=n1_
       clear n0_ n1_
       (try clear hb)
       (try clear hb2)
       (try clear hk)
       (try clear hi)
       refine hK.out _ _ ⟨(blk_cell BK245.out 0).trans rfl,(blk_cell BK245.out 1).trans rfl,(blk_cell BK245.out 2).trans rfl,((HB.out.cell (World.block_lt_of_cell? w _ hw246_0)).trans hw246_0),((HB.out.cell (World.block_lt_of_cell? w _ hw246_1)).trans hw246_1),((HB.out.cell (World.block_lt_of_cell? w _ hw247_0)).trans hw247_0),((HB.out.cell (World.block_lt_of_cell? w _ hw247_1)).trans hw247_1)⟩ (fun hHeld=>?_)
       clear hK K
       refine norm_ (a':=?_) ?_ ?_
       rotate_left
       ·show Act.put _ (some 43) _ = _
        simp only [Act.put,sA,sO,sS,i64_w,i32_w]
        rfl
       refine pure_ (i:=16) (N:=some 44) (v:=?_) (a':=?_) spec_WaveOk.m17 rfl rfl (any_of HT_.out (by kernel_rfl)) (fun _ _ _ h=>h) (Or.inl ⟨by rfl,?_⟩) ?_ ?_
       rotate_left
       ·intro w'
        go_simp
        with_reducible rfl
       rotate_left
       ·simp only [Act.put,sA,sO,sS,i64_w,i32_w]
        rfl
       refine pure_ (i:=17) (N:=some 45) (v:=?_) (a':=?_) spec_WaveOk.m18 rfl rfl (any_of HT_.out (by kernel_rfl)) (fun _ _ _ h=>h) (Or.inl ⟨by rfl,?_⟩) ?_ ?_
       rotate_left
       ·intro w'
        go_simp
        with_reducible rfl
       rotate_left
       ·simp only [Act.put,sA,sO,sS,i64_w,i32_w]
        rfl
       refine pure_ (i:=18) (N:=some 46) (v:=?_) (a':=?_) spec_WaveOk.m19 rfl rfl (any_of HT_.out (by kernel_rfl)) (fun _ _ _ h=>h) (Or.inl ⟨by rfl,?_⟩) ?_ ?_
       rotate_left
       ·intro w'
        go_simp
        with_reducible rfl
       rotate_left
       ·simp only [Act.put,sA,sO,sS,i64_w,i32_w]
        rfl
       refine pure_ (i:=19) (N:=some 47) (v:=undef) (a':=?_) spec_WaveOk.m20 rfl rfl (any_of HT_.out (by kernel_rfl)) (fun _ _ _ h=>h) (Or.inr ⟨by rfl,rfl⟩) ?_ ?_
       rotate_left
       ·simp only [Act.put,sA,sO,sS,i64_w,i32_w]
        rfl
       refine pure_ (i:=20) (N:=some 48) (v:=undef) (a':=?_) spec_WaveOk.m21 rfl rfl (any_of HT_.out (by kernel_rfl)) (fun _ _ _ h=>h) (Or.inr ⟨by rfl,rfl⟩) ?_ ?_
       rotate_left
       ·simp only [Act.put,sA,sO,sS,i64_w,i32_w]
        rfl
       refine pure_ (i:=21) (N:=some 49) (v:=undef) (a':=?_) spec_WaveOk.m22 rfl rfl (any_of HT_.out (by kernel_rfl)) (fun _ _ _ h=>h) (Or.inr ⟨by rfl,rfl⟩) ?_ ?_
       rotate_left
       ·simp only [Act.put,sA,sO,sS,i64_w,i32_w]
        rfl
       refine pure_ (i:=22) (N:=some 50) (v:=undef) (a':=?_) spec_WaveOk.m23 rfl rfl (any_of HT_.out (by kernel_rfl)) (fun _ _ _ h=>h) (Or.inr ⟨by rfl,rfl⟩) ?_ ?_
       rotate_left
       ·simp only [Act.put,sA,sO,sS,i64_w,i32_w]
        rfl
       refine pure_ (i:=23) (N:=some 51) (v:=undef) (a':=?_) spec_WaveOk.m24 rfl rfl (any_of HT_.out (by kernel_rfl)) (fun _ _ _ h=>h) (Or.inr ⟨by rfl,rfl⟩) ?_ ?_
       rotate_left
       ·simp only [Act.put,sA,sO,sS,i64_w,i32_w]
        rfl
       refine pure_ (i:=24) (N:=some 52) (v:=undef) (a':=?_) spec_WaveOk.m25 rfl rfl (any_of HT_.out (by kernel_rfl)) (fun _ _ _ h=>h) (Or.inr ⟨by rfl,rfl⟩) ?_ ?_
       rotate_left
       ·simp only [Act.put,sA,sO,sS,i64_w,i32_w]
        rfl
       refine pure_ (i:=25) (N:=some 53) (v:=undef) (a':=?_) spec_WaveOk.m26 rfl rfl (any_of HT_.out (by kernel_rfl)) (fun _ _ _ h=>h) (Or.inr ⟨by rfl,rfl⟩) ?_ ?_
       rotate_left
       ·simp only [Act.put,sA,sO,sS,i64_w,i32_w]
        rfl
       refine pure_ (i:=26) (N:=some 54) (v:=undef) (a':=?_) spec_WaveOk.m27 rfl rfl (any_of HT_.out (by kernel_rfl)) (fun _ _ _ h=>h) (Or.inr ⟨by rfl,rfl⟩) ?_ ?_
       rotate_left
       ·simp only [Act.put,sA,sO,sS,i64_w,i32_w]
        rfl
       refine pure_ (i:=27) (N:=some 55) (v:=undef) (a':=?_) spec_WaveOk.m28 rfl rfl (any_of HT_.out (by kernel_rfl)) (fun _ _ _ h=>h) (Or.inr ⟨by rfl,rfl⟩) ?_ ?_
       rotate_left
       ·simp only [Act.put,sA,sO,sS,i64_w,i32_w]
        rfl
       refine pure_ (i:=28) (N:=some 56) (v:=undef) (a':=?_) spec_WaveOk.m29 rfl rfl (any_of HT_.out (by kernel_rfl)) (fun _ _ _ h=>h) (Or.inr ⟨by rfl,rfl⟩) ?_ ?_
       rotate_left
       ·simp only [Act.put,sA,sO,sS,i64_w,i32_w]
        rfl
       refine pure_ (i:=29) (N:=some 57) (v:=undef) (a':=?_) spec_WaveOk.m30 rfl rfl (any_of HT_.out (by kernel_rfl)) (fun _ _ _ h=>h) (Or.inr ⟨by rfl,rfl⟩) ?_ ?_
       rotate_left
       ·simp only [Act.put,sA,sO,sS,i64_w,i32_w]
        rfl
       refine pure_ (i:=30) (N:=some 58) (v:=undef) (a':=?_) spec_WaveOk.m31 rfl rfl (any_of HT_.out (by kernel_rfl)) (fun _ _ _ h=>h) (Or.inr ⟨by rfl,rfl⟩) ?_ ?_
       rotate_left
       ·simp only [Act.put,sA,sO,sS,i64_w,i32_w]
        rfl
       refine pure_ (i:=31) (N:=some 59) (v:=undef) (a':=?_) spec_WaveOk.m32 rfl rfl (any_of HT_.out (by kernel_rfl)) (fun _ _ _ h=>h) (Or.inr ⟨by rfl,rfl⟩) ?_ ?_
       rotate_left
       ·simp only [Act.put,sA,sO,sS,i64_w,i32_w]
        rfl
       refine pure_ (i:=32) (N:=some 60) (v:=undef) (a':=?_) spec_WaveOk.m33 rfl rfl (any_of HT_.out (by kernel_rfl)) (fun _ _ _ h=>h) (Or.inr ⟨by rfl,rfl⟩) ?_ ?_
       rotate_left
       ·simp only [Act.put,sA,sO,sS,i64_w,i32_w]
        rfl
       refine pure_ (i:=33) (N:=some 61) (v:=?_) (a':=?_) spec_WaveOk.m34 rfl rfl (any_of HT_.out (by kernel_rfl)) (fun _ _ _ h=>h) (Or.inl ⟨by rfl,?_⟩) ?_ ?_
       rotate_left
       ·intro w'
        go_simp
        with_reducible rfl
       rotate_left
       ·simp only [Act.put,sA,sO,sS,i64_w,i32_w]
        rfl
       refine done_ (done_of HT_.out (by kernel_rfl)) ?_
       try go_wp2
       go_meet
       case rel=>exact⟨_,(true),(by first|rfl|(simp;done)|(simp [*];done)),H',⟨by have:=HJ1.out;have:=HK2.out;first|omega|exact Nat.le_refl _⟩,⟨by (with_reducible repeat (first|apply nB|apply dB|apply aB));exact BK245.out⟩,⟨by repeat (first|(with_reducible first|exact HB.out|apply aZ|apply nZ|apply dZ|refine sZ ?_ GE245.out)|exact HB.out)⟩⟩
      subst c18
      have H1:((spec_Rank.f k2 ((rd_T64 l0_2 x3_2).f0) ((rd_T64 l0_2 x3_2).f1) 0 a0_0).bind fun t250=>(if x3_2 < (l0_1.length:Int) then (spec_WaveOk.j2 k2 x3_2 (t250 != (rd l0_1 x3_2)) a0_0 l0_1 l0_2) else (none))) = some r:=by rw [if_pos rfl] at H;exact H
      clear H
      have H:=H1
      clear H1
      replace H:=Option.bind_eq_some_iff.mp H
      obtain⟨t250,A190,H⟩:=H
      replace H:(if x3_2 < (l0_1.length:Int) then (spec_WaveOk.j2 k2 x3_2 (t250 != (rd l0_1 x3_2)) a0_0 l0_1 l0_2) else (none)) = some r:=H
      have A19:=mk0 A190
      clear A190
      by_cases c20:x3_2 < (l0_1.length:Int)
      rotate_left
      ·rw [if_neg c20] at H
       exact absurd H (by simp)
      rw [if_pos c20] at H
      have c20b0:decide (x3_2 < (l0_1.length:Int)) = true:=decide_eq_true c20
      (try simp only [hl246_1] at c20b0)
      (try simp only [hl247_1] at c20b0)
      (try simp only [hl249_1] at c20b0)
      clear c20
      have H':=mk0 H
      clear H
      try go_wp2
      have n0_:=mk0 (dB BK245.out)
      have n1_:=mk0 (dZ HB.out)
      clear BK245
      clear HB
      have BK245:=n0_
      have HB:=n1_
      clear n0_ n1_
      have p246:0 ≤ (x3_2:Int):=of_decide_eq_true (by first|(with_reducible assumption)|assumption)
      have q246:x3_2 < (l0_2.length:Int):=of_decide_eq_true (by first|(with_reducible assumption)|assumption)
      obtain⟨ad246,A246_1,c246_1,e246,hx246_0,hx246_1,hl246_1,hi246_1⟩:=at_T64 HR0_2.out x3_2 p246 q246
      have hw246_1:=hx246_1
      have hw246_0:=hx246_0
      cases e246
      replace hx246_0:=(HB.out.cell (World.block_lt_of_cell? w _ hx246_0)).trans hx246_0
      replace hx246_1:=(HB.out.cell (World.block_lt_of_cell? w _ hx246_1)).trans hx246_1
      have HR246_1:=mk0 hi246_1
      have HC246_1:=mk0 hl246_1
      clear hi246_1 hl246_1
      replace p246:=eq_true p246
      replace q246:=eq_true q246
      have p247:0 ≤ (x3_2:Int):=of_decide_eq_true (by first|(with_reducible assumption)|assumption)
      have q247:x3_2 < (l0_2.length:Int):=of_decide_eq_true (by first|(with_reducible assumption)|assumption)
      obtain⟨ad247,A247_1,c247_1,e247,hx247_0,hx247_1,hl247_1,hi247_1⟩:=at_T64 HR0_2.out x3_2 p247 q247
      have hw247_1:=hx247_1
      have hw247_0:=hx247_0
      obtain rfl:ad246 = ad247:=(by injection e247)
      replace hx247_0:=(HB.out.cell (World.block_lt_of_cell? w _ hx247_0)).trans hx247_0
      replace hx247_1:=(HB.out.cell (World.block_lt_of_cell? w _ hx247_1)).trans hx247_1
      have HR247_1:=mk0 hi247_1
      have HC247_1:=mk0 hl247_1
      clear hi247_1 hl247_1
      replace p247:=eq_true p247
      replace q247:=eq_true q247
      have ea_:=Option.some.inj (hx246_1.symm.trans hx247_1)
      injection ea_ with ea_ en_ ec_
      subst ea_
      subst ec_
      clear en_
      have p249:0 ≤ (x3_2:Int):=of_decide_eq_true (by first|(with_reducible assumption)|assumption)
      have q249:x3_2 < (l0_2.length:Int):=of_decide_eq_true (by first|(with_reducible assumption)|assumption)
      obtain⟨ad249,A249_1,c249_1,e249,hx249_0,hx249_1,hl249_1,hi249_1⟩:=at_T64 HR0_2.out x3_2 p249 q249
      have hw249_1:=hx249_1
      have hw249_0:=hx249_0
      obtain rfl:ad246 = ad249:=(by injection e249)
      replace hx249_0:=(HB.out.cell (World.block_lt_of_cell? w _ hx249_0)).trans hx249_0
      replace hx249_1:=(HB.out.cell (World.block_lt_of_cell? w _ hx249_1)).trans hx249_1
      have HR249_1:=mk0 hi249_1
      have HC249_1:=mk0 hl249_1
      clear hi249_1 hl249_1
      replace p249:=eq_true p249
      replace q249:=eq_true q249
      have ea_:=Option.some.inj (hw246_1.symm.trans hw249_1)
      injection ea_ with ea_ en_ ec_
      subst ea_
      subst ec_
      clear en_
      have p251:0 ≤ (x3_2:Int):=of_decide_eq_true (by first|(with_reducible assumption)|assumption)
      have q251:x3_2 < (l0_1.length:Int):=of_decide_eq_true (by first|(with_reducible assumption)|assumption)
      obtain⟨ad251,e251,hx251_0⟩:=Kd.at_int HR0_1.out x3_2 p251 q251
      have hw251_0:=hx251_0
      cases e251
      replace hx251_0:=(HB.out.cell (World.block_lt_of_cell? w _ hx251_0)).trans hx251_0
      replace p251:=eq_true p251
      replace q251:=eq_true q251
      refine start_ (n:=34) (S:=fun w'=>w'.cell? ⟨gb245,0,none⟩ = some (.int .i64 a0_0) ∧ w'.cell? ⟨gb245,1,none⟩ = some (.slice (some ad251) l0_1.length c0_1) ∧ w'.cell? ⟨gb245,2,none⟩ = some (.slice (some ad246) l0_2.length c0_2) ∧ w'.cell? (ad246.add ((x3_2).toNat * 2)) = some (.int .i64 ((rd_T64 l0_2 x3_2).f0)) ∧ w'.cell? ⟨(ad246.add ((x3_2).toNat * 2)).block,(ad246.add ((x3_2).toNat * 2)).off + 1,none⟩ = some (.slice A246_1 ((rd_T64 l0_2 x3_2).f1).length c246_1) ∧ w'.cell? (ad246.add ((x3_2).toNat * 2)) = some (.int .i64 ((rd_T64 l0_2 x3_2).f0)) ∧ w'.cell? ⟨(ad246.add ((x3_2).toNat * 2)).block,(ad246.add ((x3_2).toNat * 2)).off + 1,none⟩ = some (.slice A246_1 ((rd_T64 l0_2 x3_2).f1).length c246_1) ∧ w'.cell? (ad246.add ((x3_2).toNat * 2)) = some (.int .i64 ((rd_T64 l0_2 x3_2).f0)) ∧ w'.cell? ⟨(ad246.add ((x3_2).toNat * 2)).block,(ad246.add ((x3_2).toNat * 2)).off + 1,none⟩ = some (.slice A246_1 ((rd_T64 l0_2 x3_2).f1).length c246_1) ∧ w'.cell? (ad251.add (x3_2).toNat) = some (.int .i64 (rd l0_1 x3_2))) (ds:=[]) spec_WaveOk.m0 (by kernel_rfl) rfl rfl ⟨(blk_cell BK245.out 0).trans rfl,(blk_cell BK245.out 1).trans rfl,(blk_cell BK245.out 2).trans rfl,((HB.out.cell (World.block_lt_of_cell? w _ hw246_0)).trans hw246_0),((HB.out.cell (World.block_lt_of_cell? w _ hw246_1)).trans hw246_1),((HB.out.cell (World.block_lt_of_cell? w _ hw247_0)).trans hw247_0),((HB.out.cell (World.block_lt_of_cell? w _ hw247_1)).trans hw247_1),((HB.out.cell (World.block_lt_of_cell? w _ hw249_0)).trans hw249_0),((HB.out.cell (World.block_lt_of_cell? w _ hw249_1)).trans hw249_1),((HB.out.cell (World.block_lt_of_cell? w _ hw251_0)).trans hw251_0)⟩ (fun hHeld=>?_);refine with_tabW spec_WaveOk.tab6 spec_WaveOk.bits6 (fun HT_ HW_=>?_)
      generalize wr.drew = w21 at BK245 HB HR246_1 HR247_1 HR249_1 hx246_0 hx246_1 hx247_0 hx247_1 hx249_0 hx249_1 hx251_0 hHeld ⊢
      refine pure_ (i:=0) (N:=some 28) (v:=?_) (a':=?_) spec_WaveOk.m1 rfl rfl (any_of HT_.out (by kernel_rfl)) (fun _ _ _ h=>h) (Or.inl ⟨by rfl,?_⟩) ?_ ?_
      rotate_left
      ·intro w'
       go_simp
       with_reducible rfl
      rotate_left
      ·simp only [Act.put,sA,sO,sS,i64_w,i32_w]
       rfl
      refine pure_ (i:=2) (N:=some 30) (v:=?_) (a':=?_) spec_WaveOk.m2 rfl rfl (any_of HT_.out (by kernel_rfl)) (fun _ _ _ h=>h) (Or.inl ⟨by rfl,?_⟩) ?_ ?_
      rotate_left
      ·intro w'
       go_simp
       with_reducible rfl
      rotate_left
      ·simp only [Act.put,sA,sO,sS,i64_w,i32_w]
       rfl
      refine pure_ (i:=6) (N:=some 34) (v:=?_) (a':=?_) spec_WaveOk.m3 rfl rfl (any_of HT_.out (by kernel_rfl)) (fun _ _ _ h=>h) (Or.inl ⟨by rfl,?_⟩) ?_ ?_
      rotate_left
      ·intro w'
       go_simp
       with_reducible rfl
      rotate_left
      ·simp only [Act.put,sA,sO,sS,i64_w,i32_w]
       rfl
      refine take_ (i:=1) (N:=some 29) (v:=?_) (a':=?_) spec_WaveOk.m4 rfl rfl (take_ofW HT_.out HW_.out (by kernel_rfl)) (fun _ _ _ h=>h) (Or.inl ⟨by rfl,?_⟩) hHeld ?_ ?_
      rotate_left
      ·rintro w' ⟨s0,s1,s2,s3,s4,s5,s6,s7,s8,s9⟩
       go_simp
       with_reducible rfl
      rotate_left
      ·simp only [Act.put,sA,sO,sS,i64_w,i32_w]
       rfl
      refine pure_ (i:=3) (N:=some 31) (v:=?_) (a':=?_) spec_WaveOk.m5 rfl rfl (any_of HT_.out (by kernel_rfl)) (fun _ _ _ h=>h) (Or.inl ⟨by rfl,?_⟩) ?_ ?_
      rotate_left
      ·intro w'
       go_simp
       with_reducible rfl
      rotate_left
      ·simp only [Act.put,sA,sO,sS,i64_w,i32_w]
       rfl
      refine pure_ (i:=4) (N:=some 32) (v:=?_) (a':=?_) spec_WaveOk.m6 rfl rfl (any_of HT_.out (by kernel_rfl)) (fun _ _ _ h=>h) (Or.inl ⟨by rfl,?_⟩) ?_ ?_
      rotate_left
      ·intro w'
       go_simp
       with_reducible rfl
      rotate_left
      ·simp only [Act.put,sA,sO,sS,i64_w,i32_w]
       rfl
      refine take_ (i:=5) (N:=some 33) (v:=?_) (a':=?_) spec_WaveOk.m7 rfl rfl (take_ofW HT_.out HW_.out (by kernel_rfl)) (fun _ _ _ h=>h) (Or.inl ⟨by rfl,?_⟩) hHeld ?_ ?_
      rotate_left
      ·rintro w' ⟨s0,s1,s2,s3,s4,s5,s6,s7,s8,s9⟩
       go_simp
       with_reducible rfl
      rotate_left
      ·simp only [Act.put,sA,sO,sS,i64_w,i32_w]
       rfl
      refine take_ (i:=7) (N:=some 35) (v:=?_) (a':=?_) spec_WaveOk.m8 rfl rfl (take_ofW HT_.out HW_.out (by kernel_rfl)) (fun _ _ _ h=>h) (Or.inl ⟨by rfl,?_⟩) hHeld ?_ ?_
      rotate_left
      ·rintro w' ⟨s0,s1,s2,s3,s4,s5,s6,s7,s8,s9⟩
       go_simp
       with_reducible rfl
      rotate_left
      ·simp only [Act.put,sA,sO,sS,i64_w,i32_w]
       rfl
      refine pure_ (i:=8) (N:=some 36) (v:=?_) (a':=?_) spec_WaveOk.m9 rfl rfl (any_of HT_.out (by kernel_rfl)) (fun _ _ _ h=>h) (Or.inl ⟨by rfl,?_⟩) ?_ ?_
      rotate_left
      ·intro w'
       go_simp
       with_reducible rfl
      rotate_left
      ·simp only [Act.put,sA,sO,sS,i64_w,i32_w]
       rfl
      refine pure_ (i:=9) (N:=some 37) (v:=?_) (a':=?_) spec_WaveOk.m10 rfl rfl (any_of HT_.out (by kernel_rfl)) (fun _ _ _ h=>h) (Or.inl ⟨by rfl,?_⟩) ?_ ?_
      rotate_left
      ·intro w'
       go_simp
       with_reducible rfl
      rotate_left
      ·simp only [Act.put,sA,sO,sS,i64_w,i32_w]
       rfl
      refine pure_ (i:=10) (N:=some 38) (v:=?_) (a':=?_) spec_WaveOk.m11 rfl rfl (any_of HT_.out (by kernel_rfl)) (fun _ _ _ h=>h) (Or.inl ⟨by rfl,?_⟩) ?_ ?_
      rotate_left
      ·intro w'
       go_simp
       with_reducible rfl
      rotate_left
      ·simp only [Act.put,sA,sO,sS,i64_w,i32_w]
       rfl
      refine pure_ (i:=12) (N:=some 40) (v:=?_) (a':=?_) spec_WaveOk.m35 rfl rfl (any_of HT_.out (by kernel_rfl)) (fun _ _ _ h=>h) (Or.inl ⟨by rfl,?_⟩) ?_ ?_
      rotate_left
      ·intro w'
       go_simp
       with_reducible rfl
      rotate_left
      ·simp only [Act.put,sA,sO,sS,i64_w,i32_w]
       rfl
      refine take_ (i:=11) (N:=some 39) (v:=?_) (a':=?_) spec_WaveOk.m13 rfl rfl (take_ofW HT_.out HW_.out (by kernel_rfl)) (fun _ _ _ h=>h) (Or.inl ⟨by rfl,?_⟩) hHeld ?_ ?_
      rotate_left
      ·rintro w' ⟨s0,s1,s2,s3,s4,s5,s6,s7,s8,s9⟩
       go_simp
       with_reducible rfl
      rotate_left
      ·simp only [Act.put,sA,sO,sS,i64_w,i32_w]
       rfl
      refine pure_ (i:=13) (N:=some 41) (v:=?_) (a':=?_) spec_WaveOk.m14 rfl rfl (any_of HT_.out (by kernel_rfl)) (fun _ _ _ h=>h) (Or.inl ⟨by rfl,?_⟩) ?_ ?_
      rotate_left
      ·intro w'
       go_simp
       with_reducible rfl
      rotate_left
      ·simp only [Act.put,sA,sO,sS,i64_w,i32_w]
       rfl
      refine take_ (i:=14) (N:=some 42) (v:=?_) (a':=?_) spec_WaveOk.m15 rfl rfl (take_ofW HT_.out HW_.out (by kernel_rfl)) (fun _ _ _ h=>h) (Or.inl ⟨by rfl,?_⟩) hHeld ?_ ?_
      rotate_left
      ·rintro w' ⟨s0,s1,s2,s3,s4,s5,s6,s7,s8,s9⟩
       go_simp
       with_reducible rfl
      rotate_left
      ·simp only [Act.put,sA,sO,sS,i64_w,i32_w]
       rfl
      refine one_ (i:=15) (N:=some 43) spec_WaveOk.m16 rfl rfl (one_of HT_.out (by kernel_rfl)) (by decide) (fun K hK=>?_)
      refine goes_ Try.func60 (by kernel_rfl) rfl #[.agg #[.int .i64 ((rd_T64 l0_2 x3_2).f0),.slice A246_1 ((rd_T64 l0_2 x3_2).f1).length c246_1]] (by rfl) rfl rfl (by (try simp only [mA,mC,mN]);first|done|rfl|(simp only [List.length_drop,List.length_take];done)|(simp only [List.length_drop,List.length_take];rfl)) ?_
      with_reducible refine (spec_BitsOk.calls k2 ((rd_T64 l0_2 x3_2).f0) _ _ ((rd_T64 l0_2 x3_2).f1) true _ ?side1 ?side2 A17.out).mono ?_
      (case side1=>repeat (first|exact (Kd.C_below HR247_1.out HB.out)|(with_reducible first|apply aC|apply nC|apply dC)))
      (case side2=>exact HC247_1.out)
      rintro e w22 ⟨rfl,hb⟩
      refine⟨_,rfl,?_⟩
      have n0_:=mk0 (blk_below (g:=gb245) (o:=.cells #[.int .i64 a0_0,.slice (some ad251) l0_1.length c0_1,.slice (some ad246) l0_2.length c0_2] 30 (0,0)) (by (with_reducible repeat (first|apply nB|apply dB|apply aB));exact BK245.out) hb)
      have n1_:=mk0 (below_step (by repeat (first|(with_reducible first|exact HB.out|apply aZ|apply nZ|apply dZ|refine sZ ?_ GE245.out)|exact HB.out)) hb)
      clear BK245
      clear HB
      have BK245:=n0_
      have HB:=n1_
      clear n0_ n1_
      (try clear hb)
      (try clear hb2)
      (try clear hk)
      (try clear hi)
      refine hK.out _ _ ⟨(blk_cell BK245.out 0).trans rfl,(blk_cell BK245.out 1).trans rfl,(blk_cell BK245.out 2).trans rfl,((HB.out.cell (World.block_lt_of_cell? w _ hw246_0)).trans hw246_0),((HB.out.cell (World.block_lt_of_cell? w _ hw246_1)).trans hw246_1),((HB.out.cell (World.block_lt_of_cell? w _ hw247_0)).trans hw247_0),((HB.out.cell (World.block_lt_of_cell? w _ hw247_1)).trans hw247_1),((HB.out.cell (World.block_lt_of_cell? w _ hw249_0)).trans hw249_0),((HB.out.cell (World.block_lt_of_cell? w _ hw249_1)).trans hw249_1),((HB.out.cell (World.block_lt_of_cell? w _ hw251_0)).trans hw251_0)⟩ (fun hHeld=>?_)
      clear hK K
      refine norm_ (a':=?_) ?_ ?_
      rotate_left
      ·show Act.put _ (some 43) _ = _
       simp only [Act.put,sA,sO,sS,i64_w,i32_w]
       rfl
      refine pure_ (i:=16) (N:=some 44) (v:=?_) (a':=?_) spec_WaveOk.m17 rfl rfl (any_of HT_.out (by kernel_rfl)) (fun _ _ _ h=>h) (Or.inl ⟨by rfl,?_⟩) ?_ ?_
      rotate_left
      ·intro w'
       go_simp
       with_reducible rfl
      rotate_left
      ·simp only [Act.put,sA,sO,sS,i64_w,i32_w]
       rfl
      refine pure_ (i:=17) (N:=some 45) (v:=?_) (a':=?_) spec_WaveOk.m18 rfl rfl (any_of HT_.out (by kernel_rfl)) (fun _ _ _ h=>h) (Or.inl ⟨by rfl,?_⟩) ?_ ?_
      rotate_left
      ·intro w'
       go_simp
       with_reducible rfl
      rotate_left
      ·simp only [Act.put,sA,sO,sS,i64_w,i32_w]
       rfl
      refine pure_ (i:=18) (N:=some 46) (v:=?_) (a':=?_) spec_WaveOk.m19 rfl rfl (any_of HT_.out (by kernel_rfl)) (fun _ _ _ h=>h) (Or.inl ⟨by rfl,?_⟩) ?_ ?_
      rotate_left
      ·intro w'
       go_simp
       with_reducible rfl
      rotate_left
      ·simp only [Act.put,sA,sO,sS,i64_w,i32_w]
       rfl
      refine pure_ (i:=19) (N:=some 47) (v:=?_) (a':=?_) spec_WaveOk.m20 rfl rfl (any_of HT_.out (by kernel_rfl)) (fun _ _ _ h=>h) (Or.inl ⟨by rfl,?_⟩) ?_ ?_
      rotate_left
      ·intro w'
       go_simp
       with_reducible rfl
      rotate_left
      ·simp only [Act.put,sA,sO,sS,i64_w,i32_w]
       rfl
      refine pure_ (i:=21) (N:=some 49) (v:=?_) (a':=?_) spec_WaveOk.m36 rfl rfl (any_of HT_.out (by kernel_rfl)) (fun _ _ _ h=>h) (Or.inl ⟨by rfl,?_⟩) ?_ ?_
      rotate_left
      ·intro w'
       go_simp
       with_reducible rfl
      rotate_left
      ·simp only [Act.put,sA,sO,sS,i64_w,i32_w]
       rfl
      refine pure_ (i:=24) (N:=some 52) (v:=?_) (a':=?_) spec_WaveOk.m37 rfl rfl (any_of HT_.out (by kernel_rfl)) (fun _ _ _ h=>h) (Or.inl ⟨by rfl,?_⟩) ?_ ?_
      rotate_left
      ·intro w'
       go_simp
       with_reducible rfl
      rotate_left
      ·simp only [Act.put,sA,sO,sS,i64_w,i32_w]
       rfl
      refine pure_ (i:=27) (N:=some 55) (v:=?_) (a':=?_) spec_WaveOk.m38 rfl rfl (any_of HT_.out (by kernel_rfl)) (fun _ _ _ h=>h) (Or.inl ⟨by rfl,?_⟩) ?_ ?_
      rotate_left
      ·intro w'
       go_simp
       with_reducible rfl
      rotate_left
      ·simp only [Act.put,sA,sO,sS,i64_w,i32_w]
       rfl
      refine pure_ (i:=29) (N:=some 57) (v:=?_) (a':=?_) spec_WaveOk.m39 rfl rfl (any_of HT_.out (by kernel_rfl)) (fun _ _ _ h=>h) (Or.inl ⟨by rfl,?_⟩) ?_ ?_
      rotate_left
      ·intro w'
       go_simp
       with_reducible rfl
      rotate_left
      ·simp only [Act.put,sA,sO,sS,i64_w,i32_w]
       rfl
      refine take_ (i:=20) (N:=some 48) (v:=?_) (a':=?_) spec_WaveOk.m40 rfl rfl (take_ofW HT_.out HW_.out (by kernel_rfl)) (fun _ _ _ h=>h) (Or.inl ⟨by rfl,?_⟩) hHeld ?_ ?_
      rotate_left
      ·rintro w' ⟨s0,s1,s2,s3,s4,s5,s6,s7,s8,s9⟩
       go_simp
       with_reducible rfl
      rotate_left
      ·simp only [Act.put,sA,sO,sS,i64_w,i32_w]
       rfl
      refine pure_ (i:=22) (N:=some 50) (v:=?_) (a':=?_) spec_WaveOk.m41 rfl rfl (any_of HT_.out (by kernel_rfl)) (fun _ _ _ h=>h) (Or.inl ⟨by rfl,?_⟩) ?_ ?_
      rotate_left
      ·intro w'
       go_simp
       with_reducible rfl
      rotate_left
      ·simp only [Act.put,sA,sO,sS,i64_w,i32_w]
       rfl
      refine take_ (i:=23) (N:=some 51) (v:=?_) (a':=?_) spec_WaveOk.m42 rfl rfl (take_ofW HT_.out HW_.out (by kernel_rfl)) (fun _ _ _ h=>h) (Or.inl ⟨by rfl,?_⟩) hHeld ?_ ?_
      rotate_left
      ·rintro w' ⟨s0,s1,s2,s3,s4,s5,s6,s7,s8,s9⟩
       go_simp
       with_reducible rfl
      rotate_left
      ·simp only [Act.put,sA,sO,sS,i64_w,i32_w]
       rfl
      refine take_ (i:=25) (N:=some 53) (v:=?_) (a':=?_) spec_WaveOk.m43 rfl rfl (take_ofW HT_.out HW_.out (by kernel_rfl)) (fun _ _ _ h=>h) (Or.inl ⟨by rfl,?_⟩) hHeld ?_ ?_
      rotate_left
      ·rintro w' ⟨s0,s1,s2,s3,s4,s5,s6,s7,s8,s9⟩
       go_simp
       with_reducible rfl
      rotate_left
      ·simp only [Act.put,sA,sO,sS,i64_w,i32_w]
       rfl
      refine take_ (i:=28) (N:=some 56) (v:=?_) (a':=?_) spec_WaveOk.m44 rfl rfl (take_ofW HT_.out HW_.out (by kernel_rfl)) (fun _ _ _ h=>h) (Or.inl ⟨by rfl,?_⟩) hHeld ?_ ?_
      rotate_left
      ·rintro w' ⟨s0,s1,s2,s3,s4,s5,s6,s7,s8,s9⟩
       go_simp
       with_reducible rfl
      rotate_left
      ·simp only [Act.put,sA,sO,sS,i64_w,i32_w]
       rfl
      refine pure_ (i:=30) (N:=some 58) (v:=?_) (a':=?_) spec_WaveOk.m45 rfl rfl (any_of HT_.out (by kernel_rfl)) (fun _ _ _ h=>h) (Or.inl ⟨by rfl,?_⟩) ?_ ?_
      rotate_left
      ·intro w'
       go_simp
       with_reducible rfl
      rotate_left
      ·simp only [Act.put,sA,sO,sS,i64_w,i32_w]
       rfl
      refine take_ (i:=31) (N:=some 59) (v:=?_) (a':=?_) spec_WaveOk.m46 rfl rfl (take_ofW HT_.out HW_.out (by kernel_rfl)) (fun _ _ _ h=>h) (Or.inl ⟨by rfl,?_⟩) hHeld ?_ ?_
      rotate_left
      ·rintro w' ⟨s0,s1,s2,s3,s4,s5,s6,s7,s8,s9⟩
       go_simp
       with_reducible rfl
      rotate_left
      ·simp only [Act.put,sA,sO,sS,i64_w,i32_w]
       rfl
      refine one_ (i:=26) (N:=some 54) spec_WaveOk.m32 rfl rfl (one_of HT_.out (by kernel_rfl)) (by decide) (fun K hK=>?_)
      refine goes_ Try.func61 (by kernel_rfl) rfl #[.agg #[.int .i64 ((rd_T64 l0_2 x3_2).f0),.slice A246_1 ((rd_T64 l0_2 x3_2).f1).length c246_1],.int .i64 0,.int .i64 a0_0] (by rfl) rfl rfl (by (try simp only [mA,mC,mN]);first|done|rfl|(simp only [List.length_drop,List.length_take];done)|(simp only [List.length_drop,List.length_take];rfl)) ?_
      with_reducible refine (spec_Rank.calls k2 ((rd_T64 l0_2 x3_2).f0) _ _ ((rd_T64 l0_2 x3_2).f1) 0 a0_0 t250 _ ?side1 ?side2 A19.out).mono ?_
      (case side1=>repeat (first|exact (Kd.C_below HR249_1.out HB.out)|(with_reducible first|apply aC|apply nC|apply dC)))
      (case side2=>exact HC249_1.out)
      rintro e w23 ⟨rfl,hb⟩
      refine⟨_,rfl,?_⟩
      have n0_:=mk0 (blk_below (g:=gb245) (o:=.cells #[.int .i64 a0_0,.slice (some ad251) l0_1.length c0_1,.slice (some ad246) l0_2.length c0_2] 30 (0,0)) (by (with_reducible repeat (first|apply nB|apply dB|apply aB));exact BK245.out) hb)
      have n1_:=mk0 (below_step (by repeat (first|(with_reducible first|exact HB.out|apply aZ|apply nZ|apply dZ|refine sZ ?_ GE245.out)|exact HB.out)) hb)
      clear BK245
      clear HB
      have BK245:=n0_
      have HB:=n1_
      clear n0_ n1_
      (try clear hb)
      (try clear hb2)
      (try clear hk)
      (try clear hi)
      refine hK.out _ _ ⟨(blk_cell BK245.out 0).trans rfl,(blk_cell BK245.out 1).trans rfl,(blk_cell BK245.out 2).trans rfl,((HB.out.cell (World.block_lt_of_cell? w _ hw246_0)).trans hw246_0),((HB.out.cell (World.block_lt_of_cell? w _ hw246_1)).trans hw246_1),((HB.out.cell (World.block_lt_of_cell? w _ hw247_0)).trans hw247_0),((HB.out.cell (World.block_lt_of_cell? w _ hw247_1)).trans hw247_1),((HB.out.cell (World.block_lt_of_cell? w _ hw249_0)).trans hw249_0),((HB.out.cell (World.block_lt_of_cell? w _ hw249_1)).trans hw249_1),((HB.out.cell (World.block_lt_of_cell? w _ hw251_0)).trans hw251_0)⟩ (fun hHeld=>?_)
      clear hK K
      refine norm_ (a':=?_) ?_ ?_
      rotate_left
      ·show Act.put _ (some 54) _ = _
       simp only [Act.put,sA,sO,sS,i64_w,i32_w]
       rfl
      refine pure_ (i:=32) (N:=some 60) (v:=?_) (a':=?_) spec_WaveOk.m33 rfl rfl (any_of HT_.out (by kernel_rfl)) (fun _ _ _ h=>h) (Or.inl ⟨by rfl,?_⟩) ?_ ?_
      rotate_left
      ·intro w'
       go_simp
       with_reducible rfl
      rotate_left
      ·simp only [Act.put,sA,sO,sS,i64_w,i32_w]
       rfl
      refine pure_ (i:=33) (N:=some 61) (v:=?_) (a':=?_) spec_WaveOk.m34 rfl rfl (any_of HT_.out (by kernel_rfl)) (fun _ _ _ h=>h) (Or.inl ⟨by rfl,?_⟩) ?_ ?_
      rotate_left
      ·intro w'
       go_simp
       with_reducible rfl
      rotate_left
      ·simp only [Act.put,sA,sO,sS,i64_w,i32_w]
       rfl
      refine done_ (done_of HT_.out (by kernel_rfl)) ?_
      try go_wp2
      go_meet
      case rel=>exact⟨_,((t250 != (rd l0_1 x3_2))),(by first|rfl|(simp;done)|(simp [*];done)),H',⟨by have:=HJ1.out;have:=HK2.out;first|omega|exact Nat.le_refl _⟩,⟨by (with_reducible repeat (first|apply nB|apply dB|apply aB));exact BK245.out⟩,⟨by repeat (first|(with_reducible first|exact HB.out|apply aZ|apply nZ|apply dZ|refine sZ ?_ GE245.out)|exact HB.out)⟩⟩
     case rest =>
      clear HC13
      try clear c1
      try clear c2
      try clear p2
      try clear q2
      try clear hx2
      try clear c6
      try clear c14
      try clear c15
      try clear c16
      try clear c16b0
      try clear c16b1
      try clear c18
      try clear c20
      try clear c24
      try clear p24
      try clear q24
      try clear hx24
      try clear hx246_0
      try clear hx246_1
      try clear hx247_0
      try clear hx247_1
      try clear p246
      try clear p247
      try clear q246
      try clear q247
      obtain⟨kq,x61_12,rfl,HA,HJ12,BK245,HB⟩:=hcut
      cases kq with
      | zero=>exact absurd HA.out (by simp [spec_WaveOk.j2])
      | succ kj12 =>
       have H:=HA.out
       clear HA
       simp only [spec_WaveOk.j2] at H
       by_cases c27:x61_12 = true
       ·subst c27
        have H1:(some false) = some r:=by rw [if_pos rfl] at H;exact H
        clear H
        have H:=H1
        clear H1
        obtain rfl:=Option.some.inj H
        go_wp2
        go_ret
        exact⟨by first|rfl|(simp [errW_none,errW_some] <;> rfl)|(simp [*,errW_none,errW_some] <;> rfl),by repeat (first|(with_reducible first|exact HB.out|apply aZ|apply nZ|apply dZ|refine sZ ?_ GE245.out)|exact HB.out)⟩
       replace c27:=Bool.eq_false_iff.mpr c27
       subst c27
       have H1:(spec_WaveOk.l0 kj12 (wrap64 (x3_2 + 1)) a0_0 l0_1 l0_2) = some r:=by rw [if_neg (show ¬ (false = true) by decide)] at H;exact H
       clear H
       have H:=H1
       clear H1
       have H':=mk0 H
       clear H
       go_wp2
       go_roundg kj12
       case measure=>have:=HJ1.out;have:=HK2.out;have:=HJ12.out;omega
       case rel=>exact⟨(wrap64 (x3_2 + 1)),(by first|rfl|(simp;done)|(simp [*];done)),H',⟨by have:=HJ1.out;have:=HK2.out;have:=HJ12.out;omega⟩,⟨by (with_reducible repeat (first|apply nB|apply dB|apply aB));exact BK245.out⟩,⟨by repeat (first|(with_reducible first|exact HB.out|apply aZ|apply nZ|apply dZ|refine sZ ?_ GE245.out)|exact HB.out)⟩⟩
end Go.Proofs.Ytamdhfjnalglfaa.QFnExactWaveList
