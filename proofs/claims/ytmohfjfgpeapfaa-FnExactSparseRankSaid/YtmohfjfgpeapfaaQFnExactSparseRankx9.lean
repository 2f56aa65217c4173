-- A walk, made by walk.py, a program of this session's.
import Derived.Test.YtmohfjfgpeapfaaQFnExactSparseRankx0
import Derived.Test.YtmohfjfgpeapfaaQFnExactSparseRankx6
import Derived.Test.YtmohfjfgpeapfaaQFnExactSparseRankx7
import Derived.Test.YtmohfjfgpeapfaaQFnExactSparseRankx8
namespace Go.Proofs.Ytmohfjfgpeapfaa.QFnExactSparseRank
open Go.RowKit Go.Proofs.YtmohfjfgpeapfaaW.PrintWords Go.Proofs.YtmohfjfgpeapfaaW.PrintLast Go.Proofs.YtmohfjfgpeapfaaW.PrintMore
attribute [local go_sem] max2_int min2_int max_two min_two max_three min_three max_four min_four   -- for this text's walks alone
set_option linter.unusedVariables false
set_option linter.unusedSimpArgs false

/-! ### spec_SparseOf: function 9 -/
mutual
def spec_SparseOf.j0 : Nat → List Int → Int → Bool → Option (Int × Int × Int × Int × Int × List Int × Int × List Int × Bool)
 | 0, _, _, _ => none
 | k + 1, x0, x1, x26 => if x26 = true then (some (0, 0, 0, 0, 0, ([] : List Int), 0, ([] : List Int), false)) else (spec_SparseOf.l0 k x0 x1 0)
def spec_SparseOf.l0 : Nat → List Int → Int → Int → Option (Int × Int × Int × Int × Int × List Int × Int × List Int × Bool)
 | 0, _, _, _ => none
 | k + 1, x0, x1, x6 => if x6 < (x0.length : Int) then (if 0 ≤ x6 then (if (rd x0 x6) < 0 then (spec_SparseOf.j2 k x0 x1 x6 true) else (if (rd x0 x6) ≥ x1 then (spec_SparseOf.j2 k x0 x1 x6 true) else (if x6 > 0 then (if 0 ≤ (wrap64 (x6 - 1)) then (if (wrap64 (x6 - 1)) < (x0.length : Int) then (spec_SparseOf.j2 k x0 x1 x6 (decide ((rd x0 (wrap64 (x6 - 1))) > (rd x0 x6)))) else (none)) else (none)) else (spec_SparseOf.j2 k x0 x1 x6 false)))) else (none)) else ((spec_l03Width.f k (x0.length : Int) x1).bind fun t336 => ((spec_l02Pow.f k t336).bind fun t337 => (spec_SparseOf.l1 k x0 x1 t337 (([] : List Int)) (([] : List Int)) 0 0)))
def spec_SparseOf.j2 : Nat → List Int → Int → Int → Bool → Option (Int × Int × Int × Int × Int × List Int × Int × List Int × Bool)
 | 0, _, _, _, _ => none
 | k + 1, x0, x1, x6, x62 => if x62 = true then (some (0, 0, 0, 0, 0, ([] : List Int), 0, ([] : List Int), false)) else (spec_SparseOf.l0 k x0 x1 (wrap64 (x6 + 1)))
def spec_SparseOf.l1 : Nat → List Int → Int → Int → List Int → List Int → Int → Int → Option (Int × Int × Int × Int × Int × List Int × Int × List Int × Bool)
 | 0, _, _, _, _, _, _, _ => none
 | k + 1, x0, x1, x7, x8, x9, x10, x11 => if x7 = 0 then (none) else (if x11 ≤ (wrap64 (Int.tdiv x1 x7)) then (spec_SparseOf.j4 k x0 x1 x7 x8 x9 x10 x11 (decide ((x9.length : Int) ≤ 5000))) else (spec_SparseOf.j4 k x0 x1 x7 x8 x9 x10 x11 false))
def spec_SparseOf.j4 : Nat → List Int → Int → Int → List Int → List Int → Int → Int → Bool → Option (Int × Int × Int × Int × Int × List Int × Int × List Int × Bool)
 | 0, _, _, _, _, _, _, _, _ => none
 | k + 1, x0, x1, x7, x8, x9, x10, x11, x80 => if x80 = true then (spec_SparseOf.l2 k x0 x1 x7 x8 x9 x10 x11) else ((spec_l03Width.f k (x0.length : Int) x1).bind fun t358 => ((spec_PackOf.f k x8 t358).bind fun bt359 => ((spec_BitsOf.f k x9).bind fun bt367 => (if bt359.2.2.2.2 = true then (if bt367.2.2 = true then (some (x1, (x0.length : Int), bt359.1, bt359.2.1, bt359.2.2.1, bt359.2.2.2.1, bt367.1, bt367.2.1, true)) else (some (0, 0, 0, 0, 0, ([] : List Int), 0, ([] : List Int), false))) else (some (0, 0, 0, 0, 0, ([] : List Int), 0, ([] : List Int), false))))))
def spec_SparseOf.l2 : Nat → List Int → Int → Int → List Int → List Int → Int → Int → Option (Int × Int × Int × Int × Int × List Int × Int × List Int × Bool)
 | 0, _, _, _, _, _, _, _ => none
 | k + 1, x0, x1, x7, x8, x9, x10, x11 => if x10 < (x0.length : Int) then (if 0 ≤ x10 then (if x7 = 0 then (none) else (if (wrap64 (Int.tdiv (rd x0 x10) x7)) = x11 then (if x8.length < 17592186044416 then (if x9.length < 17592186044416 then (spec_SparseOf.l2 k x0 x1 x7 (x8 ++ [Int.tmod (rd x0 x10) x7]) (x9 ++ [1]) (wrap64 (x10 + 1)) x11) else (none)) else (none)) else (if x9.length < 17592186044416 then (spec_SparseOf.l1 k x0 x1 x7 x8 (x9 ++ [0]) x10 (wrap64 (x11 + 1))) else (none)))) else (none)) else (if x9.length < 17592186044416 then (spec_SparseOf.l1 k x0 x1 x7 x8 (x9 ++ [0]) x10 (wrap64 (x11 + 1))) else (none))
end
def spec_SparseOf.f (k : Nat) (l0 : List Int) (a1 : Int) : Option (Int × Int × Int × Int × Int × List Int × Int × List Int × Bool) := if a1 < 0 then (spec_SparseOf.j0 k l0 a1 true) else (if a1 > 1000000 then (spec_SparseOf.j0 k l0 a1 true) else (spec_SparseOf.j0 k l0 a1 (decide ((l0.length : Int) > 5000))))
theorem spec_SparseOf.mono_l : ∀ k, (∀ y0 y1 y2, LeO (spec_SparseOf.j0 k y0 y1 y2) (spec_SparseOf.j0 (k + 1) y0 y1 y2)) ∧ (∀ y0 y1 y2, LeO (spec_SparseOf.l0 k y0 y1 y2) (spec_SparseOf.l0 (k + 1) y0 y1 y2)) ∧ (∀ y0 y1 y2 y3, LeO (spec_SparseOf.j2 k y0 y1 y2 y3) (spec_SparseOf.j2 (k + 1) y0 y1 y2 y3)) ∧ (∀ y0 y1 y2 y3 y4 y5 y6, LeO (spec_SparseOf.l1 k y0 y1 y2 y3 y4 y5 y6) (spec_SparseOf.l1 (k + 1) y0 y1 y2 y3 y4 y5 y6)) ∧ (∀ y0 y1 y2 y3 y4 y5 y6 y7, LeO (spec_SparseOf.j4 k y0 y1 y2 y3 y4 y5 y6 y7) (spec_SparseOf.j4 (k + 1) y0 y1 y2 y3 y4 y5 y6 y7)) ∧ (∀ y0 y1 y2 y3 y4 y5 y6, LeO (spec_SparseOf.l2 k y0 y1 y2 y3 y4 y5 y6) (spec_SparseOf.l2 (k + 1) y0 y1 y2 y3 y4 y5 y6))
 | 0 => ⟨fun _ _ _ r h => by simp [spec_SparseOf.j0] at h, fun _ _ _ r h => by simp [spec_SparseOf.l0] at h, fun _ _ _ _ r h => by simp [spec_SparseOf.j2] at h, fun _ _ _ _ _ _ _ r h => by simp [spec_SparseOf.l1] at h, fun _ _ _ _ _ _ _ _ r h => by simp [spec_SparseOf.j4] at h, fun _ _ _ _ _ _ _ r h => by simp [spec_SparseOf.l2] at h⟩
 | k + 1 => by
  obtain ⟨ih0, ih1, ih2, ih3, ih4, ih5⟩ := spec_SparseOf.mono_l k
  refine ⟨?_, ?_, ?_, ?_, ?_, ?_⟩
  ·intro y0 y1 y2
   unfold spec_SparseOf.j0
   repeat' first|(with_reducible first|exact ih0 _ _ _|exact ih1 _ _ _|exact ih2 _ _ _ _|exact ih3 _ _ _ _ _ _ _|exact ih4 _ _ _ _ _ _ _ _|exact ih5 _ _ _ _ _ _ _|exact spec_BitsOf.mono _ _|exact spec_PackOf.mono _ _ _|exact spec_l02Pow.mono _ _|exact spec_l03Width.mono _ _ _|exact LeO.refl _|exact LeO.none _|refine LeO.ite ?_ ?_|refine LeO.bind ?_ (fun _ => ?_))|exact LeO.none _|refine LeO.ite ?_ ?_|refine LeO.bind ?_ (fun _ => ?_)
  ·intro y0 y1 y2
   unfold spec_SparseOf.l0
   repeat' first|(with_reducible first|exact ih0 _ _ _|exact ih1 _ _ _|exact ih2 _ _ _ _|exact ih3 _ _ _ _ _ _ _|exact ih4 _ _ _ _ _ _ _ _|exact ih5 _ _ _ _ _ _ _|exact spec_BitsOf.mono _ _|exact spec_PackOf.mono _ _ _|exact spec_l02Pow.mono _ _|exact spec_l03Width.mono _ _ _|exact LeO.refl _|exact LeO.none _|refine LeO.ite ?_ ?_|refine LeO.bind ?_ (fun _ => ?_))|exact LeO.none _|refine LeO.ite ?_ ?_|refine LeO.bind ?_ (fun _ => ?_)
  ·intro y0 y1 y2 y3
   unfold spec_SparseOf.j2
   repeat' first|(with_reducible first|exact ih0 _ _ _|exact ih1 _ _ _|exact ih2 _ _ _ _|exact ih3 _ _ _ _ _ _ _|exact ih4 _ _ _ _ _ _ _ _|exact ih5 _ _ _ _ _ _ _|exact spec_BitsOf.mono _ _|exact spec_PackOf.mono _ _ _|exact spec_l02Pow.mono _ _|exact spec_l03Width.mono _ _ _|exact LeO.refl _|exact LeO.none _|refine LeO.ite ?_ ?_|refine LeO.bind ?_ (fun _ => ?_))|exact LeO.none _|refine LeO.ite ?_ ?_|refine LeO.bind ?_ (fun _ => ?_)
  ·intro y0 y1 y2 y3 y4 y5 y6
   unfold spec_SparseOf.l1
   repeat' first|(with_reducible first|exact ih0 _ _ _|exact ih1 _ _ _|exact ih2 _ _ _ _|exact ih3 _ _ _ _ _ _ _|exact ih4 _ _ _ _ _ _ _ _|exact ih5 _ _ _ _ _ _ _|exact spec_BitsOf.mono _ _|exact spec_PackOf.mono _ _ _|exact spec_l02Pow.mono _ _|exact spec_l03Width.mono _ _ _|exact LeO.refl _|exact LeO.none _|refine LeO.ite ?_ ?_|refine LeO.bind ?_ (fun _ => ?_))|exact LeO.none _|refine LeO.ite ?_ ?_|refine LeO.bind ?_ (fun _ => ?_)
  ·intro y0 y1 y2 y3 y4 y5 y6 y7
   unfold spec_SparseOf.j4
   repeat' first|(with_reducible first|exact ih0 _ _ _|exact ih1 _ _ _|exact ih2 _ _ _ _|exact ih3 _ _ _ _ _ _ _|exact ih4 _ _ _ _ _ _ _ _|exact ih5 _ _ _ _ _ _ _|exact spec_BitsOf.mono _ _|exact spec_PackOf.mono _ _ _|exact spec_l02Pow.mono _ _|exact spec_l03Width.mono _ _ _|exact LeO.refl _|exact LeO.none _|refine LeO.ite ?_ ?_|refine LeO.bind ?_ (fun _ => ?_))|exact LeO.none _|refine LeO.ite ?_ ?_|refine LeO.bind ?_ (fun _ => ?_)
  ·intro y0 y1 y2 y3 y4 y5 y6
   unfold spec_SparseOf.l2
   repeat' first|(with_reducible first|exact ih0 _ _ _|exact ih1 _ _ _|exact ih2 _ _ _ _|exact ih3 _ _ _ _ _ _ _|exact ih4 _ _ _ _ _ _ _ _|exact ih5 _ _ _ _ _ _ _|exact spec_BitsOf.mono _ _|exact spec_PackOf.mono _ _ _|exact spec_l02Pow.mono _ _|exact spec_l03Width.mono _ _ _|exact LeO.refl _|exact LeO.none _|refine LeO.ite ?_ ?_|refine LeO.bind ?_ (fun _ => ?_))|exact LeO.none _|refine LeO.ite ?_ ?_|refine LeO.bind ?_ (fun _ => ?_)
theorem spec_SparseOf.mono : ∀ a0 a1 k, LeO (spec_SparseOf.f k a0 a1) (spec_SparseOf.f (k + 1) a0 a1) := by
 intro a0 a1 k
 obtain ⟨ih0, ih1, ih2, ih3, ih4, ih5⟩ := spec_SparseOf.mono_l k
 unfold spec_SparseOf.f
 repeat' first|(with_reducible first|exact ih0 _ _ _|exact ih1 _ _ _|exact ih2 _ _ _ _|exact ih3 _ _ _ _ _ _ _|exact ih4 _ _ _ _ _ _ _ _|exact ih5 _ _ _ _ _ _ _|exact spec_BitsOf.mono _ _|exact spec_PackOf.mono _ _ _|exact spec_l02Pow.mono _ _|exact spec_l03Width.mono _ _ _|exact LeO.refl _|exact LeO.none _|refine LeO.ite ?_ ?_|refine LeO.bind ?_ (fun _ => ?_))|exact LeO.none _|refine LeO.ite ?_ ?_|refine LeO.bind ?_ (fun _ => ?_)
set_option maxHeartbeats 8000000 in
set_option maxRecDepth 100000 in
theorem spec_SparseOf.calls (k : Nat) (A0 : Option Addr) (c0 : Nat) (l0 : List Int) (a1 : Int) (r1 : Int) (r2 : Int) (r3 : Int) (r4 : Int) (r5 : Int) (r6 : List Int) (r7 : Int) (r8 : List Int) (r9 : Bool) (w : World) (hr0 : Kd.C (Kd.int .i64) w A0 l0.length l0) (hc0 : l0.length ≤ c0) (h : spec_SparseOf.f k l0 a1 = some (r1, r2, r3, r4, r5, r6, r7, r8, r9)) :
  Calls Try.prog 9 #[.slice A0 l0.length c0, .int .i64 a1] w fun e w' => ∃ v5_ v7_ : Value, e = .returned (.tuple #[.agg #[.int .i64 r1, .int .i64 r2, .int .i64 r3, .int .i64 r4, .int .i64 r5, v5_, .int .i64 r7, v7_], .bool r9]) ∧ Kd.R (Kd.int .u64) 78 w' w.heap.size (fun k_ => some k_ ≠ (v7_ : Value).ownBlock) v5_ r6 ∧ Kd.R (Kd.int .u64) 78 w' w.heap.size (fun k_ => some k_ ≠ (v5_ : Value).ownBlock) v7_ r8 ∧ Below w.heap.size w w' := by
 have hu33:=Try.underlying33
 have hu31:=Try.underlying31
 have hu29:=Try.underlying29
 have HR0:=mk0 hr0
 have HC0:=mk0 hc0
 clear hr0 hc0
 have HB:=mk0 (Below.refl w.heap.size w)
 have H:(if a1 < 0 then (spec_SparseOf.j0 k l0 a1 true) else (if a1 > 1000000 then (spec_SparseOf.j0 k l0 a1 true) else (spec_SparseOf.j0 k l0 a1 (decide ((l0.length:Int) > 5000))))) = some (r1,r2,r3,r4,r5,r6,r7,r8,r9):=h
 clear h
 have HC3:=mk0 H
 clear H
 go_enter Try.func9,Try.ntmps9
 go_upto_region 1 with (first|((with_reducible refine gate_dst (N:=4) rfl ?_);(try (refine gate_guard (by rfl) ?_;dsimp only));refine box_event ?hg (N:=4) ?hd (cs:=#[.int .i64 0,.int .i64 0,.int .i64 0,.int .i64 0,.int .i64 0,.slice none 0 0,.int .i64 0,.slice none 0 0]) (t:=33) ?hr ?_;(case hd=>rfl);(case hg=>rfl);(case hr=>first|(go_simp;done)|(go_simp;rfl));intro gb331 hg w4 hbox hb;have BK331:=mk0 (hbox);have GW331:=mk0 ((by rw [hg];exact (kZ HB.out):w.heap.size ≤ gb331));have GE331:=mk0 ((by rw [hg];exact (kZ HB.out):w.heap.size ≤ gb331));replace HB:=mk0 (kS HB.out hb);clear hb hbox hg))
 repeat (go_quiet (first|((with_reducible refine gate_dst (N:=4) rfl ?_);(try (refine gate_guard (by rfl) ?_;dsimp only));refine box_event ?hg (N:=4) ?hd (cs:=#[.int .i64 0,.int .i64 0,.int .i64 0,.int .i64 0,.int .i64 0,.slice none 0 0,.int .i64 0,.slice none 0 0]) (t:=33) ?hr ?_;(case hd=>rfl);(case hg=>rfl);(case hr=>first|(go_simp;done)|(go_simp;rfl));intro gb331 hg w4 hbox hb;have BK331:=mk0 (hbox);have GW331:=mk0 ((by rw [hg];exact (kZ HB.out):w.heap.size ≤ gb331));have GE331:=mk0 ((by rw [hg];exact (kZ HB.out):w.heap.size ≤ gb331));replace HB:=mk0 (kS HB.out hb);clear hb hbox hg));go_upto_region 1 with (first|((with_reducible refine gate_dst (N:=4) rfl ?_);(try (refine gate_guard (by rfl) ?_;dsimp only));refine box_event ?hg (N:=4) ?hd (cs:=#[.int .i64 0,.int .i64 0,.int .i64 0,.int .i64 0,.int .i64 0,.slice none 0 0,.int .i64 0,.slice none 0 0]) (t:=33) ?hr ?_;(case hd=>rfl);(case hg=>rfl);(case hr=>first|(go_simp;done)|(go_simp;rfl));intro gb331 hg w4 hbox hb;have BK331:=mk0 (hbox);have GW331:=mk0 ((by rw [hg];exact (kZ HB.out):w.heap.size ≤ gb331));have GE331:=mk0 ((by rw [hg];exact (kZ HB.out):w.heap.size ≤ gb331));replace HB:=mk0 (kS HB.out hb);clear hb hbox hg)))
 (try simp only [Act.put,sA,sO,sS])
 go_cut [26] (fun v26 wc=>∃ (kq:Nat) (x26_2:Bool),v26 = .bool x26_2 ∧ Aside0 (spec_SparseOf.j0 kq l0 a1 x26_2 = some (r1,r2,r3,r4,r5,r6,r7,r8,r9)) ∧ Aside0 (kq ≤ k) ∧ Aside0 (wc.heap[gb331]? = some (.cells #[.int .i64 0,.int .i64 0,.int .i64 0,.int .i64 0,.int .i64 0,(.slice none 0 0),.int .i64 0,(.slice none 0 0)] 33 (0,0))) ∧ Aside0 (Below w.heap.size w wc))
 case first =>
  have H:=HC3.out
  clear HC3
  by_cases c5:a1 < 0
  ·rw [if_pos c5] at H
   have c5b0:decide (a1 < 0) = true:=decide_eq_true c5
   clear c5
   (first|rw [c5b0]|(simp only [i64_w,i32_w];rw [c5b0])|skip)
   have H':=mk0 H
   clear H
   go_wp2
   repeat (go_quiet (fail);try go_wp2)
   go_meet
   case rel=>exact⟨_,(true),(by first|rfl|(simp;done)|(simp [*];done)),H',⟨by first|omega|exact Nat.le_refl _⟩,⟨kN BK331.out⟩,⟨kB HB.out⟩⟩
  rw [if_neg c5] at H
  have c5b0:decide (a1 < 0) = false:=decide_eq_false c5
  clear c5
  (first|rw [c5b0]|(simp only [i64_w,i32_w];rw [c5b0])|skip)
  by_cases c6:a1 > 1000000
  ·rw [if_pos c6] at H
   have c6b0:decide (1000000 < a1) = true:=decide_eq_true c6
   clear c6
   have H':=mk0 H
   clear H
   go_wp2
   repeat (go_quiet (fail);try go_wp2)
   go_meet
   case rel=>exact⟨_,(true),(by first|rfl|(simp;done)|(simp [*];done)),H',⟨by first|omega|exact Nat.le_refl _⟩,⟨kN BK331.out⟩,⟨kB HB.out⟩⟩
  rw [if_neg c6] at H
  have c6b0:decide (1000000 < a1) = false:=decide_eq_false c6
  clear c6
  have H':=mk0 H
  clear H
  go_wp2
  repeat (go_quiet (fail);try go_wp2)
  go_meet
  case rel=>exact⟨_,(decide ((l0.length:Int) > 5000)),(by first|rfl|(simp;done)|(simp [*];done)),H',⟨by first|omega|exact Nat.le_refl _⟩,⟨kN BK331.out⟩,⟨kB HB.out⟩⟩
 case rest =>
  clear HC3
  try clear p2
  try clear c5
  try clear c5b0
  try clear c6
  try clear c6b0
  obtain⟨kq,x26_2,rfl,HA,HJ2,BK331,HB⟩:=hcut
  cases kq with
  | zero=>exact absurd HA.out (by simp [spec_SparseOf.j0])
  | succ kj2 =>
   have H:=HA.out
   clear HA
   simp only [spec_SparseOf.j0] at H
   by_cases c7:x26_2 = true
   ·subst c7
    have H1:(some (0,0,0,0,0,([]:List Int),0,([]:List Int),false)) = some (r1,r2,r3,r4,r5,r6,r7,r8,r9):=by rw [if_pos rfl] at H;exact H
    clear H
    have H:=H1
    clear H1
    simp only [Option.some.injEq,Prod.mk.injEq] at H
    obtain⟨rfl,rfl,rfl,rfl,rfl,rfl,rfl,rfl,rfl⟩:=H
    obtain⟨hcz8_0,hcz8_1,hcz8_2,hcz8_3,hcz8_4,hcz8_5,hcz8_6,hcz8_7,hfz8_0,hfz8_1,hfz8_2,hfz8_3,hfz8_4,hfz8_5,hfz8_6,hfz8_7⟩:=cz8 BK331.out
    go_wp2
    repeat (go_quiet (fail);try go_wp2)
    refine bodyPost_ret (results_ct rfl _ _ gb331 33 #[.int .i64 0,.int .i64 0,.int .i64 0,.int .i64 0,.int .i64 0,.slice none 0 0,.int .i64 0,.slice none 0 0] (0,0) _ rfl (by (with_reducible repeat (first|apply nB|apply dB|apply aB));refine blk_put (cs:=#[.int .i64 0,.int .i64 0,.int .i64 0,.int .i64 0,.int .i64 0,.slice none 0 0,.int .i64 0,.slice none 0 0]) ?_ 7 _ rfl;(with_reducible repeat (first|apply nB|apply dB|apply aB));refine blk_put (cs:=#[.int .i64 0,.int .i64 0,.int .i64 0,.int .i64 0,.int .i64 0,.slice none 0 0,.int .i64 0,.slice none 0 0]) ?_ 6 _ rfl;(with_reducible repeat (first|apply nB|apply dB|apply aB));refine blk_put (cs:=#[.int .i64 0,.int .i64 0,.int .i64 0,.int .i64 0,.int .i64 0,.slice none 0 0,.int .i64 0,.slice none 0 0]) ?_ 5 _ rfl;(with_reducible repeat (first|apply nB|apply dB|apply aB));refine blk_put (cs:=#[.int .i64 0,.int .i64 0,.int .i64 0,.int .i64 0,.int .i64 0,.slice none 0 0,.int .i64 0,.slice none 0 0]) ?_ 4 _ rfl;(with_reducible repeat (first|apply nB|apply dB|apply aB));refine blk_put (cs:=#[.int .i64 0,.int .i64 0,.int .i64 0,.int .i64 0,.int .i64 0,.slice none 0 0,.int .i64 0,.slice none 0 0]) ?_ 3 _ rfl;(with_reducible repeat (first|apply nB|apply dB|apply aB));refine blk_put (cs:=#[.int .i64 0,.int .i64 0,.int .i64 0,.int .i64 0,.int .i64 0,.slice none 0 0,.int .i64 0,.slice none 0 0]) ?_ 2 _ rfl;(with_reducible repeat (first|apply nB|apply dB|apply aB));refine blk_put (cs:=#[.int .i64 0,.int .i64 0,.int .i64 0,.int .i64 0,.int .i64 0,.slice none 0 0,.int .i64 0,.slice none 0 0]) ?_ 1 _ rfl;(with_reducible repeat (first|apply nB|apply dB|apply aB));refine blk_put (cs:=#[.int .i64 0,.int .i64 0,.int .i64 0,.int .i64 0,.int .i64 0,.slice none 0 0,.int .i64 0,.slice none 0 0]) ?_ 0 _ rfl;(with_reducible repeat (first|apply nB|apply dB|apply aB));exact BK331.out) Try.underlying33 rfl (by kernel_rfl)) rfl ?_
    exact⟨_,_,by first|rfl|(simp [errW_none,errW_some] <;> rfl)|(simp [*,errW_none,errW_some] <;> rfl),by first|exact Kd.R_nil _ _ _ _ _|exact Kd.N_nil _ _ _ _ _|exact Kd.V_nil _ _ _ _ _|exact Kd.Q_nil _ _ _ _ _|exact Kd.S_nil _ _ _ _ _,by first|exact Kd.R_nil _ _ _ _ _|exact Kd.N_nil _ _ _ _ _|exact Kd.V_nil _ _ _ _ _|exact Kd.Q_nil _ _ _ _ _|exact Kd.S_nil _ _ _ _ _,kB HB.out⟩
   replace c7:=Bool.eq_false_iff.mpr c7
   subst c7
   have H1:(spec_SparseOf.l0 kj2 l0 a1 0) = some (r1,r2,r3,r4,r5,r6,r7,r8,r9):=by rw [if_neg (show ¬ (false = true) by decide)] at H;exact H
   clear H
   have H:=H1
   clear H1
   have H':=mk0 H
   clear H
   go_wp2
   repeat (go_quiet (fail);try go_wp2)
   go_loopg [6] kj2 (fun kq v6 w'=>∃ (x6_2:Int) (x332000_2:Int) (x332001_2:Int) (x332002_2:Int) (x332003_2:Int) (x332004_2:Int) (x332006_2:Int),v6 = .int .i64 x6_2 ∧ Aside0 (spec_SparseOf.l0 kq l0 a1 x6_2 = some (r1,r2,r3,r4,r5,r6,r7,r8,r9)) ∧ Aside0 (kq ≤ kj2) ∧ Aside0 (w'.heap[gb331]? = some (.cells #[.int .i64 x332000_2,.int .i64 x332001_2,.int .i64 x332002_2,.int .i64 x332003_2,.int .i64 x332004_2,(.slice none 0 0),.int .i64 x332006_2,(.slice none 0 0)] 33 (0,0))) ∧ Aside0 (Below w.heap.size w w'))
   case atStart=>exact⟨(0),(0),(0),(0),(0),(0),(0),(by first|rfl|(simp;done)|(simp [*];done)),H',⟨Nat.le_refl _⟩,⟨kN BK331.out⟩,⟨kB HB.out⟩⟩
   case round =>
    clear H'
    try clear p2
    try clear c5
    try clear c5b0
    try clear c6
    try clear c6b0
    try clear c7
    try clear hcz8_0
    try clear hcz8_1
    try clear hcz8_2
    try clear hcz8_3
    try clear hcz8_4
    try clear hcz8_5
    try clear hcz8_6
    try clear hcz8_7
    try clear hfz8_0
    try clear hfz8_1
    try clear hfz8_2
    try clear hfz8_3
    try clear hfz8_4
    try clear hfz8_5
    try clear hfz8_6
    try clear hfz8_7
    try clear p2
    obtain⟨x6_2,x332000_2,x332001_2,x332002_2,x332003_2,x332004_2,x332006_2,rfl,HA,HK2,BK331,HB⟩:=hrel
    cases gk with
    | zero=>exact absurd HA.out (by simp [spec_SparseOf.l0])
    | succ k2 =>
     have H:=HA.out
     clear HA
     simp only [spec_SparseOf.l0] at H
     by_cases c9:x6_2 < (l0.length:Int)
     ·rw [if_pos c9] at H
      have c9b0:decide (x6_2 < (l0.length:Int)) = true:=decide_eq_true c9
      clear c9
      have HC10:=mk0 H
      clear H
      go_upto_region 6 with (fail)
      repeat (go_quiet (fail);go_upto_region 6 with (fail))
      go_cut [62] (fun v62 wc=>∃ (kq:Nat) (x62_9:Bool),v62 = .bool x62_9 ∧ Aside0 (spec_SparseOf.j2 kq l0 a1 x6_2 x62_9 = some (r1,r2,r3,r4,r5,r6,r7,r8,r9)) ∧ Aside0 (kq ≤ k2) ∧ Aside0 (wc.heap[gb331]? = some (.cells #[.int .i64 x332000_2,.int .i64 x332001_2,.int .i64 x332002_2,.int .i64 x332003_2,.int .i64 x332004_2,(.slice none 0 0),.int .i64 x332006_2,(.slice none 0 0)] 33 (0,0))) ∧ Aside0 (Below w.heap.size w wc))
      case first =>
       have H:=HC10.out
       clear HC10
       by_cases c11:0 ≤ x6_2
       rotate_left
       ·rw [if_neg c11] at H
        exact absurd H (by simp)
       rw [if_pos c11] at H
       have c11b0:decide (0 ≤ x6_2) = true:=decide_eq_true c11
       clear c11
       (first|rw [c11b0]|(simp only [i64_w,i32_w];rw [c11b0])|skip)
       by_cases c12:(rd l0 x6_2) < 0
       ·rw [if_pos c12] at H
        have c12b0:decide ((rd l0 x6_2) < 0) = true:=decide_eq_true c12
        clear c12
        have H':=mk0 H
        clear H
        have p332:0 ≤ (x6_2:Int):=of_decide_eq_true (by first|(with_reducible assumption)|assumption)
        have q332:x6_2 < (l0.length:Int):=of_decide_eq_true (by first|(with_reducible assumption)|assumption)
        obtain⟨ad332,e332,hx332_0⟩:=Kd.at_int HR0.out x6_2 p332 q332
        cases e332
        replace hx332_0:=(HB.out.cell (World.block_lt_of_cell? w _ hx332_0)).trans hx332_0
        replace p332:=eq_true p332
        replace q332:=eq_true q332
        go_wp2
        repeat (go_quiet (fail);try go_wp2)
        go_meet
        case rel=>exact⟨_,(true),(by first|rfl|(simp;done)|(simp [*];done)),H',⟨by have:=HJ2.out;have:=HK2.out;first|omega|exact Nat.le_refl _⟩,⟨kN BK331.out⟩,⟨kB HB.out⟩⟩
       rw [if_neg c12] at H
       have c12b0:decide ((rd l0 x6_2) < 0) = false:=decide_eq_false c12
       clear c12
       by_cases c13:(rd l0 x6_2) ≥ a1
       ·rw [if_pos c13] at H
        have c13b0:decide (a1 ≤ (rd l0 x6_2)) = true:=decide_eq_true c13
        clear c13
        have H':=mk0 H
        clear H
        have p332:0 ≤ (x6_2:Int):=of_decide_eq_true (by first|(with_reducible assumption)|assumption)
        have q332:x6_2 < (l0.length:Int):=of_decide_eq_true (by first|(with_reducible assumption)|assumption)
        obtain⟨ad332,e332,hx332_0⟩:=Kd.at_int HR0.out x6_2 p332 q332
        cases e332
        replace hx332_0:=(HB.out.cell (World.block_lt_of_cell? w _ hx332_0)).trans hx332_0
        replace p332:=eq_true p332
        replace q332:=eq_true q332
        have p333:0 ≤ (x6_2:Int):=of_decide_eq_true (by first|(with_reducible assumption)|assumption)
        have q333:x6_2 < (l0.length:Int):=of_decide_eq_true (by first|(with_reducible assumption)|assumption)
        obtain⟨ad333,e333,hx333_0⟩:=Kd.at_int HR0.out x6_2 p333 q333
        obtain rfl:ad332 = ad333:=(by injection e333)
        replace hx333_0:=(HB.out.cell (World.block_lt_of_cell? w _ hx333_0)).trans hx333_0
        replace p333:=eq_true p333
        replace q333:=eq_true q333
        go_wp2
        repeat (go_quiet (fail);try go_wp2)
        go_meet
        case rel=>exact⟨_,(true),(by first|rfl|(simp;done)|(simp [*];done)),H',⟨by have:=HJ2.out;have:=HK2.out;first|omega|exact Nat.le_refl _⟩,⟨kN BK331.out⟩,⟨kB HB.out⟩⟩
       rw [if_neg c13] at H
       have c13b0:decide (a1 ≤ (rd l0 x6_2)) = false:=decide_eq_false c13
       clear c13
       by_cases c14:x6_2 > 0
       rotate_left
       ·rw [if_neg c14] at H
        have c14b0:decide (0 < x6_2) = false:=decide_eq_false c14
        clear c14
        have H':=mk0 H
        clear H
        have p332:0 ≤ (x6_2:Int):=of_decide_eq_true (by first|(with_reducible assumption)|assumption)
        have q332:x6_2 < (l0.length:Int):=of_decide_eq_true (by first|(with_reducible assumption)|assumption)
        obtain⟨ad332,e332,hx332_0⟩:=Kd.at_int HR0.out x6_2 p332 q332
        cases e332
        replace hx332_0:=(HB.out.cell (World.block_lt_of_cell? w _ hx332_0)).trans hx332_0
        replace p332:=eq_true p332
        replace q332:=eq_true q332
        have p333:0 ≤ (x6_2:Int):=of_decide_eq_true (by first|(with_reducible assumption)|assumption)
        have q333:x6_2 < (l0.length:Int):=of_decide_eq_true (by first|(with_reducible assumption)|assumption)
        obtain⟨ad333,e333,hx333_0⟩:=Kd.at_int HR0.out x6_2 p333 q333
        obtain rfl:ad332 = ad333:=(by injection e333)
        replace hx333_0:=(HB.out.cell (World.block_lt_of_cell? w _ hx333_0)).trans hx333_0
        replace p333:=eq_true p333
        replace q333:=eq_true q333
        go_wp2
        repeat (go_quiet (fail);try go_wp2)
        go_meet
        case rel=>exact⟨_,(false),(by first|rfl|(simp;done)|(simp [*];done)),H',⟨by have:=HJ2.out;have:=HK2.out;first|omega|exact Nat.le_refl _⟩,⟨kN BK331.out⟩,⟨kB HB.out⟩⟩
       rw [if_pos c14] at H
       have c14b0:decide (0 < x6_2) = true:=decide_eq_true c14
       clear c14
       obtain⟨ji15,hji15⟩:∃ j_:Int,(wrap64 (x6_2 - 1)) = j_:=⟨_,rfl⟩
       replace H:(if 0 ≤ (ji15) then (if (ji15) < (l0.length:Int) then (spec_SparseOf.j2 k2 l0 a1 x6_2 (decide ((rd l0 (ji15)) > (rd l0 x6_2)))) else (none)) else (none)) = some (r1,r2,r3,r4,r5,r6,r7,r8,r9):=by first|(rw [hji15] at H;exact H)|(simp only [hji15] at H ⊢;exact H)
       have hji15w:(IntKind.i64.wrap (x6_2 - 1)) = ji15:=(i64_w _).trans hji15
       by_cases c16:0 ≤ (ji15)
       rotate_left
       ·rw [if_neg c16] at H
        exact absurd H (by simp)
       rw [if_pos c16] at H
       have c16b0:decide (0 ≤ (ji15)) = true:=decide_eq_true c16
       clear c16
       by_cases c17:(ji15) < (l0.length:Int)
       rotate_left
       ·rw [if_neg c17] at H
        exact absurd H (by simp)
       rw [if_pos c17] at H
       have c17b0:decide ((ji15) < (l0.length:Int)) = true:=decide_eq_true c17
       clear c17
       have H':=mk0 H
       clear H
       have p332:0 ≤ (x6_2:Int):=of_decide_eq_true (by first|(with_reducible assumption)|assumption)
       have q332:x6_2 < (l0.length:Int):=of_decide_eq_true (by first|(with_reducible assumption)|assumption)
       obtain⟨ad332,e332,hx332_0⟩:=Kd.at_int HR0.out x6_2 p332 q332
       cases e332
       replace hx332_0:=(HB.out.cell (World.block_lt_of_cell? w _ hx332_0)).trans hx332_0
       replace p332:=eq_true p332
       replace q332:=eq_true q332
       have p333:0 ≤ (x6_2:Int):=of_decide_eq_true (by first|(with_reducible assumption)|assumption)
       have q333:x6_2 < (l0.length:Int):=of_decide_eq_true (by first|(with_reducible assumption)|assumption)
       obtain⟨ad333,e333,hx333_0⟩:=Kd.at_int HR0.out x6_2 p333 q333
       obtain rfl:ad332 = ad333:=(by injection e333)
       replace hx333_0:=(HB.out.cell (World.block_lt_of_cell? w _ hx333_0)).trans hx333_0
       replace p333:=eq_true p333
       replace q333:=eq_true q333
       have p334:0 ≤ ((ji15):Int):=of_decide_eq_true (by first|(with_reducible assumption)|assumption)
       have q334:(ji15) < (l0.length:Int):=of_decide_eq_true (by first|(with_reducible assumption)|assumption)
       obtain⟨ad334,e334,hx334_0⟩:=Kd.at_int HR0.out (ji15) p334 q334
       obtain rfl:ad332 = ad334:=(by injection e334)
       replace hx334_0:=(HB.out.cell (World.block_lt_of_cell? w _ hx334_0)).trans hx334_0
       replace p334:=eq_true p334
       replace q334:=eq_true q334
       have p335:0 ≤ (x6_2:Int):=of_decide_eq_true (by first|(with_reducible assumption)|assumption)
       have q335:x6_2 < (l0.length:Int):=of_decide_eq_true (by first|(with_reducible assumption)|assumption)
       obtain⟨ad335,e335,hx335_0⟩:=Kd.at_int HR0.out x6_2 p335 q335
       obtain rfl:ad332 = ad335:=(by injection e335)
       replace hx335_0:=(HB.out.cell (World.block_lt_of_cell? w _ hx335_0)).trans hx335_0
       replace p335:=eq_true p335
       replace q335:=eq_true q335
       go_wp2
       repeat (go_quiet (fail);try go_wp2)
       go_meet
       case rel=>exact⟨_,(decide ((rd l0 (ji15)) > (rd l0 x6_2))),(by first|rfl|(simp;done)|(simp only [← hji15] <;> (first|rfl|simp))|(simp [*];done)),H',⟨by have:=HJ2.out;have:=HK2.out;first|omega|exact Nat.le_refl _⟩,⟨kN BK331.out⟩,⟨kB HB.out⟩⟩
      case rest =>
       clear HC10
       try clear c1
       try clear p2
       try clear p3
       try clear q3
       try clear hx3
       try clear c5
       try clear c5b0
       try clear c6
       try clear c6b0
       try clear p6
       try clear c7
       try clear c9
       try clear c9b0
       try clear c11
       try clear c11b0
       try clear c12
       try clear c12b0
       try clear c13
       try clear c13b0
       try clear c14
       try clear c14b0
       try clear c16
       try clear c16b0
       try clear c17
       try clear c17b0
       try clear hcz8_0
       try clear hcz8_1
       try clear hcz8_2
       try clear hcz8_3
       try clear hcz8_4
       try clear hcz8_5
       try clear hcz8_6
       try clear hcz8_7
       try clear hfz8_0
       try clear hfz8_1
       try clear hfz8_2
       try clear hfz8_3
       try clear hfz8_4
       try clear hfz8_5
       try clear hfz8_6
       try clear hfz8_7
       try clear hx332_0
       try clear hx333_0
       try clear hx334_0
       try clear hx335_0
       try clear p2
       try clear p332
       try clear p333
       try clear p334
       try clear p335
       try clear q332
       try clear q333
       try clear q334
       try clear q335
       obtain⟨kq,x62_9,rfl,HA,HJ9,BK331,HB⟩:=hcut
       cases kq with
       | zero=>exact absurd HA.out (by simp [spec_SparseOf.j2])
       | succ kj9 =>
        have H:=HA.out
        clear HA
        simp only [spec_SparseOf.j2] at H
        by_cases c18:x62_9 = true
        rotate_left
        ·replace c18:=Bool.eq_false_iff.mpr c18
         subst c18
         have H1:(spec_SparseOf.l0 kj9 l0 a1 (wrap64 (x6_2 + 1))) = some (r1,r2,r3,r4,r5,r6,r7,r8,r9):=by rw [if_neg (show ¬ (false = true) by decide)] at H;exact H
         clear H
         have H:=H1
         clear H1
         have H':=mk0 H
         clear H
         go_wp2
         repeat (go_quiet (fail);try go_wp2)
         go_roundg kj9
         case measure=>have:=HJ2.out;have:=HK2.out;have:=HJ9.out;omega
         case rel=>exact⟨(wrap64 (x6_2 + 1)),(x332000_2),(x332001_2),(x332002_2),(x332003_2),(x332004_2),(x332006_2),(by first|rfl|(simp;done)|(simp [*];done)),H',⟨by have:=HJ2.out;have:=HK2.out;have:=HJ9.out;omega⟩,⟨kN BK331.out⟩,⟨kB HB.out⟩⟩
        subst c18
        have H1:(some (0,0,0,0,0,([]:List Int),0,([]:List Int),false)) = some (r1,r2,r3,r4,r5,r6,r7,r8,r9):=by rw [if_pos rfl] at H;exact H
        clear H
        have H:=H1
        clear H1
        simp only [Option.some.injEq,Prod.mk.injEq] at H
        obtain⟨rfl,rfl,rfl,rfl,rfl,rfl,rfl,rfl,rfl⟩:=H
        obtain⟨hcz19_0,hcz19_1,hcz19_2,hcz19_3,hcz19_4,hcz19_5,hcz19_6,hcz19_7,hfz19_0,hfz19_1,hfz19_2,hfz19_3,hfz19_4,hfz19_5,hfz19_6,hfz19_7⟩:=cz8 BK331.out
        go_wp2
        repeat (go_quiet (fail);try go_wp2)
        refine bodyPost_ret (results_ct rfl _ _ gb331 33 #[.int .i64 0,.int .i64 0,.int .i64 0,.int .i64 0,.int .i64 0,.slice none 0 0,.int .i64 0,.slice none 0 0] (0,0) _ rfl (by (with_reducible repeat (first|apply nB|apply dB|apply aB));refine blk_put (cs:=#[.int .i64 0,.int .i64 0,.int .i64 0,.int .i64 0,.int .i64 0,.slice none 0 0,.int .i64 0,.slice none 0 0]) ?_ 7 _ rfl;(with_reducible repeat (first|apply nB|apply dB|apply aB));refine blk_put (cs:=#[.int .i64 0,.int .i64 0,.int .i64 0,.int .i64 0,.int .i64 0,.slice none 0 0,.int .i64 x332006_2,.slice none 0 0]) ?_ 6 _ rfl;(with_reducible repeat (first|apply nB|apply dB|apply aB));refine blk_put (cs:=#[.int .i64 0,.int .i64 0,.int .i64 0,.int .i64 0,.int .i64 0,.slice none 0 0,.int .i64 x332006_2,.slice none 0 0]) ?_ 5 _ rfl;(with_reducible repeat (first|apply nB|apply dB|apply aB));refine blk_put (cs:=#[.int .i64 0,.int .i64 0,.int .i64 0,.int .i64 0,.int .i64 x332004_2,.slice none 0 0,.int .i64 x332006_2,.slice none 0 0]) ?_ 4 _ rfl;(with_reducible repeat (first|apply nB|apply dB|apply aB));refine blk_put (cs:=#[.int .i64 0,.int .i64 0,.int .i64 0,.int .i64 x332003_2,.int .i64 x332004_2,.slice none 0 0,.int .i64 x332006_2,.slice none 0 0]) ?_ 3 _ rfl;(with_reducible repeat (first|apply nB|apply dB|apply aB));refine blk_put (cs:=#[.int .i64 0,.int .i64 0,.int .i64 x332002_2,.int .i64 x332003_2,.int .i64 x332004_2,.slice none 0 0,.int .i64 x332006_2,.slice none 0 0]) ?_ 2 _ rfl;(with_reducible repeat (first|apply nB|apply dB|apply aB));refine blk_put (cs:=#[.int .i64 0,.int .i64 x332001_2,.int .i64 x332002_2,.int .i64 x332003_2,.int .i64 x332004_2,.slice none 0 0,.int .i64 x332006_2,.slice none 0 0]) ?_ 1 _ rfl;(with_reducible repeat (first|apply nB|apply dB|apply aB));refine blk_put (cs:=#[.int .i64 x332000_2,.int .i64 x332001_2,.int .i64 x332002_2,.int .i64 x332003_2,.int .i64 x332004_2,.slice none 0 0,.int .i64 x332006_2,.slice none 0 0]) ?_ 0 _ rfl;(with_reducible repeat (first|apply nB|apply dB|apply aB));exact BK331.out) Try.underlying33 rfl (by kernel_rfl)) rfl ?_
        exact⟨_,_,by first|rfl|(simp [errW_none,errW_some] <;> rfl)|(simp [*,errW_none,errW_some] <;> rfl),by first|exact Kd.R_nil _ _ _ _ _|exact Kd.N_nil _ _ _ _ _|exact Kd.V_nil _ _ _ _ _|exact Kd.Q_nil _ _ _ _ _|exact Kd.S_nil _ _ _ _ _,by first|exact Kd.R_nil _ _ _ _ _|exact Kd.N_nil _ _ _ _ _|exact Kd.V_nil _ _ _ _ _|exact Kd.Q_nil _ _ _ _ _|exact Kd.S_nil _ _ _ _ _,kB HB.out⟩
     rw [if_neg c9] at H
     have c9b0:decide (x6_2 < (l0.length:Int)) = false:=decide_eq_false c9
     clear c9
     replace H:=Option.bind_eq_some_iff.mp H
     obtain⟨t336,A200,H⟩:=H
     replace H:((spec_l02Pow.f k2 t336).bind fun t337=>(spec_SparseOf.l1 k2 l0 a1 t337 (([]:List Int)) (([]:List Int)) 0 0)) = some (r1,r2,r3,r4,r5,r6,r7,r8,r9):=H
     have A20:=mk0 A200
     clear A200
     replace H:=Option.bind_eq_some_iff.mp H
     obtain⟨t337,A210,H⟩:=H
     replace H:(spec_SparseOf.l1 k2 l0 a1 t337 (([]:List Int)) (([]:List Int)) 0 0) = some (r1,r2,r3,r4,r5,r6,r7,r8,r9):=H
     have A21:=mk0 A210
     clear A210
     obtain⟨y338,hy338⟩:∃ y_:List Int,y_ = (([]:List Int)):=⟨_,rfl⟩
     replace H:(spec_SparseOf.l1 k2 l0 a1 t337 y338 (([]:List Int)) 0 0) = some (r1,r2,r3,r4,r5,r6,r7,r8,r9):=by first|(rw [hy338];with_reducible exact H)|(have H2_:=(Option.bind_some _ _).symm.trans H;rw [hy338];with_reducible exact H2_)|(have H2_:=(Option.bind_some _ _).symm.trans H;with_reducible exact H2_)|with_reducible exact H|(rw [hy338];exact H)|exact H
     have Ny338:=mk0 hy338
     clear hy338
     obtain⟨y341,hy341⟩:∃ y_:List Int,y_ = (([]:List Int)):=⟨_,rfl⟩
     replace H:(spec_SparseOf.l1 k2 l0 a1 t337 y338 y341 0 0) = some (r1,r2,r3,r4,r5,r6,r7,r8,r9):=by first|(rw [hy341];with_reducible exact H)|(have H2_:=(Option.bind_some _ _).symm.trans H;rw [hy341];with_reducible exact H2_)|(have H2_:=(Option.bind_some _ _).symm.trans H;with_reducible exact H2_)|with_reducible exact H|(rw [hy341];exact H)|exact H
     have Ny341:=mk0 hy341
     clear hy341
     have H':=mk0 H
     clear H
     go_wp2_with (first|(go_at_call 28;(with_reducible refine (spec_l03Width.calls k2 (l0.length:Int) a1 t336 _ A20.out).mono ?_);rintro e w22 ⟨rfl,hb⟩;replace BK331:=mk0 (kK BK331.out hb);replace HB:=mk0 (kS HB.out hb);(try clear hb))|(go_at_call 27;(with_reducible refine (spec_l02Pow.calls k2 t336 t337 _ A21.out).mono ?_);rintro e w' ⟨rfl,⟨nd,rfl⟩⟩;(try first|exact⟨rfl,_,World.drewN_drewN _ _ _⟩|exact⟨rfl,_,Eq.trans (World.drewN_drewN _ _ _) (congrArg (World.drewN _) (Nat.add_assoc _ _ _))⟩))|((with_reducible refine gate_dst (N:=69) rfl ?_);(try (refine gate_guard (by rfl) ?_;dsimp only));refine Kd.R_lit (Kd.int .i64) _ 3 ?hg (N:=69) ?hd (xs:=([]:List Int)) (inner:=[]) (ok:=fun _=>True) (okp:=fun _=>True) ?hr ?hp (fun _ hk=>hk) trivial (Below.refl _ _) (Nat.le_refl _) (by simp) ?_;(case hd=>rfl);(case hg=>rfl);(case hr=>first|(go_simp;done)|(go_simp;rfl));(case hp=>exact (Reps.none _ _));intro v339 w23 ho24 hb hg_ hnew_;clear hg_ hnew_;(first|rw [← Ny338.out] at ho24|(simp only [Int.reduceToNat] at ho24;rw [← Ny338.out] at ho24));have HO340:=mk0 (Kd.R_lower ho24 (kZ HB.out));replace BK331:=mk0 (kK BK331.out hb);replace HB:=mk0 (kS HB.out hb);clear hb ho24)|((with_reducible refine gate_dst (N:=70) rfl ?_);(try (refine gate_guard (by rfl) ?_;dsimp only));refine Kd.R_lit (Kd.int .i64) _ 3 ?hg (N:=70) ?hd (xs:=([]:List Int)) (inner:=[]) (ok:=fun _=>True) (okp:=fun _=>True) ?hr ?hp (fun _ hk=>hk) trivial (Below.refl _ _) (Nat.le_refl _) (by simp) ?_;(case hd=>rfl);(case hg=>rfl);(case hr=>first|(go_simp;done)|(go_simp;rfl));(case hp=>exact (Reps.none _ _));intro v342 w25 ho26 hb hg_ hnew_;clear hg_ hnew_;(first|rw [← Ny341.out] at ho26|(simp only [Int.reduceToNat] at ho26;rw [← Ny341.out] at ho26));have HO343:=mk0 (Kd.R_lower (Kd.R_new' ho26 (Kd.R_lt (rR HO340.out))) (kZ HB.out));replace HO340:=mk0 (Kd.R_elder' (rR HO340.out) (Kd.R_base ho26) hb);replace BK331:=mk0 (kK BK331.out hb);replace HB:=mk0 (kS HB.out hb);clear hb ho26))
     repeat (go_quiet (first|(go_at_call 28;(with_reducible refine (spec_l03Width.calls k2 (l0.length:Int) a1 t336 _ A20.out).mono ?_);rintro e w22 ⟨rfl,hb⟩;replace BK331:=mk0 (kK BK331.out hb);replace HB:=mk0 (kS HB.out hb);(try clear hb))|(go_at_call 27;(with_reducible refine (spec_l02Pow.calls k2 t336 t337 _ A21.out).mono ?_);rintro e w' ⟨rfl,⟨nd,rfl⟩⟩;(try first|exact⟨rfl,_,World.drewN_drewN _ _ _⟩|exact⟨rfl,_,Eq.trans (World.drewN_drewN _ _ _) (congrArg (World.drewN _) (Nat.add_assoc _ _ _))⟩))|((with_reducible refine gate_dst (N:=69) rfl ?_);(try (refine gate_guard (by rfl) ?_;dsimp only));refine Kd.R_lit (Kd.int .i64) _ 3 ?hg (N:=69) ?hd (xs:=([]:List Int)) (inner:=[]) (ok:=fun _=>True) (okp:=fun _=>True) ?hr ?hp (fun _ hk=>hk) trivial (Below.refl _ _) (Nat.le_refl _) (by simp) ?_;(case hd=>rfl);(case hg=>rfl);(case hr=>first|(go_simp;done)|(go_simp;rfl));(case hp=>exact (Reps.none _ _));intro v339 w23 ho24 hb hg_ hnew_;clear hg_ hnew_;(first|rw [← Ny338.out] at ho24|(simp only [Int.reduceToNat] at ho24;rw [← Ny338.out] at ho24));have HO340:=mk0 (Kd.R_lower ho24 (kZ HB.out));replace BK331:=mk0 (kK BK331.out hb);replace HB:=mk0 (kS HB.out hb);clear hb ho24)|((with_reducible refine gate_dst (N:=70) rfl ?_);(try (refine gate_guard (by rfl) ?_;dsimp only));refine Kd.R_lit (Kd.int .i64) _ 3 ?hg (N:=70) ?hd (xs:=([]:List Int)) (inner:=[]) (ok:=fun _=>True) (okp:=fun _=>True) ?hr ?hp (fun _ hk=>hk) trivial (Below.refl _ _) (Nat.le_refl _) (by simp) ?_;(case hd=>rfl);(case hg=>rfl);(case hr=>first|(go_simp;done)|(go_simp;rfl));(case hp=>exact (Reps.none _ _));intro v342 w25 ho26 hb hg_ hnew_;clear hg_ hnew_;(first|rw [← Ny341.out] at ho26|(simp only [Int.reduceToNat] at ho26;rw [← Ny341.out] at ho26));have HO343:=mk0 (Kd.R_lower (Kd.R_new' ho26 (Kd.R_lt (rR HO340.out))) (kZ HB.out));replace HO340:=mk0 (Kd.R_elder' (rR HO340.out) (Kd.R_base ho26) hb);replace BK331:=mk0 (kK BK331.out hb);replace HB:=mk0 (kS HB.out hb);clear hb ho26));try go_wp2_with (first|(go_at_call 28;(with_reducible refine (spec_l03Width.calls k2 (l0.length:Int) a1 t336 _ A20.out).mono ?_);rintro e w22 ⟨rfl,hb⟩;replace BK331:=mk0 (kK BK331.out hb);replace HB:=mk0 (kS HB.out hb);(try clear hb))|(go_at_call 27;(with_reducible refine (spec_l02Pow.calls k2 t336 t337 _ A21.out).mono ?_);rintro e w' ⟨rfl,⟨nd,rfl⟩⟩;(try first|exact⟨rfl,_,World.drewN_drewN _ _ _⟩|exact⟨rfl,_,Eq.trans (World.drewN_drewN _ _ _) (congrArg (World.drewN _) (Nat.add_assoc _ _ _))⟩))|((with_reducible refine gate_dst (N:=69) rfl ?_);(try (refine gate_guard (by rfl) ?_;dsimp only));refine Kd.R_lit (Kd.int .i64) _ 3 ?hg (N:=69) ?hd (xs:=([]:List Int)) (inner:=[]) (ok:=fun _=>True) (okp:=fun _=>True) ?hr ?hp (fun _ hk=>hk) trivial (Below.refl _ _) (Nat.le_refl _) (by simp) ?_;(case hd=>rfl);(case hg=>rfl);(case hr=>first|(go_simp;done)|(go_simp;rfl));(case hp=>exact (Reps.none _ _));intro v339 w23 ho24 hb hg_ hnew_;clear hg_ hnew_;(first|rw [← Ny338.out] at ho24|(simp only [Int.reduceToNat] at ho24;rw [← Ny338.out] at ho24));have HO340:=mk0 (Kd.R_lower ho24 (kZ HB.out));replace BK331:=mk0 (kK BK331.out hb);replace HB:=mk0 (kS HB.out hb);clear hb ho24)|((with_reducible refine gate_dst (N:=70) rfl ?_);(try (refine gate_guard (by rfl) ?_;dsimp only));refine Kd.R_lit (Kd.int .i64) _ 3 ?hg (N:=70) ?hd (xs:=([]:List Int)) (inner:=[]) (ok:=fun _=>True) (okp:=fun _=>True) ?hr ?hp (fun _ hk=>hk) trivial (Below.refl _ _) (Nat.le_refl _) (by simp) ?_;(case hd=>rfl);(case hg=>rfl);(case hr=>first|(go_simp;done)|(go_simp;rfl));(case hp=>exact (Reps.none _ _));intro v342 w25 ho26 hb hg_ hnew_;clear hg_ hnew_;(first|rw [← Ny341.out] at ho26|(simp only [Int.reduceToNat] at ho26;rw [← Ny341.out] at ho26));have HO343:=mk0 (Kd.R_lower (Kd.R_new' ho26 (Kd.R_lt (rR HO340.out))) (kZ HB.out));replace HO340:=mk0 (Kd.R_elder' (rR HO340.out) (Kd.R_base ho26) hb);replace BK331:=mk0 (kK BK331.out hb);replace HB:=mk0 (kS HB.out hb);clear hb ho26)))
     go_loopg [8,9,10,11] k2 (fun kq v8 v9 v10 v11 w'=>∃ (x8_3:List Int) (x9_3:List Int) (x10_3:Int) (x11_3:Int),v10 = .int .i64 x10_3 ∧ v11 = .int .i64 x11_3 ∧ Aside0 (spec_SparseOf.l1 kq l0 a1 t337 x8_3 x9_3 x10_3 x11_3 = some (r1,r2,r3,r4,r5,r6,r7,r8,r9)) ∧ Aside0 (kq ≤ k2) ∧ Aside0 (Kd.R (Kd.int .i64) 3 w' w.heap.size (fun k_=>some k_ ≠ (v9:Value).ownBlock) v8 x8_3) ∧ Aside0 (Kd.R (Kd.int .i64) 3 w' w.heap.size (fun k_=>some k_ ≠ (v8:Value).ownBlock) v9 x9_3) ∧ Aside0 (w'.heap[gb331]? = some (.cells #[.int .i64 x332000_2,.int .i64 x332001_2,.int .i64 x332002_2,.int .i64 x332003_2,.int .i64 x332004_2,(.slice none 0 0),.int .i64 x332006_2,(.slice none 0 0)] 33 (0,0))) ∧ Aside0 (Below w.heap.size w w'))
     case atStart=>exact⟨(y338),(y341),(0),(0),(by first|rfl|(simp;done)|(simp [*];done)),(by first|rfl|(simp;done)|(simp [*];done)),H',⟨Nat.le_refl _⟩,⟨rR (Kd.R_mono HO340.out (fun _ hk=>hk.2))⟩,⟨rR (Kd.R_mono HO343.out (fun _ hk=>hk.2))⟩,⟨kN BK331.out⟩,⟨kB HB.out⟩⟩
     case round =>
      clear H'
      try clear c1
      try clear p2
      try clear p3
      try clear q3
      try clear hx3
      try clear c5
      try clear c5b0
      try clear c6
      try clear c6b0
      try clear p6
      try clear c7
      try clear c9
      try clear c9b0
      try clear c11
      try clear c11b0
      try clear c12
      try clear c12b0
      try clear c13
      try clear c13b0
      try clear c14
      try clear c14b0
      try clear c16
      try clear c16b0
      try clear c17
      try clear c17b0
      try clear c18
      try clear hcz19_0
      try clear hcz19_1
      try clear hcz19_2
      try clear hcz19_3
      try clear hcz19_4
      try clear hcz19_5
      try clear hcz19_6
      try clear hcz19_7
      try clear hcz8_0
      try clear hcz8_1
      try clear hcz8_2
      try clear hcz8_3
      try clear hcz8_4
      try clear hcz8_5
      try clear hcz8_6
      try clear hcz8_7
      try clear hfz19_0
      try clear hfz19_1
      try clear hfz19_2
      try clear hfz19_3
      try clear hfz19_4
      try clear hfz19_5
      try clear hfz19_6
      try clear hfz19_7
      try clear hfz8_0
      try clear hfz8_1
      try clear hfz8_2
      try clear hfz8_3
      try clear hfz8_4
      try clear hfz8_5
      try clear hfz8_6
      try clear hfz8_7
      try clear hx332_0
      try clear hx333_0
      try clear hx334_0
      try clear hx335_0
      try clear p2
      try clear p3
      try clear p332
      try clear p333
      try clear p334
      try clear p335
      try clear p6
      try clear q3
      try clear q332
      try clear q333
      try clear q334
      try clear q335
      obtain⟨x8_3,x9_3,x10_3,x11_3,rfl,rfl,HA,HK3,HO_8,HO_9,BK331,HB⟩:=hrel
      cases gk with
      | zero=>exact absurd HA.out (by simp [spec_SparseOf.l1])
      | succ k3 =>
       have H:=HA.out
       clear HA
       simp only [spec_SparseOf.l1] at H
       have HC27:=mk0 H
       clear H
       go_upto_region 13 with (fail)
       repeat (go_quiet (fail);go_upto_region 13 with (fail))
       go_cut [80] (fun v80 wc=>∃ (kq:Nat) (x80_26:Bool),v80 = .bool x80_26 ∧ Aside0 (spec_SparseOf.j4 kq l0 a1 t337 x8_3 x9_3 x10_3 x11_3 x80_26 = some (r1,r2,r3,r4,r5,r6,r7,r8,r9)) ∧ Aside0 (kq ≤ k3) ∧ Aside0 (Kd.R (Kd.int .i64) 3 wc w.heap.size (fun k_=>some k_ ≠ (u9:Value).ownBlock) u8 x8_3) ∧ Aside0 (Kd.R (Kd.int .i64) 3 wc w.heap.size (fun k_=>some k_ ≠ (u8:Value).ownBlock) u9 x9_3) ∧ Aside0 (wc.heap[gb331]? = some (.cells #[.int .i64 x332000_2,.int .i64 x332001_2,.int .i64 x332002_2,.int .i64 x332003_2,.int .i64 x332004_2,(.slice none 0 0),.int .i64 x332006_2,(.slice none 0 0)] 33 (0,0))) ∧ Aside0 (Below w.heap.size w wc))
       case first =>
        have H:=HC27.out
        clear HC27
        by_cases c28:t337 = 0
        ·rw [if_pos c28] at H
         exact absurd H (by simp)
        rw [if_neg c28] at H
        have c28b0:(t337 == 0) = false:=beq_eq_false_iff_ne.mpr c28
        have c28b1:(t337 != 0) = true:=bne_iff_ne.mpr c28
        (first|rw [c28b0]|(simp only [i64_w,i32_w];rw [c28b0])|skip)
        by_cases c29:x11_3 ≤ (wrap64 (Int.tdiv a1 t337))
        rotate_left
        ·rw [if_neg c29] at H
         have c29b0:decide (x11_3 ≤ (wrap64 (Int.tdiv a1 t337))) = false:=decide_eq_false c29
         clear c29
         have H':=mk0 H
         clear H
         go_wp2
         repeat (go_quiet (fail);try go_wp2)
         go_meet
         case rel=>exact⟨_,(false),(by first|rfl|(simp;done)|(simp [*];done)),H',⟨by have:=HJ2.out;have:=HK2.out;have:=HK3.out;first|omega|exact Nat.le_refl _⟩,⟨rR HO_8.out⟩,⟨rR HO_9.out⟩,⟨kN BK331.out⟩,⟨kB HB.out⟩⟩
        rw [if_pos c29] at H
        have c29b0:decide (x11_3 ≤ (wrap64 (Int.tdiv a1 t337))) = true:=decide_eq_true c29
        clear c29
        have H':=mk0 H
        clear H
        obtain⟨Ao30,co30,eo30⟩:=Kd.R_slice HO_9.out
        subst eo30
        go_wp2
        repeat (go_quiet (fail);try go_wp2)
        go_meet
        case rel=>exact⟨_,(decide ((x9_3.length:Int) ≤ 5000)),(by first|rfl|(simp;done)|(simp [*];done)),H',⟨by have:=HJ2.out;have:=HK2.out;have:=HK3.out;first|omega|exact Nat.le_refl _⟩,⟨rR HO_8.out⟩,⟨rR HO_9.out⟩,⟨kN BK331.out⟩,⟨kB HB.out⟩⟩
       case rest =>
        clear HC27
        try clear c1
        try clear c2
        try clear p2
        try clear p3
        try clear q3
        try clear hx3
        try clear c5
        try clear c5b0
        try clear c6
        try clear c6b0
        try clear p6
        try clear c7
        try clear c9
        try clear c9b0
        try clear c11
        try clear c11b0
        try clear c12
        try clear c12b0
        try clear c13
        try clear c13b0
        try clear c14
        try clear c14b0
        try clear c16
        try clear c16b0
        try clear c17
        try clear c17b0
        try clear c18
        try clear c28
        try clear c28b0
        try clear c28b1
        try clear c29
        try clear c29b0
        try clear hcz19_0
        try clear hcz19_1
        try clear hcz19_2
        try clear hcz19_3
        try clear hcz19_4
        try clear hcz19_5
        try clear hcz19_6
        try clear hcz19_7
        try clear hcz8_0
        try clear hcz8_1
        try clear hcz8_2
        try clear hcz8_3
        try clear hcz8_4
        try clear hcz8_5
        try clear hcz8_6
        try clear hcz8_7
        try clear hfz19_0
        try clear hfz19_1
        try clear hfz19_2
        try clear hfz19_3
        try clear hfz19_4
        try clear hfz19_5
        try clear hfz19_6
        try clear hfz19_7
        try clear hfz8_0
        try clear hfz8_1
        try clear hfz8_2
        try clear hfz8_3
        try clear hfz8_4
        try clear hfz8_5
        try clear hfz8_6
        try clear hfz8_7
        try clear hx332_0
        try clear hx333_0
        try clear hx334_0
        try clear hx335_0
        try clear p2
        try clear p3
        try clear p332
        try clear p333
        try clear p334
        try clear p335
        try clear p6
        try clear q3
        try clear q332
        try clear q333
        try clear q334
        try clear q335
        obtain⟨kq,x80_26,rfl,HA,HJ26,HO_8,HO_9,BK331,HB⟩:=hcut
        cases kq with
        | zero=>exact absurd HA.out (by simp [spec_SparseOf.j4])
        | succ kj26 =>
         have H:=HA.out
         clear HA
         simp only [spec_SparseOf.j4] at H
         by_cases c31:x80_26 = true
         ·subst c31
          have H1:(spec_SparseOf.l2 kj26 l0 a1 t337 x8_3 x9_3 x10_3 x11_3) = some (r1,r2,r3,r4,r5,r6,r7,r8,r9):=by rw [if_pos rfl] at H;exact H
          clear H
          have H:=H1
          clear H1
          have H':=mk0 H
          clear H
          go_wp2
          repeat (go_quiet (fail);try go_wp2)
          go_loopg [8,9,10] kj26 (fun kq v8 v9 v10 w'=>∃ (x8_5:List Int) (x9_5:List Int) (x10_5:Int),v10 = .int .i64 x10_5 ∧ Aside0 (spec_SparseOf.l2 kq l0 a1 t337 x8_5 x9_5 x10_5 x11_3 = some (r1,r2,r3,r4,r5,r6,r7,r8,r9)) ∧ Aside0 (kq ≤ kj26) ∧ Aside0 (Kd.R (Kd.int .i64) 3 w' w.heap.size (fun k_=>some k_ ≠ (v9:Value).ownBlock) v8 x8_5) ∧ Aside0 (Kd.R (Kd.int .i64) 3 w' w.heap.size (fun k_=>some k_ ≠ (v8:Value).ownBlock) v9 x9_5) ∧ Aside0 (w'.heap[gb331]? = some (.cells #[.int .i64 x332000_2,.int .i64 x332001_2,.int .i64 x332002_2,.int .i64 x332003_2,.int .i64 x332004_2,(.slice none 0 0),.int .i64 x332006_2,(.slice none 0 0)] 33 (0,0))) ∧ Aside0 (Below w.heap.size w w'))
          case atStart=>exact⟨(x8_3),(x9_3),(x10_3),(by first|rfl|(simp;done)|(simp [*];done)),H',⟨Nat.le_refl _⟩,⟨rR HO_8.out⟩,⟨rR HO_9.out⟩,⟨kN BK331.out⟩,⟨kB HB.out⟩⟩
          case round =>
           clear H'
           try clear c1
           try clear c2
           try clear p2
           try clear c3
           try clear p3
           try clear q3
           try clear hx3
           try clear c5
           try clear c5b0
           try clear c6
           try clear c6b0
           try clear p6
           try clear c7
           try clear c9
           try clear c9b0
           try clear c11
           try clear c11b0
           try clear c12
           try clear c12b0
           try clear c13
           try clear c13b0
           try clear c14
           try clear c14b0
           try clear c16
           try clear c16b0
           try clear c17
           try clear c17b0
           try clear c18
           try clear c28
           try clear c28b0
           try clear c28b1
           try clear c29
           try clear c29b0
           try clear c31
           try clear hcz19_0
           try clear hcz19_1
           try clear hcz19_2
           try clear hcz19_3
           try clear hcz19_4
           try clear hcz19_5
           try clear hcz19_6
           try clear hcz19_7
           try clear hcz8_0
           try clear hcz8_1
           try clear hcz8_2
           try clear hcz8_3
           try clear hcz8_4
           try clear hcz8_5
           try clear hcz8_6
           try clear hcz8_7
           try clear hfz19_0
           try clear hfz19_1
           try clear hfz19_2
           try clear hfz19_3
           try clear hfz19_4
           try clear hfz19_5
           try clear hfz19_6
           try clear hfz19_7
           try clear hfz8_0
           try clear hfz8_1
           try clear hfz8_2
           try clear hfz8_3
           try clear hfz8_4
           try clear hfz8_5
           try clear hfz8_6
           try clear hfz8_7
           try clear hx332_0
           try clear hx333_0
           try clear hx334_0
           try clear hx335_0
           try clear p2
           try clear p3
           try clear p332
           try clear p333
           try clear p334
           try clear p335
           try clear p6
           try clear q3
           try clear q332
           try clear q333
           try clear q334
           try clear q335
           obtain⟨x8_5,x9_5,x10_5,rfl,HA,HK5,HO_8,HO_9,BK331,HB⟩:=hrel
           cases gk with
           | zero=>exact absurd HA.out (by simp [spec_SparseOf.l2])
           | succ k5 =>
            have H:=HA.out
            clear HA
            simp only [spec_SparseOf.l2] at H
            by_cases c32:x10_5 < (l0.length:Int)
            rotate_left
            ·rw [if_neg c32] at H
             have c32b0:decide (x10_5 < (l0.length:Int)) = false:=decide_eq_false c32
             clear c32
             by_cases c42:x9_5.length < 17592186044416
             rotate_left
             ·rw [if_neg c42] at H
              exact absurd H (by simp)
             rw [if_pos c42] at H
             have LMc42:=mk0 c42
             clear c42
             obtain⟨y355,hy355⟩:∃ y_:List Int,y_ = (x9_5 ++ [0]):=⟨_,rfl⟩
             replace H:(spec_SparseOf.l1 k5 l0 a1 t337 x8_5 y355 x10_5 (wrap64 (x11_3 + 1))) = some (r1,r2,r3,r4,r5,r6,r7,r8,r9):=by first|(rw [hy355];with_reducible exact H)|(have H2_:=(Option.bind_some _ _).symm.trans H;rw [hy355];with_reducible exact H2_)|(have H2_:=(Option.bind_some _ _).symm.trans H;with_reducible exact H2_)|with_reducible exact H|(rw [hy355];exact H)|exact H
             have Ny355:=mk0 hy355
             clear hy355
             have H':=mk0 H
             clear H
             go_wp2_with (first|((with_reducible refine gate_builtin (b:=.append) (xs:=#[.tmp 111,.tmp 112]) rfl ?_);(try (refine gate_guard (by rfl) ?_;dsimp only));at_builtin;refine Kd.R_append (Kd.int .i64) (w0:=w) w.heap.size rfl (.tmp 111) (.tmp 112) 24 3 (.int .i64 0) 8 rfl Try.underlying24 info3 rfl (by decide) (by omega) u9 x9_5 0 [.int .i64 0] (fun k_=>some k_ ≠ (u8:Value).ownBlock) (fun _=>False) rfl rfl ?aP (fun _ hk=>hk.elim) ?aF ?aO ?aB ?aS ?aL ?_;(case aP=>exact rfl);(case aB=>exact (kB HB.out));(case aF=>exact (fun k_ hk=>Kd.fresh' (Kd.R_lt (rR HO_8.out)) k_ hk));(case aO=>exact (rR HO_9.out));(case aS=>exact (kZ HB.out));(case aL=>have:=LMc42.out;omega);intro v356 w43 ho hb hg hat;rw [← Ny355.out] at ho;replace HO_8:=mk0 (Kd.R_after (ok:=(fun _=>True)) (rR (Kd.R_mono HO_8.out (fun _ hk=>⟨trivial,hk⟩))) hg hat);replace BK331:=mk0 (blk_grown (kN BK331.out) hg (Kd.R_ne HO_9.out BK331.out (by decide)));replace HB:=mk0 (hb);have HO357:=mk0 (ho);clear HO_9 ho hb hg hat))
             repeat (go_quiet (first|((with_reducible refine gate_builtin (b:=.append) (xs:=#[.tmp 111,.tmp 112]) rfl ?_);(try (refine gate_guard (by rfl) ?_;dsimp only));at_builtin;refine Kd.R_append (Kd.int .i64) (w0:=w) w.heap.size rfl (.tmp 111) (.tmp 112) 24 3 (.int .i64 0) 8 rfl Try.underlying24 info3 rfl (by decide) (by omega) u9 x9_5 0 [.int .i64 0] (fun k_=>some k_ ≠ (u8:Value).ownBlock) (fun _=>False) rfl rfl ?aP (fun _ hk=>hk.elim) ?aF ?aO ?aB ?aS ?aL ?_;(case aP=>exact rfl);(case aB=>exact (kB HB.out));(case aF=>exact (fun k_ hk=>Kd.fresh' (Kd.R_lt (rR HO_8.out)) k_ hk));(case aO=>exact (rR HO_9.out));(case aS=>exact (kZ HB.out));(case aL=>have:=LMc42.out;omega);intro v356 w43 ho hb hg hat;rw [← Ny355.out] at ho;replace HO_8:=mk0 (Kd.R_after (ok:=(fun _=>True)) (rR (Kd.R_mono HO_8.out (fun _ hk=>⟨trivial,hk⟩))) hg hat);replace BK331:=mk0 (blk_grown (kN BK331.out) hg (Kd.R_ne HO_9.out BK331.out (by decide)));replace HB:=mk0 (hb);have HO357:=mk0 (ho);clear HO_9 ho hb hg hat));try go_wp2_with (first|((with_reducible refine gate_builtin (b:=.append) (xs:=#[.tmp 111,.tmp 112]) rfl ?_);(try (refine gate_guard (by rfl) ?_;dsimp only));at_builtin;refine Kd.R_append (Kd.int .i64) (w0:=w) w.heap.size rfl (.tmp 111) (.tmp 112) 24 3 (.int .i64 0) 8 rfl Try.underlying24 info3 rfl (by decide) (by omega) u9 x9_5 0 [.int .i64 0] (fun k_=>some k_ ≠ (u8:Value).ownBlock) (fun _=>False) rfl rfl ?aP (fun _ hk=>hk.elim) ?aF ?aO ?aB ?aS ?aL ?_;(case aP=>exact rfl);(case aB=>exact (kB HB.out));(case aF=>exact (fun k_ hk=>Kd.fresh' (Kd.R_lt (rR HO_8.out)) k_ hk));(case aO=>exact (rR HO_9.out));(case aS=>exact (kZ HB.out));(case aL=>have:=LMc42.out;omega);intro v356 w43 ho hb hg hat;rw [← Ny355.out] at ho;replace HO_8:=mk0 (Kd.R_after (ok:=(fun _=>True)) (rR (Kd.R_mono HO_8.out (fun _ hk=>⟨trivial,hk⟩))) hg hat);replace BK331:=mk0 (blk_grown (kN BK331.out) hg (Kd.R_ne HO_9.out BK331.out (by decide)));replace HB:=mk0 (hb);have HO357:=mk0 (ho);clear HO_9 ho hb hg hat)))
             go_roundg k5
             case measure=>have:=HJ2.out;have:=HK2.out;have:=HK3.out;have:=HJ26.out;have:=HK5.out;omega
             case rel=>exact⟨(x8_5),(y355),(x10_5),(wrap64 (x11_3 + 1)),(by first|rfl|(simp;done)|(simp [*];done)),(by first|rfl|(simp;done)|(simp [*];done)),H',⟨by have:=HJ2.out;have:=HK2.out;have:=HK3.out;have:=HJ26.out;have:=HK5.out;omega⟩,⟨rR (Kd.R_mono HO_8.out (fun _ hk=>hk.2))⟩,⟨rR HO357.out⟩,⟨kN BK331.out⟩,⟨kB HB.out⟩⟩
            rw [if_pos c32] at H
            have c32b0:decide (x10_5 < (l0.length:Int)) = true:=decide_eq_true c32
            clear c32
            by_cases c33:0 ≤ x10_5
            rotate_left
            ·rw [if_neg c33] at H
             exact absurd H (by simp)
            rw [if_pos c33] at H
            have c33b0:decide (0 ≤ x10_5) = true:=decide_eq_true c33
            clear c33
            by_cases c34:t337 = 0
            ·rw [if_pos c34] at H
             exact absurd H (by simp)
            rw [if_neg c34] at H
            have c34b0:(t337 == 0) = false:=beq_eq_false_iff_ne.mpr c34
            have c34b1:(t337 != 0) = true:=bne_iff_ne.mpr c34
            by_cases c35:(wrap64 (Int.tdiv (rd l0 x10_5) t337)) = x11_3
            rotate_left
            ·rw [if_neg c35] at H
             have c35b0:((wrap64 (Int.tdiv (rd l0 x10_5) t337)) == x11_3) = false:=beq_eq_false_iff_ne.mpr c35
             have c35b1:((wrap64 (Int.tdiv (rd l0 x10_5) t337)) != x11_3) = true:=bne_iff_ne.mpr c35
             by_cases c40:x9_5.length < 17592186044416
             rotate_left
             ·rw [if_neg c40] at H
              exact absurd H (by simp)
             rw [if_pos c40] at H
             have LMc40:=mk0 c40
             clear c40
             obtain⟨y352,hy352⟩:∃ y_:List Int,y_ = (x9_5 ++ [0]):=⟨_,rfl⟩
             replace H:(spec_SparseOf.l1 k5 l0 a1 t337 x8_5 y352 x10_5 (wrap64 (x11_3 + 1))) = some (r1,r2,r3,r4,r5,r6,r7,r8,r9):=by first|(rw [hy352];with_reducible exact H)|(have H2_:=(Option.bind_some _ _).symm.trans H;rw [hy352];with_reducible exact H2_)|(have H2_:=(Option.bind_some _ _).symm.trans H;with_reducible exact H2_)|with_reducible exact H|(rw [hy352];exact H)|exact H
             have Ny352:=mk0 hy352
             clear hy352
             have H':=mk0 H
             clear H
             have p344:0 ≤ (x10_5:Int):=of_decide_eq_true (by first|(with_reducible assumption)|assumption)
             have q344:x10_5 < (l0.length:Int):=of_decide_eq_true (by first|(with_reducible assumption)|assumption)
             obtain⟨ad344,e344,hx344_0⟩:=Kd.at_int HR0.out x10_5 p344 q344
             cases e344
             replace hx344_0:=(HB.out.cell (World.block_lt_of_cell? w _ hx344_0)).trans hx344_0
             replace p344:=eq_true p344
             replace q344:=eq_true q344
             go_wp2_with (first|((with_reducible refine gate_builtin (b:=.append) (xs:=#[.tmp 111,.tmp 112]) rfl ?_);(try (refine gate_guard (by rfl) ?_;dsimp only));at_builtin;refine Kd.R_append (Kd.int .i64) (w0:=w) w.heap.size rfl (.tmp 111) (.tmp 112) 24 3 (.int .i64 0) 8 rfl Try.underlying24 info3 rfl (by decide) (by omega) u9 x9_5 0 [.int .i64 0] (fun k_=>some k_ ≠ (u8:Value).ownBlock) (fun _=>False) rfl rfl ?aP (fun _ hk=>hk.elim) ?aF ?aO ?aB ?aS ?aL ?_;(case aP=>exact rfl);(case aB=>exact (kB HB.out));(case aF=>exact (fun k_ hk=>Kd.fresh' (Kd.R_lt (rR HO_8.out)) k_ hk));(case aO=>exact (rR HO_9.out));(case aS=>exact (kZ HB.out));(case aL=>have:=LMc40.out;omega);intro v353 w41 ho hb hg hat;rw [← Ny352.out] at ho;replace HO_8:=mk0 (Kd.R_after (ok:=(fun _=>True)) (rR (Kd.R_mono HO_8.out (fun _ hk=>⟨trivial,hk⟩))) hg hat);replace BK331:=mk0 (blk_grown (kN BK331.out) hg (Kd.R_ne HO_9.out BK331.out (by decide)));replace HB:=mk0 (hb);have HO354:=mk0 (ho);clear HO_9 ho hb hg hat))
             repeat (go_quiet (first|((with_reducible refine gate_builtin (b:=.append) (xs:=#[.tmp 111,.tmp 112]) rfl ?_);(try (refine gate_guard (by rfl) ?_;dsimp only));at_builtin;refine Kd.R_append (Kd.int .i64) (w0:=w) w.heap.size rfl (.tmp 111) (.tmp 112) 24 3 (.int .i64 0) 8 rfl Try.underlying24 info3 rfl (by decide) (by omega) u9 x9_5 0 [.int .i64 0] (fun k_=>some k_ ≠ (u8:Value).ownBlock) (fun _=>False) rfl rfl ?aP (fun _ hk=>hk.elim) ?aF ?aO ?aB ?aS ?aL ?_;(case aP=>exact rfl);(case aB=>exact (kB HB.out));(case aF=>exact (fun k_ hk=>Kd.fresh' (Kd.R_lt (rR HO_8.out)) k_ hk));(case aO=>exact (rR HO_9.out));(case aS=>exact (kZ HB.out));(case aL=>have:=LMc40.out;omega);intro v353 w41 ho hb hg hat;rw [← Ny352.out] at ho;replace HO_8:=mk0 (Kd.R_after (ok:=(fun _=>True)) (rR (Kd.R_mono HO_8.out (fun _ hk=>⟨trivial,hk⟩))) hg hat);replace BK331:=mk0 (blk_grown (kN BK331.out) hg (Kd.R_ne HO_9.out BK331.out (by decide)));replace HB:=mk0 (hb);have HO354:=mk0 (ho);clear HO_9 ho hb hg hat));try go_wp2_with (first|((with_reducible refine gate_builtin (b:=.append) (xs:=#[.tmp 111,.tmp 112]) rfl ?_);(try (refine gate_guard (by rfl) ?_;dsimp only));at_builtin;refine Kd.R_append (Kd.int .i64) (w0:=w) w.heap.size rfl (.tmp 111) (.tmp 112) 24 3 (.int .i64 0) 8 rfl Try.underlying24 info3 rfl (by decide) (by omega) u9 x9_5 0 [.int .i64 0] (fun k_=>some k_ ≠ (u8:Value).ownBlock) (fun _=>False) rfl rfl ?aP (fun _ hk=>hk.elim) ?aF ?aO ?aB ?aS ?aL ?_;(case aP=>exact rfl);(case aB=>exact (kB HB.out));(case aF=>exact (fun k_ hk=>Kd.fresh' (Kd.R_lt (rR HO_8.out)) k_ hk));(case aO=>exact (rR HO_9.out));(case aS=>exact (kZ HB.out));(case aL=>have:=LMc40.out;omega);intro v353 w41 ho hb hg hat;rw [← Ny352.out] at ho;replace HO_8:=mk0 (Kd.R_after (ok:=(fun _=>True)) (rR (Kd.R_mono HO_8.out (fun _ hk=>⟨trivial,hk⟩))) hg hat);replace BK331:=mk0 (blk_grown (kN BK331.out) hg (Kd.R_ne HO_9.out BK331.out (by decide)));replace HB:=mk0 (hb);have HO354:=mk0 (ho);clear HO_9 ho hb hg hat)))
             go_roundg k5
             case measure=>have:=HJ2.out;have:=HK2.out;have:=HK3.out;have:=HJ26.out;have:=HK5.out;omega
             case rel=>exact⟨(x8_5),(y352),(x10_5),(wrap64 (x11_3 + 1)),(by first|rfl|(simp;done)|(simp [*];done)),(by first|rfl|(simp;done)|(simp [*];done)),H',⟨by have:=HJ2.out;have:=HK2.out;have:=HK3.out;have:=HJ26.out;have:=HK5.out;omega⟩,⟨rR (Kd.R_mono HO_8.out (fun _ hk=>hk.2))⟩,⟨rR HO354.out⟩,⟨kN BK331.out⟩,⟨kB HB.out⟩⟩
            rw [if_pos c35] at H
            have c35b0:((wrap64 (Int.tdiv (rd l0 x10_5) t337)) == x11_3) = true:=beq_iff_eq.mpr c35
            have c35b1:((wrap64 (Int.tdiv (rd l0 x10_5) t337)) != x11_3) = false:=bne_eq_false_iff_eq.mpr c35
            clear c35
            by_cases c36:x8_5.length < 17592186044416
            rotate_left
            ·rw [if_neg c36] at H
             exact absurd H (by simp)
            rw [if_pos c36] at H
            have LMc36:=mk0 c36
            clear c36
            obtain⟨y346,hy346⟩:∃ y_:List Int,y_ = (x8_5 ++ [Int.tmod (rd l0 x10_5) t337]):=⟨_,rfl⟩
            replace H:(if x9_5.length < 17592186044416 then (spec_SparseOf.l2 k5 l0 a1 t337 y346 (x9_5 ++ [1]) (wrap64 (x10_5 + 1)) x11_3) else (none)) = some (r1,r2,r3,r4,r5,r6,r7,r8,r9):=by first|(rw [hy346];with_reducible exact H)|(have H2_:=(Option.bind_some _ _).symm.trans H;rw [hy346];with_reducible exact H2_)|(have H2_:=(Option.bind_some _ _).symm.trans H;with_reducible exact H2_)|with_reducible exact H|(rw [hy346];exact H)|exact H
            have Ny346:=mk0 hy346
            clear hy346
            by_cases c37:x9_5.length < 17592186044416
            rotate_left
            ·rw [if_neg c37] at H
             exact absurd H (by simp)
            rw [if_pos c37] at H
            have LMc37:=mk0 c37
            clear c37
            obtain⟨y349,hy349⟩:∃ y_:List Int,y_ = (x9_5 ++ [1]):=⟨_,rfl⟩
            replace H:(spec_SparseOf.l2 k5 l0 a1 t337 y346 y349 (wrap64 (x10_5 + 1)) x11_3) = some (r1,r2,r3,r4,r5,r6,r7,r8,r9):=by first|(rw [hy349];with_reducible exact H)|(have H2_:=(Option.bind_some _ _).symm.trans H;rw [hy349];with_reducible exact H2_)|(have H2_:=(Option.bind_some _ _).symm.trans H;with_reducible exact H2_)|with_reducible exact H|(rw [hy349];exact H)|exact H
            have Ny349:=mk0 hy349
            clear hy349
            have H':=mk0 H
            clear H
            have p344:0 ≤ (x10_5:Int):=of_decide_eq_true (by first|(with_reducible assumption)|assumption)
            have q344:x10_5 < (l0.length:Int):=of_decide_eq_true (by first|(with_reducible assumption)|assumption)
            obtain⟨ad344,e344,hx344_0⟩:=Kd.at_int HR0.out x10_5 p344 q344
            cases e344
            replace hx344_0:=(HB.out.cell (World.block_lt_of_cell? w _ hx344_0)).trans hx344_0
            replace p344:=eq_true p344
            replace q344:=eq_true q344
            have p345:0 ≤ (x10_5:Int):=of_decide_eq_true (by first|(with_reducible assumption)|assumption)
            have q345:x10_5 < (l0.length:Int):=of_decide_eq_true (by first|(with_reducible assumption)|assumption)
            obtain⟨ad345,e345,hx345_0⟩:=Kd.at_int HR0.out x10_5 p345 q345
            obtain rfl:ad344 = ad345:=(by injection e345)
            replace hx345_0:=(HB.out.cell (World.block_lt_of_cell? w _ hx345_0)).trans hx345_0
            replace p345:=eq_true p345
            replace q345:=eq_true q345
            go_wp2_with (first|((with_reducible refine gate_builtin (b:=.append) (xs:=#[.tmp 97,.tmp 104]) rfl ?_);(try (refine gate_guard (by rfl) ?_;dsimp only));at_builtin;refine Kd.R_append (Kd.int .i64) (w0:=w) w.heap.size rfl (.tmp 97) (.tmp 104) 24 3 (.int .i64 0) 8 rfl Try.underlying24 info3 rfl (by decide) (by omega) u8 x8_5 (Int.tmod (rd l0 x10_5) t337) [.int .i64 (Int.tmod (rd l0 x10_5) t337)] (fun k_=>some k_ ≠ (u9:Value).ownBlock) (fun _=>False) rfl rfl ?aP (fun _ hk=>hk.elim) ?aF ?aO ?aB ?aS ?aL ?_;(case aP=>exact rfl);(case aB=>exact (kB HB.out));(case aF=>exact (fun k_ hk=>Kd.fresh' (Kd.R_lt (rR HO_9.out)) k_ hk));(case aO=>exact (rR HO_8.out));(case aS=>exact (kZ HB.out));(case aL=>have:=LMc36.out;omega);intro v347 w38 ho hb hg hat;rw [← Ny346.out] at ho;replace HO_9:=mk0 (Kd.R_after (ok:=(fun _=>True)) (rR (Kd.R_mono HO_9.out (fun _ hk=>⟨trivial,hk⟩))) hg hat);replace BK331:=mk0 (blk_grown (kN BK331.out) hg (Kd.R_ne HO_8.out BK331.out (by decide)));replace HB:=mk0 (hb);have HO348:=mk0 (ho);clear HO_8 ho hb hg hat)|((with_reducible refine gate_builtin (b:=.append) (xs:=#[.tmp 106,.tmp 107]) rfl ?_);(try (refine gate_guard (by rfl) ?_;dsimp only));at_builtin;refine Kd.R_append (Kd.int .i64) (w0:=w) w.heap.size rfl (.tmp 106) (.tmp 107) 24 3 (.int .i64 0) 8 rfl Try.underlying24 info3 rfl (by decide) (by omega) u9 x9_5 1 [.int .i64 1] (fun k_=>some k_ ≠ (v347:Value).ownBlock) (fun _=>False) rfl rfl ?aP (fun _ hk=>hk.elim) ?aF ?aO ?aB ?aS ?aL ?_;(case aP=>exact rfl);(case aB=>exact (kB HB.out));(case aF=>exact (fun k_ hk=>Kd.fresh' (Kd.R_lt (rR HO348.out)) k_ hk));(case aO=>exact (rR (Kd.R_mono HO_9.out (fun _ hk=>hk.2))));(case aS=>exact (kZ HB.out));(case aL=>have:=LMc37.out;omega);intro v350 w39 ho hb hg hat;rw [← Ny349.out] at ho;replace BK331:=mk0 (blk_grown (kN BK331.out) hg (Kd.R_ne HO_9.out BK331.out (by decide)));replace HO348:=mk0 (Kd.R_after (ok:=(fun _=>True)) (rR (Kd.R_mono HO348.out (fun _ hk=>⟨trivial,hk⟩))) hg hat);replace HB:=mk0 (hb);have HO351:=mk0 (ho);clear HO_9 ho hb hg hat))
            repeat (go_quiet (first|((with_reducible refine gate_builtin (b:=.append) (xs:=#[.tmp 97,.tmp 104]) rfl ?_);(try (refine gate_guard (by rfl) ?_;dsimp only));at_builtin;refine Kd.R_append (Kd.int .i64) (w0:=w) w.heap.size rfl (.tmp 97) (.tmp 104) 24 3 (.int .i64 0) 8 rfl Try.underlying24 info3 rfl (by decide) (by omega) u8 x8_5 (Int.tmod (rd l0 x10_5) t337) [.int .i64 (Int.tmod (rd l0 x10_5) t337)] (fun k_=>some k_ ≠ (u9:Value).ownBlock) (fun _=>False) rfl rfl ?aP (fun _ hk=>hk.elim) ?aF ?aO ?aB ?aS ?aL ?_;(case aP=>exact rfl);(case aB=>exact (kB HB.out));(case aF=>exact (fun k_ hk=>Kd.fresh' (Kd.R_lt (rR HO_9.out)) k_ hk));(case aO=>exact (rR HO_8.out));(case aS=>exact (kZ HB.out));(case aL=>have:=LMc36.out;omega);intro v347 w38 ho hb hg hat;rw [← Ny346.out] at ho;replace HO_9:=mk0 (Kd.R_after (ok:=(fun _=>True)) (rR (Kd.R_mono HO_9.out (fun _ hk=>⟨trivial,hk⟩))) hg hat);replace BK331:=mk0 (blk_grown (kN BK331.out) hg (Kd.R_ne HO_8.out BK331.out (by decide)));replace HB:=mk0 (hb);have HO348:=mk0 (ho);clear HO_8 ho hb hg hat)|((with_reducible refine gate_builtin (b:=.append) (xs:=#[.tmp 106,.tmp 107]) rfl ?_);(try (refine gate_guard (by rfl) ?_;dsimp only));at_builtin;refine Kd.R_append (Kd.int .i64) (w0:=w) w.heap.size rfl (.tmp 106) (.tmp 107) 24 3 (.int .i64 0) 8 rfl Try.underlying24 info3 rfl (by decide) (by omega) u9 x9_5 1 [.int .i64 1] (fun k_=>some k_ ≠ (v347:Value).ownBlock) (fun _=>False) rfl rfl ?aP (fun _ hk=>hk.elim) ?aF ?aO ?aB ?aS ?aL ?_;(case aP=>exact rfl);(case aB=>exact (kB HB.out));(case aF=>exact (fun k_ hk=>Kd.fresh' (Kd.R_lt (rR HO348.out)) k_ hk));(case aO=>exact (rR (Kd.R_mono HO_9.out (fun _ hk=>hk.2))));(case aS=>exact (kZ HB.out));(case aL=>have:=LMc37.out;omega);intro v350 w39 ho hb hg hat;rw [← Ny349.out] at ho;replace BK331:=mk0 (blk_grown (kN BK331.out) hg (Kd.R_ne HO_9.out BK331.out (by decide)));replace HO348:=mk0 (Kd.R_after (ok:=(fun _=>True)) (rR (Kd.R_mono HO348.out (fun _ hk=>⟨trivial,hk⟩))) hg hat);replace HB:=mk0 (hb);have HO351:=mk0 (ho);clear HO_9 ho hb hg hat));try go_wp2_with (first|((with_reducible refine gate_builtin (b:=.append) (xs:=#[.tmp 97,.tmp 104]) rfl ?_);(try (refine gate_guard (by rfl) ?_;dsimp only));at_builtin;refine Kd.R_append (Kd.int .i64) (w0:=w) w.heap.size rfl (.tmp 97) (.tmp 104) 24 3 (.int .i64 0) 8 rfl Try.underlying24 info3 rfl (by decide) (by omega) u8 x8_5 (Int.tmod (rd l0 x10_5) t337) [.int .i64 (Int.tmod (rd l0 x10_5) t337)] (fun k_=>some k_ ≠ (u9:Value).ownBlock) (fun _=>False) rfl rfl ?aP (fun _ hk=>hk.elim) ?aF ?aO ?aB ?aS ?aL ?_;(case aP=>exact rfl);(case aB=>exact (kB HB.out));(case aF=>exact (fun k_ hk=>Kd.fresh' (Kd.R_lt (rR HO_9.out)) k_ hk));(case aO=>exact (rR HO_8.out));(case aS=>exact (kZ HB.out));(case aL=>have:=LMc36.out;omega);intro v347 w38 ho hb hg hat;rw [← Ny346.out] at ho;replace HO_9:=mk0 (Kd.R_after (ok:=(fun _=>True)) (rR (Kd.R_mono HO_9.out (fun _ hk=>⟨trivial,hk⟩))) hg hat);replace BK331:=mk0 (blk_grown (kN BK331.out) hg (Kd.R_ne HO_8.out BK331.out (by decide)));replace HB:=mk0 (hb);have HO348:=mk0 (ho);clear HO_8 ho hb hg hat)|((with_reducible refine gate_builtin (b:=.append) (xs:=#[.tmp 106,.tmp 107]) rfl ?_);(try (refine gate_guard (by rfl) ?_;dsimp only));at_builtin;refine Kd.R_append (Kd.int .i64) (w0:=w) w.heap.size rfl (.tmp 106) (.tmp 107) 24 3 (.int .i64 0) 8 rfl Try.underlying24 info3 rfl (by decide) (by omega) u9 x9_5 1 [.int .i64 1] (fun k_=>some k_ ≠ (v347:Value).ownBlock) (fun _=>False) rfl rfl ?aP (fun _ hk=>hk.elim) ?aF ?aO ?aB ?aS ?aL ?_;(case aP=>exact rfl);(case aB=>exact (kB HB.out));(case aF=>exact (fun k_ hk=>Kd.fresh' (Kd.R_lt (rR HO348.out)) k_ hk));(case aO=>exact (rR (Kd.R_mono HO_9.out (fun _ hk=>hk.2))));(case aS=>exact (kZ HB.out));(case aL=>have:=LMc37.out;omega);intro v350 w39 ho hb hg hat;rw [← Ny349.out] at ho;replace BK331:=mk0 (blk_grown (kN BK331.out) hg (Kd.R_ne HO_9.out BK331.out (by decide)));replace HO348:=mk0 (Kd.R_after (ok:=(fun _=>True)) (rR (Kd.R_mono HO348.out (fun _ hk=>⟨trivial,hk⟩))) hg hat);replace HB:=mk0 (hb);have HO351:=mk0 (ho);clear HO_9 ho hb hg hat)))
            go_roundg k5
            case measure=>have:=HJ2.out;have:=HK2.out;have:=HK3.out;have:=HJ26.out;have:=HK5.out;omega
            case rel=>exact⟨(y346),(y349),(wrap64 (x10_5 + 1)),(by first|rfl|(simp;done)|(simp [*];done)),H',⟨by have:=HJ2.out;have:=HK2.out;have:=HK3.out;have:=HJ26.out;have:=HK5.out;omega⟩,⟨rR (Kd.R_mono HO348.out (fun _ hk=>hk.2))⟩,⟨rR HO351.out⟩,⟨kN BK331.out⟩,⟨kB HB.out⟩⟩
         replace c31:=Bool.eq_false_iff.mpr c31
         subst c31
         have H1:((spec_l03Width.f kj26 (l0.length:Int) a1).bind fun t358=>((spec_PackOf.f kj26 x8_3 t358).bind fun bt359=>((spec_BitsOf.f kj26 x9_3).bind fun bt367=>(if bt359.2.2.2.2 = true then (if bt367.2.2 = true then (some (a1,(l0.length:Int),bt359.1,bt359.2.1,bt359.2.2.1,bt359.2.2.2.1,bt367.1,bt367.2.1,true)) else (some (0,0,0,0,0,([]:List Int),0,([]:List Int),false))) else (some (0,0,0,0,0,([]:List Int),0,([]:List Int),false)))))) = some (r1,r2,r3,r4,r5,r6,r7,r8,r9):=by rw [if_neg (show ¬ (false = true) by decide)] at H;exact H
         clear H
         have H:=H1
         clear H1
         replace H:=Option.bind_eq_some_iff.mp H
         obtain⟨t358,A440,H⟩:=H
         replace H:((spec_PackOf.f kj26 x8_3 t358).bind fun bt359=>((spec_BitsOf.f kj26 x9_3).bind fun bt367=>(if bt359.2.2.2.2 = true then (if bt367.2.2 = true then (some (a1,(l0.length:Int),bt359.1,bt359.2.1,bt359.2.2.1,bt359.2.2.2.1,bt367.1,bt367.2.1,true)) else (some (0,0,0,0,0,([]:List Int),0,([]:List Int),false))) else (some (0,0,0,0,0,([]:List Int),0,([]:List Int),false))))) = some (r1,r2,r3,r4,r5,r6,r7,r8,r9):=H
         have A44:=mk0 A440
         clear A440
         replace H:=Option.bind_eq_some_iff.mp H
         obtain⟨⟨t359,t360,t361,t362,t365⟩,A450,H⟩:=H
         replace H:((spec_BitsOf.f kj26 x9_3).bind fun bt367=>(if t365 = true then (if bt367.2.2 = true then (some (a1,(l0.length:Int),t359,t360,t361,t362,bt367.1,bt367.2.1,true)) else (some (0,0,0,0,0,([]:List Int),0,([]:List Int),false))) else (some (0,0,0,0,0,([]:List Int),0,([]:List Int),false)))) = some (r1,r2,r3,r4,r5,r6,r7,r8,r9):=H
         have A45:=mk0 A450
         clear A450
         replace H:=Option.bind_eq_some_iff.mp H
         obtain⟨⟨t367,t368,t371⟩,A460,H⟩:=H
         replace H:(if t365 = true then (if t371 = true then (some (a1,(l0.length:Int),t359,t360,t361,t362,t367,t368,true)) else (some (0,0,0,0,0,([]:List Int),0,([]:List Int),false))) else (some (0,0,0,0,0,([]:List Int),0,([]:List Int),false))) = some (r1,r2,r3,r4,r5,r6,r7,r8,r9):=H
         have A46:=mk0 A460
         clear A460
         by_cases c47:t365 = true
         rotate_left
         ·replace c47:=Bool.eq_false_iff.mpr c47
          subst c47
          have H1:(some (0,0,0,0,0,([]:List Int),0,([]:List Int),false)) = some (r1,r2,r3,r4,r5,r6,r7,r8,r9):=by rw [if_neg (show ¬ (false = true) by decide)] at H;exact H
          clear H
          have H:=H1
          clear H1
          simp only [Option.some.injEq,Prod.mk.injEq] at H
          obtain⟨rfl,rfl,rfl,rfl,rfl,rfl,rfl,rfl,rfl⟩:=H
          go_wp2_with (first|(go_at_call 28;(with_reducible refine (spec_l03Width.calls kj26 (l0.length:Int) a1 t358 _ A44.out).mono ?_);rintro e w80 ⟨rfl,hb⟩;replace HO_8:=mk0 (bR HO_8.out hb);replace HO_9:=mk0 (bR HO_9.out hb);replace BK331:=mk0 (kK BK331.out hb);replace HB:=mk0 (kS HB.out hb);(try clear hb);obtain⟨Ao81,co81,eo81⟩:=Kd.R_slice HO_8.out;subst eo81)|(go_at_call 29;(with_reducible refine (spec_PackOf.calls kj26 _ _ x8_3 t358 t359 t360 t361 t362 false _ ?side1 ?side2 A45.out).mono ?_);(case side1=>exact kC (Kd.R_reads' HO_8.out).2.2);(case side2=>exact (Kd.R_reads' HO_8.out).2.1);rintro e w82 ⟨v363,rfl,ho0,hb⟩;replace HO_8:=mk0 (bR HO_8.out hb);replace HO_9:=mk0 (bR HO_9.out hb);have HO364:=mk0 (Kd.R_lower ho0 (kZ HB.out));replace BK331:=mk0 (kK BK331.out hb);replace HB:=mk0 (kS HB.out hb);(try clear hb);(try clear ho0))|((with_reducible refine gate_dst (N:=12) rfl ?_);(try (refine gate_guard (by rfl) ?_;dsimp only));refine box_event ?hg (N:=12) ?hd (cs:=#[.int .i64 0,.int .i64 0,.int .i64 0,.slice none 0 0]) (t:=31) ?hr ?_;(case hd=>rfl);(case hg=>rfl);(case hr=>first|(go_simp;done)|(go_simp;rfl));intro gb366 hg w83 hbox hb;replace HO_8:=mk0 (bR HO_8.out hb);replace HO_9:=mk0 (bR HO_9.out hb);replace HO364:=mk0 (bR HO364.out hb);have BK366:=mk0 (hbox);have GW366:=mk0 ((by rw [hg];exact (kZ HB.out):w.heap.size ≤ gb366));have GE366:=mk0 ((by rw [hg];exact (kZ HB.out):w.heap.size ≤ gb366));replace HB:=mk0 (kS HB.out hb);have NB331_366:=mk0 ((by rw [hg];exact Nat.ne_of_lt (kL BK331.out):gb331 ≠ gb366));have NB366_331:=mk0 ((by rw [hg];exact Nat.ne_of_gt (kL BK331.out):gb366 ≠ gb331));replace BK331:=mk0 (kK BK331.out hb);clear hb hbox hg;have hnb84:=NB366_331.out;have hnc84:=NB331_366.out;obtain⟨hcz85_0,hcz85_1,hcz85_2,hcz85_3,hfz85_0,hfz85_1,hfz85_2,hfz85_3⟩:=cz4 BK366.out;obtain⟨Ao86,co86,eo86⟩:=Kd.R_slice HO364.out;subst eo86;obtain⟨Ao87,co87,eo87⟩:=Kd.R_slice HO_9.out;subst eo87)|(go_at_call 30;(with_reducible refine (spec_BitsOf.calls kj26 _ _ x9_3 t367 t368 t371 _ ?side1 ?side2 A46.out).mono ?_);(case side1=>refine (Kd.R_reads' (e:=3) (base:=w.heap.size) (ok:=fun k_=>some k_ ≠ (.slice Ao81 x8_3.length co81:Value).ownBlock) (n:=x9_3.length) (c:=co87) ?_).2.2;exact (by (with_reducible repeat (first|apply aR|apply nR|apply dR));exact (Kd.R_mono (Kd.R_far (p:=⟨gb366,3,none⟩) (Kd.R_far (p:=⟨gb366,2,none⟩) (Kd.R_far (p:=⟨gb366,1,none⟩) (Kd.R_far (p:=⟨gb366,0,none⟩) (Kd.R_types HO_9.out BK366.out (by decide)) (fun _ hk=>hk.2) (.int .i64 t359)) (fun _ hk=>hk.2) (.int .i64 t360)) (fun _ hk=>hk.2) (.int .i64 t361)) (fun _ hk=>hk.2) (.slice Ao86 t362.length co86)) (fun _ h_=>h_.1))));(case side2=>exact (Kd.R_reads' HO_9.out).2.1);rintro e w88 ⟨v369,rfl,ho0,hb⟩;replace HO_8:=mk0 (Kd.R_below (by (with_reducible repeat (first|apply aR|apply nR|apply dR));exact (Kd.R_mono (Kd.R_far (p:=⟨gb366,3,none⟩) (Kd.R_far (p:=⟨gb366,2,none⟩) (Kd.R_far (p:=⟨gb366,1,none⟩) (Kd.R_far (p:=⟨gb366,0,none⟩) (Kd.R_types HO_8.out BK366.out (by decide)) (fun _ hk=>hk.2) (.int .i64 t359)) (fun _ hk=>hk.2) (.int .i64 t360)) (fun _ hk=>hk.2) (.int .i64 t361)) (fun _ hk=>hk.2) (.slice Ao86 t362.length co86)) (fun _ h_=>h_.1))) hb);replace HO_9:=mk0 (Kd.R_below (by (with_reducible repeat (first|apply aR|apply nR|apply dR));exact (Kd.R_mono (Kd.R_far (p:=⟨gb366,3,none⟩) (Kd.R_far (p:=⟨gb366,2,none⟩) (Kd.R_far (p:=⟨gb366,1,none⟩) (Kd.R_far (p:=⟨gb366,0,none⟩) (Kd.R_types HO_9.out BK366.out (by decide)) (fun _ hk=>hk.2) (.int .i64 t359)) (fun _ hk=>hk.2) (.int .i64 t360)) (fun _ hk=>hk.2) (.int .i64 t361)) (fun _ hk=>hk.2) (.slice Ao86 t362.length co86)) (fun _ h_=>h_.1))) hb);have HO370:=mk0 (Kd.R_lower (Kd.R_new' ho0 (Kd.R_lt (by (with_reducible repeat (first|apply aR|apply nR|apply dR));exact (Kd.R_mono (Kd.R_far (p:=⟨gb366,3,none⟩) (Kd.R_far (p:=⟨gb366,2,none⟩) (Kd.R_far (p:=⟨gb366,1,none⟩) (Kd.R_far (p:=⟨gb366,0,none⟩) (Kd.R_types HO364.out BK366.out (by decide)) (fun _ hk=>hk.2) (.int .i64 t359)) (fun _ hk=>hk.2) (.int .i64 t360)) (fun _ hk=>hk.2) (.int .i64 t361)) (fun _ hk=>hk.2) (.slice Ao86 t362.length co86)) (fun _ h_=>h_.1))))) (kZ HB.out));replace HO364:=mk0 (Kd.R_elder' (by (with_reducible repeat (first|apply aR|apply nR|apply dR));exact (Kd.R_mono (Kd.R_far (p:=⟨gb366,3,none⟩) (Kd.R_far (p:=⟨gb366,2,none⟩) (Kd.R_far (p:=⟨gb366,1,none⟩) (Kd.R_far (p:=⟨gb366,0,none⟩) (Kd.R_types HO364.out BK366.out (by decide)) (fun _ hk=>hk.2) (.int .i64 t359)) (fun _ hk=>hk.2) (.int .i64 t360)) (fun _ hk=>hk.2) (.int .i64 t361)) (fun _ hk=>hk.2) (.slice Ao86 t362.length co86)) (fun _ h_=>h_.1))) (Kd.R_base ho0) hb);replace BK331:=mk0 (blk_below (g:=gb331) (o:=.cells #[.int .i64 x332000_2,.int .i64 x332001_2,.int .i64 x332002_2,.int .i64 x332003_2,.int .i64 x332004_2,.slice none 0 0,.int .i64 x332006_2,.slice none 0 0] 33 (0,0)) (by (with_reducible repeat (first|apply nB|apply dB|apply aB));refine blk_far ?_ NB331_366.out _;(with_reducible repeat (first|apply nB|apply dB|apply aB));refine blk_far ?_ NB331_366.out _;(with_reducible repeat (first|apply nB|apply dB|apply aB));refine blk_far ?_ NB331_366.out _;(with_reducible repeat (first|apply nB|apply dB|apply aB));refine blk_far ?_ NB331_366.out _;(with_reducible repeat (first|apply nB|apply dB|apply aB));exact BK331.out) hb);replace BK366:=mk0 (blk_below (g:=gb366) (o:=.cells #[.int .i64 t359,.int .i64 t360,.int .i64 t361,.slice Ao86 t362.length co86] 31 (0,0)) (by (with_reducible repeat (first|apply nB|apply dB|apply aB));refine blk_put (cs:=#[.int .i64 t359,.int .i64 t360,.int .i64 t361,.slice none 0 0]) ?_ 3 _ rfl;(with_reducible repeat (first|apply nB|apply dB|apply aB));refine blk_put (cs:=#[.int .i64 t359,.int .i64 t360,.int .i64 0,.slice none 0 0]) ?_ 2 _ rfl;(with_reducible repeat (first|apply nB|apply dB|apply aB));refine blk_put (cs:=#[.int .i64 t359,.int .i64 0,.int .i64 0,.slice none 0 0]) ?_ 1 _ rfl;(with_reducible repeat (first|apply nB|apply dB|apply aB));refine blk_put (cs:=#[.int .i64 0,.int .i64 0,.int .i64 0,.slice none 0 0]) ?_ 0 _ rfl;(with_reducible repeat (first|apply nB|apply dB|apply aB));exact BK366.out) hb);replace HB:=mk0 (kS HB.out hb);(try clear hb);(try clear ho0))|((with_reducible refine gate_dst (N:=14) rfl ?_);(try (refine gate_guard (by rfl) ?_;dsimp only));refine box_event ?hg (N:=14) ?hd (cs:=#[.int .i64 0,.slice none 0 0]) (t:=29) ?hr ?_;(case hd=>rfl);(case hg=>rfl);(case hr=>first|(go_simp;done)|(go_simp;rfl));intro gb372 hg w89 hbox hb;replace HO_8:=mk0 (bR HO_8.out hb);replace HO_9:=mk0 (bR HO_9.out hb);replace HO364:=mk0 (bR HO364.out hb);replace HO370:=mk0 (bR HO370.out hb);have BK372:=mk0 (hbox);have GW372:=mk0 ((by rw [hg];exact (kZ HB.out):w.heap.size ≤ gb372));have GE372:=mk0 ((by rw [hg];exact (kZ HB.out):w.heap.size ≤ gb372));replace HB:=mk0 (kS HB.out hb);have NB331_372:=mk0 ((by rw [hg];exact Nat.ne_of_lt (kL BK331.out):gb331 ≠ gb372));have NB372_331:=mk0 ((by rw [hg];exact Nat.ne_of_gt (kL BK331.out):gb372 ≠ gb331));replace BK331:=mk0 (kK BK331.out hb);have NB366_372:=mk0 ((by rw [hg];exact Nat.ne_of_lt (kL BK366.out):gb366 ≠ gb372));have NB372_366:=mk0 ((by rw [hg];exact Nat.ne_of_gt (kL BK366.out):gb372 ≠ gb366));replace BK366:=mk0 (kK BK366.out hb);clear hb hbox hg;have hnb90:=NB372_331.out;have hnc90:=NB331_372.out;have hnb91:=NB372_366.out;have hnc91:=NB366_372.out;obtain⟨hcz92_0,hcz92_1,hfz92_0,hfz92_1⟩:=cz2 BK372.out;obtain⟨Ao93,co93,eo93⟩:=Kd.R_slice HO370.out;subst eo93;obtain⟨hcz94_0,hcz94_1,hcz94_2,hcz94_3,hcz94_4,hcz94_5,hcz94_6,hcz94_7,hfz94_0,hfz94_1,hfz94_2,hfz94_3,hfz94_4,hfz94_5,hfz94_6,hfz94_7⟩:=cz8 BK331.out))
          repeat (go_quiet (first|(go_at_call 28;(with_reducible refine (spec_l03Width.calls kj26 (l0.length:Int) a1 t358 _ A44.out).mono ?_);rintro e w80 ⟨rfl,hb⟩;replace HO_8:=mk0 (bR HO_8.out hb);replace HO_9:=mk0 (bR HO_9.out hb);replace BK331:=mk0 (kK BK331.out hb);replace HB:=mk0 (kS HB.out hb);(try clear hb);obtain⟨Ao81,co81,eo81⟩:=Kd.R_slice HO_8.out;subst eo81)|(go_at_call 29;(with_reducible refine (spec_PackOf.calls kj26 _ _ x8_3 t358 t359 t360 t361 t362 false _ ?side1 ?side2 A45.out).mono ?_);(case side1=>exact kC (Kd.R_reads' HO_8.out).2.2);(case side2=>exact (Kd.R_reads' HO_8.out).2.1);rintro e w82 ⟨v363,rfl,ho0,hb⟩;replace HO_8:=mk0 (bR HO_8.out hb);replace HO_9:=mk0 (bR HO_9.out hb);have HO364:=mk0 (Kd.R_lower ho0 (kZ HB.out));replace BK331:=mk0 (kK BK331.out hb);replace HB:=mk0 (kS HB.out hb);(try clear hb);(try clear ho0))|((with_reducible refine gate_dst (N:=12) rfl ?_);(try (refine gate_guard (by rfl) ?_;dsimp only));refine box_event ?hg (N:=12) ?hd (cs:=#[.int .i64 0,.int .i64 0,.int .i64 0,.slice none 0 0]) (t:=31) ?hr ?_;(case hd=>rfl);(case hg=>rfl);(case hr=>first|(go_simp;done)|(go_simp;rfl));intro gb366 hg w83 hbox hb;replace HO_8:=mk0 (bR HO_8.out hb);replace HO_9:=mk0 (bR HO_9.out hb);replace HO364:=mk0 (bR HO364.out hb);have BK366:=mk0 (hbox);have GW366:=mk0 ((by rw [hg];exact (kZ HB.out):w.heap.size ≤ gb366));have GE366:=mk0 ((by rw [hg];exact (kZ HB.out):w.heap.size ≤ gb366));replace HB:=mk0 (kS HB.out hb);have NB331_366:=mk0 ((by rw [hg];exact Nat.ne_of_lt (kL BK331.out):gb331 ≠ gb366));have NB366_331:=mk0 ((by rw [hg];exact Nat.ne_of_gt (kL BK331.out):gb366 ≠ gb331));replace BK331:=mk0 (kK BK331.out hb);clear hb hbox hg;have hnb84:=NB366_331.out;have hnc84:=NB331_366.out;obtain⟨hcz85_0,hcz85_1,hcz85_2,hcz85_3,hfz85_0,hfz85_1,hfz85_2,hfz85_3⟩:=cz4 BK366.out;obtain⟨Ao86,co86,eo86⟩:=Kd.R_slice HO364.out;subst eo86;obtain⟨Ao87,co87,eo87⟩:=Kd.R_slice HO_9.out;subst eo87)|(go_at_call 30;(with_reducible refine (spec_BitsOf.calls kj26 _ _ x9_3 t367 t368 t371 _ ?side1 ?side2 A46.out).mono ?_);(case side1=>refine (Kd.R_reads' (e:=3) (base:=w.heap.size) (ok:=fun k_=>some k_ ≠ (.slice Ao81 x8_3.length co81:Value).ownBlock) (n:=x9_3.length) (c:=co87) ?_).2.2;exact (by (with_reducible repeat (first|apply aR|apply nR|apply dR));exact (Kd.R_mono (Kd.R_far (p:=⟨gb366,3,none⟩) (Kd.R_far (p:=⟨gb366,2,none⟩) (Kd.R_far (p:=⟨gb366,1,none⟩) (Kd.R_far (p:=⟨gb366,0,none⟩) (Kd.R_types HO_9.out BK366.out (by decide)) (fun _ hk=>hk.2) (.int .i64 t359)) (fun _ hk=>hk.2) (.int .i64 t360)) (fun _ hk=>hk.2) (.int .i64 t361)) (fun _ hk=>hk.2) (.slice Ao86 t362.length co86)) (fun _ h_=>h_.1))));(case side2=>exact (Kd.R_reads' HO_9.out).2.1);rintro e w88 ⟨v369,rfl,ho0,hb⟩;replace HO_8:=mk0 (Kd.R_below (by (with_reducible repeat (first|apply aR|apply nR|apply dR));exact (Kd.R_mono (Kd.R_far (p:=⟨gb366,3,none⟩) (Kd.R_far (p:=⟨gb366,2,none⟩) (Kd.R_far (p:=⟨gb366,1,none⟩) (Kd.R_far (p:=⟨gb366,0,none⟩) (Kd.R_types HO_8.out BK366.out (by decide)) (fun _ hk=>hk.2) (.int .i64 t359)) (fun _ hk=>hk.2) (.int .i64 t360)) (fun _ hk=>hk.2) (.int .i64 t361)) (fun _ hk=>hk.2) (.slice Ao86 t362.length co86)) (fun _ h_=>h_.1))) hb);replace HO_9:=mk0 (Kd.R_below (by (with_reducible repeat (first|apply aR|apply nR|apply dR));exact (Kd.R_mono (Kd.R_far (p:=⟨gb366,3,none⟩) (Kd.R_far (p:=⟨gb366,2,none⟩) (Kd.R_far (p:=⟨gb366,1,none⟩) (Kd.R_far (p:=⟨gb366,0,none⟩) (Kd.R_types HO_9.out BK366.out (by decide)) (fun _ hk=>hk.2) (.int .i64 t359)) (fun _ hk=>hk.2) (.int .i64 t360)) (fun _ hk=>hk.2) (.int .i64 t361)) (fun _ hk=>hk.2) (.slice Ao86 t362.length co86)) (fun _ h_=>h_.1))) hb);have HO370:=mk0 (Kd.R_lower (Kd.R_new' ho0 (Kd.R_lt (by (with_reducible repeat (first|apply aR|apply nR|apply dR));exact (Kd.R_mono (Kd.R_far (p:=⟨gb366,3,none⟩) (Kd.R_far (p:=⟨gb366,2,none⟩) (Kd.R_far (p:=⟨gb366,1,none⟩) (Kd.R_far (p:=⟨gb366,0,none⟩) (Kd.R_types HO364.out BK366.out (by decide)) (fun _ hk=>hk.2) (.int .i64 t359)) (fun _ hk=>hk.2) (.int .i64 t360)) (fun _ hk=>hk.2) (.int .i64 t361)) (fun _ hk=>hk.2) (.slice Ao86 t362.length co86)) (fun _ h_=>h_.1))))) (kZ HB.out));replace HO364:=mk0 (Kd.R_elder' (by (with_reducible repeat (first|apply aR|apply nR|apply dR));exact (Kd.R_mono (Kd.R_far (p:=⟨gb366,3,none⟩) (Kd.R_far (p:=⟨gb366,2,none⟩) (Kd.R_far (p:=⟨gb366,1,none⟩) (Kd.R_far (p:=⟨gb366,0,none⟩) (Kd.R_types HO364.out BK366.out (by decide)) (fun _ hk=>hk.2) (.int .i64 t359)) (fun _ hk=>hk.2) (.int .i64 t360)) (fun _ hk=>hk.2) (.int .i64 t361)) (fun _ hk=>hk.2) (.slice Ao86 t362.length co86)) (fun _ h_=>h_.1))) (Kd.R_base ho0) hb);replace BK331:=mk0 (blk_below (g:=gb331) (o:=.cells #[.int .i64 x332000_2,.int .i64 x332001_2,.int .i64 x332002_2,.int .i64 x332003_2,.int .i64 x332004_2,.slice none 0 0,.int .i64 x332006_2,.slice none 0 0] 33 (0,0)) (by (with_reducible repeat (first|apply nB|apply dB|apply aB));refine blk_far ?_ NB331_366.out _;(with_reducible repeat (first|apply nB|apply dB|apply aB));refine blk_far ?_ NB331_366.out _;(with_reducible repeat (first|apply nB|apply dB|apply aB));refine blk_far ?_ NB331_366.out _;(with_reducible repeat (first|apply nB|apply dB|apply aB));refine blk_far ?_ NB331_366.out _;(with_reducible repeat (first|apply nB|apply dB|apply aB));exact BK331.out) hb);replace BK366:=mk0 (blk_below (g:=gb366) (o:=.cells #[.int .i64 t359,.int .i64 t360,.int .i64 t361,.slice Ao86 t362.length co86] 31 (0,0)) (by (with_reducible repeat (first|apply nB|apply dB|apply aB));refine blk_put (cs:=#[.int .i64 t359,.int .i64 t360,.int .i64 t361,.slice none 0 0]) ?_ 3 _ rfl;(with_reducible repeat (first|apply nB|apply dB|apply aB));refine blk_put (cs:=#[.int .i64 t359,.int .i64 t360,.int .i64 0,.slice none 0 0]) ?_ 2 _ rfl;(with_reducible repeat (first|apply nB|apply dB|apply aB));refine blk_put (cs:=#[.int .i64 t359,.int .i64 0,.int .i64 0,.slice none 0 0]) ?_ 1 _ rfl;(with_reducible repeat (first|apply nB|apply dB|apply aB));refine blk_put (cs:=#[.int .i64 0,.int .i64 0,.int .i64 0,.slice none 0 0]) ?_ 0 _ rfl;(with_reducible repeat (first|apply nB|apply dB|apply aB));exact BK366.out) hb);replace HB:=mk0 (kS HB.out hb);(try clear hb);(try clear ho0))|((with_reducible refine gate_dst (N:=14) rfl ?_);(try (refine gate_guard (by rfl) ?_;dsimp only));refine box_event ?hg (N:=14) ?hd (cs:=#[.int .i64 0,.slice none 0 0]) (t:=29) ?hr ?_;(case hd=>rfl);(case hg=>rfl);(case hr=>first|(go_simp;done)|(go_simp;rfl));intro gb372 hg w89 hbox hb;replace HO_8:=mk0 (bR HO_8.out hb);replace HO_9:=mk0 (bR HO_9.out hb);replace HO364:=mk0 (bR HO364.out hb);replace HO370:=mk0 (bR HO370.out hb);have BK372:=mk0 (hbox);have GW372:=mk0 ((by rw [hg];exact (kZ HB.out):w.heap.size ≤ gb372));have GE372:=mk0 ((by rw [hg];exact (kZ HB.out):w.heap.size ≤ gb372));replace HB:=mk0 (kS HB.out hb);have NB331_372:=mk0 ((by rw [hg];exact Nat.ne_of_lt (kL BK331.out):gb331 ≠ gb372));have NB372_331:=mk0 ((by rw [hg];exact Nat.ne_of_gt (kL BK331.out):gb372 ≠ gb331));replace BK331:=mk0 (kK BK331.out hb);have NB366_372:=mk0 ((by rw [hg];exact Nat.ne_of_lt (kL BK366.out):gb366 ≠ gb372));have NB372_366:=mk0 ((by rw [hg];exact Nat.ne_of_gt (kL BK366.out):gb372 ≠ gb366));replace BK366:=mk0 (kK BK366.out hb);clear hb hbox hg;have hnb90:=NB372_331.out;have hnc90:=NB331_372.out;have hnb91:=NB372_366.out;have hnc91:=NB366_372.out;obtain⟨hcz92_0,hcz92_1,hfz92_0,hfz92_1⟩:=cz2 BK372.out;obtain⟨Ao93,co93,eo93⟩:=Kd.R_slice HO370.out;subst eo93;obtain⟨hcz94_0,hcz94_1,hcz94_2,hcz94_3,hcz94_4,hcz94_5,hcz94_6,hcz94_7,hfz94_0,hfz94_1,hfz94_2,hfz94_3,hfz94_4,hfz94_5,hfz94_6,hfz94_7⟩:=cz8 BK331.out));try go_wp2_with (first|(go_at_call 28;(with_reducible refine (spec_l03Width.calls kj26 (l0.length:Int) a1 t358 _ A44.out).mono ?_);rintro e w80 ⟨rfl,hb⟩;replace HO_8:=mk0 (bR HO_8.out hb);replace HO_9:=mk0 (bR HO_9.out hb);replace BK331:=mk0 (kK BK331.out hb);replace HB:=mk0 (kS HB.out hb);(try clear hb);obtain⟨Ao81,co81,eo81⟩:=Kd.R_slice HO_8.out;subst eo81)|(go_at_call 29;(with_reducible refine (spec_PackOf.calls kj26 _ _ x8_3 t358 t359 t360 t361 t362 false _ ?side1 ?side2 A45.out).mono ?_);(case side1=>exact kC (Kd.R_reads' HO_8.out).2.2);(case side2=>exact (Kd.R_reads' HO_8.out).2.1);rintro e w82 ⟨v363,rfl,ho0,hb⟩;replace HO_8:=mk0 (bR HO_8.out hb);replace HO_9:=mk0 (bR HO_9.out hb);have HO364:=mk0 (Kd.R_lower ho0 (kZ HB.out));replace BK331:=mk0 (kK BK331.out hb);replace HB:=mk0 (kS HB.out hb);(try clear hb);(try clear ho0))|((with_reducible refine gate_dst (N:=12) rfl ?_);(try (refine gate_guard (by rfl) ?_;dsimp only));refine box_event ?hg (N:=12) ?hd (cs:=#[.int .i64 0,.int .i64 0,.int .i64 0,.slice none 0 0]) (t:=31) ?hr ?_;(case hd=>rfl);(case hg=>rfl);(case hr=>first|(go_simp;done)|(go_simp;rfl));intro gb366 hg w83 hbox hb;replace HO_8:=mk0 (bR HO_8.out hb);replace HO_9:=mk0 (bR HO_9.out hb);replace HO364:=mk0 (bR HO364.out hb);have BK366:=mk0 (hbox);have GW366:=mk0 ((by rw [hg];exact (kZ HB.out):w.heap.size ≤ gb366));have GE366:=mk0 ((by rw [hg];exact (kZ HB.out):w.heap.size ≤ gb366));replace HB:=mk0 (kS HB.out hb);have NB331_366:=mk0 ((by rw [hg];exact Nat.ne_of_lt (kL BK331.out):gb331 ≠ gb366));have NB366_331:=mk0 ((by rw [hg];exact Nat.ne_of_gt (kL BK331.out):gb366 ≠ gb331));replace BK331:=mk0 (kK BK331.out hb);clear hb hbox hg;have hnb84:=NB366_331.out;have hnc84:=NB331_366.out;obtain⟨hcz85_0,hcz85_1,hcz85_2,hcz85_3,hfz85_0,hfz85_1,hfz85_2,hfz85_3⟩:=cz4 BK366.out;obtain⟨Ao86,co86,eo86⟩:=Kd.R_slice HO364.out;subst eo86;obtain⟨Ao87,co87,eo87⟩:=Kd.R_slice HO_9.out;subst eo87)|(go_at_call 30;(with_reducible refine (spec_BitsOf.calls kj26 _ _ x9_3 t367 t368 t371 _ ?side1 ?side2 A46.out).mono ?_);(case side1=>refine (Kd.R_reads' (e:=3) (base:=w.heap.size) (ok:=fun k_=>some k_ ≠ (.slice Ao81 x8_3.length co81:Value).ownBlock) (n:=x9_3.length) (c:=co87) ?_).2.2;exact (by (with_reducible repeat (first|apply aR|apply nR|apply dR));exact (Kd.R_mono (Kd.R_far (p:=⟨gb366,3,none⟩) (Kd.R_far (p:=⟨gb366,2,none⟩) (Kd.R_far (p:=⟨gb366,1,none⟩) (Kd.R_far (p:=⟨gb366,0,none⟩) (Kd.R_types HO_9.out BK366.out (by decide)) (fun _ hk=>hk.2) (.int .i64 t359)) (fun _ hk=>hk.2) (.int .i64 t360)) (fun _ hk=>hk.2) (.int .i64 t361)) (fun _ hk=>hk.2) (.slice Ao86 t362.length co86)) (fun _ h_=>h_.1))));(case side2=>exact (Kd.R_reads' HO_9.out).2.1);rintro e w88 ⟨v369,rfl,ho0,hb⟩;replace HO_8:=mk0 (Kd.R_below (by (with_reducible repeat (first|apply aR|apply nR|apply dR));exact (Kd.R_mono (Kd.R_far (p:=⟨gb366,3,none⟩) (Kd.R_far (p:=⟨gb366,2,none⟩) (Kd.R_far (p:=⟨gb366,1,none⟩) (Kd.R_far (p:=⟨gb366,0,none⟩) (Kd.R_types HO_8.out BK366.out (by decide)) (fun _ hk=>hk.2) (.int .i64 t359)) (fun _ hk=>hk.2) (.int .i64 t360)) (fun _ hk=>hk.2) (.int .i64 t361)) (fun _ hk=>hk.2) (.slice Ao86 t362.length co86)) (fun _ h_=>h_.1))) hb);replace HO_9:=mk0 (Kd.R_below (by (with_reducible repeat (first|apply aR|apply nR|apply dR));exact (Kd.R_mono (Kd.R_far (p:=⟨gb366,3,none⟩) (Kd.R_far (p:=⟨gb366,2,none⟩) (Kd.R_far (p:=⟨gb366,1,none⟩) (Kd.R_far (p:=⟨gb366,0,none⟩) (Kd.R_types HO_9.out BK366.out (by decide)) (fun _ hk=>hk.2) (.int .i64 t359)) (fun _ hk=>hk.2) (.int .i64 t360)) (fun _ hk=>hk.2) (.int .i64 t361)) (fun _ hk=>hk.2) (.slice Ao86 t362.length co86)) (fun _ h_=>h_.1))) hb);have HO370:=mk0 (Kd.R_lower (Kd.R_new' ho0 (Kd.R_lt (by (with_reducible repeat (first|apply aR|apply nR|apply dR));exact (Kd.R_mono (Kd.R_far (p:=⟨gb366,3,none⟩) (Kd.R_far (p:=⟨gb366,2,none⟩) (Kd.R_far (p:=⟨gb366,1,none⟩) (Kd.R_far (p:=⟨gb366,0,none⟩) (Kd.R_types HO364.out BK366.out (by decide)) (fun _ hk=>hk.2) (.int .i64 t359)) (fun _ hk=>hk.2) (.int .i64 t360)) (fun _ hk=>hk.2) (.int .i64 t361)) (fun _ hk=>hk.2) (.slice Ao86 t362.length co86)) (fun _ h_=>h_.1))))) (kZ HB.out));replace HO364:=mk0 (Kd.R_elder' (by (with_reducible repeat (first|apply aR|apply nR|apply dR));exact (Kd.R_mono (Kd.R_far (p:=⟨gb366,3,none⟩) (Kd.R_far (p:=⟨gb366,2,none⟩) (Kd.R_far (p:=⟨gb366,1,none⟩) (Kd.R_far (p:=⟨gb366,0,none⟩) (Kd.R_types HO364.out BK366.out (by decide)) (fun _ hk=>hk.2) (.int .i64 t359)) (fun _ hk=>hk.2) (.int .i64 t360)) (fun _ hk=>hk.2) (.int .i64 t361)) (fun _ hk=>hk.2) (.slice Ao86 t362.length co86)) (fun _ h_=>h_.1))) (Kd.R_base ho0) hb);replace BK331:=mk0 (blk_below (g:=gb331) (o:=.cells #[.int .i64 x332000_2,.int .i64 x332001_2,.int .i64 x332002_2,.int .i64 x332003_2,.int .i64 x332004_2,.slice none 0 0,.int .i64 x332006_2,.slice none 0 0] 33 (0,0)) (by (with_reducible repeat (first|apply nB|apply dB|apply aB));refine blk_far ?_ NB331_366.out _;(with_reducible repeat (first|apply nB|apply dB|apply aB));refine blk_far ?_ NB331_366.out _;(with_reducible repeat (first|apply nB|apply dB|apply aB));refine blk_far ?_ NB331_366.out _;(with_reducible repeat (first|apply nB|apply dB|apply aB));refine blk_far ?_ NB331_366.out _;(with_reducible repeat (first|apply nB|apply dB|apply aB));exact BK331.out) hb);replace BK366:=mk0 (blk_below (g:=gb366) (o:=.cells #[.int .i64 t359,.int .i64 t360,.int .i64 t361,.slice Ao86 t362.length co86] 31 (0,0)) (by (with_reducible repeat (first|apply nB|apply dB|apply aB));refine blk_put (cs:=#[.int .i64 t359,.int .i64 t360,.int .i64 t361,.slice none 0 0]) ?_ 3 _ rfl;(with_reducible repeat (first|apply nB|apply dB|apply aB));refine blk_put (cs:=#[.int .i64 t359,.int .i64 t360,.int .i64 0,.slice none 0 0]) ?_ 2 _ rfl;(with_reducible repeat (first|apply nB|apply dB|apply aB));refine blk_put (cs:=#[.int .i64 t359,.int .i64 0,.int .i64 0,.slice none 0 0]) ?_ 1 _ rfl;(with_reducible repeat (first|apply nB|apply dB|apply aB));refine blk_put (cs:=#[.int .i64 0,.int .i64 0,.int .i64 0,.slice none 0 0]) ?_ 0 _ rfl;(with_reducible repeat (first|apply nB|apply dB|apply aB));exact BK366.out) hb);replace HB:=mk0 (kS HB.out hb);(try clear hb);(try clear ho0))|((with_reducible refine gate_dst (N:=14) rfl ?_);(try (refine gate_guard (by rfl) ?_;dsimp only));refine box_event ?hg (N:=14) ?hd (cs:=#[.int .i64 0,.slice none 0 0]) (t:=29) ?hr ?_;(case hd=>rfl);(case hg=>rfl);(case hr=>first|(go_simp;done)|(go_simp;rfl));intro gb372 hg w89 hbox hb;replace HO_8:=mk0 (bR HO_8.out hb);replace HO_9:=mk0 (bR HO_9.out hb);replace HO364:=mk0 (bR HO364.out hb);replace HO370:=mk0 (bR HO370.out hb);have BK372:=mk0 (hbox);have GW372:=mk0 ((by rw [hg];exact (kZ HB.out):w.heap.size ≤ gb372));have GE372:=mk0 ((by rw [hg];exact (kZ HB.out):w.heap.size ≤ gb372));replace HB:=mk0 (kS HB.out hb);have NB331_372:=mk0 ((by rw [hg];exact Nat.ne_of_lt (kL BK331.out):gb331 ≠ gb372));have NB372_331:=mk0 ((by rw [hg];exact Nat.ne_of_gt (kL BK331.out):gb372 ≠ gb331));replace BK331:=mk0 (kK BK331.out hb);have NB366_372:=mk0 ((by rw [hg];exact Nat.ne_of_lt (kL BK366.out):gb366 ≠ gb372));have NB372_366:=mk0 ((by rw [hg];exact Nat.ne_of_gt (kL BK366.out):gb372 ≠ gb366));replace BK366:=mk0 (kK BK366.out hb);clear hb hbox hg;have hnb90:=NB372_331.out;have hnc90:=NB331_372.out;have hnb91:=NB372_366.out;have hnc91:=NB366_372.out;obtain⟨hcz92_0,hcz92_1,hfz92_0,hfz92_1⟩:=cz2 BK372.out;obtain⟨Ao93,co93,eo93⟩:=Kd.R_slice HO370.out;subst eo93;obtain⟨hcz94_0,hcz94_1,hcz94_2,hcz94_3,hcz94_4,hcz94_5,hcz94_6,hcz94_7,hfz94_0,hfz94_1,hfz94_2,hfz94_3,hfz94_4,hfz94_5,hfz94_6,hfz94_7⟩:=cz8 BK331.out)))
          refine bodyPost_ret (results_ct rfl _ _ gb331 33 #[.int .i64 0,.int .i64 0,.int .i64 0,.int .i64 0,.int .i64 0,.slice none 0 0,.int .i64 0,.slice none 0 0] (0,0) _ rfl (by (with_reducible repeat (first|apply nB|apply dB|apply aB));refine blk_put (cs:=#[.int .i64 0,.int .i64 0,.int .i64 0,.int .i64 0,.int .i64 0,.slice none 0 0,.int .i64 0,.slice none 0 0]) ?_ 7 _ rfl;(with_reducible repeat (first|apply nB|apply dB|apply aB));refine blk_put (cs:=#[.int .i64 0,.int .i64 0,.int .i64 0,.int .i64 0,.int .i64 0,.slice none 0 0,.int .i64 x332006_2,.slice none 0 0]) ?_ 6 _ rfl;(with_reducible repeat (first|apply nB|apply dB|apply aB));refine blk_put (cs:=#[.int .i64 0,.int .i64 0,.int .i64 0,.int .i64 0,.int .i64 0,.slice none 0 0,.int .i64 x332006_2,.slice none 0 0]) ?_ 5 _ rfl;(with_reducible repeat (first|apply nB|apply dB|apply aB));refine blk_put (cs:=#[.int .i64 0,.int .i64 0,.int .i64 0,.int .i64 0,.int .i64 x332004_2,.slice none 0 0,.int .i64 x332006_2,.slice none 0 0]) ?_ 4 _ rfl;(with_reducible repeat (first|apply nB|apply dB|apply aB));refine blk_put (cs:=#[.int .i64 0,.int .i64 0,.int .i64 0,.int .i64 x332003_2,.int .i64 x332004_2,.slice none 0 0,.int .i64 x332006_2,.slice none 0 0]) ?_ 3 _ rfl;(with_reducible repeat (first|apply nB|apply dB|apply aB));refine blk_put (cs:=#[.int .i64 0,.int .i64 0,.int .i64 x332002_2,.int .i64 x332003_2,.int .i64 x332004_2,.slice none 0 0,.int .i64 x332006_2,.slice none 0 0]) ?_ 2 _ rfl;(with_reducible repeat (first|apply nB|apply dB|apply aB));refine blk_put (cs:=#[.int .i64 0,.int .i64 x332001_2,.int .i64 x332002_2,.int .i64 x332003_2,.int .i64 x332004_2,.slice none 0 0,.int .i64 x332006_2,.slice none 0 0]) ?_ 1 _ rfl;(with_reducible repeat (first|apply nB|apply dB|apply aB));refine blk_put (cs:=#[.int .i64 x332000_2,.int .i64 x332001_2,.int .i64 x332002_2,.int .i64 x332003_2,.int .i64 x332004_2,.slice none 0 0,.int .i64 x332006_2,.slice none 0 0]) ?_ 0 _ rfl;(with_reducible repeat (first|apply nB|apply dB|apply aB));refine blk_far ?_ NB331_372.out _;(with_reducible repeat (first|apply nB|apply dB|apply aB));refine blk_far ?_ NB331_372.out _;(with_reducible repeat (first|apply nB|apply dB|apply aB));exact BK331.out) Try.underlying33 rfl (by kernel_rfl)) rfl ?_
          exact⟨_,_,by first|rfl|(simp [errW_none,errW_some] <;> rfl)|(simp [*,errW_none,errW_some] <;> rfl),by first|exact Kd.R_nil _ _ _ _ _|exact Kd.N_nil _ _ _ _ _|exact Kd.V_nil _ _ _ _ _|exact Kd.Q_nil _ _ _ _ _|exact Kd.S_nil _ _ _ _ _,by first|exact Kd.R_nil _ _ _ _ _|exact Kd.N_nil _ _ _ _ _|exact Kd.V_nil _ _ _ _ _|exact Kd.Q_nil _ _ _ _ _|exact Kd.S_nil _ _ _ _ _,kB HB.out⟩

         subst c47
         have H1:(if t371 = true then (some (a1,(l0.length:Int),t359,t360,t361,t362,t367,t368,true)) else (some (0,0,0,0,0,([]:List Int),0,([]:List Int),false))) = some (r1,r2,r3,r4,r5,r6,r7,r8,r9):=by rw [if_pos rfl] at H;exact H
         clear H
         have H:=H1
         clear H1
         by_cases c48:t371 = true
         rotate_left
         ·replace c48:=Bool.eq_false_iff.mpr c48
          subst c48
          have H1:(some (0,0,0,0,0,([]:List Int),0,([]:List Int),false)) = some (r1,r2,r3,r4,r5,r6,r7,r8,r9):=by rw [if_neg (show ¬ (false = true) by decide)] at H;exact H
          clear H
          have H:=H1
          clear H1
          simp only [Option.some.injEq,Prod.mk.injEq] at H
          obtain⟨rfl,rfl,rfl,rfl,rfl,rfl,rfl,rfl,rfl⟩:=H
          go_wp2_with (first|(go_at_call 28;(with_reducible refine (spec_l03Width.calls kj26 (l0.length:Int) a1 t358 _ A44.out).mono ?_);rintro e w65 ⟨rfl,hb⟩;replace HO_8:=mk0 (bR HO_8.out hb);replace HO_9:=mk0 (bR HO_9.out hb);replace BK331:=mk0 (kK BK331.out hb);replace HB:=mk0 (kS HB.out hb);(try clear hb);obtain⟨Ao66,co66,eo66⟩:=Kd.R_slice HO_8.out;subst eo66)|(go_at_call 29;(with_reducible refine (spec_PackOf.calls kj26 _ _ x8_3 t358 t359 t360 t361 t362 true _ ?side1 ?side2 A45.out).mono ?_);(case side1=>exact kC (Kd.R_reads' HO_8.out).2.2);(case side2=>exact (Kd.R_reads' HO_8.out).2.1);rintro e w67 ⟨v363,rfl,ho0,hb⟩;replace HO_8:=mk0 (bR HO_8.out hb);replace HO_9:=mk0 (bR HO_9.out hb);have HO364:=mk0 (Kd.R_lower ho0 (kZ HB.out));replace BK331:=mk0 (kK BK331.out hb);replace HB:=mk0 (kS HB.out hb);(try clear hb);(try clear ho0))|((with_reducible refine gate_dst (N:=12) rfl ?_);(try (refine gate_guard (by rfl) ?_;dsimp only));refine box_event ?hg (N:=12) ?hd (cs:=#[.int .i64 0,.int .i64 0,.int .i64 0,.slice none 0 0]) (t:=31) ?hr ?_;(case hd=>rfl);(case hg=>rfl);(case hr=>first|(go_simp;done)|(go_simp;rfl));intro gb366 hg w68 hbox hb;replace HO_8:=mk0 (bR HO_8.out hb);replace HO_9:=mk0 (bR HO_9.out hb);replace HO364:=mk0 (bR HO364.out hb);have BK366:=mk0 (hbox);have GW366:=mk0 ((by rw [hg];exact (kZ HB.out):w.heap.size ≤ gb366));have GE366:=mk0 ((by rw [hg];exact (kZ HB.out):w.heap.size ≤ gb366));replace HB:=mk0 (kS HB.out hb);have NB331_366:=mk0 ((by rw [hg];exact Nat.ne_of_lt (kL BK331.out):gb331 ≠ gb366));have NB366_331:=mk0 ((by rw [hg];exact Nat.ne_of_gt (kL BK331.out):gb366 ≠ gb331));replace BK331:=mk0 (kK BK331.out hb);clear hb hbox hg;have hnb69:=NB366_331.out;have hnc69:=NB331_366.out;obtain⟨hcz70_0,hcz70_1,hcz70_2,hcz70_3,hfz70_0,hfz70_1,hfz70_2,hfz70_3⟩:=cz4 BK366.out;obtain⟨Ao71,co71,eo71⟩:=Kd.R_slice HO364.out;subst eo71;obtain⟨Ao72,co72,eo72⟩:=Kd.R_slice HO_9.out;subst eo72)|(go_at_call 30;(with_reducible refine (spec_BitsOf.calls kj26 _ _ x9_3 t367 t368 false _ ?side1 ?side2 A46.out).mono ?_);(case side1=>refine (Kd.R_reads' (e:=3) (base:=w.heap.size) (ok:=fun k_=>some k_ ≠ (.slice Ao66 x8_3.length co66:Value).ownBlock) (n:=x9_3.length) (c:=co72) ?_).2.2;exact (by (with_reducible repeat (first|apply aR|apply nR|apply dR));exact (Kd.R_mono (Kd.R_far (p:=⟨gb366,3,none⟩) (Kd.R_far (p:=⟨gb366,2,none⟩) (Kd.R_far (p:=⟨gb366,1,none⟩) (Kd.R_far (p:=⟨gb366,0,none⟩) (Kd.R_types HO_9.out BK366.out (by decide)) (fun _ hk=>hk.2) (.int .i64 t359)) (fun _ hk=>hk.2) (.int .i64 t360)) (fun _ hk=>hk.2) (.int .i64 t361)) (fun _ hk=>hk.2) (.slice Ao71 t362.length co71)) (fun _ h_=>h_.1))));(case side2=>exact (Kd.R_reads' HO_9.out).2.1);rintro e w73 ⟨v369,rfl,ho0,hb⟩;replace HO_8:=mk0 (Kd.R_below (by (with_reducible repeat (first|apply aR|apply nR|apply dR));exact (Kd.R_mono (Kd.R_far (p:=⟨gb366,3,none⟩) (Kd.R_far (p:=⟨gb366,2,none⟩) (Kd.R_far (p:=⟨gb366,1,none⟩) (Kd.R_far (p:=⟨gb366,0,none⟩) (Kd.R_types HO_8.out BK366.out (by decide)) (fun _ hk=>hk.2) (.int .i64 t359)) (fun _ hk=>hk.2) (.int .i64 t360)) (fun _ hk=>hk.2) (.int .i64 t361)) (fun _ hk=>hk.2) (.slice Ao71 t362.length co71)) (fun _ h_=>h_.1))) hb);replace HO_9:=mk0 (Kd.R_below (by (with_reducible repeat (first|apply aR|apply nR|apply dR));exact (Kd.R_mono (Kd.R_far (p:=⟨gb366,3,none⟩) (Kd.R_far (p:=⟨gb366,2,none⟩) (Kd.R_far (p:=⟨gb366,1,none⟩) (Kd.R_far (p:=⟨gb366,0,none⟩) (Kd.R_types HO_9.out BK366.out (by decide)) (fun _ hk=>hk.2) (.int .i64 t359)) (fun _ hk=>hk.2) (.int .i64 t360)) (fun _ hk=>hk.2) (.int .i64 t361)) (fun _ hk=>hk.2) (.slice Ao71 t362.length co71)) (fun _ h_=>h_.1))) hb);have HO370:=mk0 (Kd.R_lower (Kd.R_new' ho0 (Kd.R_lt (by (with_reducible repeat (first|apply aR|apply nR|apply dR));exact (Kd.R_mono (Kd.R_far (p:=⟨gb366,3,none⟩) (Kd.R_far (p:=⟨gb366,2,none⟩) (Kd.R_far (p:=⟨gb366,1,none⟩) (Kd.R_far (p:=⟨gb366,0,none⟩) (Kd.R_types HO364.out BK366.out (by decide)) (fun _ hk=>hk.2) (.int .i64 t359)) (fun _ hk=>hk.2) (.int .i64 t360)) (fun _ hk=>hk.2) (.int .i64 t361)) (fun _ hk=>hk.2) (.slice Ao71 t362.length co71)) (fun _ h_=>h_.1))))) (kZ HB.out));replace HO364:=mk0 (Kd.R_elder' (by (with_reducible repeat (first|apply aR|apply nR|apply dR));exact (Kd.R_mono (Kd.R_far (p:=⟨gb366,3,none⟩) (Kd.R_far (p:=⟨gb366,2,none⟩) (Kd.R_far (p:=⟨gb366,1,none⟩) (Kd.R_far (p:=⟨gb366,0,none⟩) (Kd.R_types HO364.out BK366.out (by decide)) (fun _ hk=>hk.2) (.int .i64 t359)) (fun _ hk=>hk.2) (.int .i64 t360)) (fun _ hk=>hk.2) (.int .i64 t361)) (fun _ hk=>hk.2) (.slice Ao71 t362.length co71)) (fun _ h_=>h_.1))) (Kd.R_base ho0) hb);replace BK331:=mk0 (blk_below (g:=gb331) (o:=.cells #[.int .i64 x332000_2,.int .i64 x332001_2,.int .i64 x332002_2,.int .i64 x332003_2,.int .i64 x332004_2,.slice none 0 0,.int .i64 x332006_2,.slice none 0 0] 33 (0,0)) (by (with_reducible repeat (first|apply nB|apply dB|apply aB));refine blk_far ?_ NB331_366.out _;(with_reducible repeat (first|apply nB|apply dB|apply aB));refine blk_far ?_ NB331_366.out _;(with_reducible repeat (first|apply nB|apply dB|apply aB));refine blk_far ?_ NB331_366.out _;(with_reducible repeat (first|apply nB|apply dB|apply aB));refine blk_far ?_ NB331_366.out _;(with_reducible repeat (first|apply nB|apply dB|apply aB));exact BK331.out) hb);replace BK366:=mk0 (blk_below (g:=gb366) (o:=.cells #[.int .i64 t359,.int .i64 t360,.int .i64 t361,.slice Ao71 t362.length co71] 31 (0,0)) (by (with_reducible repeat (first|apply nB|apply dB|apply aB));refine blk_put (cs:=#[.int .i64 t359,.int .i64 t360,.int .i64 t361,.slice none 0 0]) ?_ 3 _ rfl;(with_reducible repeat (first|apply nB|apply dB|apply aB));refine blk_put (cs:=#[.int .i64 t359,.int .i64 t360,.int .i64 0,.slice none 0 0]) ?_ 2 _ rfl;(with_reducible repeat (first|apply nB|apply dB|apply aB));refine blk_put (cs:=#[.int .i64 t359,.int .i64 0,.int .i64 0,.slice none 0 0]) ?_ 1 _ rfl;(with_reducible repeat (first|apply nB|apply dB|apply aB));refine blk_put (cs:=#[.int .i64 0,.int .i64 0,.int .i64 0,.slice none 0 0]) ?_ 0 _ rfl;(with_reducible repeat (first|apply nB|apply dB|apply aB));exact BK366.out) hb);replace HB:=mk0 (kS HB.out hb);(try clear hb);(try clear ho0))|((with_reducible refine gate_dst (N:=14) rfl ?_);(try (refine gate_guard (by rfl) ?_;dsimp only));refine box_event ?hg (N:=14) ?hd (cs:=#[.int .i64 0,.slice none 0 0]) (t:=29) ?hr ?_;(case hd=>rfl);(case hg=>rfl);(case hr=>first|(go_simp;done)|(go_simp;rfl));intro gb372 hg w74 hbox hb;replace HO_8:=mk0 (bR HO_8.out hb);replace HO_9:=mk0 (bR HO_9.out hb);replace HO364:=mk0 (bR HO364.out hb);replace HO370:=mk0 (bR HO370.out hb);have BK372:=mk0 (hbox);have GW372:=mk0 ((by rw [hg];exact (kZ HB.out):w.heap.size ≤ gb372));have GE372:=mk0 ((by rw [hg];exact (kZ HB.out):w.heap.size ≤ gb372));replace HB:=mk0 (kS HB.out hb);have NB331_372:=mk0 ((by rw [hg];exact Nat.ne_of_lt (kL BK331.out):gb331 ≠ gb372));have NB372_331:=mk0 ((by rw [hg];exact Nat.ne_of_gt (kL BK331.out):gb372 ≠ gb331));replace BK331:=mk0 (kK BK331.out hb);have NB366_372:=mk0 ((by rw [hg];exact Nat.ne_of_lt (kL BK366.out):gb366 ≠ gb372));have NB372_366:=mk0 ((by rw [hg];exact Nat.ne_of_gt (kL BK366.out):gb372 ≠ gb366));replace BK366:=mk0 (kK BK366.out hb);clear hb hbox hg;have hnb75:=NB372_331.out;have hnc75:=NB331_372.out;have hnb76:=NB372_366.out;have hnc76:=NB366_372.out;obtain⟨hcz77_0,hcz77_1,hfz77_0,hfz77_1⟩:=cz2 BK372.out;obtain⟨Ao78,co78,eo78⟩:=Kd.R_slice HO370.out;subst eo78;obtain⟨hcz79_0,hcz79_1,hcz79_2,hcz79_3,hcz79_4,hcz79_5,hcz79_6,hcz79_7,hfz79_0,hfz79_1,hfz79_2,hfz79_3,hfz79_4,hfz79_5,hfz79_6,hfz79_7⟩:=cz8 BK331.out))
          repeat (go_quiet (first|(go_at_call 28;(with_reducible refine (spec_l03Width.calls kj26 (l0.length:Int) a1 t358 _ A44.out).mono ?_);rintro e w65 ⟨rfl,hb⟩;replace HO_8:=mk0 (bR HO_8.out hb);replace HO_9:=mk0 (bR HO_9.out hb);replace BK331:=mk0 (kK BK331.out hb);replace HB:=mk0 (kS HB.out hb);(try clear hb);obtain⟨Ao66,co66,eo66⟩:=Kd.R_slice HO_8.out;subst eo66)|(go_at_call 29;(with_reducible refine (spec_PackOf.calls kj26 _ _ x8_3 t358 t359 t360 t361 t362 true _ ?side1 ?side2 A45.out).mono ?_);(case side1=>exact kC (Kd.R_reads' HO_8.out).2.2);(case side2=>exact (Kd.R_reads' HO_8.out).2.1);rintro e w67 ⟨v363,rfl,ho0,hb⟩;replace HO_8:=mk0 (bR HO_8.out hb);replace HO_9:=mk0 (bR HO_9.out hb);have HO364:=mk0 (Kd.R_lower ho0 (kZ HB.out));replace BK331:=mk0 (kK BK331.out hb);replace HB:=mk0 (kS HB.out hb);(try clear hb);(try clear ho0))|((with_reducible refine gate_dst (N:=12) rfl ?_);(try (refine gate_guard (by rfl) ?_;dsimp only));refine box_event ?hg (N:=12) ?hd (cs:=#[.int .i64 0,.int .i64 0,.int .i64 0,.slice none 0 0]) (t:=31) ?hr ?_;(case hd=>rfl);(case hg=>rfl);(case hr=>first|(go_simp;done)|(go_simp;rfl));intro gb366 hg w68 hbox hb;replace HO_8:=mk0 (bR HO_8.out hb);replace HO_9:=mk0 (bR HO_9.out hb);replace HO364:=mk0 (bR HO364.out hb);have BK366:=mk0 (hbox);have GW366:=mk0 ((by rw [hg];exact (kZ HB.out):w.heap.size ≤ gb366));have GE366:=mk0 ((by rw [hg];exact (kZ HB.out):w.heap.size ≤ gb366));replace HB:=mk0 (kS HB.out hb);have NB331_366:=mk0 ((by rw [hg];exact Nat.ne_of_lt (kL BK331.out):gb331 ≠ gb366));have NB366_331:=mk0 ((by rw [hg];exact Nat.ne_of_gt (kL BK331.out):gb366 ≠ gb331));replace BK331:=mk0 (kK BK331.out hb);clear hb hbox hg;have hnb69:=NB366_331.out;have hnc69:=NB331_366.out;obtain⟨hcz70_0,hcz70_1,hcz70_2,hcz70_3,hfz70_0,hfz70_1,hfz70_2,hfz70_3⟩:=cz4 BK366.out;obtain⟨Ao71,co71,eo71⟩:=Kd.R_slice HO364.out;subst eo71;obtain⟨Ao72,co72,eo72⟩:=Kd.R_slice HO_9.out;subst eo72)|(go_at_call 30;(with_reducible refine (spec_BitsOf.calls kj26 _ _ x9_3 t367 t368 false _ ?side1 ?side2 A46.out).mono ?_);(case side1=>refine (Kd.R_reads' (e:=3) (base:=w.heap.size) (ok:=fun k_=>some k_ ≠ (.slice Ao66 x8_3.length co66:Value).ownBlock) (n:=x9_3.length) (c:=co72) ?_).2.2;exact (by (with_reducible repeat (first|apply aR|apply nR|apply dR));exact (Kd.R_mono (Kd.R_far (p:=⟨gb366,3,none⟩) (Kd.R_far (p:=⟨gb366,2,none⟩) (Kd.R_far (p:=⟨gb366,1,none⟩) (Kd.R_far (p:=⟨gb366,0,none⟩) (Kd.R_types HO_9.out BK366.out (by decide)) (fun _ hk=>hk.2) (.int .i64 t359)) (fun _ hk=>hk.2) (.int .i64 t360)) (fun _ hk=>hk.2) (.int .i64 t361)) (fun _ hk=>hk.2) (.slice Ao71 t362.length co71)) (fun _ h_=>h_.1))));(case side2=>exact (Kd.R_reads' HO_9.out).2.1);rintro e w73 ⟨v369,rfl,ho0,hb⟩;replace HO_8:=mk0 (Kd.R_below (by (with_reducible repeat (first|apply aR|apply nR|apply dR));exact (Kd.R_mono (Kd.R_far (p:=⟨gb366,3,none⟩) (Kd.R_far (p:=⟨gb366,2,none⟩) (Kd.R_far (p:=⟨gb366,1,none⟩) (Kd.R_far (p:=⟨gb366,0,none⟩) (Kd.R_types HO_8.out BK366.out (by decide)) (fun _ hk=>hk.2) (.int .i64 t359)) (fun _ hk=>hk.2) (.int .i64 t360)) (fun _ hk=>hk.2) (.int .i64 t361)) (fun _ hk=>hk.2) (.slice Ao71 t362.length co71)) (fun _ h_=>h_.1))) hb);replace HO_9:=mk0 (Kd.R_below (by (with_reducible repeat (first|apply aR|apply nR|apply dR));exact (Kd.R_mono (Kd.R_far (p:=⟨gb366,3,none⟩) (Kd.R_far (p:=⟨gb366,2,none⟩) (Kd.R_far (p:=⟨gb366,1,none⟩) (Kd.R_far (p:=⟨gb366,0,none⟩) (Kd.R_types HO_9.out BK366.out (by decide)) (fun _ hk=>hk.2) (.int .i64 t359)) (fun _ hk=>hk.2) (.int .i64 t360)) (fun _ hk=>hk.2) (.int .i64 t361)) (fun _ hk=>hk.2) (.slice Ao71 t362.length co71)) (fun _ h_=>h_.1))) hb);have HO370:=mk0 (Kd.R_lower (Kd.R_new' ho0 (Kd.R_lt (by (with_reducible repeat (first|apply aR|apply nR|apply dR));exact (Kd.R_mono (Kd.R_far (p:=⟨gb366,3,none⟩) (Kd.R_far (p:=⟨gb366,2,none⟩) (Kd.R_far (p:=⟨gb366,1,none⟩) (Kd.R_far (p:=⟨gb366,0,none⟩) (Kd.R_types HO364.out BK366.out (by decide)) (fun _ hk=>hk.2) (.int .i64 t359)) (fun _ hk=>hk.2) (.int .i64 t360)) (fun _ hk=>hk.2) (.int .i64 t361)) (fun _ hk=>hk.2) (.slice Ao71 t362.length co71)) (fun _ h_=>h_.1))))) (kZ HB.out));replace HO364:=mk0 (Kd.R_elder' (by (with_reducible repeat (first|apply aR|apply nR|apply dR));exact (Kd.R_mono (Kd.R_far (p:=⟨gb366,3,none⟩) (Kd.R_far (p:=⟨gb366,2,none⟩) (Kd.R_far (p:=⟨gb366,1,none⟩) (Kd.R_far (p:=⟨gb366,0,none⟩) (Kd.R_types HO364.out BK366.out (by decide)) (fun _ hk=>hk.2) (.int .i64 t359)) (fun _ hk=>hk.2) (.int .i64 t360)) (fun _ hk=>hk.2) (.int .i64 t361)) (fun _ hk=>hk.2) (.slice Ao71 t362.length co71)) (fun _ h_=>h_.1))) (Kd.R_base ho0) hb);replace BK331:=mk0 (blk_below (g:=gb331) (o:=.cells #[.int .i64 x332000_2,.int .i64 x332001_2,.int .i64 x332002_2,.int .i64 x332003_2,.int .i64 x332004_2,.slice none 0 0,.int .i64 x332006_2,.slice none 0 0] 33 (0,0)) (by (with_reducible repeat (first|apply nB|apply dB|apply aB));refine blk_far ?_ NB331_366.out _;(with_reducible repeat (first|apply nB|apply dB|apply aB));refine blk_far ?_ NB331_366.out _;(with_reducible repeat (first|apply nB|apply dB|apply aB));refine blk_far ?_ NB331_366.out _;(with_reducible repeat (first|apply nB|apply dB|apply aB));refine blk_far ?_ NB331_366.out _;(with_reducible repeat (first|apply nB|apply dB|apply aB));exact BK331.out) hb);replace BK366:=mk0 (blk_below (g:=gb366) (o:=.cells #[.int .i64 t359,.int .i64 t360,.int .i64 t361,.slice Ao71 t362.length co71] 31 (0,0)) (by (with_reducible repeat (first|apply nB|apply dB|apply aB));refine blk_put (cs:=#[.int .i64 t359,.int .i64 t360,.int .i64 t361,.slice none 0 0]) ?_ 3 _ rfl;(with_reducible repeat (first|apply nB|apply dB|apply aB));refine blk_put (cs:=#[.int .i64 t359,.int .i64 t360,.int .i64 0,.slice none 0 0]) ?_ 2 _ rfl;(with_reducible repeat (first|apply nB|apply dB|apply aB));refine blk_put (cs:=#[.int .i64 t359,.int .i64 0,.int .i64 0,.slice none 0 0]) ?_ 1 _ rfl;(with_reducible repeat (first|apply nB|apply dB|apply aB));refine blk_put (cs:=#[.int .i64 0,.int .i64 0,.int .i64 0,.slice none 0 0]) ?_ 0 _ rfl;(with_reducible repeat (first|apply nB|apply dB|apply aB));exact BK366.out) hb);replace HB:=mk0 (kS HB.out hb);(try clear hb);(try clear ho0))|((with_reducible refine gate_dst (N:=14) rfl ?_);(try (refine gate_guard (by rfl) ?_;dsimp only));refine box_event ?hg (N:=14) ?hd (cs:=#[.int .i64 0,.slice none 0 0]) (t:=29) ?hr ?_;(case hd=>rfl);(case hg=>rfl);(case hr=>first|(go_simp;done)|(go_simp;rfl));intro gb372 hg w74 hbox hb;replace HO_8:=mk0 (bR HO_8.out hb);replace HO_9:=mk0 (bR HO_9.out hb);replace HO364:=mk0 (bR HO364.out hb);replace HO370:=mk0 (bR HO370.out hb);have BK372:=mk0 (hbox);have GW372:=mk0 ((by rw [hg];exact (kZ HB.out):w.heap.size ≤ gb372));have GE372:=mk0 ((by rw [hg];exact (kZ HB.out):w.heap.size ≤ gb372));replace HB:=mk0 (kS HB.out hb);have NB331_372:=mk0 ((by rw [hg];exact Nat.ne_of_lt (kL BK331.out):gb331 ≠ gb372));have NB372_331:=mk0 ((by rw [hg];exact Nat.ne_of_gt (kL BK331.out):gb372 ≠ gb331));replace BK331:=mk0 (kK BK331.out hb);have NB366_372:=mk0 ((by rw [hg];exact Nat.ne_of_lt (kL BK366.out):gb366 ≠ gb372));have NB372_366:=mk0 ((by rw [hg];exact Nat.ne_of_gt (kL BK366.out):gb372 ≠ gb366));replace BK366:=mk0 (kK BK366.out hb);clear hb hbox hg;have hnb75:=NB372_331.out;have hnc75:=NB331_372.out;have hnb76:=NB372_366.out;have hnc76:=NB366_372.out;obtain⟨hcz77_0,hcz77_1,hfz77_0,hfz77_1⟩:=cz2 BK372.out;obtain⟨Ao78,co78,eo78⟩:=Kd.R_slice HO370.out;subst eo78;obtain⟨hcz79_0,hcz79_1,hcz79_2,hcz79_3,hcz79_4,hcz79_5,hcz79_6,hcz79_7,hfz79_0,hfz79_1,hfz79_2,hfz79_3,hfz79_4,hfz79_5,hfz79_6,hfz79_7⟩:=cz8 BK331.out));try go_wp2_with (first|(go_at_call 28;(with_reducible refine (spec_l03Width.calls kj26 (l0.length:Int) a1 t358 _ A44.out).mono ?_);rintro e w65 ⟨rfl,hb⟩;replace HO_8:=mk0 (bR HO_8.out hb);replace HO_9:=mk0 (bR HO_9.out hb);replace BK331:=mk0 (kK BK331.out hb);replace HB:=mk0 (kS HB.out hb);(try clear hb);obtain⟨Ao66,co66,eo66⟩:=Kd.R_slice HO_8.out;subst eo66)|(go_at_call 29;(with_reducible refine (spec_PackOf.calls kj26 _ _ x8_3 t358 t359 t360 t361 t362 true _ ?side1 ?side2 A45.out).mono ?_);(case side1=>exact kC (Kd.R_reads' HO_8.out).2.2);(case side2=>exact (Kd.R_reads' HO_8.out).2.1);rintro e w67 ⟨v363,rfl,ho0,hb⟩;replace HO_8:=mk0 (bR HO_8.out hb);replace HO_9:=mk0 (bR HO_9.out hb);have HO364:=mk0 (Kd.R_lower ho0 (kZ HB.out));replace BK331:=mk0 (kK BK331.out hb);replace HB:=mk0 (kS HB.out hb);(try clear hb);(try clear ho0))|((with_reducible refine gate_dst (N:=12) rfl ?_);(try (refine gate_guard (by rfl) ?_;dsimp only));refine box_event ?hg (N:=12) ?hd (cs:=#[.int .i64 0,.int .i64 0,.int .i64 0,.slice none 0 0]) (t:=31) ?hr ?_;(case hd=>rfl);(case hg=>rfl);(case hr=>first|(go_simp;done)|(go_simp;rfl));intro gb366 hg w68 hbox hb;replace HO_8:=mk0 (bR HO_8.out hb);replace HO_9:=mk0 (bR HO_9.out hb);replace HO364:=mk0 (bR HO364.out hb);have BK366:=mk0 (hbox);have GW366:=mk0 ((by rw [hg];exact (kZ HB.out):w.heap.size ≤ gb366));have GE366:=mk0 ((by rw [hg];exact (kZ HB.out):w.heap.size ≤ gb366));replace HB:=mk0 (kS HB.out hb);have NB331_366:=mk0 ((by rw [hg];exact Nat.ne_of_lt (kL BK331.out):gb331 ≠ gb366));have NB366_331:=mk0 ((by rw [hg];exact Nat.ne_of_gt (kL BK331.out):gb366 ≠ gb331));replace BK331:=mk0 (kK BK331.out hb);clear hb hbox hg;have hnb69:=NB366_331.out;have hnc69:=NB331_366.out;obtain⟨hcz70_0,hcz70_1,hcz70_2,hcz70_3,hfz70_0,hfz70_1,hfz70_2,hfz70_3⟩:=cz4 BK366.out;obtain⟨Ao71,co71,eo71⟩:=Kd.R_slice HO364.out;subst eo71;obtain⟨Ao72,co72,eo72⟩:=Kd.R_slice HO_9.out;subst eo72)|(go_at_call 30;(with_reducible refine (spec_BitsOf.calls kj26 _ _ x9_3 t367 t368 false _ ?side1 ?side2 A46.out).mono ?_);(case side1=>refine (Kd.R_reads' (e:=3) (base:=w.heap.size) (ok:=fun k_=>some k_ ≠ (.slice Ao66 x8_3.length co66:Value).ownBlock) (n:=x9_3.length) (c:=co72) ?_).2.2;exact (by (with_reducible repeat (first|apply aR|apply nR|apply dR));exact (Kd.R_mono (Kd.R_far (p:=⟨gb366,3,none⟩) (Kd.R_far (p:=⟨gb366,2,none⟩) (Kd.R_far (p:=⟨gb366,1,none⟩) (Kd.R_far (p:=⟨gb366,0,none⟩) (Kd.R_types HO_9.out BK366.out (by decide)) (fun _ hk=>hk.2) (.int .i64 t359)) (fun _ hk=>hk.2) (.int .i64 t360)) (fun _ hk=>hk.2) (.int .i64 t361)) (fun _ hk=>hk.2) (.slice Ao71 t362.length co71)) (fun _ h_=>h_.1))));(case side2=>exact (Kd.R_reads' HO_9.out).2.1);rintro e w73 ⟨v369,rfl,ho0,hb⟩;replace HO_8:=mk0 (Kd.R_below (by (with_reducible repeat (first|apply aR|apply nR|apply dR));exact (Kd.R_mono (Kd.R_far (p:=⟨gb366,3,none⟩) (Kd.R_far (p:=⟨gb366,2,none⟩) (Kd.R_far (p:=⟨gb366,1,none⟩) (Kd.R_far (p:=⟨gb366,0,none⟩) (Kd.R_types HO_8.out BK366.out (by decide)) (fun _ hk=>hk.2) (.int .i64 t359)) (fun _ hk=>hk.2) (.int .i64 t360)) (fun _ hk=>hk.2) (.int .i64 t361)) (fun _ hk=>hk.2) (.slice Ao71 t362.length co71)) (fun _ h_=>h_.1))) hb);replace HO_9:=mk0 (Kd.R_below (by (with_reducible repeat (first|apply aR|apply nR|apply dR));exact (Kd.R_mono (Kd.R_far (p:=⟨gb366,3,none⟩) (Kd.R_far (p:=⟨gb366,2,none⟩) (Kd.R_far (p:=⟨gb366,1,none⟩) (Kd.R_far (p:=⟨gb366,0,none⟩) (Kd.R_types HO_9.out BK366.out (by decide)) (fun _ hk=>hk.2) (.int .i64 t359)) (fun _ hk=>hk.2) (.int .i64 t360)) (fun _ hk=>hk.2) (.int .i64 t361)) (fun _ hk=>hk.2) (.slice Ao71 t362.length co71)) (fun _ h_=>h_.1))) hb);have HO370:=mk0 (Kd.R_lower (Kd.R_new' ho0 (Kd.R_lt (by (with_reducible repeat (first|apply aR|apply nR|apply dR));exact (Kd.R_mono (Kd.R_far (p:=⟨gb366,3,none⟩) (Kd.R_far (p:=⟨gb366,2,none⟩) (Kd.R_far (p:=⟨gb366,1,none⟩) (Kd.R_far (p:=⟨gb366,0,none⟩) (Kd.R_types HO364.out BK366.out (by decide)) (fun _ hk=>hk.2) (.int .i64 t359)) (fun _ hk=>hk.2) (.int .i64 t360)) (fun _ hk=>hk.2) (.int .i64 t361)) (fun _ hk=>hk.2) (.slice Ao71 t362.length co71)) (fun _ h_=>h_.1))))) (kZ HB.out));replace HO364:=mk0 (Kd.R_elder' (by (with_reducible repeat (first|apply aR|apply nR|apply dR));exact (Kd.R_mono (Kd.R_far (p:=⟨gb366,3,none⟩) (Kd.R_far (p:=⟨gb366,2,none⟩) (Kd.R_far (p:=⟨gb366,1,none⟩) (Kd.R_far (p:=⟨gb366,0,none⟩) (Kd.R_types HO364.out BK366.out (by decide)) (fun _ hk=>hk.2) (.int .i64 t359)) (fun _ hk=>hk.2) (.int .i64 t360)) (fun _ hk=>hk.2) (.int .i64 t361)) (fun _ hk=>hk.2) (.slice Ao71 t362.length co71)) (fun _ h_=>h_.1))) (Kd.R_base ho0) hb);replace BK331:=mk0 (blk_below (g:=gb331) (o:=.cells #[.int .i64 x332000_2,.int .i64 x332001_2,.int .i64 x332002_2,.int .i64 x332003_2,.int .i64 x332004_2,.slice none 0 0,.int .i64 x332006_2,.slice none 0 0] 33 (0,0)) (by (with_reducible repeat (first|apply nB|apply dB|apply aB));refine blk_far ?_ NB331_366.out _;(with_reducible repeat (first|apply nB|apply dB|apply aB));refine blk_far ?_ NB331_366.out _;(with_reducible repeat (first|apply nB|apply dB|apply aB));refine blk_far ?_ NB331_366.out _;(with_reducible repeat (first|apply nB|apply dB|apply aB));refine blk_far ?_ NB331_366.out _;(with_reducible repeat (first|apply nB|apply dB|apply aB));exact BK331.out) hb);replace BK366:=mk0 (blk_below (g:=gb366) (o:=.cells #[.int .i64 t359,.int .i64 t360,.int .i64 t361,.slice Ao71 t362.length co71] 31 (0,0)) (by (with_reducible repeat (first|apply nB|apply dB|apply aB));refine blk_put (cs:=#[.int .i64 t359,.int .i64 t360,.int .i64 t361,.slice none 0 0]) ?_ 3 _ rfl;(with_reducible repeat (first|apply nB|apply dB|apply aB));refine blk_put (cs:=#[.int .i64 t359,.int .i64 t360,.int .i64 0,.slice none 0 0]) ?_ 2 _ rfl;(with_reducible repeat (first|apply nB|apply dB|apply aB));refine blk_put (cs:=#[.int .i64 t359,.int .i64 0,.int .i64 0,.slice none 0 0]) ?_ 1 _ rfl;(with_reducible repeat (first|apply nB|apply dB|apply aB));refine blk_put (cs:=#[.int .i64 0,.int .i64 0,.int .i64 0,.slice none 0 0]) ?_ 0 _ rfl;(with_reducible repeat (first|apply nB|apply dB|apply aB));exact BK366.out) hb);replace HB:=mk0 (kS HB.out hb);(try clear hb);(try clear ho0))|((with_reducible refine gate_dst (N:=14) rfl ?_);(try (refine gate_guard (by rfl) ?_;dsimp only));refine box_event ?hg (N:=14) ?hd (cs:=#[.int .i64 0,.slice none 0 0]) (t:=29) ?hr ?_;(case hd=>rfl);(case hg=>rfl);(case hr=>first|(go_simp;done)|(go_simp;rfl));intro gb372 hg w74 hbox hb;replace HO_8:=mk0 (bR HO_8.out hb);replace HO_9:=mk0 (bR HO_9.out hb);replace HO364:=mk0 (bR HO364.out hb);replace HO370:=mk0 (bR HO370.out hb);have BK372:=mk0 (hbox);have GW372:=mk0 ((by rw [hg];exact (kZ HB.out):w.heap.size ≤ gb372));have GE372:=mk0 ((by rw [hg];exact (kZ HB.out):w.heap.size ≤ gb372));replace HB:=mk0 (kS HB.out hb);have NB331_372:=mk0 ((by rw [hg];exact Nat.ne_of_lt (kL BK331.out):gb331 ≠ gb372));have NB372_331:=mk0 ((by rw [hg];exact Nat.ne_of_gt (kL BK331.out):gb372 ≠ gb331));replace BK331:=mk0 (kK BK331.out hb);have NB366_372:=mk0 ((by rw [hg];exact Nat.ne_of_lt (kL BK366.out):gb366 ≠ gb372));have NB372_366:=mk0 ((by rw [hg];exact Nat.ne_of_gt (kL BK366.out):gb372 ≠ gb366));replace BK366:=mk0 (kK BK366.out hb);clear hb hbox hg;have hnb75:=NB372_331.out;have hnc75:=NB331_372.out;have hnb76:=NB372_366.out;have hnc76:=NB366_372.out;obtain⟨hcz77_0,hcz77_1,hfz77_0,hfz77_1⟩:=cz2 BK372.out;obtain⟨Ao78,co78,eo78⟩:=Kd.R_slice HO370.out;subst eo78;obtain⟨hcz79_0,hcz79_1,hcz79_2,hcz79_3,hcz79_4,hcz79_5,hcz79_6,hcz79_7,hfz79_0,hfz79_1,hfz79_2,hfz79_3,hfz79_4,hfz79_5,hfz79_6,hfz79_7⟩:=cz8 BK331.out)))
          refine bodyPost_ret (results_ct rfl _ _ gb331 33 #[.int .i64 0,.int .i64 0,.int .i64 0,.int .i64 0,.int .i64 0,.slice none 0 0,.int .i64 0,.slice none 0 0] (0,0) _ rfl (by (with_reducible repeat (first|apply nB|apply dB|apply aB));refine blk_put (cs:=#[.int .i64 0,.int .i64 0,.int .i64 0,.int .i64 0,.int .i64 0,.slice none 0 0,.int .i64 0,.slice none 0 0]) ?_ 7 _ rfl;(with_reducible repeat (first|apply nB|apply dB|apply aB));refine blk_put (cs:=#[.int .i64 0,.int .i64 0,.int .i64 0,.int .i64 0,.int .i64 0,.slice none 0 0,.int .i64 x332006_2,.slice none 0 0]) ?_ 6 _ rfl;(with_reducible repeat (first|apply nB|apply dB|apply aB));refine blk_put (cs:=#[.int .i64 0,.int .i64 0,.int .i64 0,.int .i64 0,.int .i64 0,.slice none 0 0,.int .i64 x332006_2,.slice none 0 0]) ?_ 5 _ rfl;(with_reducible repeat (first|apply nB|apply dB|apply aB));refine blk_put (cs:=#[.int .i64 0,.int .i64 0,.int .i64 0,.int .i64 0,.int .i64 x332004_2,.slice none 0 0,.int .i64 x332006_2,.slice none 0 0]) ?_ 4 _ rfl;(with_reducible repeat (first|apply nB|apply dB|apply aB));refine blk_put (cs:=#[.int .i64 0,.int .i64 0,.int .i64 0,.int .i64 x332003_2,.int .i64 x332004_2,.slice none 0 0,.int .i64 x332006_2,.slice none 0 0]) ?_ 3 _ rfl;(with_reducible repeat (first|apply nB|apply dB|apply aB));refine blk_put (cs:=#[.int .i64 0,.int .i64 0,.int .i64 x332002_2,.int .i64 x332003_2,.int .i64 x332004_2,.slice none 0 0,.int .i64 x332006_2,.slice none 0 0]) ?_ 2 _ rfl;(with_reducible repeat (first|apply nB|apply dB|apply aB));refine blk_put (cs:=#[.int .i64 0,.int .i64 x332001_2,.int .i64 x332002_2,.int .i64 x332003_2,.int .i64 x332004_2,.slice none 0 0,.int .i64 x332006_2,.slice none 0 0]) ?_ 1 _ rfl;(with_reducible repeat (first|apply nB|apply dB|apply aB));refine blk_put (cs:=#[.int .i64 x332000_2,.int .i64 x332001_2,.int .i64 x332002_2,.int .i64 x332003_2,.int .i64 x332004_2,.slice none 0 0,.int .i64 x332006_2,.slice none 0 0]) ?_ 0 _ rfl;(with_reducible repeat (first|apply nB|apply dB|apply aB));refine blk_far ?_ NB331_372.out _;(with_reducible repeat (first|apply nB|apply dB|apply aB));refine blk_far ?_ NB331_372.out _;(with_reducible repeat (first|apply nB|apply dB|apply aB));exact BK331.out) Try.underlying33 rfl (by kernel_rfl)) rfl ?_
          exact⟨_,_,by first|rfl|(simp [errW_none,errW_some] <;> rfl)|(simp [*,errW_none,errW_some] <;> rfl),by first|exact Kd.R_nil _ _ _ _ _|exact Kd.N_nil _ _ _ _ _|exact Kd.V_nil _ _ _ _ _|exact Kd.Q_nil _ _ _ _ _|exact Kd.S_nil _ _ _ _ _,by first|exact Kd.R_nil _ _ _ _ _|exact Kd.N_nil _ _ _ _ _|exact Kd.V_nil _ _ _ _ _|exact Kd.Q_nil _ _ _ _ _|exact Kd.S_nil _ _ _ _ _,kB HB.out⟩
         subst c48
         have H1:(some (a1,(l0.length:Int),t359,t360,t361,t362,t367,t368,true)) = some (r1,r2,r3,r4,r5,r6,r7,r8,r9):=by rw [if_pos rfl] at H;exact H
         clear H
         have H:=H1
         clear H1
         simp only [Option.some.injEq,Prod.mk.injEq] at H
         obtain⟨rfl,rfl,rfl,rfl,rfl,rfl,rfl,rfl,rfl⟩:=H
         go_wp2_with (first|(go_at_call 28;(with_reducible refine (spec_l03Width.calls kj26 (l0.length:Int) a1 t358 _ A44.out).mono ?_);rintro e w49 ⟨rfl,hb⟩;replace HO_8:=mk0 (bR HO_8.out hb);replace HO_9:=mk0 (bR HO_9.out hb);replace BK331:=mk0 (kK BK331.out hb);replace HB:=mk0 (kS HB.out hb);(try clear hb);obtain⟨Ao50,co50,eo50⟩:=Kd.R_slice HO_8.out;subst eo50)|(go_at_call 29;(with_reducible refine (spec_PackOf.calls kj26 _ _ x8_3 t358 t359 t360 t361 t362 true _ ?side1 ?side2 A45.out).mono ?_);(case side1=>exact kC (Kd.R_reads' HO_8.out).2.2);(case side2=>exact (Kd.R_reads' HO_8.out).2.1);rintro e w51 ⟨v363,rfl,ho0,hb⟩;replace HO_8:=mk0 (bR HO_8.out hb);replace HO_9:=mk0 (bR HO_9.out hb);have HO364:=mk0 (Kd.R_lower ho0 (kZ HB.out));replace BK331:=mk0 (kK BK331.out hb);replace HB:=mk0 (kS HB.out hb);(try clear hb);(try clear ho0))|((with_reducible refine gate_dst (N:=12) rfl ?_);(try (refine gate_guard (by rfl) ?_;dsimp only));refine box_event ?hg (N:=12) ?hd (cs:=#[.int .i64 0,.int .i64 0,.int .i64 0,.slice none 0 0]) (t:=31) ?hr ?_;(case hd=>rfl);(case hg=>rfl);(case hr=>first|(go_simp;done)|(go_simp;rfl));intro gb366 hg w52 hbox hb;replace HO_8:=mk0 (bR HO_8.out hb);replace HO_9:=mk0 (bR HO_9.out hb);replace HO364:=mk0 (bR HO364.out hb);have BK366:=mk0 (hbox);have GW366:=mk0 ((by rw [hg];exact (kZ HB.out):w.heap.size ≤ gb366));have GE366:=mk0 ((by rw [hg];exact (kZ HB.out):w.heap.size ≤ gb366));replace HB:=mk0 (kS HB.out hb);have NB331_366:=mk0 ((by rw [hg];exact Nat.ne_of_lt (kL BK331.out):gb331 ≠ gb366));have NB366_331:=mk0 ((by rw [hg];exact Nat.ne_of_gt (kL BK331.out):gb366 ≠ gb331));replace BK331:=mk0 (kK BK331.out hb);clear hb hbox hg;have hnb53:=NB366_331.out;have hnc53:=NB331_366.out;obtain⟨hcz54_0,hcz54_1,hcz54_2,hcz54_3,hfz54_0,hfz54_1,hfz54_2,hfz54_3⟩:=cz4 BK366.out;obtain⟨Ao55,co55,eo55⟩:=Kd.R_slice HO364.out;subst eo55;obtain⟨Ao56,co56,eo56⟩:=Kd.R_slice HO_9.out;subst eo56)|(go_at_call 30;(with_reducible refine (spec_BitsOf.calls kj26 _ _ x9_3 t367 t368 true _ ?side1 ?side2 A46.out).mono ?_);(case side1=>refine (Kd.R_reads' (e:=3) (base:=w.heap.size) (ok:=fun k_=>some k_ ≠ (.slice Ao50 x8_3.length co50:Value).ownBlock) (n:=x9_3.length) (c:=co56) ?_).2.2;exact (by (with_reducible repeat (first|apply aR|apply nR|apply dR));exact (Kd.R_mono (Kd.R_far (p:=⟨gb366,3,none⟩) (Kd.R_far (p:=⟨gb366,2,none⟩) (Kd.R_far (p:=⟨gb366,1,none⟩) (Kd.R_far (p:=⟨gb366,0,none⟩) (Kd.R_types HO_9.out BK366.out (by decide)) (fun _ hk=>hk.2) (.int .i64 t359)) (fun _ hk=>hk.2) (.int .i64 t360)) (fun _ hk=>hk.2) (.int .i64 t361)) (fun _ hk=>hk.2) (.slice Ao55 t362.length co55)) (fun _ h_=>h_.1))));(case side2=>exact (Kd.R_reads' HO_9.out).2.1);rintro e w57 ⟨v369,rfl,ho0,hb⟩;replace HO_8:=mk0 (Kd.R_below (by (with_reducible repeat (first|apply aR|apply nR|apply dR));exact (Kd.R_mono (Kd.R_far (p:=⟨gb366,3,none⟩) (Kd.R_far (p:=⟨gb366,2,none⟩) (Kd.R_far (p:=⟨gb366,1,none⟩) (Kd.R_far (p:=⟨gb366,0,none⟩) (Kd.R_types HO_8.out BK366.out (by decide)) (fun _ hk=>hk.2) (.int .i64 t359)) (fun _ hk=>hk.2) (.int .i64 t360)) (fun _ hk=>hk.2) (.int .i64 t361)) (fun _ hk=>hk.2) (.slice Ao55 t362.length co55)) (fun _ h_=>h_.1))) hb);replace HO_9:=mk0 (Kd.R_below (by (with_reducible repeat (first|apply aR|apply nR|apply dR));exact (Kd.R_mono (Kd.R_far (p:=⟨gb366,3,none⟩) (Kd.R_far (p:=⟨gb366,2,none⟩) (Kd.R_far (p:=⟨gb366,1,none⟩) (Kd.R_far (p:=⟨gb366,0,none⟩) (Kd.R_types HO_9.out BK366.out (by decide)) (fun _ hk=>hk.2) (.int .i64 t359)) (fun _ hk=>hk.2) (.int .i64 t360)) (fun _ hk=>hk.2) (.int .i64 t361)) (fun _ hk=>hk.2) (.slice Ao55 t362.length co55)) (fun _ h_=>h_.1))) hb);have HO370:=mk0 (Kd.R_lower (Kd.R_new' ho0 (Kd.R_lt (by (with_reducible repeat (first|apply aR|apply nR|apply dR));exact (Kd.R_mono (Kd.R_far (p:=⟨gb366,3,none⟩) (Kd.R_far (p:=⟨gb366,2,none⟩) (Kd.R_far (p:=⟨gb366,1,none⟩) (Kd.R_far (p:=⟨gb366,0,none⟩) (Kd.R_types HO364.out BK366.out (by decide)) (fun _ hk=>hk.2) (.int .i64 t359)) (fun _ hk=>hk.2) (.int .i64 t360)) (fun _ hk=>hk.2) (.int .i64 t361)) (fun _ hk=>hk.2) (.slice Ao55 t362.length co55)) (fun _ h_=>h_.1))))) (kZ HB.out));replace HO364:=mk0 (Kd.R_elder' (by (with_reducible repeat (first|apply aR|apply nR|apply dR));exact (Kd.R_mono (Kd.R_far (p:=⟨gb366,3,none⟩) (Kd.R_far (p:=⟨gb366,2,none⟩) (Kd.R_far (p:=⟨gb366,1,none⟩) (Kd.R_far (p:=⟨gb366,0,none⟩) (Kd.R_types HO364.out BK366.out (by decide)) (fun _ hk=>hk.2) (.int .i64 t359)) (fun _ hk=>hk.2) (.int .i64 t360)) (fun _ hk=>hk.2) (.int .i64 t361)) (fun _ hk=>hk.2) (.slice Ao55 t362.length co55)) (fun _ h_=>h_.1))) (Kd.R_base ho0) hb);replace BK331:=mk0 (blk_below (g:=gb331) (o:=.cells #[.int .i64 x332000_2,.int .i64 x332001_2,.int .i64 x332002_2,.int .i64 x332003_2,.int .i64 x332004_2,.slice none 0 0,.int .i64 x332006_2,.slice none 0 0] 33 (0,0)) (by (with_reducible repeat (first|apply nB|apply dB|apply aB));refine blk_far ?_ NB331_366.out _;(with_reducible repeat (first|apply nB|apply dB|apply aB));refine blk_far ?_ NB331_366.out _;(with_reducible repeat (first|apply nB|apply dB|apply aB));refine blk_far ?_ NB331_366.out _;(with_reducible repeat (first|apply nB|apply dB|apply aB));refine blk_far ?_ NB331_366.out _;(with_reducible repeat (first|apply nB|apply dB|apply aB));exact BK331.out) hb);replace BK366:=mk0 (blk_below (g:=gb366) (o:=.cells #[.int .i64 t359,.int .i64 t360,.int .i64 t361,.slice Ao55 t362.length co55] 31 (0,0)) (by (with_reducible repeat (first|apply nB|apply dB|apply aB));refine blk_put (cs:=#[.int .i64 t359,.int .i64 t360,.int .i64 t361,.slice none 0 0]) ?_ 3 _ rfl;(with_reducible repeat (first|apply nB|apply dB|apply aB));refine blk_put (cs:=#[.int .i64 t359,.int .i64 t360,.int .i64 0,.slice none 0 0]) ?_ 2 _ rfl;(with_reducible repeat (first|apply nB|apply dB|apply aB));refine blk_put (cs:=#[.int .i64 t359,.int .i64 0,.int .i64 0,.slice none 0 0]) ?_ 1 _ rfl;(with_reducible repeat (first|apply nB|apply dB|apply aB));refine blk_put (cs:=#[.int .i64 0,.int .i64 0,.int .i64 0,.slice none 0 0]) ?_ 0 _ rfl;(with_reducible repeat (first|apply nB|apply dB|apply aB));exact BK366.out) hb);replace HB:=mk0 (kS HB.out hb);(try clear hb);(try clear ho0))|((with_reducible refine gate_dst (N:=14) rfl ?_);(try (refine gate_guard (by rfl) ?_;dsimp only));refine box_event ?hg (N:=14) ?hd (cs:=#[.int .i64 0,.slice none 0 0]) (t:=29) ?hr ?_;(case hd=>rfl);(case hg=>rfl);(case hr=>first|(go_simp;done)|(go_simp;rfl));intro gb372 hg w58 hbox hb;replace HO_8:=mk0 (bR HO_8.out hb);replace HO_9:=mk0 (bR HO_9.out hb);replace HO364:=mk0 (bR HO364.out hb);replace HO370:=mk0 (bR HO370.out hb);have BK372:=mk0 (hbox);have GW372:=mk0 ((by rw [hg];exact (kZ HB.out):w.heap.size ≤ gb372));have GE372:=mk0 ((by rw [hg];exact (kZ HB.out):w.heap.size ≤ gb372));replace HB:=mk0 (kS HB.out hb);have NB331_372:=mk0 ((by rw [hg];exact Nat.ne_of_lt (kL BK331.out):gb331 ≠ gb372));have NB372_331:=mk0 ((by rw [hg];exact Nat.ne_of_gt (kL BK331.out):gb372 ≠ gb331));replace BK331:=mk0 (kK BK331.out hb);have NB366_372:=mk0 ((by rw [hg];exact Nat.ne_of_lt (kL BK366.out):gb366 ≠ gb372));have NB372_366:=mk0 ((by rw [hg];exact Nat.ne_of_gt (kL BK366.out):gb372 ≠ gb366));replace BK366:=mk0 (kK BK366.out hb);clear hb hbox hg;have hnb59:=NB372_331.out;have hnc59:=NB331_372.out;have hnb60:=NB372_366.out;have hnc60:=NB366_372.out;obtain⟨hcz61_0,hcz61_1,hfz61_0,hfz61_1⟩:=cz2 BK372.out;obtain⟨Ao62,co62,eo62⟩:=Kd.R_slice HO370.out;subst eo62;obtain⟨hcz63_0,hcz63_1,hcz63_2,hcz63_3,hfz63_0,hfz63_1,hfz63_2,hfz63_3⟩:=cz4 BK366.out;obtain⟨hcz64_0,hcz64_1,hcz64_2,hcz64_3,hcz64_4,hcz64_5,hcz64_6,hcz64_7,hfz64_0,hfz64_1,hfz64_2,hfz64_3,hfz64_4,hfz64_5,hfz64_6,hfz64_7⟩:=cz8 BK331.out))
         repeat (go_quiet (first|(go_at_call 28;(with_reducible refine (spec_l03Width.calls kj26 (l0.length:Int) a1 t358 _ A44.out).mono ?_);rintro e w49 ⟨rfl,hb⟩;replace HO_8:=mk0 (bR HO_8.out hb);replace HO_9:=mk0 (bR HO_9.out hb);replace BK331:=mk0 (kK BK331.out hb);replace HB:=mk0 (kS HB.out hb);(try clear hb);obtain⟨Ao50,co50,eo50⟩:=Kd.R_slice HO_8.out;subst eo50)|(go_at_call 29;(with_reducible refine (spec_PackOf.calls kj26 _ _ x8_3 t358 t359 t360 t361 t362 true _ ?side1 ?side2 A45.out).mono ?_);(case side1=>exact kC (Kd.R_reads' HO_8.out).2.2);(case side2=>exact (Kd.R_reads' HO_8.out).2.1);rintro e w51 ⟨v363,rfl,ho0,hb⟩;replace HO_8:=mk0 (bR HO_8.out hb);replace HO_9:=mk0 (bR HO_9.out hb);have HO364:=mk0 (Kd.R_lower ho0 (kZ HB.out));replace BK331:=mk0 (kK BK331.out hb);replace HB:=mk0 (kS HB.out hb);(try clear hb);(try clear ho0))|((with_reducible refine gate_dst (N:=12) rfl ?_);(try (refine gate_guard (by rfl) ?_;dsimp only));refine box_event ?hg (N:=12) ?hd (cs:=#[.int .i64 0,.int .i64 0,.int .i64 0,.slice none 0 0]) (t:=31) ?hr ?_;(case hd=>rfl);(case hg=>rfl);(case hr=>first|(go_simp;done)|(go_simp;rfl));intro gb366 hg w52 hbox hb;replace HO_8:=mk0 (bR HO_8.out hb);replace HO_9:=mk0 (bR HO_9.out hb);replace HO364:=mk0 (bR HO364.out hb);have BK366:=mk0 (hbox);have GW366:=mk0 ((by rw [hg];exact (kZ HB.out):w.heap.size ≤ gb366));have GE366:=mk0 ((by rw [hg];exact (kZ HB.out):w.heap.size ≤ gb366));replace HB:=mk0 (kS HB.out hb);have NB331_366:=mk0 ((by rw [hg];exact Nat.ne_of_lt (kL BK331.out):gb331 ≠ gb366));have NB366_331:=mk0 ((by rw [hg];exact Nat.ne_of_gt (kL BK331.out):gb366 ≠ gb331));replace BK331:=mk0 (kK BK331.out hb);clear hb hbox hg;have hnb53:=NB366_331.out;have hnc53:=NB331_366.out;obtain⟨hcz54_0,hcz54_1,hcz54_2,hcz54_3,hfz54_0,hfz54_1,hfz54_2,hfz54_3⟩:=cz4 BK366.out;obtain⟨Ao55,co55,eo55⟩:=Kd.R_slice HO364.out;subst eo55;obtain⟨Ao56,co56,eo56⟩:=Kd.R_slice HO_9.out;subst eo56)|(go_at_call 30;(with_reducible refine (spec_BitsOf.calls kj26 _ _ x9_3 t367 t368 true _ ?side1 ?side2 A46.out).mono ?_);(case side1=>refine (Kd.R_reads' (e:=3) (base:=w.heap.size) (ok:=fun k_=>some k_ ≠ (.slice Ao50 x8_3.length co50:Value).ownBlock) (n:=x9_3.length) (c:=co56) ?_).2.2;exact (by (with_reducible repeat (first|apply aR|apply nR|apply dR));exact (Kd.R_mono (Kd.R_far (p:=⟨gb366,3,none⟩) (Kd.R_far (p:=⟨gb366,2,none⟩) (Kd.R_far (p:=⟨gb366,1,none⟩) (Kd.R_far (p:=⟨gb366,0,none⟩) (Kd.R_types HO_9.out BK366.out (by decide)) (fun _ hk=>hk.2) (.int .i64 t359)) (fun _ hk=>hk.2) (.int .i64 t360)) (fun _ hk=>hk.2) (.int .i64 t361)) (fun _ hk=>hk.2) (.slice Ao55 t362.length co55)) (fun _ h_=>h_.1))));(case side2=>exact (Kd.R_reads' HO_9.out).2.1);rintro e w57 ⟨v369,rfl,ho0,hb⟩;replace HO_8:=mk0 (Kd.R_below (by (with_reducible repeat (first|apply aR|apply nR|apply dR));exact (Kd.R_mono (Kd.R_far (p:=⟨gb366,3,none⟩) (Kd.R_far (p:=⟨gb366,2,none⟩) (Kd.R_far (p:=⟨gb366,1,none⟩) (Kd.R_far (p:=⟨gb366,0,none⟩) (Kd.R_types HO_8.out BK366.out (by decide)) (fun _ hk=>hk.2) (.int .i64 t359)) (fun _ hk=>hk.2) (.int .i64 t360)) (fun _ hk=>hk.2) (.int .i64 t361)) (fun _ hk=>hk.2) (.slice Ao55 t362.length co55)) (fun _ h_=>h_.1))) hb);replace HO_9:=mk0 (Kd.R_below (by (with_reducible repeat (first|apply aR|apply nR|apply dR));exact (Kd.R_mono (Kd.R_far (p:=⟨gb366,3,none⟩) (Kd.R_far (p:=⟨gb366,2,none⟩) (Kd.R_far (p:=⟨gb366,1,none⟩) (Kd.R_far (p:=⟨gb366,0,none⟩) (Kd.R_types HO_9.out BK366.out (by decide)) (fun _ hk=>hk.2) (.int .i64 t359)) (fun _ hk=>hk.2) (.int .i64 t360)) (fun _ hk=>hk.2) (.int .i64 t361)) (fun _ hk=>hk.2) (.slice Ao55 t362.length co55)) (fun _ h_=>h_.1))) hb);have HO370:=mk0 (Kd.R_lower (Kd.R_new' ho0 (Kd.R_lt (by (with_reducible repeat (first|apply aR|apply nR|apply dR));exact (Kd.R_mono (Kd.R_far (p:=⟨gb366,3,none⟩) (Kd.R_far (p:=⟨gb366,2,none⟩) (Kd.R_far (p:=⟨gb366,1,none⟩) (Kd.R_far (p:=⟨gb366,0,none⟩) (Kd.R_types HO364.out BK366.out (by decide)) (fun _ hk=>hk.2) (.int .i64 t359)) (fun _ hk=>hk.2) (.int .i64 t360)) (fun _ hk=>hk.2) (.int .i64 t361)) (fun _ hk=>hk.2) (.slice Ao55 t362.length co55)) (fun _ h_=>h_.1))))) (kZ HB.out));replace HO364:=mk0 (Kd.R_elder' (by (with_reducible repeat (first|apply aR|apply nR|apply dR));exact (Kd.R_mono (Kd.R_far (p:=⟨gb366,3,none⟩) (Kd.R_far (p:=⟨gb366,2,none⟩) (Kd.R_far (p:=⟨gb366,1,none⟩) (Kd.R_far (p:=⟨gb366,0,none⟩) (Kd.R_types HO364.out BK366.out (by decide)) (fun _ hk=>hk.2) (.int .i64 t359)) (fun _ hk=>hk.2) (.int .i64 t360)) (fun _ hk=>hk.2) (.int .i64 t361)) (fun _ hk=>hk.2) (.slice Ao55 t362.length co55)) (fun _ h_=>h_.1))) (Kd.R_base ho0) hb);replace BK331:=mk0 (blk_below (g:=gb331) (o:=.cells #[.int .i64 x332000_2,.int .i64 x332001_2,.int .i64 x332002_2,.int .i64 x332003_2,.int .i64 x332004_2,.slice none 0 0,.int .i64 x332006_2,.slice none 0 0] 33 (0,0)) (by (with_reducible repeat (first|apply nB|apply dB|apply aB));refine blk_far ?_ NB331_366.out _;(with_reducible repeat (first|apply nB|apply dB|apply aB));refine blk_far ?_ NB331_366.out _;(with_reducible repeat (first|apply nB|apply dB|apply aB));refine blk_far ?_ NB331_366.out _;(with_reducible repeat (first|apply nB|apply dB|apply aB));refine blk_far ?_ NB331_366.out _;(with_reducible repeat (first|apply nB|apply dB|apply aB));exact BK331.out) hb);replace BK366:=mk0 (blk_below (g:=gb366) (o:=.cells #[.int .i64 t359,.int .i64 t360,.int .i64 t361,.slice Ao55 t362.length co55] 31 (0,0)) (by (with_reducible repeat (first|apply nB|apply dB|apply aB));refine blk_put (cs:=#[.int .i64 t359,.int .i64 t360,.int .i64 t361,.slice none 0 0]) ?_ 3 _ rfl;(with_reducible repeat (first|apply nB|apply dB|apply aB));refine blk_put (cs:=#[.int .i64 t359,.int .i64 t360,.int .i64 0,.slice none 0 0]) ?_ 2 _ rfl;(with_reducible repeat (first|apply nB|apply dB|apply aB));refine blk_put (cs:=#[.int .i64 t359,.int .i64 0,.int .i64 0,.slice none 0 0]) ?_ 1 _ rfl;(with_reducible repeat (first|apply nB|apply dB|apply aB));refine blk_put (cs:=#[.int .i64 0,.int .i64 0,.int .i64 0,.slice none 0 0]) ?_ 0 _ rfl;(with_reducible repeat (first|apply nB|apply dB|apply aB));exact BK366.out) hb);replace HB:=mk0 (kS HB.out hb);(try clear hb);(try clear ho0))|((with_reducible refine gate_dst (N:=14) rfl ?_);(try (refine gate_guard (by rfl) ?_;dsimp only));refine box_event ?hg (N:=14) ?hd (cs:=#[.int .i64 0,.slice none 0 0]) (t:=29) ?hr ?_;(case hd=>rfl);(case hg=>rfl);(case hr=>first|(go_simp;done)|(go_simp;rfl));intro gb372 hg w58 hbox hb;replace HO_8:=mk0 (bR HO_8.out hb);replace HO_9:=mk0 (bR HO_9.out hb);replace HO364:=mk0 (bR HO364.out hb);replace HO370:=mk0 (bR HO370.out hb);have BK372:=mk0 (hbox);have GW372:=mk0 ((by rw [hg];exact (kZ HB.out):w.heap.size ≤ gb372));have GE372:=mk0 ((by rw [hg];exact (kZ HB.out):w.heap.size ≤ gb372));replace HB:=mk0 (kS HB.out hb);have NB331_372:=mk0 ((by rw [hg];exact Nat.ne_of_lt (kL BK331.out):gb331 ≠ gb372));have NB372_331:=mk0 ((by rw [hg];exact Nat.ne_of_gt (kL BK331.out):gb372 ≠ gb331));replace BK331:=mk0 (kK BK331.out hb);have NB366_372:=mk0 ((by rw [hg];exact Nat.ne_of_lt (kL BK366.out):gb366 ≠ gb372));have NB372_366:=mk0 ((by rw [hg];exact Nat.ne_of_gt (kL BK366.out):gb372 ≠ gb366));replace BK366:=mk0 (kK BK366.out hb);clear hb hbox hg;have hnb59:=NB372_331.out;have hnc59:=NB331_372.out;have hnb60:=NB372_366.out;have hnc60:=NB366_372.out;obtain⟨hcz61_0,hcz61_1,hfz61_0,hfz61_1⟩:=cz2 BK372.out;obtain⟨Ao62,co62,eo62⟩:=Kd.R_slice HO370.out;subst eo62;obtain⟨hcz63_0,hcz63_1,hcz63_2,hcz63_3,hfz63_0,hfz63_1,hfz63_2,hfz63_3⟩:=cz4 BK366.out;obtain⟨hcz64_0,hcz64_1,hcz64_2,hcz64_3,hcz64_4,hcz64_5,hcz64_6,hcz64_7,hfz64_0,hfz64_1,hfz64_2,hfz64_3,hfz64_4,hfz64_5,hfz64_6,hfz64_7⟩:=cz8 BK331.out));try go_wp2_with (first|(go_at_call 28;(with_reducible refine (spec_l03Width.calls kj26 (l0.length:Int) a1 t358 _ A44.out).mono ?_);rintro e w49 ⟨rfl,hb⟩;replace HO_8:=mk0 (bR HO_8.out hb);replace HO_9:=mk0 (bR HO_9.out hb);replace BK331:=mk0 (kK BK331.out hb);replace HB:=mk0 (kS HB.out hb);(try clear hb);obtain⟨Ao50,co50,eo50⟩:=Kd.R_slice HO_8.out;subst eo50)|(go_at_call 29;(with_reducible refine (spec_PackOf.calls kj26 _ _ x8_3 t358 t359 t360 t361 t362 true _ ?side1 ?side2 A45.out).mono ?_);(case side1=>exact kC (Kd.R_reads' HO_8.out).2.2);(case side2=>exact (Kd.R_reads' HO_8.out).2.1);rintro e w51 ⟨v363,rfl,ho0,hb⟩;replace HO_8:=mk0 (bR HO_8.out hb);replace HO_9:=mk0 (bR HO_9.out hb);have HO364:=mk0 (Kd.R_lower ho0 (kZ HB.out));replace BK331:=mk0 (kK BK331.out hb);replace HB:=mk0 (kS HB.out hb);(try clear hb);(try clear ho0))|((with_reducible refine gate_dst (N:=12) rfl ?_);(try (refine gate_guard (by rfl) ?_;dsimp only));refine box_event ?hg (N:=12) ?hd (cs:=#[.int .i64 0,.int .i64 0,.int .i64 0,.slice none 0 0]) (t:=31) ?hr ?_;(case hd=>rfl);(case hg=>rfl);(case hr=>first|(go_simp;done)|(go_simp;rfl));intro gb366 hg w52 hbox hb;replace HO_8:=mk0 (bR HO_8.out hb);replace HO_9:=mk0 (bR HO_9.out hb);replace HO364:=mk0 (bR HO364.out hb);have BK366:=mk0 (hbox);have GW366:=mk0 ((by rw [hg];exact (kZ HB.out):w.heap.size ≤ gb366));have GE366:=mk0 ((by rw [hg];exact (kZ HB.out):w.heap.size ≤ gb366));replace HB:=mk0 (kS HB.out hb);have NB331_366:=mk0 ((by rw [hg];exact Nat.ne_of_lt (kL BK331.out):gb331 ≠ gb366));have NB366_331:=mk0 ((by rw [hg];exact Nat.ne_of_gt (kL BK331.out):gb366 ≠ gb331));replace BK331:=mk0 (kK BK331.out hb);clear hb hbox hg;have hnb53:=NB366_331.out;have hnc53:=NB331_366.out;obtain⟨hcz54_0,hcz54_1,hcz54_2,hcz54_3,hfz54_0,hfz54_1,hfz54_2,hfz54_3⟩:=cz4 BK366.out;obtain⟨Ao55,co55,eo55⟩:=Kd.R_slice HO364.out;subst eo55;obtain⟨Ao56,co56,eo56⟩:=Kd.R_slice HO_9.out;subst eo56)|(go_at_call 30;(with_reducible refine (spec_BitsOf.calls kj26 _ _ x9_3 t367 t368 true _ ?side1 ?side2 A46.out).mono ?_);(case side1=>refine (Kd.R_reads' (e:=3) (base:=w.heap.size) (ok:=fun k_=>some k_ ≠ (.slice Ao50 x8_3.length co50:Value).ownBlock) (n:=x9_3.length) (c:=co56) ?_).2.2;exact (by (with_reducible repeat (first|apply aR|apply nR|apply dR));exact (Kd.R_mono (Kd.R_far (p:=⟨gb366,3,none⟩) (Kd.R_far (p:=⟨gb366,2,none⟩) (Kd.R_far (p:=⟨gb366,1,none⟩) (Kd.R_far (p:=⟨gb366,0,none⟩) (Kd.R_types HO_9.out BK366.out (by decide)) (fun _ hk=>hk.2) (.int .i64 t359)) (fun _ hk=>hk.2) (.int .i64 t360)) (fun _ hk=>hk.2) (.int .i64 t361)) (fun _ hk=>hk.2) (.slice Ao55 t362.length co55)) (fun _ h_=>h_.1))));(case side2=>exact (Kd.R_reads' HO_9.out).2.1);rintro e w57 ⟨v369,rfl,ho0,hb⟩;replace HO_8:=mk0 (Kd.R_below (by (with_reducible repeat (first|apply aR|apply nR|apply dR));exact (Kd.R_mono (Kd.R_far (p:=⟨gb366,3,none⟩) (Kd.R_far (p:=⟨gb366,2,none⟩) (Kd.R_far (p:=⟨gb366,1,none⟩) (Kd.R_far (p:=⟨gb366,0,none⟩) (Kd.R_types HO_8.out BK366.out (by decide)) (fun _ hk=>hk.2) (.int .i64 t359)) (fun _ hk=>hk.2) (.int .i64 t360)) (fun _ hk=>hk.2) (.int .i64 t361)) (fun _ hk=>hk.2) (.slice Ao55 t362.length co55)) (fun _ h_=>h_.1))) hb);replace HO_9:=mk0 (Kd.R_below (by (with_reducible repeat (first|apply aR|apply nR|apply dR));exact (Kd.R_mono (Kd.R_far (p:=⟨gb366,3,none⟩) (Kd.R_far (p:=⟨gb366,2,none⟩) (Kd.R_far (p:=⟨gb366,1,none⟩) (Kd.R_far (p:=⟨gb366,0,none⟩) (Kd.R_types HO_9.out BK366.out (by decide)) (fun _ hk=>hk.2) (.int .i64 t359)) (fun _ hk=>hk.2) (.int .i64 t360)) (fun _ hk=>hk.2) (.int .i64 t361)) (fun _ hk=>hk.2) (.slice Ao55 t362.length co55)) (fun _ h_=>h_.1))) hb);have HO370:=mk0 (Kd.R_lower (Kd.R_new' ho0 (Kd.R_lt (by (with_reducible repeat (first|apply aR|apply nR|apply dR));exact (Kd.R_mono (Kd.R_far (p:=⟨gb366,3,none⟩) (Kd.R_far (p:=⟨gb366,2,none⟩) (Kd.R_far (p:=⟨gb366,1,none⟩) (Kd.R_far (p:=⟨gb366,0,none⟩) (Kd.R_types HO364.out BK366.out (by decide)) (fun _ hk=>hk.2) (.int .i64 t359)) (fun _ hk=>hk.2) (.int .i64 t360)) (fun _ hk=>hk.2) (.int .i64 t361)) (fun _ hk=>hk.2) (.slice Ao55 t362.length co55)) (fun _ h_=>h_.1))))) (kZ HB.out));replace HO364:=mk0 (Kd.R_elder' (by (with_reducible repeat (first|apply aR|apply nR|apply dR));exact (Kd.R_mono (Kd.R_far (p:=⟨gb366,3,none⟩) (Kd.R_far (p:=⟨gb366,2,none⟩) (Kd.R_far (p:=⟨gb366,1,none⟩) (Kd.R_far (p:=⟨gb366,0,none⟩) (Kd.R_types HO364.out BK366.out (by decide)) (fun _ hk=>hk.2) (.int .i64 t359)) (fun _ hk=>hk.2) (.int .i64 t360)) (fun _ hk=>hk.2) (.int .i64 t361)) (fun _ hk=>hk.2) (.slice Ao55 t362.length co55)) (fun _ h_=>h_.1))) (Kd.R_base ho0) hb);replace BK331:=mk0 (blk_below (g:=gb331) (o:=.cells #[.int .i64 x332000_2,.int .i64 x332001_2,.int .i64 x332002_2,.int .i64 x332003_2,.int .i64 x332004_2,.slice none 0 0,.int .i64 x332006_2,.slice none 0 0] 33 (0,0)) (by (with_reducible repeat (first|apply nB|apply dB|apply aB));refine blk_far ?_ NB331_366.out _;(with_reducible repeat (first|apply nB|apply dB|apply aB));refine blk_far ?_ NB331_366.out _;(with_reducible repeat (first|apply nB|apply dB|apply aB));refine blk_far ?_ NB331_366.out _;(with_reducible repeat (first|apply nB|apply dB|apply aB));refine blk_far ?_ NB331_366.out _;(with_reducible repeat (first|apply nB|apply dB|apply aB));exact BK331.out) hb);replace BK366:=mk0 (blk_below (g:=gb366) (o:=.cells #[.int .i64 t359,.int .i64 t360,.int .i64 t361,.slice Ao55 t362.length co55] 31 (0,0)) (by (with_reducible repeat (first|apply nB|apply dB|apply aB));refine blk_put (cs:=#[.int .i64 t359,.int .i64 t360,.int .i64 t361,.slice none 0 0]) ?_ 3 _ rfl;(with_reducible repeat (first|apply nB|apply dB|apply aB));refine blk_put (cs:=#[.int .i64 t359,.int .i64 t360,.int .i64 0,.slice none 0 0]) ?_ 2 _ rfl;(with_reducible repeat (first|apply nB|apply dB|apply aB));refine blk_put (cs:=#[.int .i64 t359,.int .i64 0,.int .i64 0,.slice none 0 0]) ?_ 1 _ rfl;(with_reducible repeat (first|apply nB|apply dB|apply aB));refine blk_put (cs:=#[.int .i64 0,.int .i64 0,.int .i64 0,.slice none 0 0]) ?_ 0 _ rfl;(with_reducible repeat (first|apply nB|apply dB|apply aB));exact BK366.out) hb);replace HB:=mk0 (kS HB.out hb);(try clear hb);(try clear ho0))|((with_reducible refine gate_dst (N:=14) rfl ?_);(try (refine gate_guard (by rfl) ?_;dsimp only));refine box_event ?hg (N:=14) ?hd (cs:=#[.int .i64 0,.slice none 0 0]) (t:=29) ?hr ?_;(case hd=>rfl);(case hg=>rfl);(case hr=>first|(go_simp;done)|(go_simp;rfl));intro gb372 hg w58 hbox hb;replace HO_8:=mk0 (bR HO_8.out hb);replace HO_9:=mk0 (bR HO_9.out hb);replace HO364:=mk0 (bR HO364.out hb);replace HO370:=mk0 (bR HO370.out hb);have BK372:=mk0 (hbox);have GW372:=mk0 ((by rw [hg];exact (kZ HB.out):w.heap.size ≤ gb372));have GE372:=mk0 ((by rw [hg];exact (kZ HB.out):w.heap.size ≤ gb372));replace HB:=mk0 (kS HB.out hb);have NB331_372:=mk0 ((by rw [hg];exact Nat.ne_of_lt (kL BK331.out):gb331 ≠ gb372));have NB372_331:=mk0 ((by rw [hg];exact Nat.ne_of_gt (kL BK331.out):gb372 ≠ gb331));replace BK331:=mk0 (kK BK331.out hb);have NB366_372:=mk0 ((by rw [hg];exact Nat.ne_of_lt (kL BK366.out):gb366 ≠ gb372));have NB372_366:=mk0 ((by rw [hg];exact Nat.ne_of_gt (kL BK366.out):gb372 ≠ gb366));replace BK366:=mk0 (kK BK366.out hb);clear hb hbox hg;have hnb59:=NB372_331.out;have hnc59:=NB331_372.out;have hnb60:=NB372_366.out;have hnc60:=NB366_372.out;obtain⟨hcz61_0,hcz61_1,hfz61_0,hfz61_1⟩:=cz2 BK372.out;obtain⟨Ao62,co62,eo62⟩:=Kd.R_slice HO370.out;subst eo62;obtain⟨hcz63_0,hcz63_1,hcz63_2,hcz63_3,hfz63_0,hfz63_1,hfz63_2,hfz63_3⟩:=cz4 BK366.out;obtain⟨hcz64_0,hcz64_1,hcz64_2,hcz64_3,hcz64_4,hcz64_5,hcz64_6,hcz64_7,hfz64_0,hfz64_1,hfz64_2,hfz64_3,hfz64_4,hfz64_5,hfz64_6,hfz64_7⟩:=cz8 BK331.out)))
         refine bodyPost_ret (results_ct rfl _ _ gb331 33 #[.int .i64 a1,.int .i64 (l0.length:Int),.int .i64 t359,.int .i64 t360,.int .i64 t361,.slice Ao55 t362.length co55,.int .i64 t367,.slice Ao62 t368.length co62] (0,0) _ rfl (by (with_reducible repeat (first|apply nB|apply dB|apply aB));refine blk_put (cs:=#[.int .i64 a1,.int .i64 (l0.length:Int),.int .i64 t359,.int .i64 t360,.int .i64 t361,.slice Ao55 t362.length co55,.int .i64 t367,.slice none 0 0]) ?_ 7 _ rfl;(with_reducible repeat (first|apply nB|apply dB|apply aB));refine blk_put (cs:=#[.int .i64 a1,.int .i64 (l0.length:Int),.int .i64 t359,.int .i64 t360,.int .i64 t361,.slice Ao55 t362.length co55,.int .i64 x332006_2,.slice none 0 0]) ?_ 6 _ rfl;(with_reducible repeat (first|apply nB|apply dB|apply aB));refine blk_put (cs:=#[.int .i64 a1,.int .i64 (l0.length:Int),.int .i64 t359,.int .i64 t360,.int .i64 t361,.slice none 0 0,.int .i64 x332006_2,.slice none 0 0]) ?_ 5 _ rfl;(with_reducible repeat (first|apply nB|apply dB|apply aB));refine blk_put (cs:=#[.int .i64 a1,.int .i64 (l0.length:Int),.int .i64 t359,.int .i64 t360,.int .i64 x332004_2,.slice none 0 0,.int .i64 x332006_2,.slice none 0 0]) ?_ 4 _ rfl;(with_reducible repeat (first|apply nB|apply dB|apply aB));refine blk_put (cs:=#[.int .i64 a1,.int .i64 (l0.length:Int),.int .i64 t359,.int .i64 x332003_2,.int .i64 x332004_2,.slice none 0 0,.int .i64 x332006_2,.slice none 0 0]) ?_ 3 _ rfl;(with_reducible repeat (first|apply nB|apply dB|apply aB));refine blk_put (cs:=#[.int .i64 a1,.int .i64 (l0.length:Int),.int .i64 x332002_2,.int .i64 x332003_2,.int .i64 x332004_2,.slice none 0 0,.int .i64 x332006_2,.slice none 0 0]) ?_ 2 _ rfl;(with_reducible repeat (first|apply nB|apply dB|apply aB));refine blk_put (cs:=#[.int .i64 a1,.int .i64 x332001_2,.int .i64 x332002_2,.int .i64 x332003_2,.int .i64 x332004_2,.slice none 0 0,.int .i64 x332006_2,.slice none 0 0]) ?_ 1 _ rfl;(with_reducible repeat (first|apply nB|apply dB|apply aB));refine blk_put (cs:=#[.int .i64 x332000_2,.int .i64 x332001_2,.int .i64 x332002_2,.int .i64 x332003_2,.int .i64 x332004_2,.slice none 0 0,.int .i64 x332006_2,.slice none 0 0]) ?_ 0 _ rfl;(with_reducible repeat (first|apply nB|apply dB|apply aB));refine blk_far ?_ NB331_372.out _;(with_reducible repeat (first|apply nB|apply dB|apply aB));refine blk_far ?_ NB331_372.out _;(with_reducible repeat (first|apply nB|apply dB|apply aB));exact BK331.out) Try.underlying33 rfl (by kernel_rfl)) rfl ?_
         exact⟨_,_,by first|rfl|(simp [errW_none,errW_some] <;> rfl)|(simp [*,errW_none,errW_some] <;> rfl),by (with_reducible repeat (first|apply aR|apply nR|apply dR));exact Kd.R_mono (Kd.R_far (p:=⟨gb331,7,none⟩) (Kd.R_far (p:=⟨gb331,6,none⟩) (Kd.R_far (p:=⟨gb331,5,none⟩) (Kd.R_far (p:=⟨gb331,4,none⟩) (Kd.R_far (p:=⟨gb331,3,none⟩) (Kd.R_far (p:=⟨gb331,2,none⟩) (Kd.R_far (p:=⟨gb331,1,none⟩) (Kd.R_far (p:=⟨gb331,0,none⟩) (Kd.R_far (p:=⟨gb372,1,none⟩) (Kd.R_far (p:=⟨gb372,0,none⟩) (Kd.R_types (Kd.R_types HO364.out BK372.out (by decide)) BK331.out (by decide)) (fun _ hk=>hk.1.2) (.int .i64 t367)) (fun _ hk=>hk.1.2) (.slice Ao62 t368.length co62)) (fun _ hk=>hk.2) (.int .i64 a1)) (fun _ hk=>hk.2) (.int .i64 (l0.length:Int))) (fun _ hk=>hk.2) (.int .i64 t359)) (fun _ hk=>hk.2) (.int .i64 t360)) (fun _ hk=>hk.2) (.int .i64 t361)) (fun _ hk=>hk.2) (.slice Ao55 t362.length co55)) (fun _ hk=>hk.2) (.int .i64 t367)) (fun _ hk=>hk.2) (.slice Ao62 t368.length co62)) (fun _ hk=>hk.1.1.2),by (with_reducible repeat (first|apply aR|apply nR|apply dR));exact Kd.R_mono (Kd.R_far (p:=⟨gb331,7,none⟩) (Kd.R_far (p:=⟨gb331,6,none⟩) (Kd.R_far (p:=⟨gb331,5,none⟩) (Kd.R_far (p:=⟨gb331,4,none⟩) (Kd.R_far (p:=⟨gb331,3,none⟩) (Kd.R_far (p:=⟨gb331,2,none⟩) (Kd.R_far (p:=⟨gb331,1,none⟩) (Kd.R_far (p:=⟨gb331,0,none⟩) (Kd.R_far (p:=⟨gb372,1,none⟩) (Kd.R_far (p:=⟨gb372,0,none⟩) (Kd.R_types (Kd.R_types HO370.out BK372.out (by decide)) BK331.out (by decide)) (fun _ hk=>hk.1.2) (.int .i64 t367)) (fun _ hk=>hk.1.2) (.slice Ao62 t368.length co62)) (fun _ hk=>hk.2) (.int .i64 a1)) (fun _ hk=>hk.2) (.int .i64 (l0.length:Int))) (fun _ hk=>hk.2) (.int .i64 t359)) (fun _ hk=>hk.2) (.int .i64 t360)) (fun _ hk=>hk.2) (.int .i64 t361)) (fun _ hk=>hk.2) (.slice Ao55 t362.length co55)) (fun _ hk=>hk.2) (.int .i64 t367)) (fun _ hk=>hk.2) (.slice Ao62 t368.length co62)) (fun _ hk=>hk.1.1.2),kB HB.out⟩
end Go.Proofs.Ytmohfjfgpeapfaa.QFnExactSparseRank
