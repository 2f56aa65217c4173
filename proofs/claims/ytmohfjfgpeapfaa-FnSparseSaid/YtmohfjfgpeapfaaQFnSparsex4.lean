-- A walk, made by walk.py, a program of this session's.
import Derived.Test.YtmohfjfgpeapfaaQFnSparsex0
import Derived.Test.YtmohfjfgpeapfaaQFnSparsex1
import Derived.Test.YtmohfjfgpeapfaaQFnSparsex2
import Derived.Test.YtmohfjfgpeapfaaQFnSparsex3
namespace Go.Proofs.Ytmohfjfgpeapfaa.QFnSparse
open Go.RowKit Go.Proofs.YtmohfjfgpeapfaaW.PrintWords Go.Proofs.YtmohfjfgpeapfaaW.PrintLast Go.Proofs.YtmohfjfgpeapfaaW.PrintMore
attribute [local go_sem] max2_int min2_int max_two min_two max_three min_three max_four min_four   -- for this text's walks alone
set_option linter.unusedVariables false
set_option linter.unusedSimpArgs false

/-! ### spec_SparseOf: function 9 -/
mutual
def spec_SparseOf.j0 : Nat → List Int → Int → Bool → Option (Int × Int × Int × Int × Int × List Int × Int × List Int × Bool)
 | 0, _, _, _ => none
 | k + 1, x0, x1, x26 => if x26 = true then (some (0, 0, 0, 0, 0, ([] : List Int), 0, ([] : List Int), false)) else (spec_SparseOf.l0 k x0 x1 0)
def spec_SparseOf.l0 : Nat → List Int → Int → Int → Option (Int × Int × Int × Int × Int × List Int × Int × List Int × Bool)
 | 0, _, _, _ => none
 | k + 1, x0, x1, x6 => if x6 < (x0.length : Int) then (if 0 ≤ x6 then (if (rd x0 x6) < 0 then (spec_SparseOf.j2 k x0 x1 x6 true) else (if (rd x0 x6) ≥ x1 then (spec_SparseOf.j2 k x0 x1 x6 true) else (if x6 > 0 then (if 0 ≤ (wrap64 (x6 - 1)) then (if (wrap64 (x6 - 1)) < (x0.length : Int) then (spec_SparseOf.j2 k x0 x1 x6 (decide ((rd x0 (wrap64 (x6 - 1))) > (rd x0 x6)))) else (none)) else (none)) else (spec_SparseOf.j2 k x0 x1 x6 false)))) else (none)) else ((spec_l03Width.f k (x0.length : Int) x1).bind fun t218 => ((spec_l02Pow.f k t218).bind fun t219 => (spec_SparseOf.l1 k x0 x1 t219 (([] : List Int)) (([] : List Int)) 0 0)))
def spec_SparseOf.j2 : Nat → List Int → Int → Int → Bool → Option (Int × Int × Int × Int × Int × List Int × Int × List Int × Bool)
 | 0, _, _, _, _ => none
 | k + 1, x0, x1, x6, x62 => if x62 = true then (some (0, 0, 0, 0, 0, ([] : List Int), 0, ([] : List Int), false)) else (spec_SparseOf.l0 k x0 x1 (wrap64 (x6 + 1)))
def spec_SparseOf.l1 : Nat → List Int → Int → Int → List Int → List Int → Int → Int → Option (Int × Int × Int × Int × Int × List Int × Int × List Int × Bool)
 | 0, _, _, _, _, _, _, _ => none
 | k + 1, x0, x1, x7, x8, x9, x10, x11 => if x7 = 0 then (none) else (if x11 ≤ (wrap64 (Int.tdiv x1 x7)) then (spec_SparseOf.j4 k x0 x1 x7 x8 x9 x10 x11 (decide ((x9.length : Int) ≤ 5000))) else (spec_SparseOf.j4 k x0 x1 x7 x8 x9 x10 x11 false))
def spec_SparseOf.j4 : Nat → List Int → Int → Int → List Int → List Int → Int → Int → Bool → Option (Int × Int × Int × Int × Int × List Int × Int × List Int × Bool)
 | 0, _, _, _, _, _, _, _, _ => none
 | k + 1, x0, x1, x7, x8, x9, x10, x11, x80 => if x80 = true then (spec_SparseOf.l2 k x0 x1 x7 x8 x9 x10 x11) else ((spec_l03Width.f k (x0.length : Int) x1).bind fun t240 => ((spec_PackOf.f k x8 t240).bind fun bt241 => ((spec_BitsOf.f k x9).bind fun bt249 => (if bt241.2.2.2.2 = true then (if bt249.2.2 = true then (some (x1, (x0.length : Int), bt241.1, bt241.2.1, bt241.2.2.1, bt241.2.2.2.1, bt249.1, bt249.2.1, true)) else (some (0, 0, 0, 0, 0, ([] : List Int), 0, ([] : List Int), false))) else (some (0, 0, 0, 0, 0, ([] : List Int), 0, ([] : List Int), false))))))
def spec_SparseOf.l2 : Nat → List Int → Int → Int → List Int → List Int → Int → Int → Option (Int × Int × Int × Int × Int × List Int × Int × List Int × Bool)
 | 0, _, _, _, _, _, _, _ => none
 | k + 1, x0, x1, x7, x8, x9, x10, x11 => if x10 < (x0.length : Int) then (if 0 ≤ x10 then (if x7 = 0 then (none) else (if (wrap64 (Int.tdiv (rd x0 x10) x7)) = x11 then (if x8.length < 17592186044416 then (if x9.length < 17592186044416 then (spec_SparseOf.l2 k x0 x1 x7 (x8 ++ [Int.tmod (rd x0 x10) x7]) (x9 ++ [1]) (wrap64 (x10 + 1)) x11) else (none)) else (none)) else (if x9.length < 17592186044416 then (spec_SparseOf.l1 k x0 x1 x7 x8 (x9 ++ [0]) x10 (wrap64 (x11 + 1))) else (none)))) else (none)) else (if x9.length < 17592186044416 then (spec_SparseOf.l1 k x0 x1 x7 x8 (x9 ++ [0]) x10 (wrap64 (x11 + 1))) else (none))
end
def spec_SparseOf.f (k : Nat) (l0 : List Int) (a1 : Int) : Option (Int × Int × Int × Int × Int × List Int × Int × List Int × Bool) := if a1 < 0 then (spec_SparseOf.j0 k l0 a1 true) else (if a1 > 1000000 then (spec_SparseOf.j0 k l0 a1 true) else (spec_SparseOf.j0 k l0 a1 (decide ((l0.length : Int) > 5000))))
theorem spec_SparseOf.mono_l : ∀ k, (∀ y0 y1 y2, LeO (spec_SparseOf.j0 k y0 y1 y2) (spec_SparseOf.j0 (k + 1) y0 y1 y2)) ∧ (∀ y0 y1 y2, LeO (spec_SparseOf.l0 k y0 y1 y2) (spec_SparseOf.l0 (k + 1) y0 y1 y2)) ∧ (∀ y0 y1 y2 y3, LeO (spec_SparseOf.j2 k y0 y1 y2 y3) (spec_SparseOf.j2 (k + 1) y0 y1 y2 y3)) ∧ (∀ y0 y1 y2 y3 y4 y5 y6, LeO (spec_SparseOf.l1 k y0 y1 y2 y3 y4 y5 y6) (spec_SparseOf.l1 (k + 1) y0 y1 y2 y3 y4 y5 y6)) ∧ (∀ y0 y1 y2 y3 y4 y5 y6 y7, LeO (spec_SparseOf.j4 k y0 y1 y2 y3 y4 y5 y6 y7) (spec_SparseOf.j4 (k + 1) y0 y1 y2 y3 y4 y5 y6 y7)) ∧ (∀ y0 y1 y2 y3 y4 y5 y6, LeO (spec_SparseOf.l2 k y0 y1 y2 y3 y4 y5 y6) (spec_SparseOf.l2 (k + 1) y0 y1 y2 y3 y4 y5 y6))
 | 0 => ⟨fun _ _ _ r h => by simp [spec_SparseOf.j0] at h, fun _ _ _ r h => by simp [spec_SparseOf.l0] at h, fun _ _ _ _ r h => by simp [spec_SparseOf.j2] at h, fun _ _ _ _ _ _ _ r h => by simp [spec_SparseOf.l1] at h, fun _ _ _ _ _ _ _ _ r h => by simp [spec_SparseOf.j4] at h, fun _ _ _ _ _ _ _ r h => by simp [spec_SparseOf.l2] at h⟩
 | k + 1 => by
  obtain ⟨ih0, ih1, ih2, ih3, ih4, ih5⟩ := spec_SparseOf.mono_l k
  refine ⟨?_, ?_, ?_, ?_, ?_, ?_⟩
  ·intro y0 y1 y2
   unfold spec_SparseOf.j0
   repeat' first|(with_reducible first|exact ih0 _ _ _|exact ih1 _ _ _|exact ih2 _ _ _ _|exact ih3 _ _ _ _ _ _ _|exact ih4 _ _ _ _ _ _ _ _|exact ih5 _ _ _ _ _ _ _|exact spec_BitsOf.mono _ _|exact spec_PackOf.mono _ _ _|exact spec_l02Pow.mono _ _|exact spec_l03Width.mono _ _ _|exact LeO.refl _|exact LeO.none _|refine LeO.ite ?_ ?_|refine LeO.bind ?_ (fun _ => ?_))|exact LeO.none _|refine LeO.ite ?_ ?_|refine LeO.bind ?_ (fun _ => ?_)
  ·intro y0 y1 y2
   unfold spec_SparseOf.l0
   repeat' first|(with_reducible first|exact ih0 _ _ _|exact ih1 _ _ _|exact ih2 _ _ _ _|exact ih3 _ _ _ _ _ _ _|exact ih4 _ _ _ _ _ _ _ _|exact ih5 _ _ _ _ _ _ _|exact spec_BitsOf.mono _ _|exact spec_PackOf.mono _ _ _|exact spec_l02Pow.mono _ _|exact spec_l03Width.mono _ _ _|exact LeO.refl _|exact LeO.none _|refine LeO.ite ?_ ?_|refine LeO.bind ?_ (fun _ => ?_))|exact LeO.none _|refine LeO.ite ?_ ?_|refine LeO.bind ?_ (fun _ => ?_)
  ·intro y0 y1 y2 y3
   unfold spec_SparseOf.j2
   repeat' first|(with_reducible first|exact ih0 _ _ _|exact ih1 _ _ _|exact ih2 _ _ _ _|exact ih3 _ _ _ _ _ _ _|exact ih4 _ _ _ _ _ _ _ _|exact ih5 _ _ _ _ _ _ _|exact spec_BitsOf.mono _ _|exact spec_PackOf.mono _ _ _|exact spec_l02Pow.mono _ _|exact spec_l03Width.mono _ _ _|exact LeO.refl _|exact LeO.none _|refine LeO.ite ?_ ?_|refine LeO.bind ?_ (fun _ => ?_))|exact LeO.none _|refine LeO.ite ?_ ?_|refine LeO.bind ?_ (fun _ => ?_)
  ·intro y0 y1 y2 y3 y4 y5 y6
   unfold spec_SparseOf.l1
   repeat' first|(with_reducible first|exact ih0 _ _ _|exact ih1 _ _ _|exact ih2 _ _ _ _|exact ih3 _ _ _ _ _ _ _|exact ih4 _ _ _ _ _ _ _ _|exact ih5 _ _ _ _ _ _ _|exact spec_BitsOf.mono _ _|exact spec_PackOf.mono _ _ _|exact spec_l02Pow.mono _ _|exact spec_l03Width.mono _ _ _|exact LeO.refl _|exact LeO.none _|refine LeO.ite ?_ ?_|refine LeO.bind ?_ (fun _ => ?_))|exact LeO.none _|refine LeO.ite ?_ ?_|refine LeO.bind ?_ (fun _ => ?_)
  ·intro y0 y1 y2 y3 y4 y5 y6 y7
   unfold spec_SparseOf.j4
   repeat' first|(with_reducible first|exact ih0 _ _ _|exact ih1 _ _ _|exact ih2 _ _ _ _|exact ih3 _ _ _ _ _ _ _|exact ih4 _ _ _ _ _ _ _ _|exact ih5 _ _ _ _ _ _ _|exact spec_BitsOf.mono _ _|exact spec_PackOf.mono _ _ _|exact spec_l02Pow.mono _ _|exact spec_l03Width.mono _ _ _|exact LeO.refl _|exact LeO.none _|refine LeO.ite ?_ ?_|refine LeO.bind ?_ (fun _ => ?_))|exact LeO.none _|refine LeO.ite ?_ ?_|refine LeO.bind ?_ (fun _ => ?_)
  ·intro y0 y1 y2 y3 y4 y5 y6
   unfold spec_SparseOf.l2
   repeat' first|(with_reducible first|exact ih0 _ _ _|exact ih1 _ _ _|exact ih2 _ _ _ _|exact ih3 _ _ _ _ _ _ _|exact ih4 _ _ _ _ _ _ _ _|exact ih5 _ _ _ _ _ _ _|exact spec_BitsOf.mono _ _|exact spec_PackOf.mono _ _ _|exact spec_l02Pow.mono _ _|exact spec_l03Width.mono _ _ _|exact LeO.refl _|exact LeO.none _|refine LeO.ite ?_ ?_|refine LeO.bind ?_ (fun _ => ?_))|exact LeO.none _|refine LeO.ite ?_ ?_|refine LeO.bind ?_ (fun _ => ?_)
theorem spec_SparseOf.mono : ∀ a0 a1 k, LeO (spec_SparseOf.f k a0 a1) (spec_SparseOf.f (k + 1) a0 a1) := by
 intro a0 a1 k
 obtain ⟨ih0, ih1, ih2, ih3, ih4, ih5⟩ := spec_SparseOf.mono_l k
 unfold spec_SparseOf.f
 repeat' first|(with_reducible first|exact ih0 _ _ _|exact ih1 _ _ _|exact ih2 _ _ _ _|exact ih3 _ _ _ _ _ _ _|exact ih4 _ _ _ _ _ _ _ _|exact ih5 _ _ _ _ _ _ _|exact spec_BitsOf.mono _ _|exact spec_PackOf.mono _ _ _|exact spec_l02Pow.mono _ _|exact spec_l03Width.mono _ _ _|exact LeO.refl _|exact LeO.none _|refine LeO.ite ?_ ?_|refine LeO.bind ?_ (fun _ => ?_))|exact LeO.none _|refine LeO.ite ?_ ?_|refine LeO.bind ?_ (fun _ => ?_)
set_option maxHeartbeats 8000000 in
set_option maxRecDepth 100000 in
theorem spec_SparseOf.calls (k : Nat) (A0 : Option Addr) (c0 : Nat) (l0 : List Int) (a1 : Int) (r1 : Int) (r2 : Int) (r3 : Int) (r4 : Int) (r5 : Int) (r6 : List Int) (r7 : Int) (r8 : List Int) (r9 : Bool) (w : World) (hr0 : Kd.C (Kd.int .i64) w A0 l0.length l0) (hc0 : l0.length ≤ c0) (h : spec_SparseOf.f k l0 a1 = some (r1, r2, r3, r4, r5, r6, r7, r8, r9)) :
  Calls Try.prog 9 #[.slice A0 l0.length c0, .int .i64 a1] w fun e w' => ∃ v5_ v7_ : Value, e = .returned (.tuple #[.agg #[.int .i64 r1, .int .i64 r2, .int .i64 r3, .int .i64 r4, .int .i64 r5, v5_, .int .i64 r7, v7_], .bool r9]) ∧ Kd.R (Kd.int .u64) 78 w' w.heap.size (fun k_ => some k_ ≠ (v7_ : Value).ownBlock) v5_ r6 ∧ Kd.R (Kd.int .u64) 78 w' w.heap.size (fun k_ => some k_ ≠ (v5_ : Value).ownBlock) v7_ r8 ∧ Below w.heap.size w w' := by
 have hu33:=Try.underlying33
 have hu31:=Try.underlying31
 have hu29:=Try.underlying29
 have HR0:=mk0 hr0
 have HC0:=mk0 hc0
 clear hr0 hc0
 have HB:=mk0 (Below.refl w.heap.size w)
 have H:(if a1 < 0 then (spec_SparseOf.j0 k l0 a1 true) else (if a1 > 1000000 then (spec_SparseOf.j0 k l0 a1 true) else (spec_SparseOf.j0 k l0 a1 (decide ((l0.length:Int) > 5000))))) = some (r1,r2,r3,r4,r5,r6,r7,r8,r9):=h
 clear h
 have HC3:=mk0 H
 clear H
 go_enter Try.func9,Try.ntmps9
 go_upto_region 1 with (first|((with_reducible refine gate_dst (N:=4) rfl ?_);(try (refine gate_guard (by rfl) ?_;dsimp only));refine box_event ?hg (N:=4) ?hd (cs:=#[.int .i64 0,.int .i64 0,.int .i64 0,.int .i64 0,.int .i64 0,.slice none 0 0,.int .i64 0,.slice none 0 0]) (t:=33) ?hr ?_;(case hd=>rfl);(case hg=>rfl);(case hr=>first|(go_simp;done)|(go_simp;rfl));intro gb213 hg w4 hbox hb;have BK213:=mk0 (hbox);have GW213:=mk0 ((by rw [hg];exact (kZ HB.out):w.heap.size ≤ gb213));have GE213:=mk0 ((by rw [hg];exact (kZ HB.out):w.heap.size ≤ gb213));replace HB:=mk0 (kS HB.out hb);clear hb hbox hg))
 repeat (go_quiet (first|((with_reducible refine gate_dst (N:=4) rfl ?_);(try (refine gate_guard (by rfl) ?_;dsimp only));refine box_event ?hg (N:=4) ?hd (cs:=#[.int .i64 0,.int .i64 0,.int .i64 0,.int .i64 0,.int .i64 0,.slice none 0 0,.int .i64 0,.slice none 0 0]) (t:=33) ?hr ?_;(case hd=>rfl);(case hg=>rfl);(case hr=>first|(go_simp;done)|(go_simp;rfl));intro gb213 hg w4 hbox hb;have BK213:=mk0 (hbox);have GW213:=mk0 ((by rw [hg];exact (kZ HB.out):w.heap.size ≤ gb213));have GE213:=mk0 ((by rw [hg];exact (kZ HB.out):w.heap.size ≤ gb213));replace HB:=mk0 (kS HB.out hb);clear hb hbox hg));go_upto_region 1 with (first|((with_reducible refine gate_dst (N:=4) rfl ?_);(try (refine gate_guard (by rfl) ?_;dsimp only));refine box_event ?hg (N:=4) ?hd (cs:=#[.int .i64 0,.int .i64 0,.int .i64 0,.int .i64 0,.int .i64 0,.slice none 0 0,.int .i64 0,.slice none 0 0]) (t:=33) ?hr ?_;(case hd=>rfl);(case hg=>rfl);(case hr=>first|(go_simp;done)|(go_simp;rfl));intro gb213 hg w4 hbox hb;have BK213:=mk0 (hbox);have GW213:=mk0 ((by rw [hg];exact (kZ HB.out):w.heap.size ≤ gb213));have GE213:=mk0 ((by rw [hg];exact (kZ HB.out):w.heap.size ≤ gb213));replace HB:=mk0 (kS HB.out hb);clear hb hbox hg)))
 (try simp only [Act.put,sA,sO,sS])
 go_cut [26] (fun v26 wc=>∃ (kq:Nat) (x26_2:Bool),v26 = .bool x26_2 ∧ Aside0 (spec_SparseOf.j0 kq l0 a1 x26_2 = some (r1,r2,r3,r4,r5,r6,r7,r8,r9)) ∧ Aside0 (kq ≤ k) ∧ Aside0 (wc.heap[gb213]? = some (.cells #[.int .i64 0,.int .i64 0,.int .i64 0,.int .i64 0,.int .i64 0,(.slice none 0 0),.int .i64 0,(.slice none 0 0)] 33 (0,0))) ∧ Aside0 (Below w.heap.size w wc))
 case first =>
  have H:=HC3.out
  clear HC3
  by_cases c5:a1 < 0
  ·rw [if_pos c5] at H
   have c5b0:decide (a1 < 0) = true:=decide_eq_true c5
   clear c5
   (first|rw [c5b0]|(simp only [i64_w,i32_w];rw [c5b0])|skip)
   have H':=mk0 H
   clear H
   go_wp2
   repeat (go_quiet (fail);try go_wp2)
   go_meet
   case rel=>exact⟨_,(true),(by first|rfl|(simp;done)|(simp [*];done)),H',⟨by first|omega|exact Nat.le_refl _⟩,⟨kN BK213.out⟩,⟨kB HB.out⟩⟩
  rw [if_neg c5] at H
  have c5b0:decide (a1 < 0) = false:=decide_eq_false c5
  clear c5
  (first|rw [c5b0]|(simp only [i64_w,i32_w];rw [c5b0])|skip)
  by_cases c6:a1 > 1000000
  ·rw [if_pos c6] at H
   have c6b0:decide (1000000 < a1) = true:=decide_eq_true c6
   clear c6
   have H':=mk0 H
   clear H
   go_wp2
   repeat (go_quiet (fail);try go_wp2)
   go_meet
   case rel=>exact⟨_,(true),(by first|rfl|(simp;done)|(simp [*];done)),H',⟨by first|omega|exact Nat.le_refl _⟩,⟨kN BK213.out⟩,⟨kB HB.out⟩⟩
  rw [if_neg c6] at H
  have c6b0:decide (1000000 < a1) = false:=decide_eq_false c6
  clear c6
  have H':=mk0 H
  clear H
  go_wp2
  repeat (go_quiet (fail);try go_wp2)
  go_meet
  case rel=>exact⟨_,(decide ((l0.length:Int) > 5000)),(by first|rfl|(simp;done)|(simp [*];done)),H',⟨by first|omega|exact Nat.le_refl _⟩,⟨kN BK213.out⟩,⟨kB HB.out⟩⟩
 case rest =>
  clear HC3
  try clear p2
  try clear c5
  try clear c5b0
  try clear c6
  try clear c6b0
  obtain⟨kq,x26_2,rfl,HA,HJ2,BK213,HB⟩:=hcut
  cases kq with
  | zero=>exact absurd HA.out (by simp [spec_SparseOf.j0])
  | succ kj2 =>
   have H:=HA.out
   clear HA
   simp only [spec_SparseOf.j0] at H
   by_cases c7:x26_2 = true
   ·subst c7
    have H1:(some (0,0,0,0,0,([]:List Int),0,([]:List Int),false)) = some (r1,r2,r3,r4,r5,r6,r7,r8,r9):=by rw [if_pos rfl] at H;exact H
    clear H
    have H:=H1
    clear H1
    simp only [Option.some.injEq,Prod.mk.injEq] at H
    obtain⟨rfl,rfl,rfl,rfl,rfl,rfl,rfl,rfl,rfl⟩:=H
    obtain⟨hcz8_0,hcz8_1,hcz8_2,hcz8_3,hcz8_4,hcz8_5,hcz8_6,hcz8_7,hfz8_0,hfz8_1,hfz8_2,hfz8_3,hfz8_4,hfz8_5,hfz8_6,hfz8_7⟩:=cz8 BK213.out
    go_wp2
    repeat (go_quiet (fail);try go_wp2)
    refine bodyPost_ret (results_ct rfl _ _ gb213 33 #[.int .i64 0,.int .i64 0,.int .i64 0,.int .i64 0,.int .i64 0,.slice none 0 0,.int .i64 0,.slice none 0 0] (0,0) _ rfl (by (with_reducible repeat (first|apply nB|apply dB|apply aB));refine blk_put (cs:=#[.int .i64 0,.int .i64 0,.int .i64 0,.int .i64 0,.int .i64 0,.slice none 0 0,.int .i64 0,.slice none 0 0]) ?_ 7 _ rfl;(with_reducible repeat (first|apply nB|apply dB|apply aB));refine blk_put (cs:=#[.int .i64 0,.int .i64 0,.int .i64 0,.int .i64 0,.int .i64 0,.slice none 0 0,.int .i64 0,.slice none 0 0]) ?_ 6 _ rfl;(with_reducible repeat (first|apply nB|apply dB|apply aB));refine blk_put (cs:=#[.int .i64 0,.int .i64 0,.int .i64 0,.int .i64 0,.int .i64 0,.slice none 0 0,.int .i64 0,.slice none 0 0]) ?_ 5 _ rfl;(with_reducible repeat (first|apply nB|apply dB|apply aB));refine blk_put (cs:=#[.int .i64 0,.int .i64 0,.int .i64 0,.int .i64 0,.int .i64 0,.slice none 0 0,.int .i64 0,.slice none 0 0]) ?_ 4 _ rfl;(with_reducible repeat (first|apply nB|apply dB|apply aB));refine blk_put (cs:=#[.int .i64 0,.int .i64 0,.int .i64 0,.int .i64 0,.int .i64 0,.slice none 0 0,.int .i64 0,.slice none 0 0]) ?_ 3 _ rfl;(with_reducible repeat (first|apply nB|apply dB|apply aB));refine blk_put (cs:=#[.int .i64 0,.int .i64 0,.int .i64 0,.int .i64 0,.int .i64 0,.slice none 0 0,.int .i64 0,.slice none 0 0]) ?_ 2 _ rfl;(with_reducible repeat (first|apply nB|apply dB|apply aB));refine blk_put (cs:=#[.int .i64 0,.int .i64 0,.int .i64 0,.int .i64 0,.int .i64 0,.slice none 0 0,.int .i64 0,.slice none 0 0]) ?_ 1 _ rfl;(with_reducible repeat (first|apply nB|apply dB|apply aB));refine blk_put (cs:=#[.int .i64 0,.int .i64 0,.int .i64 0,.int .i64 0,.int .i64 0,.slice none 0 0,.int .i64 0,.slice none 0 0]) ?_ 0 _ rfl;(with_reducible repeat (first|apply nB|apply dB|apply aB));exact BK213.out) Try.underlying33 rfl (by kernel_rfl)) rfl ?_
    exact⟨_,_,by first|rfl|(simp [errW_none,errW_some] <;> rfl)|(simp [*,errW_none,errW_some] <;> rfl),by first|exact Kd.R_nil _ _ _ _ _|exact Kd.N_nil _ _ _ _ _|exact Kd.V_nil _ _ _ _ _|exact Kd.Q_nil _ _ _ _ _|exact Kd.S_nil _ _ _ _ _,by first|exact Kd.R_nil _ _ _ _ _|exact Kd.N_nil _ _ _ _ _|exact Kd.V_nil _ _ _ _ _|exact Kd.Q_nil _ _ _ _ _|exact Kd.S_nil _ _ _ _ _,kB HB.out⟩
   replace c7:=Bool.eq_false_iff.mpr c7
   subst c7
   have H1:(spec_SparseOf.l0 kj2 l0 a1 0) = some (r1,r2,r3,r4,r5,r6,r7,r8,r9):=by rw [if_neg (show ¬ (false = true) by decide)] at H;exact H
   clear H
   have H:=H1
   clear H1
   have H':=mk0 H
   clear H
   go_wp2
   repeat (go_quiet (fail);try go_wp2)
   go_loopg [6] kj2 (fun kq v6 w'=>∃ (x6_2:Int) (x214000_2:Int) (x214001_2:Int) (x214002_2:Int) (x214003_2:Int) (x214004_2:Int) (x214006_2:Int),v6 = .int .i64 x6_2 ∧ Aside0 (spec_SparseOf.l0 kq l0 a1 x6_2 = some (r1,r2,r3,r4,r5,r6,r7,r8,r9)) ∧ Aside0 (kq ≤ kj2) ∧ Aside0 (w'.heap[gb213]? = some (.cells #[.int .i64 x214000_2,.int .i64 x214001_2,.int .i64 x214002_2,.int .i64 x214003_2,.int .i64 x214004_2,(.slice none 0 0),.int .i64 x214006_2,(.slice none 0 0)] 33 (0,0))) ∧ Aside0 (Below w.heap.size w w'))
   case atStart=>exact⟨(0),(0),(0),(0),(0),(0),(0),(by first|rfl|(simp;done)|(simp [*];done)),H',⟨Nat.le_refl _⟩,⟨kN BK213.out⟩,⟨kB HB.out⟩⟩
   case round =>
    clear H'
    try clear p2
    try clear c5
    try clear c5b0
    try clear c6
    try clear c6b0
    try clear c7
    try clear hcz8_0
    try clear hcz8_1
    try clear hcz8_2
    try clear hcz8_3
    try clear hcz8_4
    try clear hcz8_5
    try clear hcz8_6
    try clear hcz8_7
    try clear hfz8_0
    try clear hfz8_1
    try clear hfz8_2
    try clear hfz8_3
    try clear hfz8_4
    try clear hfz8_5
    try clear hfz8_6
    try clear hfz8_7
    try clear p2
    obtain⟨x6_2,x214000_2,x214001_2,x214002_2,x214003_2,x214004_2,x214006_2,rfl,HA,HK2,BK213,HB⟩:=hrel
    cases gk with
    | zero=>exact absurd HA.out (by simp [spec_SparseOf.l0])
    | succ k2 =>
     have H:=HA.out
     clear HA
     simp only [spec_SparseOf.l0] at H
     by_cases c9:x6_2 < (l0.length:Int)
     ·rw [if_pos c9] at H
      have c9b0:decide (x6_2 < (l0.length:Int)) = true:=decide_eq_true c9
      clear c9
      have HC10:=mk0 H
      clear H
      go_upto_region 6 with (fail)
      repeat (go_quiet (fail);go_upto_region 6 with (fail))
      go_cut [62] (fun v62 wc=>∃ (kq:Nat) (x62_9:Bool),v62 = .bool x62_9 ∧ Aside0 (spec_SparseOf.j2 kq l0 a1 x6_2 x62_9 = some (r1,r2,r3,r4,r5,r6,r7,r8,r9)) ∧ Aside0 (kq ≤ k2) ∧ Aside0 (wc.heap[gb213]? = some (.cells #[.int .i64 x214000_2,.int .i64 x214001_2,.int .i64 x214002_2,.int .i64 x214003_2,.int .i64 x214004_2,(.slice none 0 0),.int .i64 x214006_2,(.slice none 0 0)] 33 (0,0))) ∧ Aside0 (Below w.heap.size w wc))
      case first =>
       have H:=HC10.out
       clear HC10
       by_cases c11:0 ≤ x6_2
       rotate_left
       ·rw [if_neg c11] at H
        exact absurd H (by simp)
       rw [if_pos c11] at H
       have c11b0:decide (0 ≤ x6_2) = true:=decide_eq_true c11
       clear c11
       (first|rw [c11b0]|(simp only [i64_w,i32_w];rw [c11b0])|skip)
       by_cases c12:(rd l0 x6_2) < 0
       ·rw [if_pos c12] at H
        have c12b0:decide ((rd l0 x6_2) < 0) = true:=decide_eq_true c12
        clear c12
        have H':=mk0 H
        clear H
        have p214:0 ≤ (x6_2:Int):=of_decide_eq_true (by first|(with_reducible assumption)|assumption)
        have q214:x6_2 < (l0.length:Int):=of_decide_eq_true (by first|(with_reducible assumption)|assumption)
        obtain⟨ad214,e214,hx214_0⟩:=Kd.at_int HR0.out x6_2 p214 q214
        cases e214
        replace hx214_0:=(HB.out.cell (World.block_lt_of_cell? w _ hx214_0)).trans hx214_0
        replace p214:=eq_true p214
        replace q214:=eq_true q214
        go_wp2
        repeat (go_quiet (fail);try go_wp2)
        go_meet
        case rel=>exact⟨_,(true),(by first|rfl|(simp;done)|(simp [*];done)),H',⟨by have:=HJ2.out;have:=HK2.out;first|omega|exact Nat.le_refl _⟩,⟨kN BK213.out⟩,⟨kB HB.out⟩⟩
       rw [if_neg c12] at H
       have c12b0:decide ((rd l0 x6_2) < 0) = false:=decide_eq_false c12
       clear c12
       by_cases c13:(rd l0 x6_2) ≥ a1
       ·rw [if_pos c13] at H
        have c13b0:decide (a1 ≤ (rd l0 x6_2)) = true:=decide_eq_true c13
        clear c13
        have H':=mk0 H
        clear H
        have p214:0 ≤ (x6_2:Int):=of_decide_eq_true (by first|(with_reducible assumption)|assumption)
        have q214:x6_2 < (l0.length:Int):=of_decide_eq_true (by first|(with_reducible assumption)|assumption)
        obtain⟨ad214,e214,hx214_0⟩:=Kd.at_int HR0.out x6_2 p214 q214
        cases e214
        replace hx214_0:=(HB.out.cell (World.block_lt_of_cell? w _ hx214_0)).trans hx214_0
        replace p214:=eq_true p214
        replace q214:=eq_true q214
        have p215:0 ≤ (x6_2:Int):=of_decide_eq_true (by first|(with_reducible assumption)|assumption)
        have q215:x6_2 < (l0.length:Int):=of_decide_eq_true (by first|(with_reducible assumption)|assumption)
        obtain⟨ad215,e215,hx215_0⟩:=Kd.at_int HR0.out x6_2 p215 q215
        obtain rfl:ad214 = ad215:=(by injection e215)
        replace hx215_0:=(HB.out.cell (World.block_lt_of_cell? w _ hx215_0)).trans hx215_0
        replace p215:=eq_true p215
        replace q215:=eq_true q215
        go_wp2
        repeat (go_quiet (fail);try go_wp2)
        go_meet
        case rel=>exact⟨_,(true),(by first|rfl|(simp;done)|(simp [*];done)),H',⟨by have:=HJ2.out;have:=HK2.out;first|omega|exact Nat.le_refl _⟩,⟨kN BK213.out⟩,⟨kB HB.out⟩⟩
       rw [if_neg c13] at H
       have c13b0:decide (a1 ≤ (rd l0 x6_2)) = false:=decide_eq_false c13
       clear c13
       by_cases c14:x6_2 > 0
       rotate_left
       ·rw [if_neg c14] at H
        have c14b0:decide (0 < x6_2) = false:=decide_eq_false c14
        clear c14
        have H':=mk0 H
        clear H
        have p214:0 ≤ (x6_2:Int):=of_decide_eq_true (by first|(with_reducible assumption)|assumption)
        have q214:x6_2 < (l0.length:Int):=of_decide_eq_true (by first|(with_reducible assumption)|assumption)
        obtain⟨ad214,e214,hx214_0⟩:=Kd.at_int HR0.out x6_2 p214 q214
        cases e214
        replace hx214_0:=(HB.out.cell (World.block_lt_of_cell? w _ hx214_0)).trans hx214_0
        replace p214:=eq_true p214
        replace q214:=eq_true q214
        have p215:0 ≤ (x6_2:Int):=of_decide_eq_true (by first|(with_reducible assumption)|assumption)
        have q215:x6_2 < (l0.length:Int):=of_decide_eq_true (by first|(with_reducible assumption)|assumption)
        obtain⟨ad215,e215,hx215_0⟩:=Kd.at_int HR0.out x6_2 p215 q215
        obtain rfl:ad214 = ad215:=(by injection e215)
        replace hx215_0:=(HB.out.cell (World.block_lt_of_cell? w _ hx215_0)).trans hx215_0
        replace p215:=eq_true p215
        replace q215:=eq_true q215
        go_wp2
        repeat (go_quiet (fail);try go_wp2)
        go_meet
        case rel=>exact⟨_,(false),(by first|rfl|(simp;done)|(simp [*];done)),H',⟨by have:=HJ2.out;have:=HK2.out;first|omega|exact Nat.le_refl _⟩,⟨kN BK213.out⟩,⟨kB HB.out⟩⟩
       rw [if_pos c14] at H
       have c14b0:decide (0 < x6_2) = true:=decide_eq_true c14
       clear c14
       obtain⟨ji15,hji15⟩:∃ j_:Int,(wrap64 (x6_2 - 1)) = j_:=⟨_,rfl⟩
       replace H:(if 0 ≤ (ji15) then (if (ji15) < (l0.length:Int) then (spec_SparseOf.j2 k2 l0 a1 x6_2 (decide ((rd l0 (ji15)) > (rd l0 x6_2)))) else (none)) else (none)) = some (r1,r2,r3,r4,r5,r6,r7,r8,r9):=by first|(rw [hji15] at H;exact H)|(simp only [hji15] at H ⊢;exact H)
       have hji15w:(IntKind.i64.wrap (x6_2 - 1)) = ji15:=(i64_w _).trans hji15
       by_cases c16:0 ≤ (ji15)
       rotate_left
       ·rw [if_neg c16] at H
        exact absurd H (by simp)
       rw [if_pos c16] at H
       have c16b0:decide (0 ≤ (ji15)) = true:=decide_eq_true c16
       clear c16
       by_cases c17:(ji15) < (l0.length:Int)
       rotate_left
       ·rw [if_neg c17] at H
        exact absurd H (by simp)
       rw [if_pos c17] at H
       have c17b0:decide ((ji15) < (l0.length:Int)) = true:=decide_eq_true c17
       clear c17
       have H':=mk0 H
       clear H
       have p214:0 ≤ (x6_2:Int):=of_decide_eq_true (by first|(with_reducible assumption)|assumption)
       have q214:x6_2 < (l0.length:Int):=of_decide_eq_true (by first|(with_reducible assumption)|assumption)
       obtain⟨ad214,e214,hx214_0⟩:=Kd.at_int HR0.out x6_2 p214 q214
       cases e214
       replace hx214_0:=(HB.out.cell (World.block_lt_of_cell? w _ hx214_0)).trans hx214_0
       replace p214:=eq_true p214
       replace q214:=eq_true q214
       have p215:0 ≤ (x6_2:Int):=of_decide_eq_true (by first|(with_reducible assumption)|assumption)
       have q215:x6_2 < (l0.length:Int):=of_decide_eq_true (by first|(with_reducible assumption)|assumption)
       obtain⟨ad215,e215,hx215_0⟩:=Kd.at_int HR0.out x6_2 p215 q215
       obtain rfl:ad214 = ad215:=(by injection e215)
       replace hx215_0:=(HB.out.cell (World.block_lt_of_cell? w _ hx215_0)).trans hx215_0
       replace p215:=eq_true p215
       replace q215:=eq_true q215
       have p216:0 ≤ ((ji15):Int):=of_decide_eq_true (by first|(with_reducible assumption)|assumption)
       have q216:(ji15) < (l0.length:Int):=of_decide_eq_true (by first|(with_reducible assumption)|assumption)
       obtain⟨ad216,e216,hx216_0⟩:=Kd.at_int HR0.out (ji15) p216 q216
       obtain rfl:ad214 = ad216:=(by injection e216)
       replace hx216_0:=(HB.out.cell (World.block_lt_of_cell? w _ hx216_0)).trans hx216_0
       replace p216:=eq_true p216
       replace q216:=eq_true q216
       have p217:0 ≤ (x6_2:Int):=of_decide_eq_true (by first|(with_reducible assumption)|assumption)
       have q217:x6_2 < (l0.length:Int):=of_decide_eq_true (by first|(with_reducible assumption)|assumption)
       obtain⟨ad217,e217,hx217_0⟩:=Kd.at_int HR0.out x6_2 p217 q217
       obtain rfl:ad214 = ad217:=(by injection e217)
       replace hx217_0:=(HB.out.cell (World.block_lt_of_cell? w _ hx217_0)).trans hx217_0
       replace p217:=eq_true p217
       replace q217:=eq_true q217
       go_wp2
       repeat (go_quiet (fail);try go_wp2)
       go_meet
       case rel=>exact⟨_,(decide ((rd l0 (ji15)) > (rd l0 x6_2))),(by first|rfl|(simp;done)|(simp only [← hji15] <;> (first|rfl|simp))|(simp [*];done)),H',⟨by have:=HJ2.out;have:=HK2.out;first|omega|exact Nat.le_refl _⟩,⟨kN BK213.out⟩,⟨kB HB.out⟩⟩
      case rest =>
       clear HC10
       try clear c1
       try clear p2
       try clear q2
       try clear hx2
       try clear c5
       try clear c5b0
       try clear c6
       try clear c6b0
       try clear p6
       try clear c7
       try clear c9
       try clear c9b0
       try clear c11
       try clear c11b0
       try clear c12
       try clear c12b0
       try clear c13
       try clear c13b0
       try clear c14
       try clear c14b0
       try clear c16
       try clear c16b0
       try clear c17
       try clear c17b0
       try clear hcz8_0
       try clear hcz8_1
       try clear hcz8_2
       try clear hcz8_3
       try clear hcz8_4
       try clear hcz8_5
       try clear hcz8_6
       try clear hcz8_7
       try clear hfz8_0
       try clear hfz8_1
       try clear hfz8_2
       try clear hfz8_3
       try clear hfz8_4
       try clear hfz8_5
       try clear hfz8_6
       try clear hfz8_7
       try clear hx214_0
       try clear hx215_0
       try clear hx216_0
       try clear hx217_0
       try clear p2
       try clear p214
       try clear p215
       try clear p216
       try clear p217
       try clear q214
       try clear q215
       try clear q216
       try clear q217
       obtain⟨kq,x62_9,rfl,HA,HJ9,BK213,HB⟩:=hcut
       cases kq with
       | zero=>exact absurd HA.out (by simp [spec_SparseOf.j2])
       | succ kj9 =>
        have H:=HA.out
        clear HA
        simp only [spec_SparseOf.j2] at H
        by_cases c18:x62_9 = true
        rotate_left
        ·replace c18:=Bool.eq_false_iff.mpr c18
         subst c18
         have H1:(spec_SparseOf.l0 kj9 l0 a1 (wrap64 (x6_2 + 1))) = some (r1,r2,r3,r4,r5,r6,r7,r8,r9):=by rw [if_neg (show ¬ (false = true) by decide)] at H;exact H
         clear H
         have H:=H1
         clear H1
         have H':=mk0 H
         clear H
         go_wp2
         repeat (go_quiet (fail);try go_wp2)
         go_roundg kj9
         case measure=>have:=HJ2.out;have:=HK2.out;have:=HJ9.out;omega
         case rel=>exact⟨(wrap64 (x6_2 + 1)),(x214000_2),(x214001_2),(x214002_2),(x214003_2),(x214004_2),(x214006_2),(by first|rfl|(simp;done)|(simp [*];done)),H',⟨by have:=HJ2.out;have:=HK2.out;have:=HJ9.out;omega⟩,⟨kN BK213.out⟩,⟨kB HB.out⟩⟩
        subst c18
        have H1:(some (0,0,0,0,0,([]:List Int),0,([]:List Int),false)) = some (r1,r2,r3,r4,r5,r6,r7,r8,r9):=by rw [if_pos rfl] at H;exact H
        clear H
        have H:=H1
        clear H1
        simp only [Option.some.injEq,Prod.mk.injEq] at H
        obtain⟨rfl,rfl,rfl,rfl,rfl,rfl,rfl,rfl,rfl⟩:=H
        obtain⟨hcz19_0,hcz19_1,hcz19_2,hcz19_3,hcz19_4,hcz19_5,hcz19_6,hcz19_7,hfz19_0,hfz19_1,hfz19_2,hfz19_3,hfz19_4,hfz19_5,hfz19_6,hfz19_7⟩:=cz8 BK213.out
        go_wp2
        repeat (go_quiet (fail);try go_wp2)
        refine bodyPost_ret (results_ct rfl _ _ gb213 33 #[.int .i64 0,.int .i64 0,.int .i64 0,.int .i64 0,.int .i64 0,.slice none 0 0,.int .i64 0,.slice none 0 0] (0,0) _ rfl (by (with_reducible repeat (first|apply nB|apply dB|apply aB));refine blk_put (cs:=#[.int .i64 0,.int .i64 0,.int .i64 0,.int .i64 0,.int .i64 0,.slice none 0 0,.int .i64 0,.slice none 0 0]) ?_ 7 _ rfl;(with_reducible repeat (first|apply nB|apply dB|apply aB));refine blk_put (cs:=#[.int .i64 0,.int .i64 0,.int .i64 0,.int .i64 0,.int .i64 0,.slice none 0 0,.int .i64 x214006_2,.slice none 0 0]) ?_ 6 _ rfl;(with_reducible repeat (first|apply nB|apply dB|apply aB));refine blk_put (cs:=#[.int .i64 0,.int .i64 0,.int .i64 0,.int .i64 0,.int .i64 0,.slice none 0 0,.int .i64 x214006_2,.slice none 0 0]) ?_ 5 _ rfl;(with_reducible repeat (first|apply nB|apply dB|apply aB));refine blk_put (cs:=#[.int .i64 0,.int .i64 0,.int .i64 0,.int .i64 0,.int .i64 x214004_2,.slice none 0 0,.int .i64 x214006_2,.slice none 0 0]) ?_ 4 _ rfl;(with_reducible repeat (first|apply nB|apply dB|apply aB));refine blk_put (cs:=#[.int .i64 0,.int .i64 0,.int .i64 0,.int .i64 x214003_2,.int .i64 x214004_2,.slice none 0 0,.int .i64 x214006_2,.slice none 0 0]) ?_ 3 _ rfl;(with_reducible repeat (first|apply nB|apply dB|apply aB));refine blk_put (cs:=#[.int .i64 0,.int .i64 0,.int .i64 x214002_2,.int .i64 x214003_2,.int .i64 x214004_2,.slice none 0 0,.int .i64 x214006_2,.slice none 0 0]) ?_ 2 _ rfl;(with_reducible repeat (first|apply nB|apply dB|apply aB));refine blk_put (cs:=#[.int .i64 0,.int .i64 x214001_2,.int .i64 x214002_2,.int .i64 x214003_2,.int .i64 x214004_2,.slice none 0 0,.int .i64 x214006_2,.slice none 0 0]) ?_ 1 _ rfl;(with_reducible repeat (first|apply nB|apply dB|apply aB));refine blk_put (cs:=#[.int .i64 x214000_2,.int .i64 x214001_2,.int .i64 x214002_2,.int .i64 x214003_2,.int .i64 x214004_2,.slice none 0 0,.int .i64 x214006_2,.slice none 0 0]) ?_ 0 _ rfl;(with_reducible repeat (first|apply nB|apply dB|apply aB));exact BK213.out) Try.underlying33 rfl (by kernel_rfl)) rfl ?_
        exact⟨_,_,by first|rfl|(simp [errW_none,errW_some] <;> rfl)|(simp [*,errW_none,errW_some] <;> rfl),by first|exact Kd.R_nil _ _ _ _ _|exact Kd.N_nil _ _ _ _ _|exact Kd.V_nil _ _ _ _ _|exact Kd.Q_nil _ _ _ _ _|exact Kd.S_nil _ _ _ _ _,by first|exact Kd.R_nil _ _ _ _ _|exact Kd.N_nil _ _ _ _ _|exact Kd.V_nil _ _ _ _ _|exact Kd.Q_nil _ _ _ _ _|exact Kd.S_nil _ _ _ _ _,kB HB.out⟩
     rw [if_neg c9] at H
     have c9b0:decide (x6_2 < (l0.length:Int)) = false:=decide_eq_false c9
     clear c9
     replace H:=Option.bind_eq_some_iff.mp H
     obtain⟨t218,A200,H⟩:=H
     replace H:((spec_l02Pow.f k2 t218).bind fun t219=>(spec_SparseOf.l1 k2 l0 a1 t219 (([]:List Int)) (([]:List Int)) 0 0)) = some (r1,r2,r3,r4,r5,r6,r7,r8,r9):=H
     have A20:=mk0 A200
     clear A200
     replace H:=Option.bind_eq_some_iff.mp H
     obtain⟨t219,A210,H⟩:=H
     replace H:(spec_SparseOf.l1 k2 l0 a1 t219 (([]:List Int)) (([]:List Int)) 0 0) = some (r1,r2,r3,r4,r5,r6,r7,r8,r9):=H
     have A21:=mk0 A210
     clear A210
     obtain⟨y220,hy220⟩:∃ y_:List Int,y_ = (([]:List Int)):=⟨_,rfl⟩
     replace H:(spec_SparseOf.l1 k2 l0 a1 t219 y220 (([]:List Int)) 0 0) = some (r1,r2,r3,r4,r5,r6,r7,r8,r9):=by first|(rw [hy220];with_reducible exact H)|(have H2_:=(Option.bind_some _ _).symm.trans H;rw [hy220];with_reducible exact H2_)|(have H2_:=(Option.bind_some _ _).symm.trans H;with_reducible exact H2_)|with_reducible exact H|(rw [hy220];exact H)|exact H
     have Ny220:=mk0 hy220
     clear hy220
     obtain⟨y223,hy223⟩:∃ y_:List Int,y_ = (([]:List Int)):=⟨_,rfl⟩
     replace H:(spec_SparseOf.l1 k2 l0 a1 t219 y220 y223 0 0) = some (r1,r2,r3,r4,r5,r6,r7,r8,r9):=by first|(rw [hy223];with_reducible exact H)|(have H2_:=(Option.bind_some _ _).symm.trans H;rw [hy223];with_reducible exact H2_)|(have H2_:=(Option.bind_some _ _).symm.trans H;with_reducible exact H2_)|with_reducible exact H|(rw [hy223];exact H)|exact H
     have Ny223:=mk0 hy223
     clear hy223
     have H':=mk0 H
     clear H
     go_wp2_with (first|(go_at_call 28;(with_reducible refine (spec_l03Width.calls k2 (l0.length:Int) a1 t218 _ A20.out).mono ?_);rintro e w22 ⟨rfl,hb⟩;replace BK213:=mk0 (kK BK213.out hb);replace HB:=mk0 (kS HB.out hb);(try clear hb))|(go_at_call 27;(with_reducible refine (spec_l02Pow.calls k2 t218 t219 _ A21.out).mono ?_);rintro e w' ⟨rfl,⟨nd,rfl⟩⟩;(try first|exact⟨rfl,_,World.drewN_drewN _ _ _⟩|exact⟨rfl,_,Eq.trans (World.drewN_drewN _ _ _) (congrArg (World.drewN _) (Nat.add_assoc _ _ _))⟩))|((with_reducible refine gate_dst (N:=69) rfl ?_);(try (refine gate_guard (by rfl) ?_;dsimp only));refine Kd.R_lit (Kd.int .i64) _ 3 ?hg (N:=69) ?hd (xs:=([]:List Int)) (inner:=[]) (ok:=fun _=>True) (okp:=fun _=>True) ?hr ?hp (fun _ hk=>hk) trivial (Below.refl _ _) (Nat.le_refl _) (by simp) ?_;(case hd=>rfl);(case hg=>rfl);(case hr=>first|(go_simp;done)|(go_simp;rfl));(case hp=>exact (Reps.none _ _));intro v221 w23 ho24 hb hg_ hnew_;clear hg_ hnew_;(first|rw [← Ny220.out] at ho24|(simp only [Int.reduceToNat] at ho24;rw [← Ny220.out] at ho24));have HO222:=mk0 (Kd.R_lower ho24 (kZ HB.out));replace BK213:=mk0 (kK BK213.out hb);replace HB:=mk0 (kS HB.out hb);clear hb ho24)|((with_reducible refine gate_dst (N:=70) rfl ?_);(try (refine gate_guard (by rfl) ?_;dsimp only));refine Kd.R_lit (Kd.int .i64) _ 3 ?hg (N:=70) ?hd (xs:=([]:List Int)) (inner:=[]) (ok:=fun _=>True) (okp:=fun _=>True) ?hr ?hp (fun _ hk=>hk) trivial (Below.refl _ _) (Nat.le_refl _) (by simp) ?_;(case hd=>rfl);(case hg=>rfl);(case hr=>first|(go_simp;done)|(go_simp;rfl));(case hp=>exact (Reps.none _ _));intro v224 w25 ho26 hb hg_ hnew_;clear hg_ hnew_;(first|rw [← Ny223.out] at ho26|(simp only [Int.reduceToNat] at ho26;rw [← Ny223.out] at ho26));have HO225:=mk0 (Kd.R_lower (Kd.R_new' ho26 (Kd.R_lt (rR HO222.out))) (kZ HB.out));replace HO222:=mk0 (Kd.R_elder' (rR HO222.out) (Kd.R_base ho26) hb);replace BK213:=mk0 (kK BK213.out hb);replace HB:=mk0 (kS HB.out hb);clear hb ho26))
     repeat (go_quiet (first|(go_at_call 28;(with_reducible refine (spec_l03Width.calls k2 (l0.length:Int) a1 t218 _ A20.out).mono ?_);rintro e w22 ⟨rfl,hb⟩;replace BK213:=mk0 (kK BK213.out hb);replace HB:=mk0 (kS HB.out hb);(try clear hb))|(go_at_call 27;(with_reducible refine (spec_l02Pow.calls k2 t218 t219 _ A21.out).mono ?_);rintro e w' ⟨rfl,⟨nd,rfl⟩⟩;(try first|exact⟨rfl,_,World.drewN_drewN _ _ _⟩|exact⟨rfl,_,Eq.trans (World.drewN_drewN _ _ _) (congrArg (World.drewN _) (Nat.add_assoc _ _ _))⟩))|((with_reducible refine gate_dst (N:=69) rfl ?_);(try (refine gate_guard (by rfl) ?_;dsimp only));refine Kd.R_lit (Kd.int .i64) _ 3 ?hg (N:=69) ?hd (xs:=([]:List Int)) (inner:=[]) (ok:=fun _=>True) (okp:=fun _=>True) ?hr ?hp (fun _ hk=>hk) trivial (Below.refl _ _) (Nat.le_refl _) (by simp) ?_;(case hd=>rfl);(case hg=>rfl);(case hr=>first|(go_simp;done)|(go_simp;rfl));(case hp=>exact (Reps.none _ _));intro v221 w23 ho24 hb hg_ hnew_;clear hg_ hnew_;(first|rw [← Ny220.out] at ho24|(simp only [Int.reduceToNat] at ho24;rw [← Ny220.out] at ho24));have HO222:=mk0 (Kd.R_lower ho24 (kZ HB.out));replace BK213:=mk0 (kK BK213.out hb);replace HB:=mk0 (kS HB.out hb);clear hb ho24)|((with_reducible refine gate_dst (N:=70) rfl ?_);(try (refine gate_guard (by rfl) ?_;dsimp only));refine Kd.R_lit (Kd.int .i64) _ 3 ?hg (N:=70) ?hd (xs:=([]:List Int)) (inner:=[]) (ok:=fun _=>True) (okp:=fun _=>True) ?hr ?hp (fun _ hk=>hk) trivial (Below.refl _ _) (Nat.le_refl _) (by simp) ?_;(case hd=>rfl);(case hg=>rfl);(case hr=>first|(go_simp;done)|(go_simp;rfl));(case hp=>exact (Reps.none _ _));intro v224 w25 ho26 hb hg_ hnew_;clear hg_ hnew_;(first|rw [← Ny223.out] at ho26|(simp only [Int.reduceToNat] at ho26;rw [← Ny223.out] at ho26));have HO225:=mk0 (Kd.R_lower (Kd.R_new' ho26 (Kd.R_lt (rR HO222.out))) (kZ HB.out));replace HO222:=mk0 (Kd.R_elder' (rR HO222.out) (Kd.R_base ho26) hb);replace BK213:=mk0 (kK BK213.out hb);replace HB:=mk0 (kS HB.out hb);clear hb ho26));try go_wp2_with (first|(go_at_call 28;(with_reducible refine (spec_l03Width.calls k2 (l0.length:Int) a1 t218 _ A20.out).mono ?_);rintro e w22 ⟨rfl,hb⟩;replace BK213:=mk0 (kK BK213.out hb);replace HB:=mk0 (kS HB.out hb);(try clear hb))|(go_at_call 27;(with_reducible refine (spec_l02Pow.calls k2 t218 t219 _ A21.out).mono ?_);rintro e w' ⟨rfl,⟨nd,rfl⟩⟩;(try first|exact⟨rfl,_,World.drewN_drewN _ _ _⟩|exact⟨rfl,_,Eq.trans (World.drewN_drewN _ _ _) (congrArg (World.drewN _) (Nat.add_assoc _ _ _))⟩))|((with_reducible refine gate_dst (N:=69) rfl ?_);(try (refine gate_guard (by rfl) ?_;dsimp only));refine Kd.R_lit (Kd.int .i64) _ 3 ?hg (N:=69) ?hd (xs:=([]:List Int)) (inner:=[]) (ok:=fun _=>True) (okp:=fun _=>True) ?hr ?hp (fun _ hk=>hk) trivial (Below.refl _ _) (Nat.le_refl _) (by simp) ?_;(case hd=>rfl);(case hg=>rfl);(case hr=>first|(go_simp;done)|(go_simp;rfl));(case hp=>exact (Reps.none _ _));intro v221 w23 ho24 hb hg_ hnew_;clear hg_ hnew_;(first|rw [← Ny220.out] at ho24|(simp only [Int.reduceToNat] at ho24;rw [← Ny220.out] at ho24));have HO222:=mk0 (Kd.R_lower ho24 (kZ HB.out));replace BK213:=mk0 (kK BK213.out hb);replace HB:=mk0 (kS HB.out hb);clear hb ho24)|((with_reducible refine gate_dst (N:=70) rfl ?_);(try (refine gate_guard (by rfl) ?_;dsimp only));refine Kd.R_lit (Kd.int .i64) _ 3 ?hg (N:=70) ?hd (xs:=([]:List Int)) (inner:=[]) (ok:=fun _=>True) (okp:=fun _=>True) ?hr ?hp (fun _ hk=>hk) trivial (Below.refl _ _) (Nat.le_refl _) (by simp) ?_;(case hd=>rfl);(case hg=>rfl);(case hr=>first|(go_simp;done)|(go_simp;rfl));(case hp=>exact (Reps.none _ _));intro v224 w25 ho26 hb hg_ hnew_;clear hg_ hnew_;(first|rw [← Ny223.out] at ho26|(simp only [Int.reduceToNat] at ho26;rw [← Ny223.out] at ho26));have HO225:=mk0 (Kd.R_lower (Kd.R_new' ho26 (Kd.R_lt (rR HO222.out))) (kZ HB.out));replace HO222:=mk0 (Kd.R_elder' (rR HO222.out) (Kd.R_base ho26) hb);replace BK213:=mk0 (kK BK213.out hb);replace HB:=mk0 (kS HB.out hb);clear hb ho26)))
     go_loopg [8,9,10,11] k2 (fun kq v8 v9 v10 v11 w'=>∃ (x8_3:List Int) (x9_3:List Int) (x10_3:Int) (x11_3:Int),v10 = .int .i64 x10_3 ∧ v11 = .int .i64 x11_3 ∧ Aside0 (spec_SparseOf.l1 kq l0 a1 t219 x8_3 x9_3 x10_3 x11_3 = some (r1,r2,r3,r4,r5,r6,r7,r8,r9)) ∧ Aside0 (kq ≤ k2) ∧ Aside0 (Kd.R (Kd.int .i64) 3 w' w.heap.size (fun k_=>some k_ ≠ (v9:Value).ownBlock) v8 x8_3) ∧ Aside0 (Kd.R (Kd.int .i64) 3 w' w.heap.size (fun k_=>some k_ ≠ (v8:Value).ownBlock) v9 x9_3) ∧ Aside0 (w'.heap[gb213]? = some (.cells #[.int .i64 x214000_2,.int .i64 x214001_2,.int .i64 x214002_2,.int .i64 x214003_2,.int .i64 x214004_2,(.slice none 0 0),.int .i64 x214006_2,(.slice none 0 0)] 33 (0,0))) ∧ Aside0 (Below w.heap.size w w'))
     case atStart=>exact⟨(y220),(y223),(0),(0),(by first|rfl|(simp;done)|(simp [*];done)),(by first|rfl|(simp;done)|(simp [*];done)),H',⟨Nat.le_refl _⟩,⟨rR (Kd.R_mono HO222.out (fun _ hk=>hk.2))⟩,⟨rR (Kd.R_mono HO225.out (fun _ hk=>hk.2))⟩,⟨kN BK213.out⟩,⟨kB HB.out⟩⟩
     case round =>
      clear H'
      try clear c1
      try clear p2
      try clear q2
      try clear hx2
      try clear c5
      try clear c5b0
      try clear c6
      try clear c6b0
      try clear p6
      try clear c7
      try clear c9
      try clear c9b0
      try clear c11
      try clear c11b0
      try clear c12
      try clear c12b0
      try clear c13
      try clear c13b0
      try clear c14
      try clear c14b0
      try clear c16
      try clear c16b0
      try clear c17
      try clear c17b0
      try clear c18
      try clear p21
      try clear q21
      try clear hx21
      try clear hcz19_0
      try clear hcz19_1
      try clear hcz19_2
      try clear hcz19_3
      try clear hcz19_4
      try clear hcz19_5
      try clear hcz19_6
      try clear hcz19_7
      try clear hcz8_0
      try clear hcz8_1
      try clear hcz8_2
      try clear hcz8_3
      try clear hcz8_4
      try clear hcz8_5
      try clear hcz8_6
      try clear hcz8_7
      try clear hfz19_0
      try clear hfz19_1
      try clear hfz19_2
      try clear hfz19_3
      try clear hfz19_4
      try clear hfz19_5
      try clear hfz19_6
      try clear hfz19_7
      try clear hfz8_0
      try clear hfz8_1
      try clear hfz8_2
      try clear hfz8_3
      try clear hfz8_4
      try clear hfz8_5
      try clear hfz8_6
      try clear hfz8_7
      try clear hx214_0
      try clear hx215_0
      try clear hx216_0
      try clear hx217_0
      try clear p2
      try clear p214
      try clear p215
      try clear p216
      try clear p217
      try clear p6
      try clear q2
      try clear q214
      try clear q215
      try clear q216
      try clear q217
      obtain⟨x8_3,x9_3,x10_3,x11_3,rfl,rfl,HA,HK3,HO_8,HO_9,BK213,HB⟩:=hrel
      cases gk with
      | zero=>exact absurd HA.out (by simp [spec_SparseOf.l1])
      | succ k3 =>
       have H:=HA.out
       clear HA
       simp only [spec_SparseOf.l1] at H
       have HC27:=mk0 H
       clear H
       go_upto_region 13 with (fail)
       repeat (go_quiet (fail);go_upto_region 13 with (fail))
       go_cut [80] (fun v80 wc=>∃ (kq:Nat) (x80_26:Bool),v80 = .bool x80_26 ∧ Aside0 (spec_SparseOf.j4 kq l0 a1 t219 x8_3 x9_3 x10_3 x11_3 x80_26 = some (r1,r2,r3,r4,r5,r6,r7,r8,r9)) ∧ Aside0 (kq ≤ k3) ∧ Aside0 (Kd.R (Kd.int .i64) 3 wc w.heap.size (fun k_=>some k_ ≠ (u9:Value).ownBlock) u8 x8_3) ∧ Aside0 (Kd.R (Kd.int .i64) 3 wc w.heap.size (fun k_=>some k_ ≠ (u8:Value).ownBlock) u9 x9_3) ∧ Aside0 (wc.heap[gb213]? = some (.cells #[.int .i64 x214000_2,.int .i64 x214001_2,.int .i64 x214002_2,.int .i64 x214003_2,.int .i64 x214004_2,(.slice none 0 0),.int .i64 x214006_2,(.slice none 0 0)] 33 (0,0))) ∧ Aside0 (Below w.heap.size w wc))
       case first =>
        have H:=HC27.out
        clear HC27
        by_cases c28:t219 = 0
        ·rw [if_pos c28] at H
         exact absurd H (by simp)
        rw [if_neg c28] at H
        have c28b0:(t219 == 0) = false:=beq_eq_false_iff_ne.mpr c28
        have c28b1:(t219 != 0) = true:=bne_iff_ne.mpr c28
        (first|rw [c28b0]|(simp only [i64_w,i32_w];rw [c28b0])|skip)
        by_cases c29:x11_3 ≤ (wrap64 (Int.tdiv a1 t219))
        rotate_left
        ·rw [if_neg c29] at H
         have c29b0:decide (x11_3 ≤ (wrap64 (Int.tdiv a1 t219))) = false:=decide_eq_false c29
         clear c29
         have H':=mk0 H
         clear H
         go_wp2
         repeat (go_quiet (fail);try go_wp2)
         go_meet
         case rel=>exact⟨_,(false),(by first|rfl|(simp;done)|(simp [*];done)),H',⟨by have:=HJ2.out;have:=HK2.out;have:=HK3.out;first|omega|exact Nat.le_refl _⟩,⟨rR HO_8.out⟩,⟨rR HO_9.out⟩,⟨kN BK213.out⟩,⟨kB HB.out⟩⟩
        rw [if_pos c29] at H
        have c29b0:decide (x11_3 ≤ (wrap64 (Int.tdiv a1 t219))) = true:=decide_eq_true c29
        clear c29
        have H':=mk0 H
        clear H
        obtain⟨Ao30,co30,eo30⟩:=Kd.R_slice HO_9.out
        subst eo30
        go_wp2
        repeat (go_quiet (fail);try go_wp2)
        go_meet
        case rel=>exact⟨_,(decide ((x9_3.length:Int) ≤ 5000)),(by first|rfl|(simp;done)|(simp [*];done)),H',⟨by have:=HJ2.out;have:=HK2.out;have:=HK3.out;first|omega|exact Nat.le_refl _⟩,⟨rR HO_8.out⟩,⟨rR HO_9.out⟩,⟨kN BK213.out⟩,⟨kB HB.out⟩⟩
       case rest =>
        clear HC27
        try clear c1
        try clear c2
        try clear p2
        try clear q2
        try clear hx2
        try clear c5
        try clear c5b0
        try clear c6
        try clear c6b0
        try clear p6
        try clear c7
        try clear c9
        try clear c9b0
        try clear c11
        try clear c11b0
        try clear c12
        try clear c12b0
        try clear c13
        try clear c13b0
        try clear c14
        try clear c14b0
        try clear c16
        try clear c16b0
        try clear c17
        try clear c17b0
        try clear c18
        try clear p21
        try clear q21
        try clear hx21
        try clear c28
        try clear c28b0
        try clear c28b1
        try clear c29
        try clear c29b0
        try clear hcz19_0
        try clear hcz19_1
        try clear hcz19_2
        try clear hcz19_3
        try clear hcz19_4
        try clear hcz19_5
        try clear hcz19_6
        try clear hcz19_7
        try clear hcz8_0
        try clear hcz8_1
        try clear hcz8_2
        try clear hcz8_3
        try clear hcz8_4
        try clear hcz8_5
        try clear hcz8_6
        try clear hcz8_7
        try clear hfz19_0
        try clear hfz19_1
        try clear hfz19_2
        try clear hfz19_3
        try clear hfz19_4
        try clear hfz19_5
        try clear hfz19_6
        try clear hfz19_7
        try clear hfz8_0
        try clear hfz8_1
        try clear hfz8_2
        try clear hfz8_3
        try clear hfz8_4
        try clear hfz8_5
        try clear hfz8_6
        try clear hfz8_7
        try clear hx214_0
        try clear hx215_0
        try clear hx216_0
        try clear hx217_0
        try clear p2
        try clear p21
        try clear p214
        try clear p215
        try clear p216
        try clear p217
        try clear p6
        try clear q2
        try clear q21
        try clear q214
        try clear q215
        try clear q216
        try clear q217
        obtain⟨kq,x80_26,rfl,HA,HJ26,HO_8,HO_9,BK213,HB⟩:=hcut
        cases kq with
        | zero=>exact absurd HA.out (by simp [spec_SparseOf.j4])
        | succ kj26 =>
         have H:=HA.out
         clear HA
         simp only [spec_SparseOf.j4] at H
         by_cases c31:x80_26 = true
         ·subst c31
          have H1:(spec_SparseOf.l2 kj26 l0 a1 t219 x8_3 x9_3 x10_3 x11_3) = some (r1,r2,r3,r4,r5,r6,r7,r8,r9):=by rw [if_pos rfl] at H;exact H
          clear H
          have H:=H1
          clear H1
          have H':=mk0 H
          clear H
          go_wp2
          repeat (go_quiet (fail);try go_wp2)
          go_loopg [8,9,10] kj26 (fun kq v8 v9 v10 w'=>∃ (x8_5:List Int) (x9_5:List Int) (x10_5:Int),v10 = .int .i64 x10_5 ∧ Aside0 (spec_SparseOf.l2 kq l0 a1 t219 x8_5 x9_5 x10_5 x11_3 = some (r1,r2,r3,r4,r5,r6,r7,r8,r9)) ∧ Aside0 (kq ≤ kj26) ∧ Aside0 (Kd.R (Kd.int .i64) 3 w' w.heap.size (fun k_=>some k_ ≠ (v9:Value).ownBlock) v8 x8_5) ∧ Aside0 (Kd.R (Kd.int .i64) 3 w' w.heap.size (fun k_=>some k_ ≠ (v8:Value).ownBlock) v9 x9_5) ∧ Aside0 (w'.heap[gb213]? = some (.cells #[.int .i64 x214000_2,.int .i64 x214001_2,.int .i64 x214002_2,.int .i64 x214003_2,.int .i64 x214004_2,(.slice none 0 0),.int .i64 x214006_2,(.slice none 0 0)] 33 (0,0))) ∧ Aside0 (Below w.heap.size w w'))
          case atStart=>exact⟨(x8_3),(x9_3),(x10_3),(by first|rfl|(simp;done)|(simp [*];done)),H',⟨Nat.le_refl _⟩,⟨rR HO_8.out⟩,⟨rR HO_9.out⟩,⟨kN BK213.out⟩,⟨kB HB.out⟩⟩
          case round =>
           clear H'
           try clear c1
           try clear c2
           try clear p2
           try clear q2
           try clear hx2
           try clear c3
           try clear c5
           try clear c5b0
           try clear c6
           try clear c6b0
           try clear p6
           try clear c7
           try clear c9
           try clear c9b0
           try clear c11
           try clear c11b0
           try clear c12
           try clear c12b0
           try clear c13
           try clear c13b0
           try clear c14
           try clear c14b0
           try clear c16
           try clear c16b0
           try clear c17
           try clear c17b0
           try clear c18
           try clear p21
           try clear q21
           try clear hx21
           try clear c28
           try clear c28b0
           try clear c28b1
           try clear c29
           try clear c29b0
           try clear c31
           try clear hcz19_0
           try clear hcz19_1
           try clear hcz19_2
           try clear hcz19_3
           try clear hcz19_4
           try clear hcz19_5
           try clear hcz19_6
           try clear hcz19_7
           try clear hcz8_0
           try clear hcz8_1
           try clear hcz8_2
           try clear hcz8_3
           try clear hcz8_4
           try clear hcz8_5
           try clear hcz8_6
           try clear hcz8_7
           try clear hfz19_0
           try clear hfz19_1
           try clear hfz19_2
           try clear hfz19_3
           try clear hfz19_4
           try clear hfz19_5
           try clear hfz19_6
           try clear hfz19_7
           try clear hfz8_0
           try clear hfz8_1
           try clear hfz8_2
           try clear hfz8_3
           try clear hfz8_4
           try clear hfz8_5
           try clear hfz8_6
           try clear hfz8_7
           try clear hx214_0
           try clear hx215_0
           try clear hx216_0
           try clear hx217_0
           try clear p2
           try clear p21
           try clear p214
           try clear p215
           try clear p216
           try clear p217
           try clear p6
           try clear q2
           try clear q21
           try clear q214
           try clear q215
           try clear q216
           try clear q217
           obtain⟨x8_5,x9_5,x10_5,rfl,HA,HK5,HO_8,HO_9,BK213,HB⟩:=hrel
           cases gk with
           | zero=>exact absurd HA.out (by simp [spec_SparseOf.l2])
           | succ k5 =>
            have H:=HA.out
            clear HA
            simp only [spec_SparseOf.l2] at H
            by_cases c32:x10_5 < (l0.length:Int)
            rotate_left
            ·rw [if_neg c32] at H
             have c32b0:decide (x10_5 < (l0.length:Int)) = false:=decide_eq_false c32
             clear c32
             by_cases c42:x9_5.length < 17592186044416
             rotate_left
             ·rw [if_neg c42] at H
              exact absurd H (by simp)
             rw [if_pos c42] at H
             have LMc42:=mk0 c42
             clear c42
             obtain⟨y237,hy237⟩:∃ y_:List Int,y_ = (x9_5 ++ [0]):=⟨_,rfl⟩
             replace H:(spec_SparseOf.l1 k5 l0 a1 t219 x8_5 y237 x10_5 (wrap64 (x11_3 + 1))) = some (r1,r2,r3,r4,r5,r6,r7,r8,r9):=by first|(rw [hy237];with_reducible exact H)|(have H2_:=(Option.bind_some _ _).symm.trans H;rw [hy237];with_reducible exact H2_)|(have H2_:=(Option.bind_some _ _).symm.trans H;with_reducible exact H2_)|with_reducible exact H|(rw [hy237];exact H)|exact H
             have Ny237:=mk0 hy237
             clear hy237
             have H':=mk0 H
             clear H
             go_wp2_with (first|((with_reducible refine gate_builtin (b:=.append) (xs:=#[.tmp 111,.tmp 112]) rfl ?_);(try (refine gate_guard (by rfl) ?_;dsimp only));at_builtin;refine Kd.R_append (Kd.int .i64) (w0:=w) w.heap.size rfl (.tmp 111) (.tmp 112) 24 3 (.int .i64 0) 8 rfl Try.underlying24 info3 rfl (by decide) (by omega) u9 x9_5 0 [.int .i64 0] (fun k_=>some k_ ≠ (u8:Value).ownBlock) (fun _=>False) rfl rfl ?aP (fun _ hk=>hk.elim) ?aF ?aO ?aB ?aS ?aL ?_;(case aP=>exact rfl);(case aB=>exact (kB HB.out));(case aF=>exact (fun k_ hk=>Kd.fresh' (Kd.R_lt (rR HO_8.out)) k_ hk));(case aO=>exact (rR HO_9.out));(case aS=>exact (kZ HB.out));(case aL=>have:=LMc42.out;omega);intro v238 w43 ho hb hg hat;rw [← Ny237.out] at ho;replace HO_8:=mk0 (Kd.R_after (ok:=(fun _=>True)) (rR (Kd.R_mono HO_8.out (fun _ hk=>⟨trivial,hk⟩))) hg hat);replace BK213:=mk0 (blk_grown (kN BK213.out) hg (Kd.R_ne HO_9.out BK213.out (by decide)));replace HB:=mk0 (hb);have HO239:=mk0 (ho);clear HO_9 ho hb hg hat))
             repeat (go_quiet (first|((with_reducible refine gate_builtin (b:=.append) (xs:=#[.tmp 111,.tmp 112]) rfl ?_);(try (refine gate_guard (by rfl) ?_;dsimp only));at_builtin;refine Kd.R_append (Kd.int .i64) (w0:=w) w.heap.size rfl (.tmp 111) (.tmp 112) 24 3 (.int .i64 0) 8 rfl Try.underlying24 info3 rfl (by decide) (by omega) u9 x9_5 0 [.int .i64 0] (fun k_=>some k_ ≠ (u8:Value).ownBlock) (fun _=>False) rfl rfl ?aP (fun _ hk=>hk.elim) ?aF ?aO ?aB ?aS ?aL ?_;(case aP=>exact rfl);(case aB=>exact (kB HB.out));(case aF=>exact (fun k_ hk=>Kd.fresh' (Kd.R_lt (rR HO_8.out)) k_ hk));(case aO=>exact (rR HO_9.out));(case aS=>exact (kZ HB.out));(case aL=>have:=LMc42.out;omega);intro v238 w43 ho hb hg hat;rw [← Ny237.out] at ho;replace HO_8:=mk0 (Kd.R_after (ok:=(fun _=>True)) (rR (Kd.R_mono HO_8.out (fun _ hk=>⟨trivial,hk⟩))) hg hat);replace BK213:=mk0 (blk_grown (kN BK213.out) hg (Kd.R_ne HO_9.out BK213.out (by decide)));replace HB:=mk0 (hb);have HO239:=mk0 (ho);clear HO_9 ho hb hg hat));try go_wp2_with (first|((with_reducible refine gate_builtin (b:=.append) (xs:=#[.tmp 111,.tmp 112]) rfl ?_);(try (refine gate_guard (by rfl) ?_;dsimp only));at_builtin;refine Kd.R_append (Kd.int .i64) (w0:=w) w.heap.size rfl (.tmp 111) (.tmp 112) 24 3 (.int .i64 0) 8 rfl Try.underlying24 info3 rfl (by decide) (by omega) u9 x9_5 0 [.int .i64 0] (fun k_=>some k_ ≠ (u8:Value).ownBlock) (fun _=>False) rfl rfl ?aP (fun _ hk=>hk.elim) ?aF ?aO ?aB ?aS ?aL ?_;(case aP=>exact rfl);(case aB=>exact (kB HB.out));(case aF=>exact (fun k_ hk=>Kd.fresh' (Kd.R_lt (rR HO_8.out)) k_ hk));(case aO=>exact (rR HO_9.out));(case aS=>exact (kZ HB.out));(case aL=>have:=LMc42.out;omega);intro v238 w43 ho hb hg hat;rw [← Ny237.out] at ho;replace HO_8:=mk0 (Kd.R_after (ok:=(fun _=>True)) (rR (Kd.R_mono HO_8.out (fun _ hk=>⟨trivial,hk⟩))) hg hat);replace BK213:=mk0 (blk_grown (kN BK213.out) hg (Kd.R_ne HO_9.out BK213.out (by decide)));replace HB:=mk0 (hb);have HO239:=mk0 (ho);clear HO_9 ho hb hg hat)))
             go_roundg k5
             case measure=>have:=HJ2.out;have:=HK2.out;have:=HK3.out;have:=HJ26.out;have:=HK5.out;omega
             case rel=>exact⟨(x8_5),(y237),(x10_5),(wrap64 (x11_3 + 1)),(by first|rfl|(simp;done)|(simp [*];done)),(by first|rfl|(simp;done)|(simp [*];done)),H',⟨by have:=HJ2.out;have:=HK2.out;have:=HK3.out;have:=HJ26.out;have:=HK5.out;omega⟩,⟨rR (Kd.R_mono HO_8.out (fun _ hk=>hk.2))⟩,⟨rR HO239.out⟩,⟨kN BK213.out⟩,⟨kB HB.out⟩⟩
            rw [if_pos c32] at H
            have c32b0:decide (x10_5 < (l0.length:Int)) = true:=decide_eq_true c32
            clear c32
            by_cases c33:0 ≤ x10_5
            rotate_left
            ·rw [if_neg c33] at H
             exact absurd H (by simp)
            rw [if_pos c33] at H
            have c33b0:decide (0 ≤ x10_5) = true:=decide_eq_true c33
            clear c33
            by_cases c34:t219 = 0
            ·rw [if_pos c34] at H
             exact absurd H (by simp)
            rw [if_neg c34] at H
            have c34b0:(t219 == 0) = false:=beq_eq_false_iff_ne.mpr c34
            have c34b1:(t219 != 0) = true:=bne_iff_ne.mpr c34
            by_cases c35:(wrap64 (Int.tdiv (rd l0 x10_5) t219)) = x11_3
            rotate_left
            ·rw [if_neg c35] at H
             have c35b0:((wrap64 (Int.tdiv (rd l0 x10_5) t219)) == x11_3) = false:=beq_eq_false_iff_ne.mpr c35
             have c35b1:((wrap64 (Int.tdiv (rd l0 x10_5) t219)) != x11_3) = true:=bne_iff_ne.mpr c35
             by_cases c40:x9_5.length < 17592186044416
             rotate_left
             ·rw [if_neg c40] at H
              exact absurd H (by simp)
             rw [if_pos c40] at H
             have LMc40:=mk0 c40
             clear c40
             obtain⟨y234,hy234⟩:∃ y_:List Int,y_ = (x9_5 ++ [0]):=⟨_,rfl⟩
             replace H:(spec_SparseOf.l1 k5 l0 a1 t219 x8_5 y234 x10_5 (wrap64 (x11_3 + 1))) = some (r1,r2,r3,r4,r5,r6,r7,r8,r9):=by first|(rw [hy234];with_reducible exact H)|(have H2_:=(Option.bind_some _ _).symm.trans H;rw [hy234];with_reducible exact H2_)|(have H2_:=(Option.bind_some _ _).symm.trans H;with_reducible exact H2_)|with_reducible exact H|(rw [hy234];exact H)|exact H
             have Ny234:=mk0 hy234
             clear hy234
             have H':=mk0 H
             clear H
             have p226:0 ≤ (x10_5:Int):=of_decide_eq_true (by first|(with_reducible assumption)|assumption)
             have q226:x10_5 < (l0.length:Int):=of_decide_eq_true (by first|(with_reducible assumption)|assumption)
             obtain⟨ad226,e226,hx226_0⟩:=Kd.at_int HR0.out x10_5 p226 q226
             cases e226
             replace hx226_0:=(HB.out.cell (World.block_lt_of_cell? w _ hx226_0)).trans hx226_0
             replace p226:=eq_true p226
             replace q226:=eq_true q226
             go_wp2_with (first|((with_reducible refine gate_builtin (b:=.append) (xs:=#[.tmp 111,.tmp 112]) rfl ?_);(try (refine gate_guard (by rfl) ?_;dsimp only));at_builtin;refine Kd.R_append (Kd.int .i64) (w0:=w) w.heap.size rfl (.tmp 111) (.tmp 112) 24 3 (.int .i64 0) 8 rfl Try.underlying24 info3 rfl (by decide) (by omega) u9 x9_5 0 [.int .i64 0] (fun k_=>some k_ ≠ (u8:Value).ownBlock) (fun _=>False) rfl rfl ?aP (fun _ hk=>hk.elim) ?aF ?aO ?aB ?aS ?aL ?_;(case aP=>exact rfl);(case aB=>exact (kB HB.out));(case aF=>exact (fun k_ hk=>Kd.fresh' (Kd.R_lt (rR HO_8.out)) k_ hk));(case aO=>exact (rR HO_9.out));(case aS=>exact (kZ HB.out));(case aL=>have:=LMc40.out;omega);intro v235 w41 ho hb hg hat;rw [← Ny234.out] at ho;replace HO_8:=mk0 (Kd.R_after (ok:=(fun _=>True)) (rR (Kd.R_mono HO_8.out (fun _ hk=>⟨trivial,hk⟩))) hg hat);replace BK213:=mk0 (blk_grown (kN BK213.out) hg (Kd.R_ne HO_9.out BK213.out (by decide)));replace HB:=mk0 (hb);have HO236:=mk0 (ho);clear HO_9 ho hb hg hat))
             repeat (go_quiet (first|((with_reducible refine gate_builtin (b:=.append) (xs:=#[.tmp 111,.tmp 112]) rfl ?_);(try (refine gate_guard (by rfl) ?_;dsimp only));at_builtin;refine Kd.R_append (Kd.int .i64) (w0:=w) w.heap.size rfl (.tmp 111) (.tmp 112) 24 3 (.int .i64 0) 8 rfl Try.underlying24 info3 rfl (by decide) (by omega) u9 x9_5 0 [.int .i64 0] (fun k_=>some k_ ≠ (u8:Value).ownBlock) (fun _=>False) rfl rfl ?aP (fun _ hk=>hk.elim) ?aF ?aO ?aB ?aS ?aL ?_;(case aP=>exact rfl);(case aB=>exact (kB HB.out));(case aF=>exact (fun k_ hk=>Kd.fresh' (Kd.R_lt (rR HO_8.out)) k_ hk));(case aO=>exact (rR HO_9.out));(case aS=>exact (kZ HB.out));(case aL=>have:=LMc40.out;omega);intro v235 w41 ho hb hg hat;rw [← Ny234.out] at ho;replace HO_8:=mk0 (Kd.R_after (ok:=(fun _=>True)) (rR (Kd.R_mono HO_8.out (fun _ hk=>⟨trivial,hk⟩))) hg hat);replace BK213:=mk0 (blk_grown (kN BK213.out) hg (Kd.R_ne HO_9.out BK213.out (by decide)));replace HB:=mk0 (hb);have HO236:=mk0 (ho);clear HO_9 ho hb hg hat));try go_wp2_with (first|((with_reducible refine gate_builtin (b:=.append) (xs:=#[.tmp 111,.tmp 112]) rfl ?_);(try (refine gate_guard (by rfl) ?_;dsimp only));at_builtin;refine Kd.R_append (Kd.int .i64) (w0:=w) w.heap.size rfl (.tmp 111) (.tmp 112) 24 3 (.int .i64 0) 8 rfl Try.underlying24 info3 rfl (by decide) (by omega) u9 x9_5 0 [.int .i64 0] (fun k_=>some k_ ≠ (u8:Value).ownBlock) (fun _=>False) rfl rfl ?aP (fun _ hk=>hk.elim) ?aF ?aO ?aB ?aS ?aL ?_;(case aP=>exact rfl);(case aB=>exact (kB HB.out));(case aF=>exact (fun k_ hk=>Kd.fresh' (Kd.R_lt (rR HO_8.out)) k_ hk));(case aO=>exact (rR HO_9.out));(case aS=>exact (kZ HB.out));(case aL=>have:=LMc40.out;omega);intro v235 w41 ho hb hg hat;rw [← Ny234.out] at ho;replace HO_8:=mk0 (Kd.R_after (ok:=(fun _=>True)) (rR (Kd.R_mono HO_8.out (fun _ hk=>⟨trivial,hk⟩))) hg hat);replace BK213:=mk0 (blk_grown (kN BK213.out) hg (Kd.R_ne HO_9.out BK213.out (by decide)));replace HB:=mk0 (hb);have HO236:=mk0 (ho);clear HO_9 ho hb hg hat)))
             go_roundg k5
             case measure=>have:=HJ2.out;have:=HK2.out;have:=HK3.out;have:=HJ26.out;have:=HK5.out;omega
             case rel=>exact⟨(x8_5),(y234),(x10_5),(wrap64 (x11_3 + 1)),(by first|rfl|(simp;done)|(simp [*];done)),(by first|rfl|(simp;done)|(simp [*];done)),H',⟨by have:=HJ2.out;have:=HK2.out;have:=HK3.out;have:=HJ26.out;have:=HK5.out;omega⟩,⟨rR (Kd.R_mono HO_8.out (fun _ hk=>hk.2))⟩,⟨rR HO236.out⟩,⟨kN BK213.out⟩,⟨kB HB.out⟩⟩
            rw [if_pos c35] at H
            have c35b0:((wrap64 (Int.tdiv (rd l0 x10_5) t219)) == x11_3) = true:=beq_iff_eq.mpr c35
            have c35b1:((wrap64 (Int.tdiv (rd l0 x10_5) t219)) != x11_3) = false:=bne_eq_false_iff_eq.mpr c35
            clear c35
            by_cases c36:x8_5.length < 17592186044416
            rotate_left
            ·rw [if_neg c36] at H
             exact absurd H (by simp)
            rw [if_pos c36] at H
            have LMc36:=mk0 c36
            clear c36
            obtain⟨y228,hy228⟩:∃ y_:List Int,y_ = (x8_5 ++ [Int.tmod (rd l0 x10_5) t219]):=⟨_,rfl⟩
            replace H:(if x9_5.length < 17592186044416 then (spec_SparseOf.l2 k5 l0 a1 t219 y228 (x9_5 ++ [1]) (wrap64 (x10_5 + 1)) x11_3) else (none)) = some (r1,r2,r3,r4,r5,r6,r7,r8,r9):=by first|(rw [hy228];with_reducible exact H)|(have H2_:=(Option.bind_some _ _).symm.trans H;rw [hy228];with_reducible exact H2_)|(have H2_:=(Option.bind_some _ _).symm.trans H;with_reducible exact H2_)|with_reducible exact H|(rw [hy228];exact H)|exact H
            have Ny228:=mk0 hy228
            clear hy228
            by_cases c37:x9_5.length < 17592186044416
            rotate_left
            ·rw [if_neg c37] at H
             exact absurd H (by simp)
            rw [if_pos c37] at H
            have LMc37:=mk0 c37
            clear c37
            obtain⟨y231,hy231⟩:∃ y_:List Int,y_ = (x9_5 ++ [1]):=⟨_,rfl⟩
            replace H:(spec_SparseOf.l2 k5 l0 a1 t219 y228 y231 (wrap64 (x10_5 + 1)) x11_3) = some (r1,r2,r3,r4,r5,r6,r7,r8,r9):=by first|(rw [hy231];with_reducible exact H)|(have H2_:=(Option.bind_some _ _).symm.trans H;rw [hy231];with_reducible exact H2_)|(have H2_:=(Option.bind_some _ _).symm.trans H;with_reducible exact H2_)|with_reducible exact H|(rw [hy231];exact H)|exact H
            have Ny231:=mk0 hy231
            clear hy231
            have H':=mk0 H
            clear H
            have p226:0 ≤ (x10_5:Int):=of_decide_eq_true (by first|(with_reducible assumption)|assumption)
            have q226:x10_5 < (l0.length:Int):=of_decide_eq_true (by first|(with_reducible assumption)|assumption)
            obtain⟨ad226,e226,hx226_0⟩:=Kd.at_int HR0.out x10_5 p226 q226
            cases e226
            replace hx226_0:=(HB.out.cell (World.block_lt_of_cell? w _ hx226_0)).trans hx226_0
            replace p226:=eq_true p226
            replace q226:=eq_true q226
            have p227:0 ≤ (x10_5:Int):=of_decide_eq_true (by first|(with_reducible assumption)|assumption)
            have q227:x10_5 < (l0.length:Int):=of_decide_eq_true (by first|(with_reducible assumption)|assumption)
            obtain⟨ad227,e227,hx227_0⟩:=Kd.at_int HR0.out x10_5 p227 q227
            obtain rfl:ad226 = ad227:=(by injection e227)
            replace hx227_0:=(HB.out.cell (World.block_lt_of_cell? w _ hx227_0)).trans hx227_0
            replace p227:=eq_true p227
            replace q227:=eq_true q227
            go_wp2_with (first|((with_reducible refine gate_builtin (b:=.append) (xs:=#[.tmp 97,.tmp 104]) rfl ?_);(try (refine gate_guard (by rfl) ?_;dsimp only));at_builtin;refine Kd.R_append (Kd.int .i64) (w0:=w) w.heap.size rfl (.tmp 97) (.tmp 104) 24 3 (.int .i64 0) 8 rfl Try.underlying24 info3 rfl (by decide) (by omega) u8 x8_5 (Int.tmod (rd l0 x10_5) t219) [.int .i64 (Int.tmod (rd l0 x10_5) t219)] (fun k_=>some k_ ≠ (u9:Value).ownBlock) (fun _=>False) rfl rfl ?aP (fun _ hk=>hk.elim) ?aF ?aO ?aB ?aS ?aL ?_;(case aP=>exact rfl);(case aB=>exact (kB HB.out));(case aF=>exact (fun k_ hk=>Kd.fresh' (Kd.R_lt (rR HO_9.out)) k_ hk));(case aO=>exact (rR HO_8.out));(case aS=>exact (kZ HB.out));(case aL=>have:=LMc36.out;omega);intro v229 w38 ho hb hg hat;rw [← Ny228.out] at ho;replace HO_9:=mk0 (Kd.R_after (ok:=(fun _=>True)) (rR (Kd.R_mono HO_9.out (fun _ hk=>⟨trivial,hk⟩))) hg hat);replace BK213:=mk0 (blk_grown (kN BK213.out) hg (Kd.R_ne HO_8.out BK213.out (by decide)));replace HB:=mk0 (hb);have HO230:=mk0 (ho);clear HO_8 ho hb hg hat)|((with_reducible refine gate_builtin (b:=.append) (xs:=#[.tmp 106,.tmp 107]) rfl ?_);(try (refine gate_guard (by rfl) ?_;dsimp only));at_builtin;refine Kd.R_append (Kd.int .i64) (w0:=w) w.heap.size rfl (.tmp 106) (.tmp 107) 24 3 (.int .i64 0) 8 rfl Try.underlying24 info3 rfl (by decide) (by omega) u9 x9_5 1 [.int .i64 1] (fun k_=>some k_ ≠ (v229:Value).ownBlock) (fun _=>False) rfl rfl ?aP (fun _ hk=>hk.elim) ?aF ?aO ?aB ?aS ?aL ?_;(case aP=>exact rfl);(case aB=>exact (kB HB.out));(case aF=>exact (fun k_ hk=>Kd.fresh' (Kd.R_lt (rR HO230.out)) k_ hk));(case aO=>exact (rR (Kd.R_mono HO_9.out (fun _ hk=>hk.2))));(case aS=>exact (kZ HB.out));(case aL=>have:=LMc37.out;omega);intro v232 w39 ho hb hg hat;rw [← Ny231.out] at ho;replace BK213:=mk0 (blk_grown (kN BK213.out) hg (Kd.R_ne HO_9.out BK213.out (by decide)));replace HO230:=mk0 (Kd.R_after (ok:=(fun _=>True)) (rR (Kd.R_mono HO230.out (fun _ hk=>⟨trivial,hk⟩))) hg hat);replace HB:=mk0 (hb);have HO233:=mk0 (ho);clear HO_9 ho hb hg hat))
            repeat (go_quiet (first|((with_reducible refine gate_builtin (b:=.append) (xs:=#[.tmp 97,.tmp 104]) rfl ?_);(try (refine gate_guard (by rfl) ?_;dsimp only));at_builtin;refine Kd.R_append (Kd.int .i64) (w0:=w) w.heap.size rfl (.tmp 97) (.tmp 104) 24 3 (.int .i64 0) 8 rfl Try.underlying24 info3 rfl (by decide) (by omega) u8 x8_5 (Int.tmod (rd l0 x10_5) t219) [.int .i64 (Int.tmod (rd l0 x10_5) t219)] (fun k_=>some k_ ≠ (u9:Value).ownBlock) (fun _=>False) rfl rfl ?aP (fun _ hk=>hk.elim) ?aF ?aO ?aB ?aS ?aL ?_;(case aP=>exact rfl);(case aB=>exact (kB HB.out));(case aF=>exact (fun k_ hk=>Kd.fresh' (Kd.R_lt (rR HO_9.out)) k_ hk));(case aO=>exact (rR HO_8.out));(case aS=>exact (kZ HB.out));(case aL=>have:=LMc36.out;omega);intro v229 w38 ho hb hg hat;rw [← Ny228.out] at ho;replace HO_9:=mk0 (Kd.R_after (ok:=(fun _=>True)) (rR (Kd.R_mono HO_9.out (fun _ hk=>⟨trivial,hk⟩))) hg hat);replace BK213:=mk0 (blk_grown (kN BK213.out) hg (Kd.R_ne HO_8.out BK213.out (by decide)));replace HB:=mk0 (hb);have HO230:=mk0 (ho);clear HO_8 ho hb hg hat)|((with_reducible refine gate_builtin (b:=.append) (xs:=#[.tmp 106,.tmp 107]) rfl ?_);(try (refine gate_guard (by rfl) ?_;dsimp only));at_builtin;refine Kd.R_append (Kd.int .i64) (w0:=w) w.heap.size rfl (.tmp 106) (.tmp 107) 24 3 (.int .i64 0) 8 rfl Try.underlying24 info3 rfl (by decide) (by omega) u9 x9_5 1 [.int .i64 1] (fun k_=>some k_ ≠ (v229:Value).ownBlock) (fun _=>False) rfl rfl ?aP (fun _ hk=>hk.elim) ?aF ?aO ?aB ?aS ?aL ?_;(case aP=>exact rfl);(case aB=>exact (kB HB.out));(case aF=>exact (fun k_ hk=>Kd.fresh' (Kd.R_lt (rR HO230.out)) k_ hk));(case aO=>exact (rR (Kd.R_mono HO_9.out (fun _ hk=>hk.2))));(case aS=>exact (kZ HB.out));(case aL=>have:=LMc37.out;omega);intro v232 w39 ho hb hg hat;rw [← Ny231.out] at ho;replace BK213:=mk0 (blk_grown (kN BK213.out) hg (Kd.R_ne HO_9.out BK213.out (by decide)));replace HO230:=mk0 (Kd.R_after (ok:=(fun _=>True)) (rR (Kd.R_mono HO230.out (fun _ hk=>⟨trivial,hk⟩))) hg hat);replace HB:=mk0 (hb);have HO233:=mk0 (ho);clear HO_9 ho hb hg hat));try go_wp2_with (first|((with_reducible refine gate_builtin (b:=.append) (xs:=#[.tmp 97,.tmp 104]) rfl ?_);(try (refine gate_guard (by rfl) ?_;dsimp only));at_builtin;refine Kd.R_append (Kd.int .i64) (w0:=w) w.heap.size rfl (.tmp 97) (.tmp 104) 24 3 (.int .i64 0) 8 rfl Try.underlying24 info3 rfl (by decide) (by omega) u8 x8_5 (Int.tmod (rd l0 x10_5) t219) [.int .i64 (Int.tmod (rd l0 x10_5) t219)] (fun k_=>some k_ ≠ (u9:Value).ownBlock) (fun _=>False) rfl rfl ?aP (fun _ hk=>hk.elim) ?aF ?aO ?aB ?aS ?aL ?_;(case aP=>exact rfl);(case aB=>exact (kB HB.out));(case aF=>exact (fun k_ hk=>Kd.fresh' (Kd.R_lt (rR HO_9.out)) k_ hk));(case aO=>exact (rR HO_8.out));(case aS=>exact (kZ HB.out));(case aL=>have:=LMc36.out;omega);intro v229 w38 ho hb hg hat;rw [← Ny228.out] at ho;replace HO_9:=mk0 (Kd.R_after (ok:=(fun _=>True)) (rR (Kd.R_mono HO_9.out (fun _ hk=>⟨trivial,hk⟩))) hg hat);replace BK213:=mk0 (blk_grown (kN BK213.out) hg (Kd.R_ne HO_8.out BK213.out (by decide)));replace HB:=mk0 (hb);have HO230:=mk0 (ho);clear HO_8 ho hb hg hat)|((with_reducible refine gate_builtin (b:=.append) (xs:=#[.tmp 106,.tmp 107]) rfl ?_);(try (refine gate_guard (by rfl) ?_;dsimp only));at_builtin;refine Kd.R_append (Kd.int .i64) (w0:=w) w.heap.size rfl (.tmp 106) (.tmp 107) 24 3 (.int .i64 0) 8 rfl Try.underlying24 info3 rfl (by decide) (by omega) u9 x9_5 1 [.int .i64 1] (fun k_=>some k_ ≠ (v229:Value).ownBlock) (fun _=>False) rfl rfl ?aP (fun _ hk=>hk.elim) ?aF ?aO ?aB ?aS ?aL ?_;(case aP=>exact rfl);(case aB=>exact (kB HB.out));(case aF=>exact (fun k_ hk=>Kd.fresh' (Kd.R_lt (rR HO230.out)) k_ hk));(case aO=>exact (rR (Kd.R_mono HO_9.out (fun _ hk=>hk.2))));(case aS=>exact (kZ HB.out));(case aL=>have:=LMc37.out;omega);intro v232 w39 ho hb hg hat;rw [← Ny231.out] at ho;replace BK213:=mk0 (blk_grown (kN BK213.out) hg (Kd.R_ne HO_9.out BK213.out (by decide)));replace HO230:=mk0 (Kd.R_after (ok:=(fun _=>True)) (rR (Kd.R_mono HO230.out (fun _ hk=>⟨trivial,hk⟩))) hg hat);replace HB:=mk0 (hb);have HO233:=mk0 (ho);clear HO_9 ho hb hg hat)))
            go_roundg k5
            case measure=>have:=HJ2.out;have:=HK2.out;have:=HK3.out;have:=HJ26.out;have:=HK5.out;omega
            case rel=>exact⟨(y228),(y231),(wrap64 (x10_5 + 1)),(by first|rfl|(simp;done)|(simp [*];done)),H',⟨by have:=HJ2.out;have:=HK2.out;have:=HK3.out;have:=HJ26.out;have:=HK5.out;omega⟩,⟨rR (Kd.R_mono HO230.out (fun _ hk=>hk.2))⟩,⟨rR HO233.out⟩,⟨kN BK213.out⟩,⟨kB HB.out⟩⟩
         replace c31:=Bool.eq_false_iff.mpr c31
         subst c31
         have H1:((spec_l03Width.f kj26 (l0.length:Int) a1).bind fun t240=>((spec_PackOf.f kj26 x8_3 t240).bind fun bt241=>((spec_BitsOf.f kj26 x9_3).bind fun bt249=>(if bt241.2.2.2.2 = true then (if bt249.2.2 = true then (some (a1,(l0.length:Int),bt241.1,bt241.2.1,bt241.2.2.1,bt241.2.2.2.1,bt249.1,bt249.2.1,true)) else (some (0,0,0,0,0,([]:List Int),0,([]:List Int),false))) else (some (0,0,0,0,0,([]:List Int),0,([]:List Int),false)))))) = some (r1,r2,r3,r4,r5,r6,r7,r8,r9):=by rw [if_neg (show ¬ (false = true) by decide)] at H;exact H
         clear H
         have H:=H1
         clear H1
         replace H:=Option.bind_eq_some_iff.mp H
         obtain⟨t240,A440,H⟩:=H
         replace H:((spec_PackOf.f kj26 x8_3 t240).bind fun bt241=>((spec_BitsOf.f kj26 x9_3).bind fun bt249=>(if bt241.2.2.2.2 = true then (if bt249.2.2 = true then (some (a1,(l0.length:Int),bt241.1,bt241.2.1,bt241.2.2.1,bt241.2.2.2.1,bt249.1,bt249.2.1,true)) else (some (0,0,0,0,0,([]:List Int),0,([]:List Int),false))) else (some (0,0,0,0,0,([]:List Int),0,([]:List Int),false))))) = some (r1,r2,r3,r4,r5,r6,r7,r8,r9):=H
         have A44:=mk0 A440
         clear A440
         replace H:=Option.bind_eq_some_iff.mp H
         obtain⟨⟨t241,t242,t243,t244,t247⟩,A450,H⟩:=H
         replace H:((spec_BitsOf.f kj26 x9_3).bind fun bt249=>(if t247 = true then (if bt249.2.2 = true then (some (a1,(l0.length:Int),t241,t242,t243,t244,bt249.1,bt249.2.1,true)) else (some (0,0,0,0,0,([]:List Int),0,([]:List Int),false))) else (some (0,0,0,0,0,([]:List Int),0,([]:List Int),false)))) = some (r1,r2,r3,r4,r5,r6,r7,r8,r9):=H
         have A45:=mk0 A450
         clear A450
         replace H:=Option.bind_eq_some_iff.mp H
         obtain⟨⟨t249,t250,t253⟩,A460,H⟩:=H
         replace H:(if t247 = true then (if t253 = true then (some (a1,(l0.length:Int),t241,t242,t243,t244,t249,t250,true)) else (some (0,0,0,0,0,([]:List Int),0,([]:List Int),false))) else (some (0,0,0,0,0,([]:List Int),0,([]:List Int),false))) = some (r1,r2,r3,r4,r5,r6,r7,r8,r9):=H
         have A46:=mk0 A460
         clear A460
         by_cases c47:t247 = true
         rotate_left
         ·replace c47:=Bool.eq_false_iff.mpr c47
          subst c47
          have H1:(some (0,0,0,0,0,([]:List Int),0,([]:List Int),false)) = some (r1,r2,r3,r4,r5,r6,r7,r8,r9):=by rw [if_neg (show ¬ (false = true) by decide)] at H;exact H
          clear H
          have H:=H1
          clear H1
          simp only [Option.some.injEq,Prod.mk.injEq] at H
          obtain⟨rfl,rfl,rfl,rfl,rfl,rfl,rfl,rfl,rfl⟩:=H
          go_wp2_with (first|(go_at_call 28;(with_reducible refine (spec_l03Width.calls kj26 (l0.length:Int) a1 t240 _ A44.out).mono ?_);rintro e w80 ⟨rfl,hb⟩;replace HO_8:=mk0 (bR HO_8.out hb);replace HO_9:=mk0 (bR HO_9.out hb);replace BK213:=mk0 (kK BK213.out hb);replace HB:=mk0 (kS HB.out hb);(try clear hb);obtain⟨Ao81,co81,eo81⟩:=Kd.R_slice HO_8.out;subst eo81)|(go_at_call 29;(with_reducible refine (spec_PackOf.calls kj26 _ _ x8_3 t240 t241 t242 t243 t244 false _ ?side1 ?side2 A45.out).mono ?_);(case side1=>exact kC (Kd.R_reads' HO_8.out).2.2);(case side2=>exact (Kd.R_reads' HO_8.out).2.1);rintro e w82 ⟨v245,rfl,ho0,hb⟩;replace HO_8:=mk0 (bR HO_8.out hb);replace HO_9:=mk0 (bR HO_9.out hb);have HO246:=mk0 (Kd.R_lower ho0 (kZ HB.out));replace BK213:=mk0 (kK BK213.out hb);replace HB:=mk0 (kS HB.out hb);(try clear hb);(try clear ho0))|((with_reducible refine gate_dst (N:=12) rfl ?_);(try (refine gate_guard (by rfl) ?_;dsimp only));refine box_event ?hg (N:=12) ?hd (cs:=#[.int .i64 0,.int .i64 0,.int .i64 0,.slice none 0 0]) (t:=31) ?hr ?_;(case hd=>rfl);(case hg=>rfl);(case hr=>first|(go_simp;done)|(go_simp;rfl));intro gb248 hg w83 hbox hb;replace HO_8:=mk0 (bR HO_8.out hb);replace HO_9:=mk0 (bR HO_9.out hb);replace HO246:=mk0 (bR HO246.out hb);have BK248:=mk0 (hbox);have GW248:=mk0 ((by rw [hg];exact (kZ HB.out):w.heap.size ≤ gb248));have GE248:=mk0 ((by rw [hg];exact (kZ HB.out):w.heap.size ≤ gb248));replace HB:=mk0 (kS HB.out hb);have NB213_248:=mk0 ((by rw [hg];exact Nat.ne_of_lt (kL BK213.out):gb213 ≠ gb248));have NB248_213:=mk0 ((by rw [hg];exact Nat.ne_of_gt (kL BK213.out):gb248 ≠ gb213));replace BK213:=mk0 (kK BK213.out hb);clear hb hbox hg;have hnb84:=NB248_213.out;have hnc84:=NB213_248.out;obtain⟨hcz85_0,hcz85_1,hcz85_2,hcz85_3,hfz85_0,hfz85_1,hfz85_2,hfz85_3⟩:=cz4 BK248.out;obtain⟨Ao86,co86,eo86⟩:=Kd.R_slice HO246.out;subst eo86;obtain⟨Ao87,co87,eo87⟩:=Kd.R_slice HO_9.out;subst eo87)|(go_at_call 30;(with_reducible refine (spec_BitsOf.calls kj26 _ _ x9_3 t249 t250 t253 _ ?side1 ?side2 A46.out).mono ?_);(case side1=>refine (Kd.R_reads' (e:=3) (base:=w.heap.size) (ok:=fun k_=>some k_ ≠ (.slice Ao81 x8_3.length co81:Value).ownBlock) (n:=x9_3.length) (c:=co87) ?_).2.2;exact (by (with_reducible repeat (first|apply aR|apply nR|apply dR));exact (Kd.R_mono (Kd.R_far (p:=⟨gb248,3,none⟩) (Kd.R_far (p:=⟨gb248,2,none⟩) (Kd.R_far (p:=⟨gb248,1,none⟩) (Kd.R_far (p:=⟨gb248,0,none⟩) (Kd.R_types HO_9.out BK248.out (by decide)) (fun _ hk=>hk.2) (.int .i64 t241)) (fun _ hk=>hk.2) (.int .i64 t242)) (fun _ hk=>hk.2) (.int .i64 t243)) (fun _ hk=>hk.2) (.slice Ao86 t244.length co86)) (fun _ h_=>h_.1))));(case side2=>exact (Kd.R_reads' HO_9.out).2.1);rintro e w88 ⟨v251,rfl,ho0,hb⟩;replace HO_8:=mk0 (Kd.R_below (by (with_reducible repeat (first|apply aR|apply nR|apply dR));exact (Kd.R_mono (Kd.R_far (p:=⟨gb248,3,none⟩) (Kd.R_far (p:=⟨gb248,2,none⟩) (Kd.R_far (p:=⟨gb248,1,none⟩) (Kd.R_far (p:=⟨gb248,0,none⟩) (Kd.R_types HO_8.out BK248.out (by decide)) (fun _ hk=>hk.2) (.int .i64 t241)) (fun _ hk=>hk.2) (.int .i64 t242)) (fun _ hk=>hk.2) (.int .i64 t243)) (fun _ hk=>hk.2) (.slice Ao86 t244.length co86)) (fun _ h_=>h_.1))) hb);replace HO_9:=mk0 (Kd.R_below (by (with_reducible repeat (first|apply aR|apply nR|apply dR));exact (Kd.R_mono (Kd.R_far (p:=⟨gb248,3,none⟩) (Kd.R_far (p:=⟨gb248,2,none⟩) (Kd.R_far (p:=⟨gb248,1,none⟩) (Kd.R_far (p:=⟨gb248,0,none⟩) (Kd.R_types HO_9.out BK248.out (by decide)) (fun _ hk=>hk.2) (.int .i64 t241)) (fun _ hk=>hk.2) (.int .i64 t242)) (fun _ hk=>hk.2) (.int .i64 t243)) (fun _ hk=>hk.2) (.slice Ao86 t244.length co86)) (fun _ h_=>h_.1))) hb);have HO252:=mk0 (Kd.R_lower (Kd.R_new' ho0 (Kd.R_lt (by (with_reducible repeat (first|apply aR|apply nR|apply dR));exact (Kd.R_mono (Kd.R_far (p:=⟨gb248,3,none⟩) (Kd.R_far (p:=⟨gb248,2,none⟩) (Kd.R_far (p:=⟨gb248,1,none⟩) (Kd.R_far (p:=⟨gb248,0,none⟩) (Kd.R_types HO246.out BK248.out (by decide)) (fun _ hk=>hk.2) (.int .i64 t241)) (fun _ hk=>hk.2) (.int .i64 t242)) (fun _ hk=>hk.2) (.int .i64 t243)) (fun _ hk=>hk.2) (.slice Ao86 t244.length co86)) (fun _ h_=>h_.1))))) (kZ HB.out));replace HO246:=mk0 (Kd.R_elder' (by (with_reducible repeat (first|apply aR|apply nR|apply dR));exact (Kd.R_mono (Kd.R_far (p:=⟨gb248,3,none⟩) (Kd.R_far (p:=⟨gb248,2,none⟩) (Kd.R_far (p:=⟨gb248,1,none⟩) (Kd.R_far (p:=⟨gb248,0,none⟩) (Kd.R_types HO246.out BK248.out (by decide)) (fun _ hk=>hk.2) (.int .i64 t241)) (fun _ hk=>hk.2) (.int .i64 t242)) (fun _ hk=>hk.2) (.int .i64 t243)) (fun _ hk=>hk.2) (.slice Ao86 t244.length co86)) (fun _ h_=>h_.1))) (Kd.R_base ho0) hb);replace BK213:=mk0 (blk_below (g:=gb213) (o:=.cells #[.int .i64 x214000_2,.int .i64 x214001_2,.int .i64 x214002_2,.int .i64 x214003_2,.int .i64 x214004_2,.slice none 0 0,.int .i64 x214006_2,.slice none 0 0] 33 (0,0)) (by (with_reducible repeat (first|apply nB|apply dB|apply aB));refine blk_far ?_ NB213_248.out _;(with_reducible repeat (first|apply nB|apply dB|apply aB));refine blk_far ?_ NB213_248.out _;(with_reducible repeat (first|apply nB|apply dB|apply aB));refine blk_far ?_ NB213_248.out _;(with_reducible repeat (first|apply nB|apply dB|apply aB));refine blk_far ?_ NB213_248.out _;(with_reducible repeat (first|apply nB|apply dB|apply aB));exact BK213.out) hb);replace BK248:=mk0 (blk_below (g:=gb248) (o:=.cells #[.int .i64 t241,.int .i64 t242,.int .i64 t243,.slice Ao86 t244.length co86] 31 (0,0)) (by (with_reducible repeat (first|apply nB|apply dB|apply aB));refine blk_put (cs:=#[.int .i64 t241,.int .i64 t242,.int .i64 t243,.slice none 0 0]) ?_ 3 _ rfl;(with_reducible repeat (first|apply nB|apply dB|apply aB));refine blk_put (cs:=#[.int .i64 t241,.int .i64 t242,.int .i64 0,.slice none 0 0]) ?_ 2 _ rfl;(with_reducible repeat (first|apply nB|apply dB|apply aB));refine blk_put (cs:=#[.int .i64 t241,.int .i64 0,.int .i64 0,.slice none 0 0]) ?_ 1 _ rfl;(with_reducible repeat (first|apply nB|apply dB|apply aB));refine blk_put (cs:=#[.int .i64 0,.int .i64 0,.int .i64 0,.slice none 0 0]) ?_ 0 _ rfl;(with_reducible repeat (first|apply nB|apply dB|apply aB));exact BK248.out) hb);replace HB:=mk0 (kS HB.out hb);(try clear hb);(try clear ho0))|((with_reducible refine gate_dst (N:=14) rfl ?_);(try (refine gate_guard (by rfl) ?_;dsimp only));refine box_event ?hg (N:=14) ?hd (cs:=#[.int .i64 0,.slice none 0 0]) (t:=29) ?hr ?_;(case hd=>rfl);(case hg=>rfl);(case hr=>first|(go_simp;done)|(go_simp;rfl));intro gb254 hg w89 hbox hb;replace HO_8:=mk0 (bR HO_8.out hb);replace HO_9:=mk0 (bR HO_9.out hb);replace HO246:=mk0 (bR HO246.out hb);replace HO252:=mk0 (bR HO252.out hb);have BK254:=mk0 (hbox);have GW254:=mk0 ((by rw [hg];exact (kZ HB.out):w.heap.size ≤ gb254));have GE254:=mk0 ((by rw [hg];exact (kZ HB.out):w.heap.size ≤ gb254));replace HB:=mk0 (kS HB.out hb);have NB213_254:=mk0 ((by rw [hg];exact Nat.ne_of_lt (kL BK213.out):gb213 ≠ gb254));have NB254_213:=mk0 ((by rw [hg];exact Nat.ne_of_gt (kL BK213.out):gb254 ≠ gb213));replace BK213:=mk0 (kK BK213.out hb);have NB248_254:=mk0 ((by rw [hg];exact Nat.ne_of_lt (kL BK248.out):gb248 ≠ gb254));have NB254_248:=mk0 ((by rw [hg];exact Nat.ne_of_gt (kL BK248.out):gb254 ≠ gb248));replace BK248:=mk0 (kK BK248.out hb);clear hb hbox hg;have hnb90:=NB254_213.out;have hnc90:=NB213_254.out;have hnb91:=NB254_248.out;have hnc91:=NB248_254.out;obtain⟨hcz92_0,hcz92_1,hfz92_0,hfz92_1⟩:=cz2 BK254.out;obtain⟨Ao93,co93,eo93⟩:=Kd.R_slice HO252.out;subst eo93;obtain⟨hcz94_0,hcz94_1,hcz94_2,hcz94_3,hcz94_4,hcz94_5,hcz94_6,hcz94_7,hfz94_0,hfz94_1,hfz94_2,hfz94_3,hfz94_4,hfz94_5,hfz94_6,hfz94_7⟩:=cz8 BK213.out))
          repeat (go_quiet (first|(go_at_call 28;(with_reducible refine (spec_l03Width.calls kj26 (l0.length:Int) a1 t240 _ A44.out).mono ?_);rintro e w80 ⟨rfl,hb⟩;replace HO_8:=mk0 (bR HO_8.out hb);replace HO_9:=mk0 (bR HO_9.out hb);replace BK213:=mk0 (kK BK213.out hb);replace HB:=mk0 (kS HB.out hb);(try clear hb);obtain⟨Ao81,co81,eo81⟩:=Kd.R_slice HO_8.out;subst eo81)|(go_at_call 29;(with_reducible refine (spec_PackOf.calls kj26 _ _ x8_3 t240 t241 t242 t243 t244 false _ ?side1 ?side2 A45.out).mono ?_);(case side1=>exact kC (Kd.R_reads' HO_8.out).2.2);(case side2=>exact (Kd.R_reads' HO_8.out).2.1);rintro e w82 ⟨v245,rfl,ho0,hb⟩;replace HO_8:=mk0 (bR HO_8.out hb);replace HO_9:=mk0 (bR HO_9.out hb);have HO246:=mk0 (Kd.R_lower ho0 (kZ HB.out));replace BK213:=mk0 (kK BK213.out hb);replace HB:=mk0 (kS HB.out hb);(try clear hb);(try clear ho0))|((with_reducible refine gate_dst (N:=12) rfl ?_);(try (refine gate_guard (by rfl) ?_;dsimp only));refine box_event ?hg (N:=12) ?hd (cs:=#[.int .i64 0,.int .i64 0,.int .i64 0,.slice none 0 0]) (t:=31) ?hr ?_;(case hd=>rfl);(case hg=>rfl);(case hr=>first|(go_simp;done)|(go_simp;rfl));intro gb248 hg w83 hbox hb;replace HO_8:=mk0 (bR HO_8.out hb);replace HO_9:=mk0 (bR HO_9.out hb);replace HO246:=mk0 (bR HO246.out hb);have BK248:=mk0 (hbox);have GW248:=mk0 ((by rw [hg];exact (kZ HB.out):w.heap.size ≤ gb248));have GE248:=mk0 ((by rw [hg];exact (kZ HB.out):w.heap.size ≤ gb248));replace HB:=mk0 (kS HB.out hb);have NB213_248:=mk0 ((by rw [hg];exact Nat.ne_of_lt (kL BK213.out):gb213 ≠ gb248));have NB248_213:=mk0 ((by rw [hg];exact Nat.ne_of_gt (kL BK213.out):gb248 ≠ gb213));replace BK213:=mk0 (kK BK213.out hb);clear hb hbox hg;have hnb84:=NB248_213.out;have hnc84:=NB213_248.out;obtain⟨hcz85_0,hcz85_1,hcz85_2,hcz85_3,hfz85_0,hfz85_1,hfz85_2,hfz85_3⟩:=cz4 BK248.out;obtain⟨Ao86,co86,eo86⟩:=Kd.R_slice HO246.out;subst eo86;obtain⟨Ao87,co87,eo87⟩:=Kd.R_slice HO_9.out;subst eo87)|(go_at_call 30;(with_reducible refine (spec_BitsOf.calls kj26 _ _ x9_3 t249 t250 t253 _ ?side1 ?side2 A46.out).mono ?_);(case side1=>refine (Kd.R_reads' (e:=3) (base:=w.heap.size) (ok:=fun k_=>some k_ ≠ (.slice Ao81 x8_3.length co81:Value).ownBlock) (n:=x9_3.length) (c:=co87) ?_).2.2;exact (by (with_reducible repeat (first|apply aR|apply nR|apply dR));exact (Kd.R_mono (Kd.R_far (p:=⟨gb248,3,none⟩) (Kd.R_far (p:=⟨gb248,2,none⟩) (Kd.R_far (p:=⟨gb248,1,none⟩) (Kd.R_far (p:=⟨gb248,0,none⟩) (Kd.R_types HO_9.out BK248.out (by decide)) (fun _ hk=>hk.2) (.int .i64 t241)) (fun _ hk=>hk.2) (.int .i64 t242)) (fun _ hk=>hk.2) (.int .i64 t243)) (fun _ hk=>hk.2) (.slice Ao86 t244.length co86)) (fun _ h_=>h_.1))));(case side2=>exact (Kd.R_reads' HO_9.out).2.1);rintro e w88 ⟨v251,rfl,ho0,hb⟩;replace HO_8:=mk0 (Kd.R_below (by (with_reducible repeat (first|apply aR|apply nR|apply dR));exact (Kd.R_mono (Kd.R_far (p:=⟨gb248,3,none⟩) (Kd.R_far (p:=⟨gb248,2,none⟩) (Kd.R_far (p:=⟨gb248,1,none⟩) (Kd.R_far (p:=⟨gb248,0,none⟩) (Kd.R_types HO_8.out BK248.out (by decide)) (fun _ hk=>hk.2) (.int .i64 t241)) (fun _ hk=>hk.2) (.int .i64 t242)) (fun _ hk=>hk.2) (.int .i64 t243)) (fun _ hk=>hk.2) (.slice Ao86 t244.length co86)) (fun _ h_=>h_.1))) hb);replace HO_9:=mk0 (Kd.R_below (by (with_reducible repeat (first|apply aR|apply nR|apply dR));exact (Kd.R_mono (Kd.R_far (p:=⟨gb248,3,none⟩) (Kd.R_far (p:=⟨gb248,2,none⟩) (Kd.R_far (p:=⟨gb248,1,none⟩) (Kd.R_far (p:=⟨gb248,0,none⟩) (Kd.R_types HO_9.out BK248.out (by decide)) (fun _ hk=>hk.2) (.int .i64 t241)) (fun _ hk=>hk.2) (.int .i64 t242)) (fun _ hk=>hk.2) (.int .i64 t243)) (fun _ hk=>hk.2) (.slice Ao86 t244.length co86)) (fun _ h_=>h_.1))) hb);have HO252:=mk0 (Kd.R_lower (Kd.R_new' ho0 (Kd.R_lt (by (with_reducible repeat (first|apply aR|apply nR|apply dR));exact (Kd.R_mono (Kd.R_far (p:=⟨gb248,3,none⟩) (Kd.R_far (p:=⟨gb248,2,none⟩) (Kd.R_far (p:=⟨gb248,1,none⟩) (Kd.R_far (p:=⟨gb248,0,none⟩) (Kd.R_types HO246.out BK248.out (by decide)) (fun _ hk=>hk.2) (.int .i64 t241)) (fun _ hk=>hk.2) (.int .i64 t242)) (fun _ hk=>hk.2) (.int .i64 t243)) (fun _ hk=>hk.2) (.slice Ao86 t244.length co86)) (fun _ h_=>h_.1))))) (kZ HB.out));replace HO246:=mk0 (Kd.R_elder' (by (with_reducible repeat (first|apply aR|apply nR|apply dR));exact (Kd.R_mono (Kd.R_far (p:=⟨gb248,3,none⟩) (Kd.R_far (p:=⟨gb248,2,none⟩) (Kd.R_far (p:=⟨gb248,1,none⟩) (Kd.R_far (p:=⟨gb248,0,none⟩) (Kd.R_types HO246.out BK248.out (by decide)) (fun _ hk=>hk.2) (.int .i64 t241)) (fun _ hk=>hk.2) (.int .i64 t242)) (fun _ hk=>hk.2) (.int .i64 t243)) (fun _ hk=>hk.2) (.slice Ao86 t244.length co86)) (fun _ h_=>h_.1))) (Kd.R_base ho0) hb);replace BK213:=mk0 (blk_below (g:=gb213) (o:=.cells #[.int .i64 x214000_2,.int .i64 x214001_2,.int .i64 x214002_2,.int .i64 x214003_2,.int .i64 x214004_2,.slice none 0 0,.int .i64 x214006_2,.slice none 0 0] 33 (0,0)) (by (with_reducible repeat (first|apply nB|apply dB|apply aB));refine blk_far ?_ NB213_248.out _;(with_reducible repeat (first|apply nB|apply dB|apply aB));refine blk_far ?_ NB213_248.out _;(with_reducible repeat (first|apply nB|apply dB|apply aB));refine blk_far ?_ NB213_248.out _;(with_reducible repeat (first|apply nB|apply dB|apply aB));refine blk_far ?_ NB213_248.out _;(with_reducible repeat (first|apply nB|apply dB|apply aB));exact BK213.out) hb);replace BK248:=mk0 (blk_below (g:=gb248) (o:=.cells #[.int .i64 t241,.int .i64 t242,.int .i64 t243,.slice Ao86 t244.length co86] 31 (0,0)) (by (with_reducible repeat (first|apply nB|apply dB|apply aB));refine blk_put (cs:=#[.int .i64 t241,.int .i64 t242,.int .i64 t243,.slice none 0 0]) ?_ 3 _ rfl;(with_reducible repeat (first|apply nB|apply dB|apply aB));refine blk_put (cs:=#[.int .i64 t241,.int .i64 t242,.int .i64 0,.slice none 0 0]) ?_ 2 _ rfl;(with_reducible repeat (first|apply nB|apply dB|apply aB));refine blk_put (cs:=#[.int .i64 t241,.int .i64 0,.int .i64 0,.slice none 0 0]) ?_ 1 _ rfl;(with_reducible repeat (first|apply nB|apply dB|apply aB));refine blk_put (cs:=#[.int .i64 0,.int .i64 0,.int .i64 0,.slice none 0 0]) ?_ 0 _ rfl;(with_reducible repeat (first|apply nB|apply dB|apply aB));exact BK248.out) hb);replace HB:=mk0 (kS HB.out hb);(try clear hb);(try clear ho0))|((with_reducible refine gate_dst (N:=14) rfl ?_);(try (refine gate_guard (by rfl) ?_;dsimp only));refine box_event ?hg (N:=14) ?hd (cs:=#[.int .i64 0,.slice none 0 0]) (t:=29) ?hr ?_;(case hd=>rfl);(case hg=>rfl);(case hr=>first|(go_simp;done)|(go_simp;rfl));intro gb254 hg w89 hbox hb;replace HO_8:=mk0 (bR HO_8.out hb);replace HO_9:=mk0 (bR HO_9.out hb);replace HO246:=mk0 (bR HO246.out hb);replace HO252:=mk0 (bR HO252.out hb);have BK254:=mk0 (hbox);have GW254:=mk0 ((by rw [hg];exact (kZ HB.out):w.heap.size ≤ gb254));have GE254:=mk0 ((by rw [hg];exact (kZ HB.out):w.heap.size ≤ gb254));replace HB:=mk0 (kS HB.out hb);have NB213_254:=mk0 ((by rw [hg];exact Nat.ne_of_lt (kL BK213.out):gb213 ≠ gb254));have NB254_213:=mk0 ((by rw [hg];exact Nat.ne_of_gt (kL BK213.out):gb254 ≠ gb213));replace BK213:=mk0 (kK BK213.out hb);have NB248_254:=mk0 ((by rw [hg];exact Nat.ne_of_lt (kL BK248.out):gb248 ≠ gb254));have NB254_248:=mk0 ((by rw [hg];exact Nat.ne_of_gt (kL BK248.out):gb254 ≠ gb248));replace BK248:=mk0 (kK BK248.out hb);clear hb hbox hg;have hnb90:=NB254_213.out;have hnc90:=NB213_254.out;have hnb91:=NB254_248.out;have hnc91:=NB248_254.out;obtain⟨hcz92_0,hcz92_1,hfz92_0,hfz92_1⟩:=cz2 BK254.out;obtain⟨Ao93,co93,eo93⟩:=Kd.R_slice HO252.out;subst eo93;obtain⟨hcz94_0,hcz94_1,hcz94_2,hcz94_3,hcz94_4,hcz94_5,hcz94_6,hcz94_7,hfz94_0,hfz94_1,hfz94_2,hfz94_3,hfz94_4,hfz94_5,hfz94_6,hfz94_7⟩:=cz8 BK213.out));try go_wp2_with (first|(go_at_call 28;(with_reducible refine (spec_l03Width.calls kj26 (l0.length:Int) a1 t240 _ A44.out).mono ?_);rintro e w80 ⟨rfl,hb⟩;replace HO_8:=mk0 (bR HO_8.out hb);replace HO_9:=mk0 (bR HO_9.out hb);replace BK213:=mk0 (kK BK213.out hb);replace HB:=mk0 (kS HB.out hb);(try clear hb);obtain⟨Ao81,co81,eo81⟩:=Kd.R_slice HO_8.out;subst eo81)|(go_at_call 29;(with_reducible refine (spec_PackOf.calls kj26 _ _ x8_3 t240 t241 t242 t243 t244 false _ ?side1 ?side2 A45.out).mono ?_);(case side1=>exact kC (Kd.R_reads' HO_8.out).2.2);(case side2=>exact (Kd.R_reads' HO_8.out).2.1);rintro e w82 ⟨v245,rfl,ho0,hb⟩;replace HO_8:=mk0 (bR HO_8.out hb);replace HO_9:=mk0 (bR HO_9.out hb);have HO246:=mk0 (Kd.R_lower ho0 (kZ HB.out));replace BK213:=mk0 (kK BK213.out hb);replace HB:=mk0 (kS HB.out hb);(try clear hb);(try clear ho0))|((with_reducible refine gate_dst (N:=12) rfl ?_);(try (refine gate_guard (by rfl) ?_;dsimp only));refine box_event ?hg (N:=12) ?hd (cs:=#[.int .i64 0,.int .i64 0,.int .i64 0,.slice none 0 0]) (t:=31) ?hr ?_;(case hd=>rfl);(case hg=>rfl);(case hr=>first|(go_simp;done)|(go_simp;rfl));intro gb248 hg w83 hbox hb;replace HO_8:=mk0 (bR HO_8.out hb);replace HO_9:=mk0 (bR HO_9.out hb);replace HO246:=mk0 (bR HO246.out hb);have BK248:=mk0 (hbox);have GW248:=mk0 ((by rw [hg];exact (kZ HB.out):w.heap.size ≤ gb248));have GE248:=mk0 ((by rw [hg];exact (kZ HB.out):w.heap.size ≤ gb248));replace HB:=mk0 (kS HB.out hb);have NB213_248:=mk0 ((by rw [hg];exact Nat.ne_of_lt (kL BK213.out):gb213 ≠ gb248));have NB248_213:=mk0 ((by rw [hg];exact Nat.ne_of_gt (kL BK213.out):gb248 ≠ gb213));replace BK213:=mk0 (kK BK213.out hb);clear hb hbox hg;have hnb84:=NB248_213.out;have hnc84:=NB213_248.out;obtain⟨hcz85_0,hcz85_1,hcz85_2,hcz85_3,hfz85_0,hfz85_1,hfz85_2,hfz85_3⟩:=cz4 BK248.out;obtain⟨Ao86,co86,eo86⟩:=Kd.R_slice HO246.out;subst eo86;obtain⟨Ao87,co87,eo87⟩:=Kd.R_slice HO_9.out;subst eo87)|(go_at_call 30;(with_reducible refine (spec_BitsOf.calls kj26 _ _ x9_3 t249 t250 t253 _ ?side1 ?side2 A46.out).mono ?_);(case side1=>refine (Kd.R_reads' (e:=3) (base:=w.heap.size) (ok:=fun k_=>some k_ ≠ (.slice Ao81 x8_3.length co81:Value).ownBlock) (n:=x9_3.length) (c:=co87) ?_).2.2;exact (by (with_reducible repeat (first|apply aR|apply nR|apply dR));exact (Kd.R_mono (Kd.R_far (p:=⟨gb248,3,none⟩) (Kd.R_far (p:=⟨gb248,2,none⟩) (Kd.R_far (p:=⟨gb248,1,none⟩) (Kd.R_far (p:=⟨gb248,0,none⟩) (Kd.R_types HO_9.out BK248.out (by decide)) (fun _ hk=>hk.2) (.int .i64 t241)) (fun _ hk=>hk.2) (.int .i64 t242)) (fun _ hk=>hk.2) (.int .i64 t243)) (fun _ hk=>hk.2) (.slice Ao86 t244.length co86)) (fun _ h_=>h_.1))));(case side2=>exact (Kd.R_reads' HO_9.out).2.1);rintro e w88 ⟨v251,rfl,ho0,hb⟩;replace HO_8:=mk0 (Kd.R_below (by (with_reducible repeat (first|apply aR|apply nR|apply dR));exact (Kd.R_mono (Kd.R_far (p:=⟨gb248,3,none⟩) (Kd.R_far (p:=⟨gb248,2,none⟩) (Kd.R_far (p:=⟨gb248,1,none⟩) (Kd.R_far (p:=⟨gb248,0,none⟩) (Kd.R_types HO_8.out BK248.out (by decide)) (fun _ hk=>hk.2) (.int .i64 t241)) (fun _ hk=>hk.2) (.int .i64 t242)) (fun _ hk=>hk.2) (.int .i64 t243)) (fun _ hk=>hk.2) (.slice Ao86 t244.length co86)) (fun _ h_=>h_.1))) hb);replace HO_9:=mk0 (Kd.R_below (by (with_reducible repeat (first|apply aR|apply nR|apply dR));exact (Kd.R_mono (Kd.R_far (p:=⟨gb248,3,none⟩) (Kd.R_far (p:=⟨gb248,2,none⟩) (Kd.R_far (p:=⟨gb248,1,none⟩) (Kd.R_far (p:=⟨gb248,0,none⟩) (Kd.R_types HO_9.out BK248.out (by decide)) (fun _ hk=>hk.2) (.int .i64 t241)) (fun _ hk=>hk.2) (.int .i64 t242)) (fun _ hk=>hk.2) (.int .i64 t243)) (fun _ hk=>hk.2) (.slice Ao86 t244.length co86)) (fun _ h_=>h_.1))) hb);have HO252:=mk0 (Kd.R_lower (Kd.R_new' ho0 (Kd.R_lt (by (with_reducible repeat (first|apply aR|apply nR|apply dR));exact (Kd.R_mono (Kd.R_far (p:=⟨gb248,3,none⟩) (Kd.R_far (p:=⟨gb248,2,none⟩) (Kd.R_far (p:=⟨gb248,1,none⟩) (Kd.R_far (p:=⟨gb248,0,none⟩) (Kd.R_types HO246.out BK248.out (by decide)) (fun _ hk=>hk.2) (.int .i64 t241)) (fun _ hk=>hk.2) (.int .i64 t242)) (fun _ hk=>hk.2) (.int .i64 t243)) (fun _ hk=>hk.2) (.slice Ao86 t244.length co86)) (fun _ h_=>h_.1))))) (kZ HB.out));replace HO246:=mk0 (Kd.R_elder' (by (with_reducible repeat (first|apply aR|apply nR|apply dR));exact (Kd.R_mono (Kd.R_far (p:=⟨gb248,3,none⟩) (Kd.R_far (p:=⟨gb248,2,none⟩) (Kd.R_far (p:=⟨gb248,1,none⟩) (Kd.R_far (p:=⟨gb248,0,none⟩) (Kd.R_types HO246.out BK248.out (by decide)) (fun _ hk=>hk.2) (.int .i64 t241)) (fun _ hk=>hk.2) (.int .i64 t242)) (fun _ hk=>hk.2) (.int .i64 t243)) (fun _ hk=>hk.2) (.slice Ao86 t244.length co86)) (fun _ h_=>h_.1))) (Kd.R_base ho0) hb);replace BK213:=mk0 (blk_below (g:=gb213) (o:=.cells #[.int .i64 x214000_2,.int .i64 x214001_2,.int .i64 x214002_2,.int .i64 x214003_2,.int .i64 x214004_2,.slice none 0 0,.int .i64 x214006_2,.slice none 0 0] 33 (0,0)) (by (with_reducible repeat (first|apply nB|apply dB|apply aB));refine blk_far ?_ NB213_248.out _;(with_reducible repeat (first|apply nB|apply dB|apply aB));refine blk_far ?_ NB213_248.out _;(with_reducible repeat (first|apply nB|apply dB|apply aB));refine blk_far ?_ NB213_248.out _;(with_reducible repeat (first|apply nB|apply dB|apply aB));refine blk_far ?_ NB213_248.out _;(with_reducible repeat (first|apply nB|apply dB|apply aB));exact BK213.out) hb);replace BK248:=mk0 (blk_below (g:=gb248) (o:=.cells #[.int .i64 t241,.int .i64 t242,.int .i64 t243,.slice Ao86 t244.length co86] 31 (0,0)) (by (with_reducible repeat (first|apply nB|apply dB|apply aB));refine blk_put (cs:=#[.int .i64 t241,.int .i64 t242,.int .i64 t243,.slice none 0 0]) ?_ 3 _ rfl;(with_reducible repeat (first|apply nB|apply dB|apply aB));refine blk_put (cs:=#[.int .i64 t241,.int .i64 t242,.int .i64 0,.slice none 0 0]) ?_ 2 _ rfl;(with_reducible repeat (first|apply nB|apply dB|apply aB));refine blk_put (cs:=#[.int .i64 t241,.int .i64 0,.int .i64 0,.slice none 0 0]) ?_ 1 _ rfl;(with_reducible repeat (first|apply nB|apply dB|apply aB));refine blk_put (cs:=#[.int .i64 0,.int .i64 0,.int .i64 0,.slice none 0 0]) ?_ 0 _ rfl;(with_reducible repeat (first|apply nB|apply dB|apply aB));exact BK248.out) hb);replace HB:=mk0 (kS HB.out hb);(try clear hb);(try clear ho0))|((with_reducible refine gate_dst (N:=14) rfl ?_);(try (refine gate_guard (by rfl) ?_;dsimp only));refine box_event ?hg (N:=14) ?hd (cs:=#[.int .i64 0,.slice none 0 0]) (t:=29) ?hr ?_;(case hd=>rfl);(case hg=>rfl);(case hr=>first|(go_simp;done)|(go_simp;rfl));intro gb254 hg w89 hbox hb;replace HO_8:=mk0 (bR HO_8.out hb);replace HO_9:=mk0 (bR HO_9.out hb);replace HO246:=mk0 (bR HO246.out hb);replace HO252:=mk0 (bR HO252.out hb);have BK254:=mk0 (hbox);have GW254:=mk0 ((by rw [hg];exact (kZ HB.out):w.heap.size ≤ gb254));have GE254:=mk0 ((by rw [hg];exact (kZ HB.out):w.heap.size ≤ gb254));replace HB:=mk0 (kS HB.out hb);have NB213_254:=mk0 ((by rw [hg];exact Nat.ne_of_lt (kL BK213.out):gb213 ≠ gb254));have NB254_213:=mk0 ((by rw [hg];exact Nat.ne_of_gt (kL BK213.out):gb254 ≠ gb213));replace BK213:=mk0 (kK BK213.out hb);have NB248_254:=mk0 ((by rw [hg];exact Nat.ne_of_lt (kL BK248.out):gb248 ≠ gb254));have NB254_248:=mk0 ((by rw [hg];exact Nat.ne_of_gt (kL BK248.out):gb254 ≠ gb248));replace BK248:=mk0 (kK BK248.out hb);clear hb hbox hg;have hnb90:=NB254_213.out;have hnc90:=NB213_254.out;have hnb91:=NB254_248.out;have hnc91:=NB248_254.out;obtain⟨hcz92_0,hcz92_1,hfz92_0,hfz92_1⟩:=cz2 BK254.out;obtain⟨Ao93,co93,eo93⟩:=Kd.R_slice HO252.out;subst eo93;obtain⟨hcz94_0,hcz94_1,hcz94_2,hcz94_3,hcz94_4,hcz94_5,hcz94_6,hcz94_7,hfz94_0,hfz94_1,hfz94_2,hfz94_3,hfz94_4,hfz94_5,hfz94_6,hfz94_7⟩:=cz8 BK213.out)))
          refine bodyPost_ret (results_ct rfl _ _ gb213 33 #[.int .i64 0,.int .i64 0,.int .i64 0,.int .i64 0,.int .i64 0,.slice none 0 0,.int .i64 0,.slice none 0 0] (0,0) _ rfl (by (with_reducible repeat (first|apply nB|apply dB|apply aB));refine blk_put (cs:=#[.int .i64 0,.int .i64 0,.int .i64 0,.int .i64 0,.int .i64 0,.slice none 0 0,.int .i64 0,.slice none 0 0]) ?_ 7 _ rfl;(with_reducible repeat (first|apply nB|apply dB|apply aB));refine blk_put (cs:=#[.int .i64 0,.int .i64 0,.int .i64 0,.int .i64 0,.int .i64 0,.slice none 0 0,.int .i64 x214006_2,.slice none 0 0]) ?_ 6 _ rfl;(with_reducible repeat (first|apply nB|apply dB|apply aB));refine blk_put (cs:=#[.int .i64 0,.int .i64 0,.int .i64 0,.int .i64 0,.int .i64 0,.slice none 0 0,.int .i64 x214006_2,.slice none 0 0]) ?_ 5 _ rfl;(with_reducible repeat (first|apply nB|apply dB|apply aB));refine blk_put (cs:=#[.int .i64 0,.int .i64 0,.int .i64 0,.int .i64 0,.int .i64 x214004_2,.slice none 0 0,.int .i64 x214006_2,.slice none 0 0]) ?_ 4 _ rfl;(with_reducible repeat (first|apply nB|apply dB|apply aB));refine blk_put (cs:=#[.int .i64 0,.int .i64 0,.int .i64 0,.int .i64 x214003_2,.int .i64 x214004_2,.slice none 0 0,.int .i64 x214006_2,.slice none 0 0]) ?_ 3 _ rfl;(with_reducible repeat (first|apply nB|apply dB|apply aB));refine blk_put (cs:=#[.int .i64 0,.int .i64 0,.int .i64 x214002_2,.int .i64 x214003_2,.int .i64 x214004_2,.slice none 0 0,.int .i64 x214006_2,.slice none 0 0]) ?_ 2 _ rfl;(with_reducible repeat (first|apply nB|apply dB|apply aB));refine blk_put (cs:=#[.int .i64 0,.int .i64 x214001_2,.int .i64 x214002_2,.int .i64 x214003_2,.int .i64 x214004_2,.slice none 0 0,.int .i64 x214006_2,.slice none 0 0]) ?_ 1 _ rfl;(with_reducible repeat (first|apply nB|apply dB|apply aB));refine blk_put (cs:=#[.int .i64 x214000_2,.int .i64 x214001_2,.int .i64 x214002_2,.int .i64 x214003_2,.int .i64 x214004_2,.slice none 0 0,.int .i64 x214006_2,.slice none 0 0]) ?_ 0 _ rfl;(with_reducible repeat (first|apply nB|apply dB|apply aB));refine blk_far ?_ NB213_254.out _;(with_reducible repeat (first|apply nB|apply dB|apply aB));refine blk_far ?_ NB213_254.out _;(with_reducible repeat (first|apply nB|apply dB|apply aB));exact BK213.out) Try.underlying33 rfl (by kernel_rfl)) rfl ?_
          exact⟨_,_,by first|rfl|(simp [errW_none,errW_some] <;> rfl)|(simp [*,errW_none,errW_some] <;> rfl),by first|exact Kd.R_nil _ _ _ _ _|exact Kd.N_nil _ _ _ _ _|exact Kd.V_nil _ _ _ _ _|exact Kd.Q_nil _ _ _ _ _|exact Kd.S_nil _ _ _ _ _,by first|exact Kd.R_nil _ _ _ _ _|exact Kd.N_nil _ _ _ _ _|exact Kd.V_nil _ _ _ _ _|exact Kd.Q_nil _ _ _ _ _|exact Kd.S_nil _ _ _ _ _,kB HB.out⟩

         subst c47
         have H1:(if t253 = true then (some (a1,(l0.length:Int),t241,t242,t243,t244,t249,t250,true)) else (some (0,0,0,0,0,([]:List Int),0,([]:List Int),false))) = some (r1,r2,r3,r4,r5,r6,r7,r8,r9):=by rw [if_pos rfl] at H;exact H
         clear H
         have H:=H1
         clear H1
         by_cases c48:t253 = true
         rotate_left
         ·replace c48:=Bool.eq_false_iff.mpr c48
          subst c48
          have H1:(some (0,0,0,0,0,([]:List Int),0,([]:List Int),false)) = some (r1,r2,r3,r4,r5,r6,r7,r8,r9):=by rw [if_neg (show ¬ (false = true) by decide)] at H;exact H
          clear H
          have H:=H1
          clear H1
          simp only [Option.some.injEq,Prod.mk.injEq] at H
          obtain⟨rfl,rfl,rfl,rfl,rfl,rfl,rfl,rfl,rfl⟩:=H
          go_wp2_with (first|(go_at_call 28;(with_reducible refine (spec_l03Width.calls kj26 (l0.length:Int) a1 t240 _ A44.out).mono ?_);rintro e w65 ⟨rfl,hb⟩;replace HO_8:=mk0 (bR HO_8.out hb);replace HO_9:=mk0 (bR HO_9.out hb);replace BK213:=mk0 (kK BK213.out hb);replace HB:=mk0 (kS HB.out hb);(try clear hb);obtain⟨Ao66,co66,eo66⟩:=Kd.R_slice HO_8.out;subst eo66)|(go_at_call 29;(with_reducible refine (spec_PackOf.calls kj26 _ _ x8_3 t240 t241 t242 t243 t244 true _ ?side1 ?side2 A45.out).mono ?_);(case side1=>exact kC (Kd.R_reads' HO_8.out).2.2);(case side2=>exact (Kd.R_reads' HO_8.out).2.1);rintro e w67 ⟨v245,rfl,ho0,hb⟩;replace HO_8:=mk0 (bR HO_8.out hb);replace HO_9:=mk0 (bR HO_9.out hb);have HO246:=mk0 (Kd.R_lower ho0 (kZ HB.out));replace BK213:=mk0 (kK BK213.out hb);replace HB:=mk0 (kS HB.out hb);(try clear hb);(try clear ho0))|((with_reducible refine gate_dst (N:=12) rfl ?_);(try (refine gate_guard (by rfl) ?_;dsimp only));refine box_event ?hg (N:=12) ?hd (cs:=#[.int .i64 0,.int .i64 0,.int .i64 0,.slice none 0 0]) (t:=31) ?hr ?_;(case hd=>rfl);(case hg=>rfl);(case hr=>first|(go_simp;done)|(go_simp;rfl));intro gb248 hg w68 hbox hb;replace HO_8:=mk0 (bR HO_8.out hb);replace HO_9:=mk0 (bR HO_9.out hb);replace HO246:=mk0 (bR HO246.out hb);have BK248:=mk0 (hbox);have GW248:=mk0 ((by rw [hg];exact (kZ HB.out):w.heap.size ≤ gb248));have GE248:=mk0 ((by rw [hg];exact (kZ HB.out):w.heap.size ≤ gb248));replace HB:=mk0 (kS HB.out hb);have NB213_248:=mk0 ((by rw [hg];exact Nat.ne_of_lt (kL BK213.out):gb213 ≠ gb248));have NB248_213:=mk0 ((by rw [hg];exact Nat.ne_of_gt (kL BK213.out):gb248 ≠ gb213));replace BK213:=mk0 (kK BK213.out hb);clear hb hbox hg;have hnb69:=NB248_213.out;have hnc69:=NB213_248.out;obtain⟨hcz70_0,hcz70_1,hcz70_2,hcz70_3,hfz70_0,hfz70_1,hfz70_2,hfz70_3⟩:=cz4 BK248.out;obtain⟨Ao71,co71,eo71⟩:=Kd.R_slice HO246.out;subst eo71;obtain⟨Ao72,co72,eo72⟩:=Kd.R_slice HO_9.out;subst eo72)|(go_at_call 30;(with_reducible refine (spec_BitsOf.calls kj26 _ _ x9_3 t249 t250 false _ ?side1 ?side2 A46.out).mono ?_);(case side1=>refine (Kd.R_reads' (e:=3) (base:=w.heap.size) (ok:=fun k_=>some k_ ≠ (.slice Ao66 x8_3.length co66:Value).ownBlock) (n:=x9_3.length) (c:=co72) ?_).2.2;exact (by (with_reducible repeat (first|apply aR|apply nR|apply dR));exact (Kd.R_mono (Kd.R_far (p:=⟨gb248,3,none⟩) (Kd.R_far (p:=⟨gb248,2,none⟩) (Kd.R_far (p:=⟨gb248,1,none⟩) (Kd.R_far (p:=⟨gb248,0,none⟩) (Kd.R_types HO_9.out BK248.out (by decide)) (fun _ hk=>hk.2) (.int .i64 t241)) (fun _ hk=>hk.2) (.int .i64 t242)) (fun _ hk=>hk.2) (.int .i64 t243)) (fun _ hk=>hk.2) (.slice Ao71 t244.length co71)) (fun _ h_=>h_.1))));(case side2=>exact (Kd.R_reads' HO_9.out).2.1);rintro e w73 ⟨v251,rfl,ho0,hb⟩;replace HO_8:=mk0 (Kd.R_below (by (with_reducible repeat (first|apply aR|apply nR|apply dR));exact (Kd.R_mono (Kd.R_far (p:=⟨gb248,3,none⟩) (Kd.R_far (p:=⟨gb248,2,none⟩) (Kd.R_far (p:=⟨gb248,1,none⟩) (Kd.R_far (p:=⟨gb248,0,none⟩) (Kd.R_types HO_8.out BK248.out (by decide)) (fun _ hk=>hk.2) (.int .i64 t241)) (fun _ hk=>hk.2) (.int .i64 t242)) (fun _ hk=>hk.2) (.int .i64 t243)) (fun _ hk=>hk.2) (.slice Ao71 t244.length co71)) (fun _ h_=>h_.1))) hb);replace HO_9:=mk0 (Kd.R_below (by (with_reducible repeat (first|apply aR|apply nR|apply dR));exact (Kd.R_mono (Kd.R_far (p:=⟨gb248,3,none⟩) (Kd.R_far (p:=⟨gb248,2,none⟩) (Kd.R_far (p:=⟨gb248,1,none⟩) (Kd.R_far (p:=⟨gb248,0,none⟩) (Kd.R_types HO_9.out BK248.out (by decide)) (fun _ hk=>hk.2) (.int .i64 t241)) (fun _ hk=>hk.2) (.int .i64 t242)) (fun _ hk=>hk.2) (.int .i64 t243)) (fun _ hk=>hk.2) (.slice Ao71 t244.length co71)) (fun _ h_=>h_.1))) hb);have HO252:=mk0 (Kd.R_lower (Kd.R_new' ho0 (Kd.R_lt (by (with_reducible repeat (first|apply aR|apply nR|apply dR));exact (Kd.R_mono (Kd.R_far (p:=⟨gb248,3,none⟩) (Kd.R_far (p:=⟨gb248,2,none⟩) (Kd.R_far (p:=⟨gb248,1,none⟩) (Kd.R_far (p:=⟨gb248,0,none⟩) (Kd.R_types HO246.out BK248.out (by decide)) (fun _ hk=>hk.2) (.int .i64 t241)) (fun _ hk=>hk.2) (.int .i64 t242)) (fun _ hk=>hk.2) (.int .i64 t243)) (fun _ hk=>hk.2) (.slice Ao71 t244.length co71)) (fun _ h_=>h_.1))))) (kZ HB.out));replace HO246:=mk0 (Kd.R_elder' (by (with_reducible repeat (first|apply aR|apply nR|apply dR));exact (Kd.R_mono (Kd.R_far (p:=⟨gb248,3,none⟩) (Kd.R_far (p:=⟨gb248,2,none⟩) (Kd.R_far (p:=⟨gb248,1,none⟩) (Kd.R_far (p:=⟨gb248,0,none⟩) (Kd.R_types HO246.out BK248.out (by decide)) (fun _ hk=>hk.2) (.int .i64 t241)) (fun _ hk=>hk.2) (.int .i64 t242)) (fun _ hk=>hk.2) (.int .i64 t243)) (fun _ hk=>hk.2) (.slice Ao71 t244.length co71)) (fun _ h_=>h_.1))) (Kd.R_base ho0) hb);replace BK213:=mk0 (blk_below (g:=gb213) (o:=.cells #[.int .i64 x214000_2,.int .i64 x214001_2,.int .i64 x214002_2,.int .i64 x214003_2,.int .i64 x214004_2,.slice none 0 0,.int .i64 x214006_2,.slice none 0 0] 33 (0,0)) (by (with_reducible repeat (first|apply nB|apply dB|apply aB));refine blk_far ?_ NB213_248.out _;(with_reducible repeat (first|apply nB|apply dB|apply aB));refine blk_far ?_ NB213_248.out _;(with_reducible repeat (first|apply nB|apply dB|apply aB));refine blk_far ?_ NB213_248.out _;(with_reducible repeat (first|apply nB|apply dB|apply aB));refine blk_far ?_ NB213_248.out _;(with_reducible repeat (first|apply nB|apply dB|apply aB));exact BK213.out) hb);replace BK248:=mk0 (blk_below (g:=gb248) (o:=.cells #[.int .i64 t241,.int .i64 t242,.int .i64 t243,.slice Ao71 t244.length co71] 31 (0,0)) (by (with_reducible repeat (first|apply nB|apply dB|apply aB));refine blk_put (cs:=#[.int .i64 t241,.int .i64 t242,.int .i64 t243,.slice none 0 0]) ?_ 3 _ rfl;(with_reducible repeat (first|apply nB|apply dB|apply aB));refine blk_put (cs:=#[.int .i64 t241,.int .i64 t242,.int .i64 0,.slice none 0 0]) ?_ 2 _ rfl;(with_reducible repeat (first|apply nB|apply dB|apply aB));refine blk_put (cs:=#[.int .i64 t241,.int .i64 0,.int .i64 0,.slice none 0 0]) ?_ 1 _ rfl;(with_reducible repeat (first|apply nB|apply dB|apply aB));refine blk_put (cs:=#[.int .i64 0,.int .i64 0,.int .i64 0,.slice none 0 0]) ?_ 0 _ rfl;(with_reducible repeat (first|apply nB|apply dB|apply aB));exact BK248.out) hb);replace HB:=mk0 (kS HB.out hb);(try clear hb);(try clear ho0))|((with_reducible refine gate_dst (N:=14) rfl ?_);(try (refine gate_guard (by rfl) ?_;dsimp only));refine box_event ?hg (N:=14) ?hd (cs:=#[.int .i64 0,.slice none 0 0]) (t:=29) ?hr ?_;(case hd=>rfl);(case hg=>rfl);(case hr=>first|(go_simp;done)|(go_simp;rfl));intro gb254 hg w74 hbox hb;replace HO_8:=mk0 (bR HO_8.out hb);replace HO_9:=mk0 (bR HO_9.out hb);replace HO246:=mk0 (bR HO246.out hb);replace HO252:=mk0 (bR HO252.out hb);have BK254:=mk0 (hbox);have GW254:=mk0 ((by rw [hg];exact (kZ HB.out):w.heap.size ≤ gb254));have GE254:=mk0 ((by rw [hg];exact (kZ HB.out):w.heap.size ≤ gb254));replace HB:=mk0 (kS HB.out hb);have NB213_254:=mk0 ((by rw [hg];exact Nat.ne_of_lt (kL BK213.out):gb213 ≠ gb254));have NB254_213:=mk0 ((by rw [hg];exact Nat.ne_of_gt (kL BK213.out):gb254 ≠ gb213));replace BK213:=mk0 (kK BK213.out hb);have NB248_254:=mk0 ((by rw [hg];exact Nat.ne_of_lt (kL BK248.out):gb248 ≠ gb254));have NB254_248:=mk0 ((by rw [hg];exact Nat.ne_of_gt (kL BK248.out):gb254 ≠ gb248));replace BK248:=mk0 (kK BK248.out hb);clear hb hbox hg;have hnb75:=NB254_213.out;have hnc75:=NB213_254.out;have hnb76:=NB254_248.out;have hnc76:=NB248_254.out;obtain⟨hcz77_0,hcz77_1,hfz77_0,hfz77_1⟩:=cz2 BK254.out;obtain⟨Ao78,co78,eo78⟩:=Kd.R_slice HO252.out;subst eo78;obtain⟨hcz79_0,hcz79_1,hcz79_2,hcz79_3,hcz79_4,hcz79_5,hcz79_6,hcz79_7,hfz79_0,hfz79_1,hfz79_2,hfz79_3,hfz79_4,hfz79_5,hfz79_6,hfz79_7⟩:=cz8 BK213.out))
          repeat (go_quiet (first|(go_at_call 28;(with_reducible refine (spec_l03Width.calls kj26 (l0.length:Int) a1 t240 _ A44.out).mono ?_);rintro e w65 ⟨rfl,hb⟩;replace HO_8:=mk0 (bR HO_8.out hb);replace HO_9:=mk0 (bR HO_9.out hb);replace BK213:=mk0 (kK BK213.out hb);replace HB:=mk0 (kS HB.out hb);(try clear hb);obtain⟨Ao66,co66,eo66⟩:=Kd.R_slice HO_8.out;subst eo66)|(go_at_call 29;(with_reducible refine (spec_PackOf.calls kj26 _ _ x8_3 t240 t241 t242 t243 t244 true _ ?side1 ?side2 A45.out).mono ?_);(case side1=>exact kC (Kd.R_reads' HO_8.out).2.2);(case side2=>exact (Kd.R_reads' HO_8.out).2.1);rintro e w67 ⟨v245,rfl,ho0,hb⟩;replace HO_8:=mk0 (bR HO_8.out hb);replace HO_9:=mk0 (bR HO_9.out hb);have HO246:=mk0 (Kd.R_lower ho0 (kZ HB.out));replace BK213:=mk0 (kK BK213.out hb);replace HB:=mk0 (kS HB.out hb);(try clear hb);(try clear ho0))|((with_reducible refine gate_dst (N:=12) rfl ?_);(try (refine gate_guard (by rfl) ?_;dsimp only));refine box_event ?hg (N:=12) ?hd (cs:=#[.int .i64 0,.int .i64 0,.int .i64 0,.slice none 0 0]) (t:=31) ?hr ?_;(case hd=>rfl);(case hg=>rfl);(case hr=>first|(go_simp;done)|(go_simp;rfl));intro gb248 hg w68 hbox hb;replace HO_8:=mk0 (bR HO_8.out hb);replace HO_9:=mk0 (bR HO_9.out hb);replace HO246:=mk0 (bR HO246.out hb);have BK248:=mk0 (hbox);have GW248:=mk0 ((by rw [hg];exact (kZ HB.out):w.heap.size ≤ gb248));have GE248:=mk0 ((by rw [hg];exact (kZ HB.out):w.heap.size ≤ gb248));replace HB:=mk0 (kS HB.out hb);have NB213_248:=mk0 ((by rw [hg];exact Nat.ne_of_lt (kL BK213.out):gb213 ≠ gb248));have NB248_213:=mk0 ((by rw [hg];exact Nat.ne_of_gt (kL BK213.out):gb248 ≠ gb213));replace BK213:=mk0 (kK BK213.out hb);clear hb hbox hg;have hnb69:=NB248_213.out;have hnc69:=NB213_248.out;obtain⟨hcz70_0,hcz70_1,hcz70_2,hcz70_3,hfz70_0,hfz70_1,hfz70_2,hfz70_3⟩:=cz4 BK248.out;obtain⟨Ao71,co71,eo71⟩:=Kd.R_slice HO246.out;subst eo71;obtain⟨Ao72,co72,eo72⟩:=Kd.R_slice HO_9.out;subst eo72)|(go_at_call 30;(with_reducible refine (spec_BitsOf.calls kj26 _ _ x9_3 t249 t250 false _ ?side1 ?side2 A46.out).mono ?_);(case side1=>refine (Kd.R_reads' (e:=3) (base:=w.heap.size) (ok:=fun k_=>some k_ ≠ (.slice Ao66 x8_3.length co66:Value).ownBlock) (n:=x9_3.length) (c:=co72) ?_).2.2;exact (by (with_reducible repeat (first|apply aR|apply nR|apply dR));exact (Kd.R_mono (Kd.R_far (p:=⟨gb248,3,none⟩) (Kd.R_far (p:=⟨gb248,2,none⟩) (Kd.R_far (p:=⟨gb248,1,none⟩) (Kd.R_far (p:=⟨gb248,0,none⟩) (Kd.R_types HO_9.out BK248.out (by decide)) (fun _ hk=>hk.2) (.int .i64 t241)) (fun _ hk=>hk.2) (.int .i64 t242)) (fun _ hk=>hk.2) (.int .i64 t243)) (fun _ hk=>hk.2) (.slice Ao71 t244.length co71)) (fun _ h_=>h_.1))));(case side2=>exact (Kd.R_reads' HO_9.out).2.1);rintro e w73 ⟨v251,rfl,ho0,hb⟩;replace HO_8:=mk0 (Kd.R_below (by (with_reducible repeat (first|apply aR|apply nR|apply dR));exact (Kd.R_mono (Kd.R_far (p:=⟨gb248,3,none⟩) (Kd.R_far (p:=⟨gb248,2,none⟩) (Kd.R_far (p:=⟨gb248,1,none⟩) (Kd.R_far (p:=⟨gb248,0,none⟩) (Kd.R_types HO_8.out BK248.out (by decide)) (fun _ hk=>hk.2) (.int .i64 t241)) (fun _ hk=>hk.2) (.int .i64 t242)) (fun _ hk=>hk.2) (.int .i64 t243)) (fun _ hk=>hk.2) (.slice Ao71 t244.length co71)) (fun _ h_=>h_.1))) hb);replace HO_9:=mk0 (Kd.R_below (by (with_reducible repeat (first|apply aR|apply nR|apply dR));exact (Kd.R_mono (Kd.R_far (p:=⟨gb248,3,none⟩) (Kd.R_far (p:=⟨gb248,2,none⟩) (Kd.R_far (p:=⟨gb248,1,none⟩) (Kd.R_far (p:=⟨gb248,0,none⟩) (Kd.R_types HO_9.out BK248.out (by decide)) (fun _ hk=>hk.2) (.int .i64 t241)) (fun _ hk=>hk.2) (.int .i64 t242)) (fun _ hk=>hk.2) (.int .i64 t243)) (fun _ hk=>hk.2) (.slice Ao71 t244.length co71)) (fun _ h_=>h_.1))) hb);have HO252:=mk0 (Kd.R_lower (Kd.R_new' ho0 (Kd.R_lt (by (with_reducible repeat (first|apply aR|apply nR|apply dR));exact (Kd.R_mono (Kd.R_far (p:=⟨gb248,3,none⟩) (Kd.R_far (p:=⟨gb248,2,none⟩) (Kd.R_far (p:=⟨gb248,1,none⟩) (Kd.R_far (p:=⟨gb248,0,none⟩) (Kd.R_types HO246.out BK248.out (by decide)) (fun _ hk=>hk.2) (.int .i64 t241)) (fun _ hk=>hk.2) (.int .i64 t242)) (fun _ hk=>hk.2) (.int .i64 t243)) (fun _ hk=>hk.2) (.slice Ao71 t244.length co71)) (fun _ h_=>h_.1))))) (kZ HB.out));replace HO246:=mk0 (Kd.R_elder' (by (with_reducible repeat (first|apply aR|apply nR|apply dR));exact (Kd.R_mono (Kd.R_far (p:=⟨gb248,3,none⟩) (Kd.R_far (p:=⟨gb248,2,none⟩) (Kd.R_far (p:=⟨gb248,1,none⟩) (Kd.R_far (p:=⟨gb248,0,none⟩) (Kd.R_types HO246.out BK248.out (by decide)) (fun _ hk=>hk.2) (.int .i64 t241)) (fun _ hk=>hk.2) (.int .i64 t242)) (fun _ hk=>hk.2) (.int .i64 t243)) (fun _ hk=>hk.2) (.slice Ao71 t244.length co71)) (fun _ h_=>h_.1))) (Kd.R_base ho0) hb);replace BK213:=mk0 (blk_below (g:=gb213) (o:=.cells #[.int .i64 x214000_2,.int .i64 x214001_2,.int .i64 x214002_2,.int .i64 x214003_2,.int .i64 x214004_2,.slice none 0 0,.int .i64 x214006_2,.slice none 0 0] 33 (0,0)) (by (with_reducible repeat (first|apply nB|apply dB|apply aB));refine blk_far ?_ NB213_248.out _;(with_reducible repeat (first|apply nB|apply dB|apply aB));refine blk_far ?_ NB213_248.out _;(with_reducible repeat (first|apply nB|apply dB|apply aB));refine blk_far ?_ NB213_248.out _;(with_reducible repeat (first|apply nB|apply dB|apply aB));refine blk_far ?_ NB213_248.out _;(with_reducible repeat (first|apply nB|apply dB|apply aB));exact BK213.out) hb);replace BK248:=mk0 (blk_below (g:=gb248) (o:=.cells #[.int .i64 t241,.int .i64 t242,.int .i64 t243,.slice Ao71 t244.length co71] 31 (0,0)) (by (with_reducible repeat (first|apply nB|apply dB|apply aB));refine blk_put (cs:=#[.int .i64 t241,.int .i64 t242,.int .i64 t243,.slice none 0 0]) ?_ 3 _ rfl;(with_reducible repeat (first|apply nB|apply dB|apply aB));refine blk_put (cs:=#[.int .i64 t241,.int .i64 t242,.int .i64 0,.slice none 0 0]) ?_ 2 _ rfl;(with_reducible repeat (first|apply nB|apply dB|apply aB));refine blk_put (cs:=#[.int .i64 t241,.int .i64 0,.int .i64 0,.slice none 0 0]) ?_ 1 _ rfl;(with_reducible repeat (first|apply nB|apply dB|apply aB));refine blk_put (cs:=#[.int .i64 0,.int .i64 0,.int .i64 0,.slice none 0 0]) ?_ 0 _ rfl;(with_reducible repeat (first|apply nB|apply dB|apply aB));exact BK248.out) hb);replace HB:=mk0 (kS HB.out hb);(try clear hb);(try clear ho0))|((with_reducible refine gate_dst (N:=14) rfl ?_);(try (refine gate_guard (by rfl) ?_;dsimp only));refine box_event ?hg (N:=14) ?hd (cs:=#[.int .i64 0,.slice none 0 0]) (t:=29) ?hr ?_;(case hd=>rfl);(case hg=>rfl);(case hr=>first|(go_simp;done)|(go_simp;rfl));intro gb254 hg w74 hbox hb;replace HO_8:=mk0 (bR HO_8.out hb);replace HO_9:=mk0 (bR HO_9.out hb);replace HO246:=mk0 (bR HO246.out hb);replace HO252:=mk0 (bR HO252.out hb);have BK254:=mk0 (hbox);have GW254:=mk0 ((by rw [hg];exact (kZ HB.out):w.heap.size ≤ gb254));have GE254:=mk0 ((by rw [hg];exact (kZ HB.out):w.heap.size ≤ gb254));replace HB:=mk0 (kS HB.out hb);have NB213_254:=mk0 ((by rw [hg];exact Nat.ne_of_lt (kL BK213.out):gb213 ≠ gb254));have NB254_213:=mk0 ((by rw [hg];exact Nat.ne_of_gt (kL BK213.out):gb254 ≠ gb213));replace BK213:=mk0 (kK BK213.out hb);have NB248_254:=mk0 ((by rw [hg];exact Nat.ne_of_lt (kL BK248.out):gb248 ≠ gb254));have NB254_248:=mk0 ((by rw [hg];exact Nat.ne_of_gt (kL BK248.out):gb254 ≠ gb248));replace BK248:=mk0 (kK BK248.out hb);clear hb hbox hg;have hnb75:=NB254_213.out;have hnc75:=NB213_254.out;have hnb76:=NB254_248.out;have hnc76:=NB248_254.out;obtain⟨hcz77_0,hcz77_1,hfz77_0,hfz77_1⟩:=cz2 BK254.out;obtain⟨Ao78,co78,eo78⟩:=Kd.R_slice HO252.out;subst eo78;obtain⟨hcz79_0,hcz79_1,hcz79_2,hcz79_3,hcz79_4,hcz79_5,hcz79_6,hcz79_7,hfz79_0,hfz79_1,hfz79_2,hfz79_3,hfz79_4,hfz79_5,hfz79_6,hfz79_7⟩:=cz8 BK213.out));try go_wp2_with (first|(go_at_call 28;(with_reducible refine (spec_l03Width.calls kj26 (l0.length:Int) a1 t240 _ A44.out).mono ?_);rintro e w65 ⟨rfl,hb⟩;replace HO_8:=mk0 (bR HO_8.out hb);replace HO_9:=mk0 (bR HO_9.out hb);replace BK213:=mk0 (kK BK213.out hb);replace HB:=mk0 (kS HB.out hb);(try clear hb);obtain⟨Ao66,co66,eo66⟩:=Kd.R_slice HO_8.out;subst eo66)|(go_at_call 29;(with_reducible refine (spec_PackOf.calls kj26 _ _ x8_3 t240 t241 t242 t243 t244 true _ ?side1 ?side2 A45.out).mono ?_);(case side1=>exact kC (Kd.R_reads' HO_8.out).2.2);(case side2=>exact (Kd.R_reads' HO_8.out).2.1);rintro e w67 ⟨v245,rfl,ho0,hb⟩;replace HO_8:=mk0 (bR HO_8.out hb);replace HO_9:=mk0 (bR HO_9.out hb);have HO246:=mk0 (Kd.R_lower ho0 (kZ HB.out));replace BK213:=mk0 (kK BK213.out hb);replace HB:=mk0 (kS HB.out hb);(try clear hb);(try clear ho0))|((with_reducible refine gate_dst (N:=12) rfl ?_);(try (refine gate_guard (by rfl) ?_;dsimp only));refine box_event ?hg (N:=12) ?hd (cs:=#[.int .i64 0,.int .i64 0,.int .i64 0,.slice none 0 0]) (t:=31) ?hr ?_;(case hd=>rfl);(case hg=>rfl);(case hr=>first|(go_simp;done)|(go_simp;rfl));intro gb248 hg w68 hbox hb;replace HO_8:=mk0 (bR HO_8.out hb);replace HO_9:=mk0 (bR HO_9.out hb);replace HO246:=mk0 (bR HO246.out hb);have BK248:=mk0 (hbox);have GW248:=mk0 ((by rw [hg];exact (kZ HB.out):w.heap.size ≤ gb248));have GE248:=mk0 ((by rw [hg];exact (kZ HB.out):w.heap.size ≤ gb248));replace HB:=mk0 (kS HB.out hb);have NB213_248:=mk0 ((by rw [hg];exact Nat.ne_of_lt (kL BK213.out):gb213 ≠ gb248));have NB248_213:=mk0 ((by rw [hg];exact Nat.ne_of_gt (kL BK213.out):gb248 ≠ gb213));replace BK213:=mk0 (kK BK213.out hb);clear hb hbox hg;have hnb69:=NB248_213.out;have hnc69:=NB213_248.out;obtain⟨hcz70_0,hcz70_1,hcz70_2,hcz70_3,hfz70_0,hfz70_1,hfz70_2,hfz70_3⟩:=cz4 BK248.out;obtain⟨Ao71,co71,eo71⟩:=Kd.R_slice HO246.out;subst eo71;obtain⟨Ao72,co72,eo72⟩:=Kd.R_slice HO_9.out;subst eo72)|(go_at_call 30;(with_reducible refine (spec_BitsOf.calls kj26 _ _ x9_3 t249 t250 false _ ?side1 ?side2 A46.out).mono ?_);(case side1=>refine (Kd.R_reads' (e:=3) (base:=w.heap.size) (ok:=fun k_=>some k_ ≠ (.slice Ao66 x8_3.length co66:Value).ownBlock) (n:=x9_3.length) (c:=co72) ?_).2.2;exact (by (with_reducible repeat (first|apply aR|apply nR|apply dR));exact (Kd.R_mono (Kd.R_far (p:=⟨gb248,3,none⟩) (Kd.R_far (p:=⟨gb248,2,none⟩) (Kd.R_far (p:=⟨gb248,1,none⟩) (Kd.R_far (p:=⟨gb248,0,none⟩) (Kd.R_types HO_9.out BK248.out (by decide)) (fun _ hk=>hk.2) (.int .i64 t241)) (fun _ hk=>hk.2) (.int .i64 t242)) (fun _ hk=>hk.2) (.int .i64 t243)) (fun _ hk=>hk.2) (.slice Ao71 t244.length co71)) (fun _ h_=>h_.1))));(case side2=>exact (Kd.R_reads' HO_9.out).2.1);rintro e w73 ⟨v251,rfl,ho0,hb⟩;replace HO_8:=mk0 (Kd.R_below (by (with_reducible repeat (first|apply aR|apply nR|apply dR));exact (Kd.R_mono (Kd.R_far (p:=⟨gb248,3,none⟩) (Kd.R_far (p:=⟨gb248,2,none⟩) (Kd.R_far (p:=⟨gb248,1,none⟩) (Kd.R_far (p:=⟨gb248,0,none⟩) (Kd.R_types HO_8.out BK248.out (by decide)) (fun _ hk=>hk.2) (.int .i64 t241)) (fun _ hk=>hk.2) (.int .i64 t242)) (fun _ hk=>hk.2) (.int .i64 t243)) (fun _ hk=>hk.2) (.slice Ao71 t244.length co71)) (fun _ h_=>h_.1))) hb);replace HO_9:=mk0 (Kd.R_below (by (with_reducible repeat (first|apply aR|apply nR|apply dR));exact (Kd.R_mono (Kd.R_far (p:=⟨gb248,3,none⟩) (Kd.R_far (p:=⟨gb248,2,none⟩) (Kd.R_far (p:=⟨gb248,1,none⟩) (Kd.R_far (p:=⟨gb248,0,none⟩) (Kd.R_types HO_9.out BK248.out (by decide)) (fun _ hk=>hk.2) (.int .i64 t241)) (fun _ hk=>hk.2) (.int .i64 t242)) (fun _ hk=>hk.2) (.int .i64 t243)) (fun _ hk=>hk.2) (.slice Ao71 t244.length co71)) (fun _ h_=>h_.1))) hb);have HO252:=mk0 (Kd.R_lower (Kd.R_new' ho0 (Kd.R_lt (by (with_reducible repeat (first|apply aR|apply nR|apply dR));exact (Kd.R_mono (Kd.R_far (p:=⟨gb248,3,none⟩) (Kd.R_far (p:=⟨gb248,2,none⟩) (Kd.R_far (p:=⟨gb248,1,none⟩) (Kd.R_far (p:=⟨gb248,0,none⟩) (Kd.R_types HO246.out BK248.out (by decide)) (fun _ hk=>hk.2) (.int .i64 t241)) (fun _ hk=>hk.2) (.int .i64 t242)) (fun _ hk=>hk.2) (.int .i64 t243)) (fun _ hk=>hk.2) (.slice Ao71 t244.length co71)) (fun _ h_=>h_.1))))) (kZ HB.out));replace HO246:=mk0 (Kd.R_elder' (by (with_reducible repeat (first|apply aR|apply nR|apply dR));exact (Kd.R_mono (Kd.R_far (p:=⟨gb248,3,none⟩) (Kd.R_far (p:=⟨gb248,2,none⟩) (Kd.R_far (p:=⟨gb248,1,none⟩) (Kd.R_far (p:=⟨gb248,0,none⟩) (Kd.R_types HO246.out BK248.out (by decide)) (fun _ hk=>hk.2) (.int .i64 t241)) (fun _ hk=>hk.2) (.int .i64 t242)) (fun _ hk=>hk.2) (.int .i64 t243)) (fun _ hk=>hk.2) (.slice Ao71 t244.length co71)) (fun _ h_=>h_.1))) (Kd.R_base ho0) hb);replace BK213:=mk0 (blk_below (g:=gb213) (o:=.cells #[.int .i64 x214000_2,.int .i64 x214001_2,.int .i64 x214002_2,.int .i64 x214003_2,.int .i64 x214004_2,.slice none 0 0,.int .i64 x214006_2,.slice none 0 0] 33 (0,0)) (by (with_reducible repeat (first|apply nB|apply dB|apply aB));refine blk_far ?_ NB213_248.out _;(with_reducible repeat (first|apply nB|apply dB|apply aB));refine blk_far ?_ NB213_248.out _;(with_reducible repeat (first|apply nB|apply dB|apply aB));refine blk_far ?_ NB213_248.out _;(with_reducible repeat (first|apply nB|apply dB|apply aB));refine blk_far ?_ NB213_248.out _;(with_reducible repeat (first|apply nB|apply dB|apply aB));exact BK213.out) hb);replace BK248:=mk0 (blk_below (g:=gb248) (o:=.cells #[.int .i64 t241,.int .i64 t242,.int .i64 t243,.slice Ao71 t244.length co71] 31 (0,0)) (by (with_reducible repeat (first|apply nB|apply dB|apply aB));refine blk_put (cs:=#[.int .i64 t241,.int .i64 t242,.int .i64 t243,.slice none 0 0]) ?_ 3 _ rfl;(with_reducible repeat (first|apply nB|apply dB|apply aB));refine blk_put (cs:=#[.int .i64 t241,.int .i64 t242,.int .i64 0,.slice none 0 0]) ?_ 2 _ rfl;(with_reducible repeat (first|apply nB|apply dB|apply aB));refine blk_put (cs:=#[.int .i64 t241,.int .i64 0,.int .i64 0,.slice none 0 0]) ?_ 1 _ rfl;(with_reducible repeat (first|apply nB|apply dB|apply aB));refine blk_put (cs:=#[.int .i64 0,.int .i64 0,.int .i64 0,.slice none 0 0]) ?_ 0 _ rfl;(with_reducible repeat (first|apply nB|apply dB|apply aB));exact BK248.out) hb);replace HB:=mk0 (kS HB.out hb);(try clear hb);(try clear ho0))|((with_reducible refine gate_dst (N:=14) rfl ?_);(try (refine gate_guard (by rfl) ?_;dsimp only));refine box_event ?hg (N:=14) ?hd (cs:=#[.int .i64 0,.slice none 0 0]) (t:=29) ?hr ?_;(case hd=>rfl);(case hg=>rfl);(case hr=>first|(go_simp;done)|(go_simp;rfl));intro gb254 hg w74 hbox hb;replace HO_8:=mk0 (bR HO_8.out hb);replace HO_9:=mk0 (bR HO_9.out hb);replace HO246:=mk0 (bR HO246.out hb);replace HO252:=mk0 (bR HO252.out hb);have BK254:=mk0 (hbox);have GW254:=mk0 ((by rw [hg];exact (kZ HB.out):w.heap.size ≤ gb254));have GE254:=mk0 ((by rw [hg];exact (kZ HB.out):w.heap.size ≤ gb254));replace HB:=mk0 (kS HB.out hb);have NB213_254:=mk0 ((by rw [hg];exact Nat.ne_of_lt (kL BK213.out):gb213 ≠ gb254));have NB254_213:=mk0 ((by rw [hg];exact Nat.ne_of_gt (kL BK213.out):gb254 ≠ gb213));replace BK213:=mk0 (kK BK213.out hb);have NB248_254:=mk0 ((by rw [hg];exact Nat.ne_of_lt (kL BK248.out):gb248 ≠ gb254));have NB254_248:=mk0 ((by rw [hg];exact Nat.ne_of_gt (kL BK248.out):gb254 ≠ gb248));replace BK248:=mk0 (kK BK248.out hb);clear hb hbox hg;have hnb75:=NB254_213.out;have hnc75:=NB213_254.out;have hnb76:=NB254_248.out;have hnc76:=NB248_254.out;obtain⟨hcz77_0,hcz77_1,hfz77_0,hfz77_1⟩:=cz2 BK254.out;obtain⟨Ao78,co78,eo78⟩:=Kd.R_slice HO252.out;subst eo78;obtain⟨hcz79_0,hcz79_1,hcz79_2,hcz79_3,hcz79_4,hcz79_5,hcz79_6,hcz79_7,hfz79_0,hfz79_1,hfz79_2,hfz79_3,hfz79_4,hfz79_5,hfz79_6,hfz79_7⟩:=cz8 BK213.out)))
          refine bodyPost_ret (results_ct rfl _ _ gb213 33 #[.int .i64 0,.int .i64 0,.int .i64 0,.int .i64 0,.int .i64 0,.slice none 0 0,.int .i64 0,.slice none 0 0] (0,0) _ rfl (by (with_reducible repeat (first|apply nB|apply dB|apply aB));refine blk_put (cs:=#[.int .i64 0,.int .i64 0,.int .i64 0,.int .i64 0,.int .i64 0,.slice none 0 0,.int .i64 0,.slice none 0 0]) ?_ 7 _ rfl;(with_reducible repeat (first|apply nB|apply dB|apply aB));refine blk_put (cs:=#[.int .i64 0,.int .i64 0,.int .i64 0,.int .i64 0,.int .i64 0,.slice none 0 0,.int .i64 x214006_2,.slice none 0 0]) ?_ 6 _ rfl;(with_reducible repeat (first|apply nB|apply dB|apply aB));refine blk_put (cs:=#[.int .i64 0,.int .i64 0,.int .i64 0,.int .i64 0,.int .i64 0,.slice none 0 0,.int .i64 x214006_2,.slice none 0 0]) ?_ 5 _ rfl;(with_reducible repeat (first|apply nB|apply dB|apply aB));refine blk_put (cs:=#[.int .i64 0,.int .i64 0,.int .i64 0,.int .i64 0,.int .i64 x214004_2,.slice none 0 0,.int .i64 x214006_2,.slice none 0 0]) ?_ 4 _ rfl;(with_reducible repeat (first|apply nB|apply dB|apply aB));refine blk_put (cs:=#[.int .i64 0,.int .i64 0,.int .i64 0,.int .i64 x214003_2,.int .i64 x214004_2,.slice none 0 0,.int .i64 x214006_2,.slice none 0 0]) ?_ 3 _ rfl;(with_reducible repeat (first|apply nB|apply dB|apply aB));refine blk_put (cs:=#[.int .i64 0,.int .i64 0,.int .i64 x214002_2,.int .i64 x214003_2,.int .i64 x214004_2,.slice none 0 0,.int .i64 x214006_2,.slice none 0 0]) ?_ 2 _ rfl;(with_reducible repeat (first|apply nB|apply dB|apply aB));refine blk_put (cs:=#[.int .i64 0,.int .i64 x214001_2,.int .i64 x214002_2,.int .i64 x214003_2,.int .i64 x214004_2,.slice none 0 0,.int .i64 x214006_2,.slice none 0 0]) ?_ 1 _ rfl;(with_reducible repeat (first|apply nB|apply dB|apply aB));refine blk_put (cs:=#[.int .i64 x214000_2,.int .i64 x214001_2,.int .i64 x214002_2,.int .i64 x214003_2,.int .i64 x214004_2,.slice none 0 0,.int .i64 x214006_2,.slice none 0 0]) ?_ 0 _ rfl;(with_reducible repeat (first|apply nB|apply dB|apply aB));refine blk_far ?_ NB213_254.out _;(with_reducible repeat (first|apply nB|apply dB|apply aB));refine blk_far ?_ NB213_254.out _;(with_reducible repeat (first|apply nB|apply dB|apply aB));exact BK213.out) Try.underlying33 rfl (by kernel_rfl)) rfl ?_
          exact⟨_,_,by first|rfl|(simp [errW_none,errW_some] <;> rfl)|(simp [*,errW_none,errW_some] <;> rfl),by first|exact Kd.R_nil _ _ _ _ _|exact Kd.N_nil _ _ _ _ _|exact Kd.V_nil _ _ _ _ _|exact Kd.Q_nil _ _ _ _ _|exact Kd.S_nil _ _ _ _ _,by first|exact Kd.R_nil _ _ _ _ _|exact Kd.N_nil _ _ _ _ _|exact Kd.V_nil _ _ _ _ _|exact Kd.Q_nil _ _ _ _ _|exact Kd.S_nil _ _ _ _ _,kB HB.out⟩
         subst c48
         have H1:(some (a1,(l0.length:Int),t241,t242,t243,t244,t249,t250,true)) = some (r1,r2,r3,r4,r5,r6,r7,r8,r9):=by rw [if_pos rfl] at H;exact H
         clear H
         have H:=H1
         clear H1
         simp only [Option.some.injEq,Prod.mk.injEq] at H
         obtain⟨rfl,rfl,rfl,rfl,rfl,rfl,rfl,rfl,rfl⟩:=H
         go_wp2_with (first|(go_at_call 28;(with_reducible refine (spec_l03Width.calls kj26 (l0.length:Int) a1 t240 _ A44.out).mono ?_);rintro e w49 ⟨rfl,hb⟩;replace HO_8:=mk0 (bR HO_8.out hb);replace HO_9:=mk0 (bR HO_9.out hb);replace BK213:=mk0 (kK BK213.out hb);replace HB:=mk0 (kS HB.out hb);(try clear hb);obtain⟨Ao50,co50,eo50⟩:=Kd.R_slice HO_8.out;subst eo50)|(go_at_call 29;(with_reducible refine (spec_PackOf.calls kj26 _ _ x8_3 t240 t241 t242 t243 t244 true _ ?side1 ?side2 A45.out).mono ?_);(case side1=>exact kC (Kd.R_reads' HO_8.out).2.2);(case side2=>exact (Kd.R_reads' HO_8.out).2.1);rintro e w51 ⟨v245,rfl,ho0,hb⟩;replace HO_8:=mk0 (bR HO_8.out hb);replace HO_9:=mk0 (bR HO_9.out hb);have HO246:=mk0 (Kd.R_lower ho0 (kZ HB.out));replace BK213:=mk0 (kK BK213.out hb);replace HB:=mk0 (kS HB.out hb);(try clear hb);(try clear ho0))|((with_reducible refine gate_dst (N:=12) rfl ?_);(try (refine gate_guard (by rfl) ?_;dsimp only));refine box_event ?hg (N:=12) ?hd (cs:=#[.int .i64 0,.int .i64 0,.int .i64 0,.slice none 0 0]) (t:=31) ?hr ?_;(case hd=>rfl);(case hg=>rfl);(case hr=>first|(go_simp;done)|(go_simp;rfl));intro gb248 hg w52 hbox hb;replace HO_8:=mk0 (bR HO_8.out hb);replace HO_9:=mk0 (bR HO_9.out hb);replace HO246:=mk0 (bR HO246.out hb);have BK248:=mk0 (hbox);have GW248:=mk0 ((by rw [hg];exact (kZ HB.out):w.heap.size ≤ gb248));have GE248:=mk0 ((by rw [hg];exact (kZ HB.out):w.heap.size ≤ gb248));replace HB:=mk0 (kS HB.out hb);have NB213_248:=mk0 ((by rw [hg];exact Nat.ne_of_lt (kL BK213.out):gb213 ≠ gb248));have NB248_213:=mk0 ((by rw [hg];exact Nat.ne_of_gt (kL BK213.out):gb248 ≠ gb213));replace BK213:=mk0 (kK BK213.out hb);clear hb hbox hg;have hnb53:=NB248_213.out;have hnc53:=NB213_248.out;obtain⟨hcz54_0,hcz54_1,hcz54_2,hcz54_3,hfz54_0,hfz54_1,hfz54_2,hfz54_3⟩:=cz4 BK248.out;obtain⟨Ao55,co55,eo55⟩:=Kd.R_slice HO246.out;subst eo55;obtain⟨Ao56,co56,eo56⟩:=Kd.R_slice HO_9.out;subst eo56)|(go_at_call 30;(with_reducible refine (spec_BitsOf.calls kj26 _ _ x9_3 t249 t250 true _ ?side1 ?side2 A46.out).mono ?_);(case side1=>refine (Kd.R_reads' (e:=3) (base:=w.heap.size) (ok:=fun k_=>some k_ ≠ (.slice Ao50 x8_3.length co50:Value).ownBlock) (n:=x9_3.length) (c:=co56) ?_).2.2;exact (by (with_reducible repeat (first|apply aR|apply nR|apply dR));exact (Kd.R_mono (Kd.R_far (p:=⟨gb248,3,none⟩) (Kd.R_far (p:=⟨gb248,2,none⟩) (Kd.R_far (p:=⟨gb248,1,none⟩) (Kd.R_far (p:=⟨gb248,0,none⟩) (Kd.R_types HO_9.out BK248.out (by decide)) (fun _ hk=>hk.2) (.int .i64 t241)) (fun _ hk=>hk.2) (.int .i64 t242)) (fun _ hk=>hk.2) (.int .i64 t243)) (fun _ hk=>hk.2) (.slice Ao55 t244.length co55)) (fun _ h_=>h_.1))));(case side2=>exact (Kd.R_reads' HO_9.out).2.1);rintro e w57 ⟨v251,rfl,ho0,hb⟩;replace HO_8:=mk0 (Kd.R_below (by (with_reducible repeat (first|apply aR|apply nR|apply dR));exact (Kd.R_mono (Kd.R_far (p:=⟨gb248,3,none⟩) (Kd.R_far (p:=⟨gb248,2,none⟩) (Kd.R_far (p:=⟨gb248,1,none⟩) (Kd.R_far (p:=⟨gb248,0,none⟩) (Kd.R_types HO_8.out BK248.out (by decide)) (fun _ hk=>hk.2) (.int .i64 t241)) (fun _ hk=>hk.2) (.int .i64 t242)) (fun _ hk=>hk.2) (.int .i64 t243)) (fun _ hk=>hk.2) (.slice Ao55 t244.length co55)) (fun _ h_=>h_.1))) hb);replace HO_9:=mk0 (Kd.R_below (by (with_reducible repeat (first|apply aR|apply nR|apply dR));exact (Kd.R_mono (Kd.R_far (p:=⟨gb248,3,none⟩) (Kd.R_far (p:=⟨gb248,2,none⟩) (Kd.R_far (p:=⟨gb248,1,none⟩) (Kd.R_far (p:=⟨gb248,0,none⟩) (Kd.R_types HO_9.out BK248.out (by decide)) (fun _ hk=>hk.2) (.int .i64 t241)) (fun _ hk=>hk.2) (.int .i64 t242)) (fun _ hk=>hk.2) (.int .i64 t243)) (fun _ hk=>hk.2) (.slice Ao55 t244.length co55)) (fun _ h_=>h_.1))) hb);have HO252:=mk0 (Kd.R_lower (Kd.R_new' ho0 (Kd.R_lt (by (with_reducible repeat (first|apply aR|apply nR|apply dR));exact (Kd.R_mono (Kd.R_far (p:=⟨gb248,3,none⟩) (Kd.R_far (p:=⟨gb248,2,none⟩) (Kd.R_far (p:=⟨gb248,1,none⟩) (Kd.R_far (p:=⟨gb248,0,none⟩) (Kd.R_types HO246.out BK248.out (by decide)) (fun _ hk=>hk.2) (.int .i64 t241)) (fun _ hk=>hk.2) (.int .i64 t242)) (fun _ hk=>hk.2) (.int .i64 t243)) (fun _ hk=>hk.2) (.slice Ao55 t244.length co55)) (fun _ h_=>h_.1))))) (kZ HB.out));replace HO246:=mk0 (Kd.R_elder' (by (with_reducible repeat (first|apply aR|apply nR|apply dR));exact (Kd.R_mono (Kd.R_far (p:=⟨gb248,3,none⟩) (Kd.R_far (p:=⟨gb248,2,none⟩) (Kd.R_far (p:=⟨gb248,1,none⟩) (Kd.R_far (p:=⟨gb248,0,none⟩) (Kd.R_types HO246.out BK248.out (by decide)) (fun _ hk=>hk.2) (.int .i64 t241)) (fun _ hk=>hk.2) (.int .i64 t242)) (fun _ hk=>hk.2) (.int .i64 t243)) (fun _ hk=>hk.2) (.slice Ao55 t244.length co55)) (fun _ h_=>h_.1))) (Kd.R_base ho0) hb);replace BK213:=mk0 (blk_below (g:=gb213) (o:=.cells #[.int .i64 x214000_2,.int .i64 x214001_2,.int .i64 x214002_2,.int .i64 x214003_2,.int .i64 x214004_2,.slice none 0 0,.int .i64 x214006_2,.slice none 0 0] 33 (0,0)) (by (with_reducible repeat (first|apply nB|apply dB|apply aB));refine blk_far ?_ NB213_248.out _;(with_reducible repeat (first|apply nB|apply dB|apply aB));refine blk_far ?_ NB213_248.out _;(with_reducible repeat (first|apply nB|apply dB|apply aB));refine blk_far ?_ NB213_248.out _;(with_reducible repeat (first|apply nB|apply dB|apply aB));refine blk_far ?_ NB213_248.out _;(with_reducible repeat (first|apply nB|apply dB|apply aB));exact BK213.out) hb);replace BK248:=mk0 (blk_below (g:=gb248) (o:=.cells #[.int .i64 t241,.int .i64 t242,.int .i64 t243,.slice Ao55 t244.length co55] 31 (0,0)) (by (with_reducible repeat (first|apply nB|apply dB|apply aB));refine blk_put (cs:=#[.int .i64 t241,.int .i64 t242,.int .i64 t243,.slice none 0 0]) ?_ 3 _ rfl;(with_reducible repeat (first|apply nB|apply dB|apply aB));refine blk_put (cs:=#[.int .i64 t241,.int .i64 t242,.int .i64 0,.slice none 0 0]) ?_ 2 _ rfl;(with_reducible repeat (first|apply nB|apply dB|apply aB));refine blk_put (cs:=#[.int .i64 t241,.int .i64 0,.int .i64 0,.slice none 0 0]) ?_ 1 _ rfl;(with_reducible repeat (first|apply nB|apply dB|apply aB));refine blk_put (cs:=#[.int .i64 0,.int .i64 0,.int .i64 0,.slice none 0 0]) ?_ 0 _ rfl;(with_reducible repeat (first|apply nB|apply dB|apply aB));exact BK248.out) hb);replace HB:=mk0 (kS HB.out hb);(try clear hb);(try clear ho0))|((with_reducible refine gate_dst (N:=14) rfl ?_);(try (refine gate_guard (by rfl) ?_;dsimp only));refine box_event ?hg (N:=14) ?hd (cs:=#[.int .i64 0,.slice none 0 0]) (t:=29) ?hr ?_;(case hd=>rfl);(case hg=>rfl);(case hr=>first|(go_simp;done)|(go_simp;rfl));intro gb254 hg w58 hbox hb;replace HO_8:=mk0 (bR HO_8.out hb);replace HO_9:=mk0 (bR HO_9.out hb);replace HO246:=mk0 (bR HO246.out hb);replace HO252:=mk0 (bR HO252.out hb);have BK254:=mk0 (hbox);have GW254:=mk0 ((by rw [hg];exact (kZ HB.out):w.heap.size ≤ gb254));have GE254:=mk0 ((by rw [hg];exact (kZ HB.out):w.heap.size ≤ gb254));replace HB:=mk0 (kS HB.out hb);have NB213_254:=mk0 ((by rw [hg];exact Nat.ne_of_lt (kL BK213.out):gb213 ≠ gb254));have NB254_213:=mk0 ((by rw [hg];exact Nat.ne_of_gt (kL BK213.out):gb254 ≠ gb213));replace BK213:=mk0 (kK BK213.out hb);have NB248_254:=mk0 ((by rw [hg];exact Nat.ne_of_lt (kL BK248.out):gb248 ≠ gb254));have NB254_248:=mk0 ((by rw [hg];exact Nat.ne_of_gt (kL BK248.out):gb254 ≠ gb248));replace BK248:=mk0 (kK BK248.out hb);clear hb hbox hg;have hnb59:=NB254_213.out;have hnc59:=NB213_254.out;have hnb60:=NB254_248.out;have hnc60:=NB248_254.out;obtain⟨hcz61_0,hcz61_1,hfz61_0,hfz61_1⟩:=cz2 BK254.out;obtain⟨Ao62,co62,eo62⟩:=Kd.R_slice HO252.out;subst eo62;obtain⟨hcz63_0,hcz63_1,hcz63_2,hcz63_3,hfz63_0,hfz63_1,hfz63_2,hfz63_3⟩:=cz4 BK248.out;obtain⟨hcz64_0,hcz64_1,hcz64_2,hcz64_3,hcz64_4,hcz64_5,hcz64_6,hcz64_7,hfz64_0,hfz64_1,hfz64_2,hfz64_3,hfz64_4,hfz64_5,hfz64_6,hfz64_7⟩:=cz8 BK213.out))
         repeat (go_quiet (first|(go_at_call 28;(with_reducible refine (spec_l03Width.calls kj26 (l0.length:Int) a1 t240 _ A44.out).mono ?_);rintro e w49 ⟨rfl,hb⟩;replace HO_8:=mk0 (bR HO_8.out hb);replace HO_9:=mk0 (bR HO_9.out hb);replace BK213:=mk0 (kK BK213.out hb);replace HB:=mk0 (kS HB.out hb);(try clear hb);obtain⟨Ao50,co50,eo50⟩:=Kd.R_slice HO_8.out;subst eo50)|(go_at_call 29;(with_reducible refine (spec_PackOf.calls kj26 _ _ x8_3 t240 t241 t242 t243 t244 true _ ?side1 ?side2 A45.out).mono ?_);(case side1=>exact kC (Kd.R_reads' HO_8.out).2.2);(case side2=>exact (Kd.R_reads' HO_8.out).2.1);rintro e w51 ⟨v245,rfl,ho0,hb⟩;replace HO_8:=mk0 (bR HO_8.out hb);replace HO_9:=mk0 (bR HO_9.out hb);have HO246:=mk0 (Kd.R_lower ho0 (kZ HB.out));replace BK213:=mk0 (kK BK213.out hb);replace HB:=mk0 (kS HB.out hb);(try clear hb);(try clear ho0))|((with_reducible refine gate_dst (N:=12) rfl ?_);(try (refine gate_guard (by rfl) ?_;dsimp only));refine box_event ?hg (N:=12) ?hd (cs:=#[.int .i64 0,.int .i64 0,.int .i64 0,.slice none 0 0]) (t:=31) ?hr ?_;(case hd=>rfl);(case hg=>rfl);(case hr=>first|(go_simp;done)|(go_simp;rfl));intro gb248 hg w52 hbox hb;replace HO_8:=mk0 (bR HO_8.out hb);replace HO_9:=mk0 (bR HO_9.out hb);replace HO246:=mk0 (bR HO246.out hb);have BK248:=mk0 (hbox);have GW248:=mk0 ((by rw [hg];exact (kZ HB.out):w.heap.size ≤ gb248));have GE248:=mk0 ((by rw [hg];exact (kZ HB.out):w.heap.size ≤ gb248));replace HB:=mk0 (kS HB.out hb);have NB213_248:=mk0 ((by rw [hg];exact Nat.ne_of_lt (kL BK213.out):gb213 ≠ gb248));have NB248_213:=mk0 ((by rw [hg];exact Nat.ne_of_gt (kL BK213.out):gb248 ≠ gb213));replace BK213:=mk0 (kK BK213.out hb);clear hb hbox hg;have hnb53:=NB248_213.out;have hnc53:=NB213_248.out;obtain⟨hcz54_0,hcz54_1,hcz54_2,hcz54_3,hfz54_0,hfz54_1,hfz54_2,hfz54_3⟩:=cz4 BK248.out;obtain⟨Ao55,co55,eo55⟩:=Kd.R_slice HO246.out;subst eo55;obtain⟨Ao56,co56,eo56⟩:=Kd.R_slice HO_9.out;subst eo56)|(go_at_call 30;(with_reducible refine (spec_BitsOf.calls kj26 _ _ x9_3 t249 t250 true _ ?side1 ?side2 A46.out).mono ?_);(case side1=>refine (Kd.R_reads' (e:=3) (base:=w.heap.size) (ok:=fun k_=>some k_ ≠ (.slice Ao50 x8_3.length co50:Value).ownBlock) (n:=x9_3.length) (c:=co56) ?_).2.2;exact (by (with_reducible repeat (first|apply aR|apply nR|apply dR));exact (Kd.R_mono (Kd.R_far (p:=⟨gb248,3,none⟩) (Kd.R_far (p:=⟨gb248,2,none⟩) (Kd.R_far (p:=⟨gb248,1,none⟩) (Kd.R_far (p:=⟨gb248,0,none⟩) (Kd.R_types HO_9.out BK248.out (by decide)) (fun _ hk=>hk.2) (.int .i64 t241)) (fun _ hk=>hk.2) (.int .i64 t242)) (fun _ hk=>hk.2) (.int .i64 t243)) (fun _ hk=>hk.2) (.slice Ao55 t244.length co55)) (fun _ h_=>h_.1))));(case side2=>exact (Kd.R_reads' HO_9.out).2.1);rintro e w57 ⟨v251,rfl,ho0,hb⟩;replace HO_8:=mk0 (Kd.R_below (by (with_reducible repeat (first|apply aR|apply nR|apply dR));exact (Kd.R_mono (Kd.R_far (p:=⟨gb248,3,none⟩) (Kd.R_far (p:=⟨gb248,2,none⟩) (Kd.R_far (p:=⟨gb248,1,none⟩) (Kd.R_far (p:=⟨gb248,0,none⟩) (Kd.R_types HO_8.out BK248.out (by decide)) (fun _ hk=>hk.2) (.int .i64 t241)) (fun _ hk=>hk.2) (.int .i64 t242)) (fun _ hk=>hk.2) (.int .i64 t243)) (fun _ hk=>hk.2) (.slice Ao55 t244.length co55)) (fun _ h_=>h_.1))) hb);replace HO_9:=mk0 (Kd.R_below (by (with_reducible repeat (first|apply aR|apply nR|apply dR));exact (Kd.R_mono (Kd.R_far (p:=⟨gb248,3,none⟩) (Kd.R_far (p:=⟨gb248,2,none⟩) (Kd.R_far (p:=⟨gb248,1,none⟩) (Kd.R_far (p:=⟨gb248,0,none⟩) (Kd.R_types HO_9.out BK248.out (by decide)) (fun _ hk=>hk.2) (.int .i64 t241)) (fun _ hk=>hk.2) (.int .i64 t242)) (fun _ hk=>hk.2) (.int .i64 t243)) (fun _ hk=>hk.2) (.slice Ao55 t244.length co55)) (fun _ h_=>h_.1))) hb);have HO252:=mk0 (Kd.R_lower (Kd.R_new' ho0 (Kd.R_lt (by (with_reducible repeat (first|apply aR|apply nR|apply dR));exact (Kd.R_mono (Kd.R_far (p:=⟨gb248,3,none⟩) (Kd.R_far (p:=⟨gb248,2,none⟩) (Kd.R_far (p:=⟨gb248,1,none⟩) (Kd.R_far (p:=⟨gb248,0,none⟩) (Kd.R_types HO246.out BK248.out (by decide)) (fun _ hk=>hk.2) (.int .i64 t241)) (fun _ hk=>hk.2) (.int .i64 t242)) (fun _ hk=>hk.2) (.int .i64 t243)) (fun _ hk=>hk.2) (.slice Ao55 t244.length co55)) (fun _ h_=>h_.1))))) (kZ HB.out));replace HO246:=mk0 (Kd.R_elder' (by (with_reducible repeat (first|apply aR|apply nR|apply dR));exact (Kd.R_mono (Kd.R_far (p:=⟨gb248,3,none⟩) (Kd.R_far (p:=⟨gb248,2,none⟩) (Kd.R_far (p:=⟨gb248,1,none⟩) (Kd.R_far (p:=⟨gb248,0,none⟩) (Kd.R_types HO246.out BK248.out (by decide)) (fun _ hk=>hk.2) (.int .i64 t241)) (fun _ hk=>hk.2) (.int .i64 t242)) (fun _ hk=>hk.2) (.int .i64 t243)) (fun _ hk=>hk.2) (.slice Ao55 t244.length co55)) (fun _ h_=>h_.1))) (Kd.R_base ho0) hb);replace BK213:=mk0 (blk_below (g:=gb213) (o:=.cells #[.int .i64 x214000_2,.int .i64 x214001_2,.int .i64 x214002_2,.int .i64 x214003_2,.int .i64 x214004_2,.slice none 0 0,.int .i64 x214006_2,.slice none 0 0] 33 (0,0)) (by (with_reducible repeat (first|apply nB|apply dB|apply aB));refine blk_far ?_ NB213_248.out _;(with_reducible repeat (first|apply nB|apply dB|apply aB));refine blk_far ?_ NB213_248.out _;(with_reducible repeat (first|apply nB|apply dB|apply aB));refine blk_far ?_ NB213_248.out _;(with_reducible repeat (first|apply nB|apply dB|apply aB));refine blk_far ?_ NB213_248.out _;(with_reducible repeat (first|apply nB|apply dB|apply aB));exact BK213.out) hb);replace BK248:=mk0 (blk_below (g:=gb248) (o:=.cells #[.int .i64 t241,.int .i64 t242,.int .i64 t243,.slice Ao55 t244.length co55] 31 (0,0)) (by (with_reducible repeat (first|apply nB|apply dB|apply aB));refine blk_put (cs:=#[.int .i64 t241,.int .i64 t242,.int .i64 t243,.slice none 0 0]) ?_ 3 _ rfl;(with_reducible repeat (first|apply nB|apply dB|apply aB));refine blk_put (cs:=#[.int .i64 t241,.int .i64 t242,.int .i64 0,.slice none 0 0]) ?_ 2 _ rfl;(with_reducible repeat (first|apply nB|apply dB|apply aB));refine blk_put (cs:=#[.int .i64 t241,.int .i64 0,.int .i64 0,.slice none 0 0]) ?_ 1 _ rfl;(with_reducible repeat (first|apply nB|apply dB|apply aB));refine blk_put (cs:=#[.int .i64 0,.int .i64 0,.int .i64 0,.slice none 0 0]) ?_ 0 _ rfl;(with_reducible repeat (first|apply nB|apply dB|apply aB));exact BK248.out) hb);replace HB:=mk0 (kS HB.out hb);(try clear hb);(try clear ho0))|((with_reducible refine gate_dst (N:=14) rfl ?_);(try (refine gate_guard (by rfl) ?_;dsimp only));refine box_event ?hg (N:=14) ?hd (cs:=#[.int .i64 0,.slice none 0 0]) (t:=29) ?hr ?_;(case hd=>rfl);(case hg=>rfl);(case hr=>first|(go_simp;done)|(go_simp;rfl));intro gb254 hg w58 hbox hb;replace HO_8:=mk0 (bR HO_8.out hb);replace HO_9:=mk0 (bR HO_9.out hb);replace HO246:=mk0 (bR HO246.out hb);replace HO252:=mk0 (bR HO252.out hb);have BK254:=mk0 (hbox);have GW254:=mk0 ((by rw [hg];exact (kZ HB.out):w.heap.size ≤ gb254));have GE254:=mk0 ((by rw [hg];exact (kZ HB.out):w.heap.size ≤ gb254));replace HB:=mk0 (kS HB.out hb);have NB213_254:=mk0 ((by rw [hg];exact Nat.ne_of_lt (kL BK213.out):gb213 ≠ gb254));have NB254_213:=mk0 ((by rw [hg];exact Nat.ne_of_gt (kL BK213.out):gb254 ≠ gb213));replace BK213:=mk0 (kK BK213.out hb);have NB248_254:=mk0 ((by rw [hg];exact Nat.ne_of_lt (kL BK248.out):gb248 ≠ gb254));have NB254_248:=mk0 ((by rw [hg];exact Nat.ne_of_gt (kL BK248.out):gb254 ≠ gb248));replace BK248:=mk0 (kK BK248.out hb);clear hb hbox hg;have hnb59:=NB254_213.out;have hnc59:=NB213_254.out;have hnb60:=NB254_248.out;have hnc60:=NB248_254.out;obtain⟨hcz61_0,hcz61_1,hfz61_0,hfz61_1⟩:=cz2 BK254.out;obtain⟨Ao62,co62,eo62⟩:=Kd.R_slice HO252.out;subst eo62;obtain⟨hcz63_0,hcz63_1,hcz63_2,hcz63_3,hfz63_0,hfz63_1,hfz63_2,hfz63_3⟩:=cz4 BK248.out;obtain⟨hcz64_0,hcz64_1,hcz64_2,hcz64_3,hcz64_4,hcz64_5,hcz64_6,hcz64_7,hfz64_0,hfz64_1,hfz64_2,hfz64_3,hfz64_4,hfz64_5,hfz64_6,hfz64_7⟩:=cz8 BK213.out));try go_wp2_with (first|(go_at_call 28;(with_reducible refine (spec_l03Width.calls kj26 (l0.length:Int) a1 t240 _ A44.out).mono ?_);rintro e w49 ⟨rfl,hb⟩;replace HO_8:=mk0 (bR HO_8.out hb);replace HO_9:=mk0 (bR HO_9.out hb);replace BK213:=mk0 (kK BK213.out hb);replace HB:=mk0 (kS HB.out hb);(try clear hb);obtain⟨Ao50,co50,eo50⟩:=Kd.R_slice HO_8.out;subst eo50)|(go_at_call 29;(with_reducible refine (spec_PackOf.calls kj26 _ _ x8_3 t240 t241 t242 t243 t244 true _ ?side1 ?side2 A45.out).mono ?_);(case side1=>exact kC (Kd.R_reads' HO_8.out).2.2);(case side2=>exact (Kd.R_reads' HO_8.out).2.1);rintro e w51 ⟨v245,rfl,ho0,hb⟩;replace HO_8:=mk0 (bR HO_8.out hb);replace HO_9:=mk0 (bR HO_9.out hb);have HO246:=mk0 (Kd.R_lower ho0 (kZ HB.out));replace BK213:=mk0 (kK BK213.out hb);replace HB:=mk0 (kS HB.out hb);(try clear hb);(try clear ho0))|((with_reducible refine gate_dst (N:=12) rfl ?_);(try (refine gate_guard (by rfl) ?_;dsimp only));refine box_event ?hg (N:=12) ?hd (cs:=#[.int .i64 0,.int .i64 0,.int .i64 0,.slice none 0 0]) (t:=31) ?hr ?_;(case hd=>rfl);(case hg=>rfl);(case hr=>first|(go_simp;done)|(go_simp;rfl));intro gb248 hg w52 hbox hb;replace HO_8:=mk0 (bR HO_8.out hb);replace HO_9:=mk0 (bR HO_9.out hb);replace HO246:=mk0 (bR HO246.out hb);have BK248:=mk0 (hbox);have GW248:=mk0 ((by rw [hg];exact (kZ HB.out):w.heap.size ≤ gb248));have GE248:=mk0 ((by rw [hg];exact (kZ HB.out):w.heap.size ≤ gb248));replace HB:=mk0 (kS HB.out hb);have NB213_248:=mk0 ((by rw [hg];exact Nat.ne_of_lt (kL BK213.out):gb213 ≠ gb248));have NB248_213:=mk0 ((by rw [hg];exact Nat.ne_of_gt (kL BK213.out):gb248 ≠ gb213));replace BK213:=mk0 (kK BK213.out hb);clear hb hbox hg;have hnb53:=NB248_213.out;have hnc53:=NB213_248.out;obtain⟨hcz54_0,hcz54_1,hcz54_2,hcz54_3,hfz54_0,hfz54_1,hfz54_2,hfz54_3⟩:=cz4 BK248.out;obtain⟨Ao55,co55,eo55⟩:=Kd.R_slice HO246.out;subst eo55;obtain⟨Ao56,co56,eo56⟩:=Kd.R_slice HO_9.out;subst eo56)|(go_at_call 30;(with_reducible refine (spec_BitsOf.calls kj26 _ _ x9_3 t249 t250 true _ ?side1 ?side2 A46.out).mono ?_);(case side1=>refine (Kd.R_reads' (e:=3) (base:=w.heap.size) (ok:=fun k_=>some k_ ≠ (.slice Ao50 x8_3.length co50:Value).ownBlock) (n:=x9_3.length) (c:=co56) ?_).2.2;exact (by (with_reducible repeat (first|apply aR|apply nR|apply dR));exact (Kd.R_mono (Kd.R_far (p:=⟨gb248,3,none⟩) (Kd.R_far (p:=⟨gb248,2,none⟩) (Kd.R_far (p:=⟨gb248,1,none⟩) (Kd.R_far (p:=⟨gb248,0,none⟩) (Kd.R_types HO_9.out BK248.out (by decide)) (fun _ hk=>hk.2) (.int .i64 t241)) (fun _ hk=>hk.2) (.int .i64 t242)) (fun _ hk=>hk.2) (.int .i64 t243)) (fun _ hk=>hk.2) (.slice Ao55 t244.length co55)) (fun _ h_=>h_.1))));(case side2=>exact (Kd.R_reads' HO_9.out).2.1);rintro e w57 ⟨v251,rfl,ho0,hb⟩;replace HO_8:=mk0 (Kd.R_below (by (with_reducible repeat (first|apply aR|apply nR|apply dR));exact (Kd.R_mono (Kd.R_far (p:=⟨gb248,3,none⟩) (Kd.R_far (p:=⟨gb248,2,none⟩) (Kd.R_far (p:=⟨gb248,1,none⟩) (Kd.R_far (p:=⟨gb248,0,none⟩) (Kd.R_types HO_8.out BK248.out (by decide)) (fun _ hk=>hk.2) (.int .i64 t241)) (fun _ hk=>hk.2) (.int .i64 t242)) (fun _ hk=>hk.2) (.int .i64 t243)) (fun _ hk=>hk.2) (.slice Ao55 t244.length co55)) (fun _ h_=>h_.1))) hb);replace HO_9:=mk0 (Kd.R_below (by (with_reducible repeat (first|apply aR|apply nR|apply dR));exact (Kd.R_mono (Kd.R_far (p:=⟨gb248,3,none⟩) (Kd.R_far (p:=⟨gb248,2,none⟩) (Kd.R_far (p:=⟨gb248,1,none⟩) (Kd.R_far (p:=⟨gb248,0,none⟩) (Kd.R_types HO_9.out BK248.out (by decide)) (fun _ hk=>hk.2) (.int .i64 t241)) (fun _ hk=>hk.2) (.int .i64 t242)) (fun _ hk=>hk.2) (.int .i64 t243)) (fun _ hk=>hk.2) (.slice Ao55 t244.length co55)) (fun _ h_=>h_.1))) hb);have HO252:=mk0 (Kd.R_lower (Kd.R_new' ho0 (Kd.R_lt (by (with_reducible repeat (first|apply aR|apply nR|apply dR));exact (Kd.R_mono (Kd.R_far (p:=⟨gb248,3,none⟩) (Kd.R_far (p:=⟨gb248,2,none⟩) (Kd.R_far (p:=⟨gb248,1,none⟩) (Kd.R_far (p:=⟨gb248,0,none⟩) (Kd.R_types HO246.out BK248.out (by decide)) (fun _ hk=>hk.2) (.int .i64 t241)) (fun _ hk=>hk.2) (.int .i64 t242)) (fun _ hk=>hk.2) (.int .i64 t243)) (fun _ hk=>hk.2) (.slice Ao55 t244.length co55)) (fun _ h_=>h_.1))))) (kZ HB.out));replace HO246:=mk0 (Kd.R_elder' (by (with_reducible repeat (first|apply aR|apply nR|apply dR));exact (Kd.R_mono (Kd.R_far (p:=⟨gb248,3,none⟩) (Kd.R_far (p:=⟨gb248,2,none⟩) (Kd.R_far (p:=⟨gb248,1,none⟩) (Kd.R_far (p:=⟨gb248,0,none⟩) (Kd.R_types HO246.out BK248.out (by decide)) (fun _ hk=>hk.2) (.int .i64 t241)) (fun _ hk=>hk.2) (.int .i64 t242)) (fun _ hk=>hk.2) (.int .i64 t243)) (fun _ hk=>hk.2) (.slice Ao55 t244.length co55)) (fun _ h_=>h_.1))) (Kd.R_base ho0) hb);replace BK213:=mk0 (blk_below (g:=gb213) (o:=.cells #[.int .i64 x214000_2,.int .i64 x214001_2,.int .i64 x214002_2,.int .i64 x214003_2,.int .i64 x214004_2,.slice none 0 0,.int .i64 x214006_2,.slice none 0 0] 33 (0,0)) (by (with_reducible repeat (first|apply nB|apply dB|apply aB));refine blk_far ?_ NB213_248.out _;(with_reducible repeat (first|apply nB|apply dB|apply aB));refine blk_far ?_ NB213_248.out _;(with_reducible repeat (first|apply nB|apply dB|apply aB));refine blk_far ?_ NB213_248.out _;(with_reducible repeat (first|apply nB|apply dB|apply aB));refine blk_far ?_ NB213_248.out _;(with_reducible repeat (first|apply nB|apply dB|apply aB));exact BK213.out) hb);replace BK248:=mk0 (blk_below (g:=gb248) (o:=.cells #[.int .i64 t241,.int .i64 t242,.int .i64 t243,.slice Ao55 t244.length co55] 31 (0,0)) (by (with_reducible repeat (first|apply nB|apply dB|apply aB));refine blk_put (cs:=#[.int .i64 t241,.int .i64 t242,.int .i64 t243,.slice none 0 0]) ?_ 3 _ rfl;(with_reducible repeat (first|apply nB|apply dB|apply aB));refine blk_put (cs:=#[.int .i64 t241,.int .i64 t242,.int .i64 0,.slice none 0 0]) ?_ 2 _ rfl;(with_reducible repeat (first|apply nB|apply dB|apply aB));refine blk_put (cs:=#[.int .i64 t241,.int .i64 0,.int .i64 0,.slice none 0 0]) ?_ 1 _ rfl;(with_reducible repeat (first|apply nB|apply dB|apply aB));refine blk_put (cs:=#[.int .i64 0,.int .i64 0,.int .i64 0,.slice none 0 0]) ?_ 0 _ rfl;(with_reducible repeat (first|apply nB|apply dB|apply aB));exact BK248.out) hb);replace HB:=mk0 (kS HB.out hb);(try clear hb);(try clear ho0))|((with_reducible refine gate_dst (N:=14) rfl ?_);(try (refine gate_guard (by rfl) ?_;dsimp only));refine box_event ?hg (N:=14) ?hd (cs:=#[.int .i64 0,.slice none 0 0]) (t:=29) ?hr ?_;(case hd=>rfl);(case hg=>rfl);(case hr=>first|(go_simp;done)|(go_simp;rfl));intro gb254 hg w58 hbox hb;replace HO_8:=mk0 (bR HO_8.out hb);replace HO_9:=mk0 (bR HO_9.out hb);replace HO246:=mk0 (bR HO246.out hb);replace HO252:=mk0 (bR HO252.out hb);have BK254:=mk0 (hbox);have GW254:=mk0 ((by rw [hg];exact (kZ HB.out):w.heap.size ≤ gb254));have GE254:=mk0 ((by rw [hg];exact (kZ HB.out):w.heap.size ≤ gb254));replace HB:=mk0 (kS HB.out hb);have NB213_254:=mk0 ((by rw [hg];exact Nat.ne_of_lt (kL BK213.out):gb213 ≠ gb254));have NB254_213:=mk0 ((by rw [hg];exact Nat.ne_of_gt (kL BK213.out):gb254 ≠ gb213));replace BK213:=mk0 (kK BK213.out hb);have NB248_254:=mk0 ((by rw [hg];exact Nat.ne_of_lt (kL BK248.out):gb248 ≠ gb254));have NB254_248:=mk0 ((by rw [hg];exact Nat.ne_of_gt (kL BK248.out):gb254 ≠ gb248));replace BK248:=mk0 (kK BK248.out hb);clear hb hbox hg;have hnb59:=NB254_213.out;have hnc59:=NB213_254.out;have hnb60:=NB254_248.out;have hnc60:=NB248_254.out;obtain⟨hcz61_0,hcz61_1,hfz61_0,hfz61_1⟩:=cz2 BK254.out;obtain⟨Ao62,co62,eo62⟩:=Kd.R_slice HO252.out;subst eo62;obtain⟨hcz63_0,hcz63_1,hcz63_2,hcz63_3,hfz63_0,hfz63_1,hfz63_2,hfz63_3⟩:=cz4 BK248.out;obtain⟨hcz64_0,hcz64_1,hcz64_2,hcz64_3,hcz64_4,hcz64_5,hcz64_6,hcz64_7,hfz64_0,hfz64_1,hfz64_2,hfz64_3,hfz64_4,hfz64_5,hfz64_6,hfz64_7⟩:=cz8 BK213.out)))
         refine bodyPost_ret (results_ct rfl _ _ gb213 33 #[.int .i64 a1,.int .i64 (l0.length:Int),.int .i64 t241,.int .i64 t242,.int .i64 t243,.slice Ao55 t244.length co55,.int .i64 t249,.slice Ao62 t250.length co62] (0,0) _ rfl (by (with_reducible repeat (first|apply nB|apply dB|apply aB));refine blk_put (cs:=#[.int .i64 a1,.int .i64 (l0.length:Int),.int .i64 t241,.int .i64 t242,.int .i64 t243,.slice Ao55 t244.length co55,.int .i64 t249,.slice none 0 0]) ?_ 7 _ rfl;(with_reducible repeat (first|apply nB|apply dB|apply aB));refine blk_put (cs:=#[.int .i64 a1,.int .i64 (l0.length:Int),.int .i64 t241,.int .i64 t242,.int .i64 t243,.slice Ao55 t244.length co55,.int .i64 x214006_2,.slice none 0 0]) ?_ 6 _ rfl;(with_reducible repeat (first|apply nB|apply dB|apply aB));refine blk_put (cs:=#[.int .i64 a1,.int .i64 (l0.length:Int),.int .i64 t241,.int .i64 t242,.int .i64 t243,.slice none 0 0,.int .i64 x214006_2,.slice none 0 0]) ?_ 5 _ rfl;(with_reducible repeat (first|apply nB|apply dB|apply aB));refine blk_put (cs:=#[.int .i64 a1,.int .i64 (l0.length:Int),.int .i64 t241,.int .i64 t242,.int .i64 x214004_2,.slice none 0 0,.int .i64 x214006_2,.slice none 0 0]) ?_ 4 _ rfl;(with_reducible repeat (first|apply nB|apply dB|apply aB));refine blk_put (cs:=#[.int .i64 a1,.int .i64 (l0.length:Int),.int .i64 t241,.int .i64 x214003_2,.int .i64 x214004_2,.slice none 0 0,.int .i64 x214006_2,.slice none 0 0]) ?_ 3 _ rfl;(with_reducible repeat (first|apply nB|apply dB|apply aB));refine blk_put (cs:=#[.int .i64 a1,.int .i64 (l0.length:Int),.int .i64 x214002_2,.int .i64 x214003_2,.int .i64 x214004_2,.slice none 0 0,.int .i64 x214006_2,.slice none 0 0]) ?_ 2 _ rfl;(with_reducible repeat (first|apply nB|apply dB|apply aB));refine blk_put (cs:=#[.int .i64 a1,.int .i64 x214001_2,.int .i64 x214002_2,.int .i64 x214003_2,.int .i64 x214004_2,.slice none 0 0,.int .i64 x214006_2,.slice none 0 0]) ?_ 1 _ rfl;(with_reducible repeat (first|apply nB|apply dB|apply aB));refine blk_put (cs:=#[.int .i64 x214000_2,.int .i64 x214001_2,.int .i64 x214002_2,.int .i64 x214003_2,.int .i64 x214004_2,.slice none 0 0,.int .i64 x214006_2,.slice none 0 0]) ?_ 0 _ rfl;(with_reducible repeat (first|apply nB|apply dB|apply aB));refine blk_far ?_ NB213_254.out _;(with_reducible repeat (first|apply nB|apply dB|apply aB));refine blk_far ?_ NB213_254.out _;(with_reducible repeat (first|apply nB|apply dB|apply aB));exact BK213.out) Try.underlying33 rfl (by kernel_rfl)) rfl ?_
         exact⟨_,_,by first|rfl|(simp [errW_none,errW_some] <;> rfl)|(simp [*,errW_none,errW_some] <;> rfl),by (with_reducible repeat (first|apply aR|apply nR|apply dR));exact Kd.R_mono (Kd.R_far (p:=⟨gb213,7,none⟩) (Kd.R_far (p:=⟨gb213,6,none⟩) (Kd.R_far (p:=⟨gb213,5,none⟩) (Kd.R_far (p:=⟨gb213,4,none⟩) (Kd.R_far (p:=⟨gb213,3,none⟩) (Kd.R_far (p:=⟨gb213,2,none⟩) (Kd.R_far (p:=⟨gb213,1,none⟩) (Kd.R_far (p:=⟨gb213,0,none⟩) (Kd.R_far (p:=⟨gb254,1,none⟩) (Kd.R_far (p:=⟨gb254,0,none⟩) (Kd.R_types (Kd.R_types HO246.out BK254.out (by decide)) BK213.out (by decide)) (fun _ hk=>hk.1.2) (.int .i64 t249)) (fun _ hk=>hk.1.2) (.slice Ao62 t250.length co62)) (fun _ hk=>hk.2) (.int .i64 a1)) (fun _ hk=>hk.2) (.int .i64 (l0.length:Int))) (fun _ hk=>hk.2) (.int .i64 t241)) (fun _ hk=>hk.2) (.int .i64 t242)) (fun _ hk=>hk.2) (.int .i64 t243)) (fun _ hk=>hk.2) (.slice Ao55 t244.length co55)) (fun _ hk=>hk.2) (.int .i64 t249)) (fun _ hk=>hk.2) (.slice Ao62 t250.length co62)) (fun _ hk=>hk.1.1.2),by (with_reducible repeat (first|apply aR|apply nR|apply dR));exact Kd.R_mono (Kd.R_far (p:=⟨gb213,7,none⟩) (Kd.R_far (p:=⟨gb213,6,none⟩) (Kd.R_far (p:=⟨gb213,5,none⟩) (Kd.R_far (p:=⟨gb213,4,none⟩) (Kd.R_far (p:=⟨gb213,3,none⟩) (Kd.R_far (p:=⟨gb213,2,none⟩) (Kd.R_far (p:=⟨gb213,1,none⟩) (Kd.R_far (p:=⟨gb213,0,none⟩) (Kd.R_far (p:=⟨gb254,1,none⟩) (Kd.R_far (p:=⟨gb254,0,none⟩) (Kd.R_types (Kd.R_types HO252.out BK254.out (by decide)) BK213.out (by decide)) (fun _ hk=>hk.1.2) (.int .i64 t249)) (fun _ hk=>hk.1.2) (.slice Ao62 t250.length co62)) (fun _ hk=>hk.2) (.int .i64 a1)) (fun _ hk=>hk.2) (.int .i64 (l0.length:Int))) (fun _ hk=>hk.2) (.int .i64 t241)) (fun _ hk=>hk.2) (.int .i64 t242)) (fun _ hk=>hk.2) (.int .i64 t243)) (fun _ hk=>hk.2) (.slice Ao55 t244.length co55)) (fun _ hk=>hk.2) (.int .i64 t249)) (fun _ hk=>hk.2) (.slice Ao62 t250.length co62)) (fun _ hk=>hk.1.1.2),kB HB.out⟩
end Go.Proofs.Ytmohfjfgpeapfaa.QFnSparse
