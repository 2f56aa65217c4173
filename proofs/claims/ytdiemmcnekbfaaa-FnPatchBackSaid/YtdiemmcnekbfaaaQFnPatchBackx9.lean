-- A walk, made by walk.py, a program of this session's.
import Derived.Test.YtdiemmcnekbfaaaQFnPatchBackx0
import Derived.Test.YtdiemmcnekbfaaaQFnPatchBackx7
import Derived.Test.YtdiemmcnekbfaaaQFnPatchBackx8
namespace Go.Proofs.Ytdiemmcnekbfaaa.QFnPatchBack
open Go.RowKit Go.Proofs.YtdiemmcnekbfaaaW.PrintWords Go.Proofs.YtdiemmcnekbfaaaW.PrintLast Go.Proofs.YtdiemmcnekbfaaaW.PrintMore
attribute [local go_sem] max2_int min2_int max_two min_two max_three min_three max_four min_four   -- for this text's walks alone
set_option linter.unusedVariables false
set_option linter.unusedSimpArgs false

/-! ### impl_PatchDo: function 17 -/
mutual
def impl_PatchDo.j0 : Nat → List Int → Bool → Int → List Int → Int → List Int → List Int → Option (List Int × Bool)
 | 0, _, _, _, _, _, _, _ => none
 | k + 1, x0, x40, x319000, x319001, x319002, x319003, x319004 => if x40 = true then (some (([] : List Int), false)) else ((impl_Bits_list.f k x319002 x319003).bind fun t321 => ((impl_count.f k t321 1).bind fun t324 => ((impl_Bits_list.f k x319000 x319001).bind fun t325 => ((impl_count.f k t325 1).bind fun t328 => (if t328 = t324 then (impl_PatchDo.j1 k x0 ((wrap64 (x319002 - t324)) != (x319004.length : Int)) x319000 x319001 x319002 x319003 x319004) else (impl_PatchDo.j1 k x0 true x319000 x319001 x319002 x319003 x319004))))))
def impl_PatchDo.j1 : Nat → List Int → Bool → Int → List Int → Int → List Int → List Int → Option (List Int × Bool)
 | 0, _, _, _, _, _, _, _ => none
 | k + 1, x0, x61, x319000, x319001, x319002, x319003, x319004 => if x61 = true then (some (([] : List Int), false)) else ((impl_BitsFlip.f k x319000 x319001).bind fun bt329 => ((impl_unmarked.f k x0 bt329.1 bt329.2).bind fun t333 => ((impl_Bits_list.f k x319002 x319003).bind fun t336 => (impl_PatchDo.l0 k t333 x319004 ([] : List Int) t336 (t336.length : Int) 0))))
def impl_PatchDo.l0 : Nat → List Int → List Int → List Int → List Int → Int → Int → Option (List Int × Bool)
 | 0, _, _, _, _, _, _ => none
 | k + 1, x7, x8, x9, x71, x72, x73 => if x73 < x72 then (if 0 ≤ x73 then (if x73 < (x71.length : Int) then (if (rd x71 x73) = 1 then (if 0 < (x7.length : Int) then (if x9.length < 17592186044416 then (if 1 ≤ (x7.length : Int) then (impl_PatchDo.l0 k (x7.drop (1 : Int).toNat) x8 (x9 ++ [rd x7 0]) x71 x72 (wrap64 (x73 + 1))) else (none)) else (none)) else (none)) else (if 0 < (x8.length : Int) then (if x9.length < 17592186044416 then (if 1 ≤ (x8.length : Int) then (impl_PatchDo.l0 k x7 (x8.drop 1) (x9 ++ [rd x8 0]) x71 x72 (wrap64 (x73 + 1))) else (none)) else (none)) else (none))) else (none)) else (none)) else (some (x9, true))
end
def impl_PatchDo.f (k : Nat) (l0 : List Int) (a1_0 : Int) (l1_1 : List Int) (a1_2 : Int) (l1_3 : List Int) (l1_4 : List Int) : Option (List Int × Bool) := if (l0.length : Int) > 301 then (impl_PatchDo.j0 k l0 true a1_0 l1_1 a1_2 l1_3 l1_4) else ((impl_BitsOk.f a1_0 l1_1).bind fun t319 => (if t319 = true then ((impl_BitsOk.f a1_2 l1_3).bind fun t320 => (if t320 = true then (if a1_0 = (l0.length : Int) then (impl_PatchDo.j0 k l0 (decide (a1_2 > 301)) a1_0 l1_1 a1_2 l1_3 l1_4) else (impl_PatchDo.j0 k l0 true a1_0 l1_1 a1_2 l1_3 l1_4)) else (impl_PatchDo.j0 k l0 true a1_0 l1_1 a1_2 l1_3 l1_4))) else (impl_PatchDo.j0 k l0 true a1_0 l1_1 a1_2 l1_3 l1_4)))
theorem impl_PatchDo.mono_l : ∀ k, (∀ y0 y1 y2 y3 y4 y5 y6, LeO (impl_PatchDo.j0 k y0 y1 y2 y3 y4 y5 y6) (impl_PatchDo.j0 (k + 1) y0 y1 y2 y3 y4 y5 y6)) ∧ (∀ y0 y1 y2 y3 y4 y5 y6, LeO (impl_PatchDo.j1 k y0 y1 y2 y3 y4 y5 y6) (impl_PatchDo.j1 (k + 1) y0 y1 y2 y3 y4 y5 y6)) ∧ (∀ y0 y1 y2 y3 y4 y5, LeO (impl_PatchDo.l0 k y0 y1 y2 y3 y4 y5) (impl_PatchDo.l0 (k + 1) y0 y1 y2 y3 y4 y5))
 | 0 => ⟨fun _ _ _ _ _ _ _ r h => by simp [impl_PatchDo.j0] at h, fun _ _ _ _ _ _ _ r h => by simp [impl_PatchDo.j1] at h, fun _ _ _ _ _ _ r h => by simp [impl_PatchDo.l0] at h⟩
 | k + 1 => by
  obtain ⟨ih0, ih1, ih2⟩ := impl_PatchDo.mono_l k
  refine ⟨?_, ?_, ?_⟩
  ·intro y0 y1 y2 y3 y4 y5 y6
   unfold impl_PatchDo.j0
   repeat' first|(with_reducible first|exact ih0 _ _ _ _ _ _ _|exact ih1 _ _ _ _ _ _ _|exact ih2 _ _ _ _ _ _|exact impl_BitsFlip.mono _ _ _|exact impl_Bits_list.mono _ _ _|exact impl_count.mono _ _ _|exact impl_unmarked.mono _ _ _ _|exact LeO.refl _|exact LeO.none _|refine LeO.ite ?_ ?_|refine LeO.bind ?_ (fun _ => ?_))|exact LeO.none _|refine LeO.ite ?_ ?_|refine LeO.bind ?_ (fun _ => ?_)
  ·intro y0 y1 y2 y3 y4 y5 y6
   unfold impl_PatchDo.j1
   repeat' first|(with_reducible first|exact ih0 _ _ _ _ _ _ _|exact ih1 _ _ _ _ _ _ _|exact ih2 _ _ _ _ _ _|exact impl_BitsFlip.mono _ _ _|exact impl_Bits_list.mono _ _ _|exact impl_count.mono _ _ _|exact impl_unmarked.mono _ _ _ _|exact LeO.refl _|exact LeO.none _|refine LeO.ite ?_ ?_|refine LeO.bind ?_ (fun _ => ?_))|exact LeO.none _|refine LeO.ite ?_ ?_|refine LeO.bind ?_ (fun _ => ?_)
  ·intro y0 y1 y2 y3 y4 y5
   unfold impl_PatchDo.l0
   repeat' first|(with_reducible first|exact ih0 _ _ _ _ _ _ _|exact ih1 _ _ _ _ _ _ _|exact ih2 _ _ _ _ _ _|exact impl_BitsFlip.mono _ _ _|exact impl_Bits_list.mono _ _ _|exact impl_count.mono _ _ _|exact impl_unmarked.mono _ _ _ _|exact LeO.refl _|exact LeO.none _|refine LeO.ite ?_ ?_|refine LeO.bind ?_ (fun _ => ?_))|exact LeO.none _|refine LeO.ite ?_ ?_|refine LeO.bind ?_ (fun _ => ?_)
theorem impl_PatchDo.mono : ∀ a0 a1 a2 a3 a4 a5 k, LeO (impl_PatchDo.f k a0 a1 a2 a3 a4 a5) (impl_PatchDo.f (k + 1) a0 a1 a2 a3 a4 a5) := by
 intro a0 a1 a2 a3 a4 a5 k
 obtain ⟨ih0, ih1, ih2⟩ := impl_PatchDo.mono_l k
 unfold impl_PatchDo.f
 repeat' first|(with_reducible first|exact ih0 _ _ _ _ _ _ _|exact ih1 _ _ _ _ _ _ _|exact ih2 _ _ _ _ _ _|exact impl_BitsFlip.mono _ _ _|exact impl_Bits_list.mono _ _ _|exact impl_count.mono _ _ _|exact impl_unmarked.mono _ _ _ _|exact LeO.refl _|exact LeO.none _|refine LeO.ite ?_ ?_|refine LeO.bind ?_ (fun _ => ?_))|exact LeO.none _|refine LeO.ite ?_ ?_|refine LeO.bind ?_ (fun _ => ?_)
def impl_PatchDo.T6 : Bool × List (List Nat × List Nat) := (true, [([], []), ([], []), ([1], [1]), ([2], [2]), ([0, 3, 3], [0, 3]), ([], []), ([5], [5]), ([4, 4, 0, 1, 2, 3, 4], [4]), ([6, 7, 0, 1, 2, 3, 4, 5, 6, 7], [6])])
def impl_PatchDo.B6 : List Nat := [0, 0, 2, 6, 15, 0, 32, 31, 255]
theorem impl_PatchDo.tab6 : rtab .any (opsOf Try.f17 6) = impl_PatchDo.T6 := by kernel_rfl
theorem impl_PatchDo.bits6 : waitsOk impl_PatchDo.T6.2 impl_PatchDo.B6 = true := by kernel_rfl
def impl_PatchDo.T12 : Bool × List (List Nat × List Nat) := (true, [([], []), ([], []), ([1], [1]), ([2], [2]), ([3], [3]), ([0, 4], [0, 4]), ([], []), ([6], [6]), ([5, 5, 0, 1, 2, 3, 4, 5], [0, 5]), ([7, 8, 0, 1, 2, 3, 4, 5, 6, 7, 8], [1, 6, 7])])
def impl_PatchDo.B12 : List Nat := [0, 0, 2, 6, 14, 31, 0, 64, 63, 511]
theorem impl_PatchDo.tab12 : rtab .any (opsOf Try.f17 12) = impl_PatchDo.T12 := by kernel_rfl
theorem impl_PatchDo.bits12 : waitsOk impl_PatchDo.T12.2 impl_PatchDo.B12 = true := by kernel_rfl
def impl_PatchDo.T13 : Bool × List (List Nat × List Nat) := (true, [([], []), ([], []), ([1], [1]), ([2], [2]), ([3], [3]), ([0, 4], [0, 4]), ([], []), ([6], [6]), ([5, 5, 0, 1, 2, 3, 4, 5], [0, 5]), ([7, 8, 0, 1, 2, 3, 4, 5, 6, 7, 8], [1, 6, 7])])
def impl_PatchDo.B13 : List Nat := [0, 0, 2, 6, 14, 31, 0, 64, 63, 511]
theorem impl_PatchDo.tab13 : rtab .any (opsOf Try.f17 13) = impl_PatchDo.T13 := by kernel_rfl
theorem impl_PatchDo.bits13 : waitsOk impl_PatchDo.T13.2 impl_PatchDo.B13 = true := by kernel_rfl
abbrev impl_PatchDo.m0 : Array Bool := #[F,F,F,F,F,F,F,F,F]
abbrev impl_PatchDo.m1 : Array Bool := #[T,F,F,F,F,F,F,F,F]
abbrev impl_PatchDo.m2 : Array Bool := #[T,T,F,F,F,F,F,F,F]
abbrev impl_PatchDo.m3 : Array Bool := #[T,T,F,F,F,T,F,F,F]
abbrev impl_PatchDo.m4 : Array Bool := #[T,T,T,F,F,T,F,F,F]
abbrev impl_PatchDo.m5 : Array Bool := #[T,T,T,F,F,T,T,F,F]
abbrev impl_PatchDo.m6 : Array Bool := #[T,T,T,T,F,T,T,F,F]
abbrev impl_PatchDo.m7 : Array Bool := #[T,T,T,T,T,T,T,F,F]
abbrev impl_PatchDo.m8 : Array Bool := #[T,T,T,T,T,T,T,T,F]
abbrev impl_PatchDo.m9 : Array Bool := #[T,T,T,T,T,T,T,T,T]
abbrev impl_PatchDo.m10 : Array Bool := #[F,F,F,F,F,F,F,F,F,F]
abbrev impl_PatchDo.m11 : Array Bool := #[T,F,F,F,F,F,F,F,F,F]
abbrev impl_PatchDo.m12 : Array Bool := #[T,T,F,F,F,F,F,F,F,F]
abbrev impl_PatchDo.m13 : Array Bool := #[T,T,T,F,F,F,F,F,F,F]
abbrev impl_PatchDo.m14 : Array Bool := #[T,T,T,F,F,F,T,F,F,F]
abbrev impl_PatchDo.m15 : Array Bool := #[T,T,T,F,F,F,T,T,F,F]
abbrev impl_PatchDo.m16 : Array Bool := #[T,T,T,T,F,F,T,T,F,F]
abbrev impl_PatchDo.m17 : Array Bool := #[T,T,T,T,T,F,T,T,F,F]
abbrev impl_PatchDo.m18 : Array Bool := #[T,T,T,T,T,T,T,T,F,F]
abbrev impl_PatchDo.m19 : Array Bool := #[T,T,T,T,T,T,T,T,T,F]
abbrev impl_PatchDo.m20 : Array Bool := #[T,T,T,T,T,T,T,T,T,T]
set_option maxHeartbeats 8000000 in
set_option maxRecDepth 100000 in
theorem impl_PatchDo.calls (k : Nat) (A0 : Option Addr) (c0 : Nat) (l0 : List Int) (a1_0 : Int) (A1_1 : Option Addr) (c1_1 : Nat) (l1_1 : List Int) (a1_2 : Int) (A1_3 : Option Addr) (c1_3 : Nat) (l1_3 : List Int) (P1_4_ : Nat → Prop) (A1_4 : Option Addr) (c1_4 : Nat) (l1_4 : List Int) (r1 : List Int) (r2 : Bool) (w : World) (hr0 : Kd.C (Kd.int .i64) w A0 l0.length l0) (hc0 : l0.length ≤ c0) (hr1_1 : Kd.C (Kd.int .u64) w A1_1 l1_1.length l1_1) (hc1_1 : l1_1.length ≤ c1_1) (hr1_3 : Kd.C (Kd.int .u64) w A1_3 l1_3.length l1_3) (hc1_3 : l1_3.length ≤ c1_3) (hs1_4 : Kd.V (Kd.int .i64) 3 w w.heap.size (fun k_ => P1_4_ k_) (.slice A1_4 l1_4.length c1_4) l1_4) (h : impl_PatchDo.f k l0 a1_0 l1_1 a1_2 l1_3 l1_4 = some (r1, r2)) :
  Calls Try.prog 17 #[.slice A0 l0.length c0, .agg #[.int .i64 a1_0, .slice A1_1 l1_1.length c1_1, .int .i64 a1_2, .slice A1_3 l1_3.length c1_3, .slice A1_4 l1_4.length c1_4]] w fun e w' => ∃ v0_ : Value, e = .returned (.tuple #[v0_, .bool r2]) ∧ Kd.R (Kd.int .i64) 3 w' w.heap.size (fun k_ => (w.heap.size ≤ k_)) v0_ r1 ∧ Below w.heap.size w w' := by
 have hu27:=Try.underlying27
 have hu25:=Try.underlying25
 have HR0:=mk0 hr0
 have HC0:=mk0 hc0
 clear hr0 hc0
 have HR1_1:=mk0 hr1_1
 have HC1_1:=mk0 hc1_1
 clear hr1_1 hc1_1
 have HR1_3:=mk0 hr1_3
 have HC1_3:=mk0 hc1_3
 clear hr1_3 hc1_3
 have HO1_4:=mk0 (show Kd.V (Kd.int .i64) 3 w w.heap.size (fun k_=>(P1_4_ k_ ∨ w.heap.size ≤ k_)) (.slice A1_4 l1_4.length c1_4) l1_4 from Kd.V_mono hs1_4 (fun k_ hk=>.inl hk))
 have HB:=mk0 (Below.refl w.heap.size w)
 have H:(if (l0.length:Int) > 301 then (impl_PatchDo.j0 k l0 true a1_0 l1_1 a1_2 l1_3 l1_4) else ((impl_BitsOk.f a1_0 l1_1).bind fun t319=>(if t319 = true then ((impl_BitsOk.f a1_2 l1_3).bind fun t320=>(if t320 = true then (if a1_0 = (l0.length:Int) then (impl_PatchDo.j0 k l0 (decide (a1_2 > 301)) a1_0 l1_1 a1_2 l1_3 l1_4) else (impl_PatchDo.j0 k l0 true a1_0 l1_1 a1_2 l1_3 l1_4)) else (impl_PatchDo.j0 k l0 true a1_0 l1_1 a1_2 l1_3 l1_4))) else (impl_PatchDo.j0 k l0 true a1_0 l1_1 a1_2 l1_3 l1_4)))) = some (r1,r2):=h
 clear h
 have HC3:=mk0 H
 clear H
 go_enter Try.func17,Try.ntmps17
 go_upto_region 1 with (first|((with_reducible refine gate_dst (N:=3) rfl ?_);(try (refine gate_guard (by rfl) ?_;dsimp only));refine box_event ?hg (N:=3) ?hd (cs:=#[.int .i64 a1_0,.slice A1_1 l1_1.length c1_1,.int .i64 a1_2,.slice A1_3 l1_3.length c1_3,.slice A1_4 l1_4.length c1_4]) (t:=27) ?hr ?_;(case hd=>rfl);(case hg=>rfl);(case hr=>first|(go_simp;done)|(go_simp;rfl));intro gb318 hg w4 hbox hb;have n0_:=mk0 (Kd.V_below (Kd.V_elderB (by (with_reducible repeat (first|apply aV|apply nV|apply dV));exact HO1_4.out) gb318 (Nat.le_of_eq hg.symm)) hb);have n1_:=mk0 (below_step (by repeat (first|(with_reducible first|exact HB.out|apply aZ|apply nZ|apply dZ)|exact HB.out)) hb);have n2_:=mk0 (hbox);have n3_:=mk0 ((by rw [hg];exact (below_size (by repeat (first|(with_reducible first|exact HB.out|apply aZ|apply nZ|apply dZ)|exact HB.out))):w.heap.size ≤ gb318));have n4_:=mk0 ((by rw [hg];exact (below_size (by repeat (first|(with_reducible first|exact HB.out|apply aZ|apply nZ|apply dZ)|exact HB.out))):w.heap.size ≤ gb318));clear HO1_4 HB;have HO1_4:=n0_;have HB:=n1_;have BK318:=n2_;have GW318:=n3_;have GE318:=n4_;clear n0_ n1_ n2_ n3_ n4_ hb hbox hg))
 (try simp only [Act.put,sA,sO,sS])
 go_cut [40] (fun v40 wc=>∃ (kq:Nat) (x40_2:Bool),v40 = .bool x40_2 ∧ Aside0 (impl_PatchDo.j0 kq l0 x40_2 a1_0 l1_1 a1_2 l1_3 l1_4 = some (r1,r2)) ∧ Aside0 (kq ≤ k) ∧ Aside0 (Kd.V (Kd.int .i64) 3 wc w.heap.size (fun k_=>(P1_4_ k_ ∨ w.heap.size ≤ k_) ∧ k_ ≠ gb318) (.slice A1_4 l1_4.length c1_4) l1_4) ∧ Aside0 (wc.heap[gb318]? = some (.cells #[.int .i64 a1_0,(.slice A1_1 l1_1.length c1_1),.int .i64 a1_2,(.slice A1_3 l1_3.length c1_3),(.slice A1_4 l1_4.length c1_4)] 27 (0,0))) ∧ Aside0 (Below w.heap.size w wc))
 case first =>
  have H:=HC3.out
  clear HC3
  by_cases c5:(l0.length:Int) > 301
  ·rw [if_pos c5] at H
   have c5b0:decide (301 < (l0.length:Int)) = true:=decide_eq_true c5
   have c5b1:decide (301 < l0.length) = true:=decide_eq_true (by omega)
   clear c5
   (first|rw [c5b0]|(simp only [i64_w,i32_w];rw [c5b0])|skip)
   have H':=mk0 H
   clear H
   go_wp2
   go_meet
   case rel=>exact⟨_,(true),(by first|rfl|(simp;done)|(simp [*];done)),H',⟨by first|omega|exact Nat.le_refl _⟩,⟨by (with_reducible repeat (first|apply aV|apply nV|apply dV));exact HO1_4.out⟩,⟨by (with_reducible repeat (first|apply nB|apply dB|apply aB));exact BK318.out⟩,⟨by repeat (first|(with_reducible first|exact HB.out|apply aZ|apply nZ|apply dZ|refine sZ ?_ GE318.out)|exact HB.out)⟩⟩
  rw [if_neg c5] at H
  have c5b0:decide (301 < (l0.length:Int)) = false:=decide_eq_false c5
  have c5b1:decide (301 < l0.length) = false:=decide_eq_false (by omega)
  clear c5
  (first|rw [c5b0]|(simp only [i64_w,i32_w];rw [c5b0])|skip)
  replace H:=Option.bind_eq_some_iff.mp H
  obtain⟨t319,A60,H⟩:=H
  replace H:(if t319 = true then ((impl_BitsOk.f a1_2 l1_3).bind fun t320=>(if t320 = true then (if a1_0 = (l0.length:Int) then (impl_PatchDo.j0 k l0 (decide (a1_2 > 301)) a1_0 l1_1 a1_2 l1_3 l1_4) else (impl_PatchDo.j0 k l0 true a1_0 l1_1 a1_2 l1_3 l1_4)) else (impl_PatchDo.j0 k l0 true a1_0 l1_1 a1_2 l1_3 l1_4))) else (impl_PatchDo.j0 k l0 true a1_0 l1_1 a1_2 l1_3 l1_4)) = some (r1,r2):=H
  have A6:=mk0 A60
  clear A60
  by_cases c7:t319 = true
  rotate_left
  ·replace c7:=Bool.eq_false_iff.mpr c7
   subst c7
   have H1:(impl_PatchDo.j0 k l0 true a1_0 l1_1 a1_2 l1_3 l1_4) = some (r1,r2):=by rw [if_neg (show ¬ (false = true) by decide)] at H;exact H
   clear H
   have H:=H1
   clear H1
   have H':=mk0 H
   clear H
   have hcz25_0:w4.cell? ⟨gb318,0,none⟩ = some (.int .i64 a1_0):=(blk_cell BK318.out 0).trans rfl
   have hcz25_1:w4.cell? ⟨gb318,1,none⟩ = some (.slice A1_1 l1_1.length c1_1):=(blk_cell BK318.out 1).trans rfl
   have hcz25_2:w4.cell? ⟨gb318,2,none⟩ = some (.int .i64 a1_2):=(blk_cell BK318.out 2).trans rfl
   have hcz25_3:w4.cell? ⟨gb318,3,none⟩ = some (.slice A1_3 l1_3.length c1_3):=(blk_cell BK318.out 3).trans rfl
   have hcz25_4:w4.cell? ⟨gb318,4,none⟩ = some (.slice A1_4 l1_4.length c1_4):=(blk_cell BK318.out 4).trans rfl
   have hfz25_0:=blk_frozen BK318.out 0
   have hfz25_1:=blk_frozen BK318.out 1
   have hfz25_2:=blk_frozen BK318.out 2
   have hfz25_3:=blk_frozen BK318.out 3
   have hfz25_4:=blk_frozen BK318.out 4
   go_wp2_with (first|(go_at_call 39;(with_reducible refine (impl_BitsOk.calls a1_0 _ _ l1_1 false _ ?side1 ?side2 A6.out).mono ?_);(case side1=>repeat (first|exact (Kd.C_below HR1_1.out HB.out)|(with_reducible first|apply aC|apply nC|apply dC)));(case side2=>exact HC1_1.out);rintro e w26 ⟨rfl,hb⟩;have n0_:=mk0 (Kd.V_below (by (with_reducible repeat (first|apply aV|apply nV|apply dV));exact HO1_4.out) hb);have n1_:=mk0 (blk_below (g:=gb318) (o:=.cells #[.int .i64 a1_0,.slice A1_1 l1_1.length c1_1,.int .i64 a1_2,.slice A1_3 l1_3.length c1_3,.slice A1_4 l1_4.length c1_4] 27 (0,0)) (by (with_reducible repeat (first|apply nB|apply dB|apply aB));exact BK318.out) hb);have n2_:=mk0 (below_step (by repeat (first|(with_reducible first|exact HB.out|apply aZ|apply nZ|apply dZ|refine sZ ?_ GE318.out)|exact HB.out)) hb);clear HO1_4 BK318 HB;have HO1_4:=n0_;have BK318:=n1_;have HB:=n2_;clear n0_ n1_ n2_;(try clear hb);(try clear hb2);(try clear hk);(try clear hi)))
   go_meet
   case rel=>exact⟨_,(true),(by first|rfl|(simp;done)|(simp [*];done)),H',⟨by first|omega|exact Nat.le_refl _⟩,⟨by (with_reducible repeat (first|apply aV|apply nV|apply dV));exact HO1_4.out⟩,⟨by (with_reducible repeat (first|apply nB|apply dB|apply aB));exact BK318.out⟩,⟨by repeat (first|(with_reducible first|exact HB.out|apply aZ|apply nZ|apply dZ|refine sZ ?_ GE318.out)|exact HB.out)⟩⟩
  subst c7
  have H1:((impl_BitsOk.f a1_2 l1_3).bind fun t320=>(if t320 = true then (if a1_0 = (l0.length:Int) then (impl_PatchDo.j0 k l0 (decide (a1_2 > 301)) a1_0 l1_1 a1_2 l1_3 l1_4) else (impl_PatchDo.j0 k l0 true a1_0 l1_1 a1_2 l1_3 l1_4)) else (impl_PatchDo.j0 k l0 true a1_0 l1_1 a1_2 l1_3 l1_4))) = some (r1,r2):=by rw [if_pos rfl] at H;exact H
  clear H
  have H:=H1
  clear H1
  replace H:=Option.bind_eq_some_iff.mp H
  obtain⟨t320,A80,H⟩:=H
  replace H:(if t320 = true then (if a1_0 = (l0.length:Int) then (impl_PatchDo.j0 k l0 (decide (a1_2 > 301)) a1_0 l1_1 a1_2 l1_3 l1_4) else (impl_PatchDo.j0 k l0 true a1_0 l1_1 a1_2 l1_3 l1_4)) else (impl_PatchDo.j0 k l0 true a1_0 l1_1 a1_2 l1_3 l1_4)) = some (r1,r2):=H
  have A8:=mk0 A80
  clear A80
  by_cases c9:t320 = true
  rotate_left
  ·replace c9:=Bool.eq_false_iff.mpr c9
   subst c9
   have H1:(impl_PatchDo.j0 k l0 true a1_0 l1_1 a1_2 l1_3 l1_4) = some (r1,r2):=by rw [if_neg (show ¬ (false = true) by decide)] at H;exact H
   clear H
   have H:=H1
   clear H1
   have H':=mk0 H
   clear H
   have hcz21_0:w4.cell? ⟨gb318,0,none⟩ = some (.int .i64 a1_0):=(blk_cell BK318.out 0).trans rfl
   have hcz21_1:w4.cell? ⟨gb318,1,none⟩ = some (.slice A1_1 l1_1.length c1_1):=(blk_cell BK318.out 1).trans rfl
   have hcz21_2:w4.cell? ⟨gb318,2,none⟩ = some (.int .i64 a1_2):=(blk_cell BK318.out 2).trans rfl
   have hcz21_3:w4.cell? ⟨gb318,3,none⟩ = some (.slice A1_3 l1_3.length c1_3):=(blk_cell BK318.out 3).trans rfl
   have hcz21_4:w4.cell? ⟨gb318,4,none⟩ = some (.slice A1_4 l1_4.length c1_4):=(blk_cell BK318.out 4).trans rfl
   have hfz21_0:=blk_frozen BK318.out 0
   have hfz21_1:=blk_frozen BK318.out 1
   have hfz21_2:=blk_frozen BK318.out 2
   have hfz21_3:=blk_frozen BK318.out 3
   have hfz21_4:=blk_frozen BK318.out 4
   go_wp2_with (first|(go_at_call 39;(with_reducible refine (impl_BitsOk.calls a1_0 _ _ l1_1 true _ ?side1 ?side2 A6.out).mono ?_);(case side1=>repeat (first|exact (Kd.C_below HR1_1.out HB.out)|(with_reducible first|apply aC|apply nC|apply dC)));(case side2=>exact HC1_1.out);rintro e w22 ⟨rfl,hb⟩;have n0_:=mk0 (Kd.V_below (by (with_reducible repeat (first|apply aV|apply nV|apply dV));exact HO1_4.out) hb);have n1_:=mk0 (blk_below (g:=gb318) (o:=.cells #[.int .i64 a1_0,.slice A1_1 l1_1.length c1_1,.int .i64 a1_2,.slice A1_3 l1_3.length c1_3,.slice A1_4 l1_4.length c1_4] 27 (0,0)) (by (with_reducible repeat (first|apply nB|apply dB|apply aB));exact BK318.out) hb);have n2_:=mk0 (below_step (by repeat (first|(with_reducible first|exact HB.out|apply aZ|apply nZ|apply dZ|refine sZ ?_ GE318.out)|exact HB.out)) hb);clear HO1_4 BK318 HB;have HO1_4:=n0_;have BK318:=n1_;have HB:=n2_;clear n0_ n1_ n2_;(try clear hb);(try clear hb2);(try clear hk);(try clear hi);have hcz23_0:w22.cell? ⟨gb318,0,none⟩ = some (.int .i64 a1_0):=(blk_cell BK318.out 0).trans rfl;have hcz23_1:w22.cell? ⟨gb318,1,none⟩ = some (.slice A1_1 l1_1.length c1_1):=(blk_cell BK318.out 1).trans rfl;have hcz23_2:w22.cell? ⟨gb318,2,none⟩ = some (.int .i64 a1_2):=(blk_cell BK318.out 2).trans rfl;have hcz23_3:w22.cell? ⟨gb318,3,none⟩ = some (.slice A1_3 l1_3.length c1_3):=(blk_cell BK318.out 3).trans rfl;have hcz23_4:w22.cell? ⟨gb318,4,none⟩ = some (.slice A1_4 l1_4.length c1_4):=(blk_cell BK318.out 4).trans rfl;have hfz23_0:=blk_frozen BK318.out 0;have hfz23_1:=blk_frozen BK318.out 1;have hfz23_2:=blk_frozen BK318.out 2;have hfz23_3:=blk_frozen BK318.out 3;have hfz23_4:=blk_frozen BK318.out 4)|(go_at_call 39;(with_reducible refine (impl_BitsOk.calls a1_2 _ _ l1_3 false _ ?side1 ?side2 A8.out).mono ?_);(case side1=>repeat (first|exact (Kd.C_below HR1_3.out HB.out)|(with_reducible first|apply aC|apply nC|apply dC)));(case side2=>exact HC1_3.out);rintro e w24 ⟨rfl,hb⟩;have n0_:=mk0 (Kd.V_below (by (with_reducible repeat (first|apply aV|apply nV|apply dV));exact HO1_4.out) hb);have n1_:=mk0 (blk_below (g:=gb318) (o:=.cells #[.int .i64 a1_0,.slice A1_1 l1_1.length c1_1,.int .i64 a1_2,.slice A1_3 l1_3.length c1_3,.slice A1_4 l1_4.length c1_4] 27 (0,0)) (by (with_reducible repeat (first|apply nB|apply dB|apply aB));exact BK318.out) hb);have n2_:=mk0 (below_step (by repeat (first|(with_reducible first|exact HB.out|apply aZ|apply nZ|apply dZ|refine sZ ?_ GE318.out)|exact HB.out)) hb);clear HO1_4 BK318 HB;have HO1_4:=n0_;have BK318:=n1_;have HB:=n2_;clear n0_ n1_ n2_;(try clear hb);(try clear hb2);(try clear hk);(try clear hi)))
   go_meet
   case rel=>exact⟨_,(true),(by first|rfl|(simp;done)|(simp [*];done)),H',⟨by first|omega|exact Nat.le_refl _⟩,⟨by (with_reducible repeat (first|apply aV|apply nV|apply dV));exact HO1_4.out⟩,⟨by (with_reducible repeat (first|apply nB|apply dB|apply aB));exact BK318.out⟩,⟨by repeat (first|(with_reducible first|exact HB.out|apply aZ|apply nZ|apply dZ|refine sZ ?_ GE318.out)|exact HB.out)⟩⟩
  subst c9
  have H1:(if a1_0 = (l0.length:Int) then (impl_PatchDo.j0 k l0 (decide (a1_2 > 301)) a1_0 l1_1 a1_2 l1_3 l1_4) else (impl_PatchDo.j0 k l0 true a1_0 l1_1 a1_2 l1_3 l1_4)) = some (r1,r2):=by rw [if_pos rfl] at H;exact H
  clear H
  have H:=H1
  clear H1
  by_cases c10:a1_0 = (l0.length:Int)
  rotate_left
  ·rw [if_neg c10] at H
   have c10b0:(a1_0 == (l0.length:Int)) = false:=beq_eq_false_iff_ne.mpr c10
   have c10b1:(a1_0 != (l0.length:Int)) = true:=bne_iff_ne.mpr c10
   have H':=mk0 H
   clear H
   have hcz16_0:w4.cell? ⟨gb318,0,none⟩ = some (.int .i64 a1_0):=(blk_cell BK318.out 0).trans rfl
   have hcz16_1:w4.cell? ⟨gb318,1,none⟩ = some (.slice A1_1 l1_1.length c1_1):=(blk_cell BK318.out 1).trans rfl
   have hcz16_2:w4.cell? ⟨gb318,2,none⟩ = some (.int .i64 a1_2):=(blk_cell BK318.out 2).trans rfl
   have hcz16_3:w4.cell? ⟨gb318,3,none⟩ = some (.slice A1_3 l1_3.length c1_3):=(blk_cell BK318.out 3).trans rfl
   have hcz16_4:w4.cell? ⟨gb318,4,none⟩ = some (.slice A1_4 l1_4.length c1_4):=(blk_cell BK318.out 4).trans rfl
   have hfz16_0:=blk_frozen BK318.out 0
   have hfz16_1:=blk_frozen BK318.out 1
   have hfz16_2:=blk_frozen BK318.out 2
   have hfz16_3:=blk_frozen BK318.out 3
   have hfz16_4:=blk_frozen BK318.out 4
   go_wp2_with (first|(go_at_call 39;(with_reducible refine (impl_BitsOk.calls a1_0 _ _ l1_1 true _ ?side1 ?side2 A6.out).mono ?_);(case side1=>repeat (first|exact (Kd.C_below HR1_1.out HB.out)|(with_reducible first|apply aC|apply nC|apply dC)));(case side2=>exact HC1_1.out);rintro e w17 ⟨rfl,hb⟩;have n0_:=mk0 (Kd.V_below (by (with_reducible repeat (first|apply aV|apply nV|apply dV));exact HO1_4.out) hb);have n1_:=mk0 (blk_below (g:=gb318) (o:=.cells #[.int .i64 a1_0,.slice A1_1 l1_1.length c1_1,.int .i64 a1_2,.slice A1_3 l1_3.length c1_3,.slice A1_4 l1_4.length c1_4] 27 (0,0)) (by (with_reducible repeat (first|apply nB|apply dB|apply aB));exact BK318.out) hb);have n2_:=mk0 (below_step (by repeat (first|(with_reducible first|exact HB.out|apply aZ|apply nZ|apply dZ|refine sZ ?_ GE318.out)|exact HB.out)) hb);clear HO1_4 BK318 HB;have HO1_4:=n0_;have BK318:=n1_;have HB:=n2_;clear n0_ n1_ n2_;(try clear hb);(try clear hb2);(try clear hk);(try clear hi);have hcz18_0:w17.cell? ⟨gb318,0,none⟩ = some (.int .i64 a1_0):=(blk_cell BK318.out 0).trans rfl;have hcz18_1:w17.cell? ⟨gb318,1,none⟩ = some (.slice A1_1 l1_1.length c1_1):=(blk_cell BK318.out 1).trans rfl;have hcz18_2:w17.cell? ⟨gb318,2,none⟩ = some (.int .i64 a1_2):=(blk_cell BK318.out 2).trans rfl;have hcz18_3:w17.cell? ⟨gb318,3,none⟩ = some (.slice A1_3 l1_3.length c1_3):=(blk_cell BK318.out 3).trans rfl;have hcz18_4:w17.cell? ⟨gb318,4,none⟩ = some (.slice A1_4 l1_4.length c1_4):=(blk_cell BK318.out 4).trans rfl;have hfz18_0:=blk_frozen BK318.out 0;have hfz18_1:=blk_frozen BK318.out 1;have hfz18_2:=blk_frozen BK318.out 2;have hfz18_3:=blk_frozen BK318.out 3;have hfz18_4:=blk_frozen BK318.out 4)|(go_at_call 39;(with_reducible refine (impl_BitsOk.calls a1_2 _ _ l1_3 true _ ?side1 ?side2 A8.out).mono ?_);(case side1=>repeat (first|exact (Kd.C_below HR1_3.out HB.out)|(with_reducible first|apply aC|apply nC|apply dC)));(case side2=>exact HC1_3.out);rintro e w19 ⟨rfl,hb⟩;have n0_:=mk0 (Kd.V_below (by (with_reducible repeat (first|apply aV|apply nV|apply dV));exact HO1_4.out) hb);have n1_:=mk0 (blk_below (g:=gb318) (o:=.cells #[.int .i64 a1_0,.slice A1_1 l1_1.length c1_1,.int .i64 a1_2,.slice A1_3 l1_3.length c1_3,.slice A1_4 l1_4.length c1_4] 27 (0,0)) (by (with_reducible repeat (first|apply nB|apply dB|apply aB));exact BK318.out) hb);have n2_:=mk0 (below_step (by repeat (first|(with_reducible first|exact HB.out|apply aZ|apply nZ|apply dZ|refine sZ ?_ GE318.out)|exact HB.out)) hb);clear HO1_4 BK318 HB;have HO1_4:=n0_;have BK318:=n1_;have HB:=n2_;clear n0_ n1_ n2_;(try clear hb);(try clear hb2);(try clear hk);(try clear hi);have hcz20_0:w19.cell? ⟨gb318,0,none⟩ = some (.int .i64 a1_0):=(blk_cell BK318.out 0).trans rfl;have hcz20_1:w19.cell? ⟨gb318,1,none⟩ = some (.slice A1_1 l1_1.length c1_1):=(blk_cell BK318.out 1).trans rfl;have hcz20_2:w19.cell? ⟨gb318,2,none⟩ = some (.int .i64 a1_2):=(blk_cell BK318.out 2).trans rfl;have hcz20_3:w19.cell? ⟨gb318,3,none⟩ = some (.slice A1_3 l1_3.length c1_3):=(blk_cell BK318.out 3).trans rfl;have hcz20_4:w19.cell? ⟨gb318,4,none⟩ = some (.slice A1_4 l1_4.length c1_4):=(blk_cell BK318.out 4).trans rfl;have hfz20_0:=blk_frozen BK318.out 0;have hfz20_1:=blk_frozen BK318.out 1;have hfz20_2:=blk_frozen BK318.out 2;have hfz20_3:=blk_frozen BK318.out 3;have hfz20_4:=blk_frozen BK318.out 4))
   go_meet
   case rel=>exact⟨_,(true),(by first|rfl|(simp;done)|(simp [*];done)),H',⟨by first|omega|exact Nat.le_refl _⟩,⟨by (with_reducible repeat (first|apply aV|apply nV|apply dV));exact HO1_4.out⟩,⟨by (with_reducible repeat (first|apply nB|apply dB|apply aB));exact BK318.out⟩,⟨by repeat (first|(with_reducible first|exact HB.out|apply aZ|apply nZ|apply dZ|refine sZ ?_ GE318.out)|exact HB.out)⟩⟩
  rw [if_pos c10] at H
  have c10b0:(a1_0 == (l0.length:Int)) = true:=beq_iff_eq.mpr c10
  have c10b1:(a1_0 != (l0.length:Int)) = false:=bne_eq_false_iff_eq.mpr c10
  clear c10
  have H':=mk0 H
  clear H
  have hcz11_0:w4.cell? ⟨gb318,0,none⟩ = some (.int .i64 a1_0):=(blk_cell BK318.out 0).trans rfl
  have hcz11_1:w4.cell? ⟨gb318,1,none⟩ = some (.slice A1_1 l1_1.length c1_1):=(blk_cell BK318.out 1).trans rfl
  have hcz11_2:w4.cell? ⟨gb318,2,none⟩ = some (.int .i64 a1_2):=(blk_cell BK318.out 2).trans rfl
  have hcz11_3:w4.cell? ⟨gb318,3,none⟩ = some (.slice A1_3 l1_3.length c1_3):=(blk_cell BK318.out 3).trans rfl
  have hcz11_4:w4.cell? ⟨gb318,4,none⟩ = some (.slice A1_4 l1_4.length c1_4):=(blk_cell BK318.out 4).trans rfl
  have hfz11_0:=blk_frozen BK318.out 0
  have hfz11_1:=blk_frozen BK318.out 1
  have hfz11_2:=blk_frozen BK318.out 2
  have hfz11_3:=blk_frozen BK318.out 3
  have hfz11_4:=blk_frozen BK318.out 4
  go_wp2_with (first|(go_at_call 39;(with_reducible refine (impl_BitsOk.calls a1_0 _ _ l1_1 true _ ?side1 ?side2 A6.out).mono ?_);(case side1=>repeat (first|exact (Kd.C_below HR1_1.out HB.out)|(with_reducible first|apply aC|apply nC|apply dC)));(case side2=>exact HC1_1.out);rintro e w12 ⟨rfl,hb⟩;have n0_:=mk0 (Kd.V_below (by (with_reducible repeat (first|apply aV|apply nV|apply dV));exact HO1_4.out) hb);have n1_:=mk0 (blk_below (g:=gb318) (o:=.cells #[.int .i64 a1_0,.slice A1_1 l1_1.length c1_1,.int .i64 a1_2,.slice A1_3 l1_3.length c1_3,.slice A1_4 l1_4.length c1_4] 27 (0,0)) (by (with_reducible repeat (first|apply nB|apply dB|apply aB));exact BK318.out) hb);have n2_:=mk0 (below_step (by repeat (first|(with_reducible first|exact HB.out|apply aZ|apply nZ|apply dZ|refine sZ ?_ GE318.out)|exact HB.out)) hb);clear HO1_4 BK318 HB;have HO1_4:=n0_;have BK318:=n1_;have HB:=n2_;clear n0_ n1_ n2_;(try clear hb);(try clear hb2);(try clear hk);(try clear hi);have hcz13_0:w12.cell? ⟨gb318,0,none⟩ = some (.int .i64 a1_0):=(blk_cell BK318.out 0).trans rfl;have hcz13_1:w12.cell? ⟨gb318,1,none⟩ = some (.slice A1_1 l1_1.length c1_1):=(blk_cell BK318.out 1).trans rfl;have hcz13_2:w12.cell? ⟨gb318,2,none⟩ = some (.int .i64 a1_2):=(blk_cell BK318.out 2).trans rfl;have hcz13_3:w12.cell? ⟨gb318,3,none⟩ = some (.slice A1_3 l1_3.length c1_3):=(blk_cell BK318.out 3).trans rfl;have hcz13_4:w12.cell? ⟨gb318,4,none⟩ = some (.slice A1_4 l1_4.length c1_4):=(blk_cell BK318.out 4).trans rfl;have hfz13_0:=blk_frozen BK318.out 0;have hfz13_1:=blk_frozen BK318.out 1;have hfz13_2:=blk_frozen BK318.out 2;have hfz13_3:=blk_frozen BK318.out 3;have hfz13_4:=blk_frozen BK318.out 4)|(go_at_call 39;(with_reducible refine (impl_BitsOk.calls a1_2 _ _ l1_3 true _ ?side1 ?side2 A8.out).mono ?_);(case side1=>repeat (first|exact (Kd.C_below HR1_3.out HB.out)|(with_reducible first|apply aC|apply nC|apply dC)));(case side2=>exact HC1_3.out);rintro e w14 ⟨rfl,hb⟩;have n0_:=mk0 (Kd.V_below (by (with_reducible repeat (first|apply aV|apply nV|apply dV));exact HO1_4.out) hb);have n1_:=mk0 (blk_below (g:=gb318) (o:=.cells #[.int .i64 a1_0,.slice A1_1 l1_1.length c1_1,.int .i64 a1_2,.slice A1_3 l1_3.length c1_3,.slice A1_4 l1_4.length c1_4] 27 (0,0)) (by (with_reducible repeat (first|apply nB|apply dB|apply aB));exact BK318.out) hb);have n2_:=mk0 (below_step (by repeat (first|(with_reducible first|exact HB.out|apply aZ|apply nZ|apply dZ|refine sZ ?_ GE318.out)|exact HB.out)) hb);clear HO1_4 BK318 HB;have HO1_4:=n0_;have BK318:=n1_;have HB:=n2_;clear n0_ n1_ n2_;(try clear hb);(try clear hb2);(try clear hk);(try clear hi);have hcz15_0:w14.cell? ⟨gb318,0,none⟩ = some (.int .i64 a1_0):=(blk_cell BK318.out 0).trans rfl;have hcz15_1:w14.cell? ⟨gb318,1,none⟩ = some (.slice A1_1 l1_1.length c1_1):=(blk_cell BK318.out 1).trans rfl;have hcz15_2:w14.cell? ⟨gb318,2,none⟩ = some (.int .i64 a1_2):=(blk_cell BK318.out 2).trans rfl;have hcz15_3:w14.cell? ⟨gb318,3,none⟩ = some (.slice A1_3 l1_3.length c1_3):=(blk_cell BK318.out 3).trans rfl;have hcz15_4:w14.cell? ⟨gb318,4,none⟩ = some (.slice A1_4 l1_4.length c1_4):=(blk_cell BK318.out 4).trans rfl;have hfz15_0:=blk_frozen BK318.out 0;have hfz15_1:=blk_frozen BK318.out 1;have hfz15_2:=blk_frozen BK318.out 2;have hfz15_3:=blk_frozen BK318.out 3;have hfz15_4:=blk_frozen BK318.out 4))
  go_meet
  case rel=>exact⟨_,(decide (a1_2 > 301)),(by first|rfl|(simp;done)|(simp [*];done)),H',⟨by first|omega|exact Nat.le_refl _⟩,⟨by (with_reducible repeat (first|apply aV|apply nV|apply dV));exact HO1_4.out⟩,⟨by (with_reducible repeat (first|apply nB|apply dB|apply aB));exact BK318.out⟩,⟨by repeat (first|(with_reducible first|exact HB.out|apply aZ|apply nZ|apply dZ|refine sZ ?_ GE318.out)|exact HB.out)⟩⟩
 case rest =>
  clear HC3
  try clear c1
  try clear p2
  try clear c5
  try clear c5b0
  try clear c5b1
  try clear c7
  try clear c9
  try clear c10
  try clear c10b0
  try clear c10b1
  try clear c17
  try clear hcz11_0
  try clear hcz11_1
  try clear hcz11_2
  try clear hcz11_3
  try clear hcz11_4
  try clear hcz13_0
  try clear hcz13_1
  try clear hcz13_2
  try clear hcz13_3
  try clear hcz13_4
  try clear hcz15_0
  try clear hcz15_1
  try clear hcz15_2
  try clear hcz15_3
  try clear hcz15_4
  try clear hcz16_0
  try clear hcz16_1
  try clear hcz16_2
  try clear hcz16_3
  try clear hcz16_4
  try clear hcz18_0
  try clear hcz18_1
  try clear hcz18_2
  try clear hcz18_3
  try clear hcz18_4
  try clear hcz20_0
  try clear hcz20_1
  try clear hcz20_2
  try clear hcz20_3
  try clear hcz20_4
  try clear hcz21_0
  try clear hcz21_1
  try clear hcz21_2
  try clear hcz21_3
  try clear hcz21_4
  try clear hcz23_0
  try clear hcz23_1
  try clear hcz23_2
  try clear hcz23_3
  try clear hcz23_4
  try clear hcz25_0
  try clear hcz25_1
  try clear hcz25_2
  try clear hcz25_3
  try clear hcz25_4
  try clear hfz11_0
  try clear hfz11_1
  try clear hfz11_2
  try clear hfz11_3
  try clear hfz11_4
  try clear hfz13_0
  try clear hfz13_1
  try clear hfz13_2
  try clear hfz13_3
  try clear hfz13_4
  try clear hfz15_0
  try clear hfz15_1
  try clear hfz15_2
  try clear hfz15_3
  try clear hfz15_4
  try clear hfz16_0
  try clear hfz16_1
  try clear hfz16_2
  try clear hfz16_3
  try clear hfz16_4
  try clear hfz18_0
  try clear hfz18_1
  try clear hfz18_2
  try clear hfz18_3
  try clear hfz18_4
  try clear hfz20_0
  try clear hfz20_1
  try clear hfz20_2
  try clear hfz20_3
  try clear hfz20_4
  try clear hfz21_0
  try clear hfz21_1
  try clear hfz21_2
  try clear hfz21_3
  try clear hfz21_4
  try clear hfz23_0
  try clear hfz23_1
  try clear hfz23_2
  try clear hfz23_3
  try clear hfz23_4
  try clear hfz25_0
  try clear hfz25_1
  try clear hfz25_2
  try clear hfz25_3
  try clear hfz25_4
  obtain⟨kq,x40_2,rfl,HA,HJ2,HO_319004,BK318,HB⟩:=hcut
  cases kq with
  | zero=>exact absurd HA.out (by simp [impl_PatchDo.j0])
  | succ kj2 =>
   have H:=HA.out
   clear HA
   simp only [impl_PatchDo.j0] at H
   by_cases c27:x40_2 = true
   ·subst c27
    have H1:(some (([]:List Int),false)) = some (r1,r2):=by rw [if_pos rfl] at H;exact H
    clear H
    have H:=H1
    clear H1
    simp only [Option.some.injEq,Prod.mk.injEq] at H
    obtain⟨rfl,rfl⟩:=H
    go_wp2
    go_ret2
    exact⟨_,by first|rfl|(simp [errW_none,errW_some] <;> rfl)|(simp [*,errW_none,errW_some] <;> rfl),by first|exact Kd.R_nil _ _ _ _ _|exact Kd.N_nil _ _ _ _ _|exact Kd.V_nil _ _ _ _ _|exact Kd.Q_nil _ _ _ _ _|exact Kd.S_nil _ _ _ _ _,by repeat (first|(with_reducible first|exact HB.out|apply aZ|apply nZ|apply dZ|refine sZ ?_ GE318.out)|exact HB.out)⟩
   replace c27:=Bool.eq_false_iff.mpr c27
   subst c27
   have H1:((impl_Bits_list.f kj2 a1_2 l1_3).bind fun t321=>((impl_count.f kj2 t321 1).bind fun t324=>((impl_Bits_list.f kj2 a1_0 l1_1).bind fun t325=>((impl_count.f kj2 t325 1).bind fun t328=>(if t328 = t324 then (impl_PatchDo.j1 kj2 l0 ((wrap64 (a1_2 - t324)) != (l1_4.length:Int)) a1_0 l1_1 a1_2 l1_3 l1_4) else (impl_PatchDo.j1 kj2 l0 true a1_0 l1_1 a1_2 l1_3 l1_4)))))) = some (r1,r2):=by rw [if_neg (show ¬ (false = true) by decide)] at H;exact H
   clear H
   have H:=H1
   clear H1
   replace H:=Option.bind_eq_some_iff.mp H
   obtain⟨t321,A280,H⟩:=H
   replace H:((impl_count.f kj2 t321 1).bind fun t324=>((impl_Bits_list.f kj2 a1_0 l1_1).bind fun t325=>((impl_count.f kj2 t325 1).bind fun t328=>(if t328 = t324 then (impl_PatchDo.j1 kj2 l0 ((wrap64 (a1_2 - t324)) != (l1_4.length:Int)) a1_0 l1_1 a1_2 l1_3 l1_4) else (impl_PatchDo.j1 kj2 l0 true a1_0 l1_1 a1_2 l1_3 l1_4))))) = some (r1,r2):=H
   have A28:=mk0 A280
   clear A280
   replace H:=Option.bind_eq_some_iff.mp H
   obtain⟨t324,A290,H⟩:=H
   replace H:((impl_Bits_list.f kj2 a1_0 l1_1).bind fun t325=>((impl_count.f kj2 t325 1).bind fun t328=>(if t328 = t324 then (impl_PatchDo.j1 kj2 l0 ((wrap64 (a1_2 - t324)) != (l1_4.length:Int)) a1_0 l1_1 a1_2 l1_3 l1_4) else (impl_PatchDo.j1 kj2 l0 true a1_0 l1_1 a1_2 l1_3 l1_4)))) = some (r1,r2):=H
   have A29:=mk0 A290
   clear A290
   have HC30:=mk0 H
   clear H
   have hcz31_0:wc.cell? ⟨gb318,0,none⟩ = some (.int .i64 a1_0):=(blk_cell BK318.out 0).trans rfl
   have hcz31_1:wc.cell? ⟨gb318,1,none⟩ = some (.slice A1_1 l1_1.length c1_1):=(blk_cell BK318.out 1).trans rfl
   have hcz31_2:wc.cell? ⟨gb318,2,none⟩ = some (.int .i64 a1_2):=(blk_cell BK318.out 2).trans rfl
   have hcz31_3:wc.cell? ⟨gb318,3,none⟩ = some (.slice A1_3 l1_3.length c1_3):=(blk_cell BK318.out 3).trans rfl
   have hcz31_4:wc.cell? ⟨gb318,4,none⟩ = some (.slice A1_4 l1_4.length c1_4):=(blk_cell BK318.out 4).trans rfl
   have hfz31_0:=blk_frozen BK318.out 0
   have hfz31_1:=blk_frozen BK318.out 1
   have hfz31_2:=blk_frozen BK318.out 2
   have hfz31_3:=blk_frozen BK318.out 3
   have hfz31_4:=blk_frozen BK318.out 4
   go_upto_region 4 with (first|((with_reducible refine gate_callee (f:=41) rfl ?_);refine goesL_ (some 43) rfl rfl Try.func41 (by kernel_rfl) rfl #[.agg #[.int .i64 a1_2,.slice A1_3 l1_3.length c1_3]] rfl (by (try simp only [mA,mC,mN]);first|done|rfl|(simp only [List.length_drop,List.length_take];rfl)) ?_;(with_reducible refine (impl_Bits_list.calls kj2 a1_2 _ _ l1_3 t321 _ ?side1 ?side2 A28.out).mono ?_);(case side1=>repeat (first|exact (Kd.C_below HR1_3.out HB.out)|(with_reducible first|apply aC|apply nC|apply dC)));(case side2=>exact HC1_3.out);rintro e w32 ⟨v322,rfl,ho0,hb⟩;refine⟨_,rfl,?_⟩;have n0_:=mk0 (Kd.V_elder' (by (with_reducible repeat (first|apply aV|apply nV|apply dV));exact HO_319004.out) (Kd.R_base ho0) hb);have n1_:=mk0 (Kd.R_lower (Kd.R_newM (M:=fun k_=>(w.heap.size ≤ k_)) ho0 (below_size (by repeat (first|(with_reducible first|exact HB.out|apply aZ|apply nZ|apply dZ|refine sZ ?_ GE318.out)|exact HB.out))) (fun k_ h_=>h_)) (below_size (by repeat (first|(with_reducible first|exact HB.out|apply aZ|apply nZ|apply dZ|refine sZ ?_ GE318.out)|exact HB.out))));have n2_:=mk0 (blk_below (g:=gb318) (o:=.cells #[.int .i64 a1_0,.slice A1_1 l1_1.length c1_1,.int .i64 a1_2,.slice A1_3 l1_3.length c1_3,.slice A1_4 l1_4.length c1_4] 27 (0,0)) (by (with_reducible repeat (first|apply nB|apply dB|apply aB));exact BK318.out) hb);have n3_:=mk0 (below_step (by repeat (first|(with_reducible first|exact HB.out|apply aZ|apply nZ|apply dZ|refine sZ ?_ GE318.out)|exact HB.out)) hb);clear HO_319004 BK318 HB;have HO_319004:=n0_;have HO323:=n1_;have BK318:=n2_;have HB:=n3_;clear n0_ n1_ n2_ n3_;(try clear hb);(try clear hb2);(try clear hk);(try clear hi);(try clear ho0);obtain⟨Ao33,co33,eo33⟩:=Kd.R_slice HO323.out;subst eo33)|((with_reducible refine gate_callee (f:=40) rfl ?_);refine goesL_ (some 44) rfl rfl Try.func40 (by kernel_rfl) rfl #[.slice Ao33 t321.length co33,.int .i64 1] rfl (by (try simp only [mA,mC,mN]);first|done|rfl|(simp only [List.length_drop,List.length_take];rfl)) ?_;(with_reducible refine (impl_count.calls kj2 _ _ t321 1 t324 _ ?side1 ?side2 A29.out).mono ?_);(case side1=>repeat (first|exact (Kd.R_reads' HO323.out).2.2|(with_reducible first|apply aC|apply nC|apply dC)));(case side2=>exact (Kd.R_reads' HO323.out).2.1);rintro e w' ⟨rfl,⟨nd,rfl⟩⟩;refine⟨_,rfl,?_⟩))
   (try simp only [Act.put,sA,sO,sS])
   go_cut [61] (fun v61 wc=>∃ (kq:Nat) (x61_29:Bool),v61 = .bool x61_29 ∧ Aside0 (impl_PatchDo.j1 kq l0 x61_29 a1_0 l1_1 a1_2 l1_3 l1_4 = some (r1,r2)) ∧ Aside0 (kq ≤ kj2) ∧ Aside0 (Kd.V (Kd.int .i64) 3 wc w.heap.size (fun k_=>(P1_4_ k_ ∨ w.heap.size ≤ k_) ∧ k_ ≠ gb318) (.slice A1_4 l1_4.length c1_4) l1_4) ∧ Aside0 (wc.heap[gb318]? = some (.cells #[.int .i64 a1_0,(.slice A1_1 l1_1.length c1_1),.int .i64 a1_2,(.slice A1_3 l1_3.length c1_3),(.slice A1_4 l1_4.length c1_4)] 27 (0,0))) ∧ Aside0 (Below w.heap.size w wc))
   case first =>
    have H:=HC30.out
    clear HC30
    replace H:=Option.bind_eq_some_iff.mp H
    obtain⟨t325,A340,H⟩:=H
    replace H:((impl_count.f kj2 t325 1).bind fun t328=>(if t328 = t324 then (impl_PatchDo.j1 kj2 l0 ((wrap64 (a1_2 - t324)) != (l1_4.length:Int)) a1_0 l1_1 a1_2 l1_3 l1_4) else (impl_PatchDo.j1 kj2 l0 true a1_0 l1_1 a1_2 l1_3 l1_4))) = some (r1,r2):=H
    have A34:=mk0 A340
    clear A340
    replace H:=Option.bind_eq_some_iff.mp H
    obtain⟨t328,A350,H⟩:=H
    replace H:(if t328 = t324 then (impl_PatchDo.j1 kj2 l0 ((wrap64 (a1_2 - t324)) != (l1_4.length:Int)) a1_0 l1_1 a1_2 l1_3 l1_4) else (impl_PatchDo.j1 kj2 l0 true a1_0 l1_1 a1_2 l1_3 l1_4)) = some (r1,r2):=H
    have A35:=mk0 A350
    clear A350
    by_cases c36:t328 = t324
    rotate_left
    ·rw [if_neg c36] at H
     have c36b0:(t328 == t324) = false:=beq_eq_false_iff_ne.mpr c36
     have c36b1:(t328 != t324) = true:=bne_iff_ne.mpr c36
     (first|rw [c36b0]|(simp only [i64_w,i32_w];rw [c36b0])|skip)
     have H':=mk0 H
     clear H
     have hcz41_0:w32.cell? ⟨gb318,0,none⟩ = some (.int .i64 a1_0):=(blk_cell BK318.out 0).trans rfl
     have hcz41_1:w32.cell? ⟨gb318,1,none⟩ = some (.slice A1_1 l1_1.length c1_1):=(blk_cell BK318.out 1).trans rfl
     have hcz41_2:w32.cell? ⟨gb318,2,none⟩ = some (.int .i64 a1_2):=(blk_cell BK318.out 2).trans rfl
     have hcz41_3:w32.cell? ⟨gb318,3,none⟩ = some (.slice A1_3 l1_3.length c1_3):=(blk_cell BK318.out 3).trans rfl
     have hcz41_4:w32.cell? ⟨gb318,4,none⟩ = some (.slice A1_4 l1_4.length c1_4):=(blk_cell BK318.out 4).trans rfl
     have hfz41_0:=blk_frozen BK318.out 0
     have hfz41_1:=blk_frozen BK318.out 1
     have hfz41_2:=blk_frozen BK318.out 2
     have hfz41_3:=blk_frozen BK318.out 3
     have hfz41_4:=blk_frozen BK318.out 4
     go_wp2_with (first|((with_reducible refine gate_callee (f:=41) rfl ?_);refine goesL_ (some 47) rfl rfl Try.func41 (by kernel_rfl) rfl #[.agg #[.int .i64 a1_0,.slice A1_1 l1_1.length c1_1]] rfl (by (try simp only [mA,mC,mN]);first|done|rfl|(simp only [List.length_drop,List.length_take];rfl)) ?_;(with_reducible refine (impl_Bits_list.calls kj2 a1_0 _ _ l1_1 t325 _ ?side1 ?side2 A34.out).mono ?_);(case side1=>repeat (first|exact (Kd.C_below HR1_1.out HB.out)|(with_reducible first|apply aC|apply nC|apply dC)));(case side2=>exact HC1_1.out);rintro e w42 ⟨v326,rfl,ho0,hb⟩;refine⟨_,rfl,?_⟩;have n0_:=mk0 (Kd.V_elder' (by (with_reducible repeat (first|apply aV|apply nV|apply dV));exact HO_319004.out) (Kd.R_base ho0) hb);have n1_:=mk0 (Kd.R_elder' (by (with_reducible repeat (first|apply aR|apply nR|apply dR));exact HO323.out) (Kd.R_base ho0) hb);have n2_:=mk0 (Kd.R_lower (Kd.R_new' (Kd.R_newM (M:=fun k_=>(w.heap.size ≤ k_)) ho0 (below_size (by repeat (first|(with_reducible first|exact HB.out|apply aZ|apply nZ|apply dZ|refine sZ ?_ GE318.out)|exact HB.out))) (fun k_ h_=>h_)) (Kd.R_lt (by (with_reducible repeat (first|apply aR|apply nR|apply dR));exact HO323.out))) (below_size (by repeat (first|(with_reducible first|exact HB.out|apply aZ|apply nZ|apply dZ|refine sZ ?_ GE318.out)|exact HB.out))));have n3_:=mk0 (blk_below (g:=gb318) (o:=.cells #[.int .i64 a1_0,.slice A1_1 l1_1.length c1_1,.int .i64 a1_2,.slice A1_3 l1_3.length c1_3,.slice A1_4 l1_4.length c1_4] 27 (0,0)) (by (with_reducible repeat (first|apply nB|apply dB|apply aB));exact BK318.out) hb);have n4_:=mk0 (below_step (by repeat (first|(with_reducible first|exact HB.out|apply aZ|apply nZ|apply dZ|refine sZ ?_ GE318.out)|exact HB.out)) hb);clear HO_319004 HO323 BK318 HB;have HO_319004:=n0_;have HO323:=n1_;have HO327:=n2_;have BK318:=n3_;have HB:=n4_;clear n0_ n1_ n2_ n3_ n4_;(try clear hb);(try clear hb2);(try clear hk);(try clear hi);(try clear ho0);obtain⟨Ao43,co43,eo43⟩:=Kd.R_slice HO327.out;subst eo43)|((with_reducible refine gate_callee (f:=40) rfl ?_);refine goesL_ (some 48) rfl rfl Try.func40 (by kernel_rfl) rfl #[.slice Ao43 t325.length co43,.int .i64 1] rfl (by (try simp only [mA,mC,mN]);first|done|rfl|(simp only [List.length_drop,List.length_take];rfl)) ?_;(with_reducible refine (impl_count.calls kj2 _ _ t325 1 t328 _ ?side1 ?side2 A35.out).mono ?_);(case side1=>repeat (first|exact (Kd.R_reads' HO327.out).2.2|(with_reducible first|apply aC|apply nC|apply dC)));(case side2=>exact (Kd.R_reads' HO327.out).2.1);rintro e w' ⟨rfl,⟨nd,rfl⟩⟩;refine⟨_,rfl,?_⟩))
     go_meet
     case rel=>exact⟨_,(true),(by first|rfl|(simp;done)|(simp [*];done)),H',⟨by have:=HJ2.out;first|omega|exact Nat.le_refl _⟩,⟨by (with_reducible repeat (first|apply aV|apply nV|apply dV));exact Kd.V_mono HO_319004.out (by first|exact fun _ hk=>⟨hk.1.1.1,hk.1.1.2⟩|(intro k_ hk;simp only [hk,ne_eq,and_self,not_false_eq_true]))⟩,⟨by (with_reducible repeat (first|apply nB|apply dB|apply aB));exact BK318.out⟩,⟨by repeat (first|(with_reducible first|exact HB.out|apply aZ|apply nZ|apply dZ|refine sZ ?_ GE318.out)|exact HB.out)⟩⟩
    rw [if_pos c36] at H
    have c36b0:(t328 == t324) = true:=beq_iff_eq.mpr c36
    have c36b1:(t328 != t324) = false:=bne_eq_false_iff_eq.mpr c36
    clear c36
    (first|rw [c36b0]|(simp only [i64_w,i32_w];rw [c36b0])|skip)
    have H':=mk0 H
    clear H
    have hcz37_0:w32.cell? ⟨gb318,0,none⟩ = some (.int .i64 a1_0):=(blk_cell BK318.out 0).trans rfl
    have hcz37_1:w32.cell? ⟨gb318,1,none⟩ = some (.slice A1_1 l1_1.length c1_1):=(blk_cell BK318.out 1).trans rfl
    have hcz37_2:w32.cell? ⟨gb318,2,none⟩ = some (.int .i64 a1_2):=(blk_cell BK318.out 2).trans rfl
    have hcz37_3:w32.cell? ⟨gb318,3,none⟩ = some (.slice A1_3 l1_3.length c1_3):=(blk_cell BK318.out 3).trans rfl
    have hcz37_4:w32.cell? ⟨gb318,4,none⟩ = some (.slice A1_4 l1_4.length c1_4):=(blk_cell BK318.out 4).trans rfl
    have hfz37_0:=blk_frozen BK318.out 0
    have hfz37_1:=blk_frozen BK318.out 1
    have hfz37_2:=blk_frozen BK318.out 2
    have hfz37_3:=blk_frozen BK318.out 3
    have hfz37_4:=blk_frozen BK318.out 4
    go_wp2_with (first|((with_reducible refine gate_callee (f:=41) rfl ?_);refine goesL_ (some 47) rfl rfl Try.func41 (by kernel_rfl) rfl #[.agg #[.int .i64 a1_0,.slice A1_1 l1_1.length c1_1]] rfl (by (try simp only [mA,mC,mN]);first|done|rfl|(simp only [List.length_drop,List.length_take];rfl)) ?_;(with_reducible refine (impl_Bits_list.calls kj2 a1_0 _ _ l1_1 t325 _ ?side1 ?side2 A34.out).mono ?_);(case side1=>repeat (first|exact (Kd.C_below HR1_1.out HB.out)|(with_reducible first|apply aC|apply nC|apply dC)));(case side2=>exact HC1_1.out);rintro e w38 ⟨v326,rfl,ho0,hb⟩;refine⟨_,rfl,?_⟩;have n0_:=mk0 (Kd.V_elder' (by (with_reducible repeat (first|apply aV|apply nV|apply dV));exact HO_319004.out) (Kd.R_base ho0) hb);have n1_:=mk0 (Kd.R_elder' (by (with_reducible repeat (first|apply aR|apply nR|apply dR));exact HO323.out) (Kd.R_base ho0) hb);have n2_:=mk0 (Kd.R_lower (Kd.R_new' (Kd.R_newM (M:=fun k_=>(w.heap.size ≤ k_)) ho0 (below_size (by repeat (first|(with_reducible first|exact HB.out|apply aZ|apply nZ|apply dZ|refine sZ ?_ GE318.out)|exact HB.out))) (fun k_ h_=>h_)) (Kd.R_lt (by (with_reducible repeat (first|apply aR|apply nR|apply dR));exact HO323.out))) (below_size (by repeat (first|(with_reducible first|exact HB.out|apply aZ|apply nZ|apply dZ|refine sZ ?_ GE318.out)|exact HB.out))));have n3_:=mk0 (blk_below (g:=gb318) (o:=.cells #[.int .i64 a1_0,.slice A1_1 l1_1.length c1_1,.int .i64 a1_2,.slice A1_3 l1_3.length c1_3,.slice A1_4 l1_4.length c1_4] 27 (0,0)) (by (with_reducible repeat (first|apply nB|apply dB|apply aB));exact BK318.out) hb);have n4_:=mk0 (below_step (by repeat (first|(with_reducible first|exact HB.out|apply aZ|apply nZ|apply dZ|refine sZ ?_ GE318.out)|exact HB.out)) hb);clear HO_319004 HO323 BK318 HB;have HO_319004:=n0_;have HO323:=n1_;have HO327:=n2_;have BK318:=n3_;have HB:=n4_;clear n0_ n1_ n2_ n3_ n4_;(try clear hb);(try clear hb2);(try clear hk);(try clear hi);(try clear ho0);obtain⟨Ao39,co39,eo39⟩:=Kd.R_slice HO327.out;subst eo39)|((with_reducible refine gate_callee (f:=40) rfl ?_);refine goesL_ (some 48) rfl rfl Try.func40 (by kernel_rfl) rfl #[.slice Ao39 t325.length co39,.int .i64 1] rfl (by (try simp only [mA,mC,mN]);first|done|rfl|(simp only [List.length_drop,List.length_take];rfl)) ?_;(with_reducible refine (impl_count.calls kj2 _ _ t325 1 t328 _ ?side1 ?side2 A35.out).mono ?_);(case side1=>repeat (first|exact (Kd.R_reads' HO327.out).2.2|(with_reducible first|apply aC|apply nC|apply dC)));(case side2=>exact (Kd.R_reads' HO327.out).2.1);rintro e w' ⟨rfl,⟨nd,rfl⟩⟩;refine⟨_,rfl,?_⟩;have hcz40_0:w38.cell? ⟨gb318,0,none⟩ = some (.int .i64 a1_0):=(blk_cell BK318.out 0).trans rfl;have hcz40_1:w38.cell? ⟨gb318,1,none⟩ = some (.slice A1_1 l1_1.length c1_1):=(blk_cell BK318.out 1).trans rfl;have hcz40_2:w38.cell? ⟨gb318,2,none⟩ = some (.int .i64 a1_2):=(blk_cell BK318.out 2).trans rfl;have hcz40_3:w38.cell? ⟨gb318,3,none⟩ = some (.slice A1_3 l1_3.length c1_3):=(blk_cell BK318.out 3).trans rfl;have hcz40_4:w38.cell? ⟨gb318,4,none⟩ = some (.slice A1_4 l1_4.length c1_4):=(blk_cell BK318.out 4).trans rfl;have hfz40_0:=blk_frozen BK318.out 0;have hfz40_1:=blk_frozen BK318.out 1;have hfz40_2:=blk_frozen BK318.out 2;have hfz40_3:=blk_frozen BK318.out 3;have hfz40_4:=blk_frozen BK318.out 4))
    go_meet
    case rel=>exact⟨_,(((wrap64 (a1_2 - t324)) != (l1_4.length:Int))),(by first|rfl|(simp;done)|(simp [*];done)),H',⟨by have:=HJ2.out;first|omega|exact Nat.le_refl _⟩,⟨by (with_reducible repeat (first|apply aV|apply nV|apply dV));exact Kd.V_mono HO_319004.out (by first|exact fun _ hk=>⟨hk.1.1.1,hk.1.1.2⟩|(intro k_ hk;simp only [hk,ne_eq,and_self,not_false_eq_true]))⟩,⟨by (with_reducible repeat (first|apply nB|apply dB|apply aB));exact BK318.out⟩,⟨by repeat (first|(with_reducible first|exact HB.out|apply aZ|apply nZ|apply dZ|refine sZ ?_ GE318.out)|exact HB.out)⟩⟩
   case rest =>
    clear HC30
    try clear c1
    try clear c2
    try clear p2
    try clear c3
    try clear c4
    try clear c5
    try clear c5b0
    try clear c5b1
    try clear p6
    try clear c7
    try clear c9
    try clear c10
    try clear c10b0
    try clear c10b1
    try clear c17
    try clear c27
    try clear c36
    try clear c36b0
    try clear c36b1
    try clear c40
    try clear c41
    try clear hcz11_0
    try clear hcz11_1
    try clear hcz11_2
    try clear hcz11_3
    try clear hcz11_4
    try clear hcz13_0
    try clear hcz13_1
    try clear hcz13_2
    try clear hcz13_3
    try clear hcz13_4
    try clear hcz15_0
    try clear hcz15_1
    try clear hcz15_2
    try clear hcz15_3
    try clear hcz15_4
    try clear hcz16_0
    try clear hcz16_1
    try clear hcz16_2
    try clear hcz16_3
    try clear hcz16_4
    try clear hcz18_0
    try clear hcz18_1
    try clear hcz18_2
    try clear hcz18_3
    try clear hcz18_4
    try clear hcz20_0
    try clear hcz20_1
    try clear hcz20_2
    try clear hcz20_3
    try clear hcz20_4
    try clear hcz21_0
    try clear hcz21_1
    try clear hcz21_2
    try clear hcz21_3
    try clear hcz21_4
    try clear hcz23_0
    try clear hcz23_1
    try clear hcz23_2
    try clear hcz23_3
    try clear hcz23_4
    try clear hcz25_0
    try clear hcz25_1
    try clear hcz25_2
    try clear hcz25_3
    try clear hcz25_4
    try clear hcz31_0
    try clear hcz31_1
    try clear hcz31_2
    try clear hcz31_3
    try clear hcz31_4
    try clear hcz37_0
    try clear hcz37_1
    try clear hcz37_2
    try clear hcz37_3
    try clear hcz37_4
    try clear hcz40_0
    try clear hcz40_1
    try clear hcz40_2
    try clear hcz40_3
    try clear hcz40_4
    try clear hcz41_0
    try clear hcz41_1
    try clear hcz41_2
    try clear hcz41_3
    try clear hcz41_4
    try clear hfz11_0
    try clear hfz11_1
    try clear hfz11_2
    try clear hfz11_3
    try clear hfz11_4
    try clear hfz13_0
    try clear hfz13_1
    try clear hfz13_2
    try clear hfz13_3
    try clear hfz13_4
    try clear hfz15_0
    try clear hfz15_1
    try clear hfz15_2
    try clear hfz15_3
    try clear hfz15_4
    try clear hfz16_0
    try clear hfz16_1
    try clear hfz16_2
    try clear hfz16_3
    try clear hfz16_4
    try clear hfz18_0
    try clear hfz18_1
    try clear hfz18_2
    try clear hfz18_3
    try clear hfz18_4
    try clear hfz20_0
    try clear hfz20_1
    try clear hfz20_2
    try clear hfz20_3
    try clear hfz20_4
    try clear hfz21_0
    try clear hfz21_1
    try clear hfz21_2
    try clear hfz21_3
    try clear hfz21_4
    try clear hfz23_0
    try clear hfz23_1
    try clear hfz23_2
    try clear hfz23_3
    try clear hfz23_4
    try clear hfz25_0
    try clear hfz25_1
    try clear hfz25_2
    try clear hfz25_3
    try clear hfz25_4
    try clear hfz31_0
    try clear hfz31_1
    try clear hfz31_2
    try clear hfz31_3
    try clear hfz31_4
    try clear hfz37_0
    try clear hfz37_1
    try clear hfz37_2
    try clear hfz37_3
    try clear hfz37_4
    try clear hfz40_0
    try clear hfz40_1
    try clear hfz40_2
    try clear hfz40_3
    try clear hfz40_4
    try clear hfz41_0
    try clear hfz41_1
    try clear hfz41_2
    try clear hfz41_3
    try clear hfz41_4
    try clear p2
    obtain⟨kq,x61_29,rfl,HA,HJ29,HO_319004,BK318,HB⟩:=hcut
    cases kq with
    | zero=>exact absurd HA.out (by simp [impl_PatchDo.j1])
    | succ kj29 =>
     have H:=HA.out
     clear HA
     simp only [impl_PatchDo.j1] at H
     by_cases c44:x61_29 = true
     ·subst c44
      have H1:(some (([]:List Int),false)) = some (r1,r2):=by rw [if_pos rfl] at H;exact H
      clear H
      have H:=H1
      clear H1
      simp only [Option.some.injEq,Prod.mk.injEq] at H
      obtain⟨rfl,rfl⟩:=H
      go_wp2
      go_ret2
      exact⟨_,by first|rfl|(simp [errW_none,errW_some] <;> rfl)|(simp [*,errW_none,errW_some] <;> rfl),by first|exact Kd.R_nil _ _ _ _ _|exact Kd.N_nil _ _ _ _ _|exact Kd.V_nil _ _ _ _ _|exact Kd.Q_nil _ _ _ _ _|exact Kd.S_nil _ _ _ _ _,by repeat (first|(with_reducible first|exact HB.out|apply aZ|apply nZ|apply dZ|refine sZ ?_ GE318.out)|exact HB.out)⟩
     replace c44:=Bool.eq_false_iff.mpr c44
     subst c44
     have H1:((impl_BitsFlip.f kj29 a1_0 l1_1).bind fun bt329=>((impl_unmarked.f kj29 l0 bt329.1 bt329.2).bind fun t333=>((impl_Bits_list.f kj29 a1_2 l1_3).bind fun t336=>(impl_PatchDo.l0 kj29 t333 l1_4 ([]:List Int) t336 (t336.length:Int) 0)))) = some (r1,r2):=by rw [if_neg (show ¬ (false = true) by decide)] at H;exact H
     clear H
     have H:=H1
     clear H1
     replace H:=Option.bind_eq_some_iff.mp H
     obtain⟨⟨t329,t330⟩,A450,H⟩:=H
     replace H:((impl_unmarked.f kj29 l0 t329 t330).bind fun t333=>((impl_Bits_list.f kj29 a1_2 l1_3).bind fun t336=>(impl_PatchDo.l0 kj29 t333 l1_4 ([]:List Int) t336 (t336.length:Int) 0))) = some (r1,r2):=H
     have A45:=mk0 A450
     clear A450
     replace H:=Option.bind_eq_some_iff.mp H
     obtain⟨t333,A460,H⟩:=H
     replace H:((impl_Bits_list.f kj29 a1_2 l1_3).bind fun t336=>(impl_PatchDo.l0 kj29 t333 l1_4 ([]:List Int) t336 (t336.length:Int) 0)) = some (r1,r2):=H
     have A46:=mk0 A460
     clear A460
     replace H:=Option.bind_eq_some_iff.mp H
     obtain⟨t336,A470,H⟩:=H
     replace H:(impl_PatchDo.l0 kj29 t333 l1_4 ([]:List Int) t336 (t336.length:Int) 0) = some (r1,r2):=H
     have A47:=mk0 A470
     clear A470
     have H':=mk0 H
     clear H
     try go_wp2
     have n0_:=mk0 (dV HO_319004.out)
     have n1_:=mk0 (dB BK318.out)
     have n2_:=mk0 (dZ HB.out)
     clear HO_319004
     clear BK318
     clear HB
     have HO_319004:=n0_
     have BK318:=n1_
     have HB:=n2_
     clear n0_ n1_ n2_
     refine start_ (n:=9) (S:=fun w'=>w'.cell? ⟨gb318,0,none⟩ = some (.int .i64 a1_0) ∧ w'.cell? ⟨gb318,1,none⟩ = some (.slice A1_1 l1_1.length c1_1) ∧ w'.cell? ⟨gb318,2,none⟩ = some (.int .i64 a1_2) ∧ w'.cell? ⟨gb318,3,none⟩ = some (.slice A1_3 l1_3.length c1_3) ∧ w'.cell? ⟨gb318,4,none⟩ = some (.slice A1_4 l1_4.length c1_4)) (ds:=[]) impl_PatchDo.m0 (by kernel_rfl) rfl rfl ⟨(blk_cell BK318.out 0).trans rfl,(blk_cell BK318.out 1).trans rfl,(blk_cell BK318.out 2).trans rfl,(blk_cell BK318.out 3).trans rfl,(blk_cell BK318.out 4).trans rfl⟩ (fun hHeld=>?_);refine with_tabW impl_PatchDo.tab6 impl_PatchDo.bits6 (fun HT_ HW_=>?_)
     generalize wc.drew = w48 at HO_319004 BK318 HB hHeld ⊢
     refine pure_ (i:=0) (N:=some 62) (v:=?_) (a':=?_) impl_PatchDo.m1 rfl rfl (any_of HT_.out (by kernel_rfl)) (fun _ _ _ h=>h) (Or.inl ⟨by rfl,?_⟩) ?_ ?_
     rotate_left
     ·intro w'
      go_simp
      with_reducible rfl
     rotate_left
     ·simp only [Act.put,sA,sO,sS,i64_w,i32_w]
      rfl
     refine pure_ (i:=1) (N:=some 63) (v:=?_) (a':=?_) impl_PatchDo.m2 rfl rfl (any_of HT_.out (by kernel_rfl)) (fun _ _ _ h=>h) (Or.inl ⟨by rfl,?_⟩) ?_ ?_
     rotate_left
     ·intro w'
      go_simp
      with_reducible rfl
     rotate_left
     ·simp only [Act.put,sA,sO,sS,i64_w,i32_w]
      rfl
     refine pure_ (i:=5) (N:=some 67) (v:=?_) (a':=?_) impl_PatchDo.m3 rfl rfl (any_of HT_.out (by kernel_rfl)) (fun _ _ _ h=>h) (Or.inl ⟨by rfl,?_⟩) ?_ ?_
     rotate_left
     ·intro w'
      go_simp
      with_reducible rfl
     rotate_left
     ·simp only [Act.put,sA,sO,sS,i64_w,i32_w]
      rfl
     refine take_ (i:=2) (N:=some 64) (v:=?_) (a':=?_) impl_PatchDo.m4 rfl rfl (take_ofW HT_.out HW_.out (by kernel_rfl)) (fun _ _ _ h=>h) (Or.inl ⟨by rfl,?_⟩) hHeld ?_ ?_
     rotate_left
     ·rintro w' ⟨s0,s1,s2,s3,s4⟩
      go_simp
      with_reducible rfl
     rotate_left
     ·simp only [Act.put,sA,sO,sS,i64_w,i32_w]
      rfl
     refine take_ (i:=6) (N:=some 68) (v:=?_) (a':=?_) impl_PatchDo.m5 rfl rfl (take_ofW HT_.out HW_.out (by kernel_rfl)) (fun _ _ _ h=>h) (Or.inl ⟨by rfl,?_⟩) hHeld ?_ ?_
     rotate_left
     ·rintro w' ⟨s0,s1,s2,s3,s4⟩
      go_simp
      with_reducible rfl
     rotate_left
     ·simp only [Act.put,sA,sO,sS,i64_w,i32_w]
      rfl
     refine one_ (i:=3) (N:=some 65) impl_PatchDo.m6 rfl rfl (one_of HT_.out (by kernel_rfl)) (by decide) (fun K hK=>?_)
     refine goes_ Try.func42 (by kernel_rfl) rfl #[.agg #[.int .i64 a1_0,.slice A1_1 l1_1.length c1_1]] (by rfl) rfl rfl (by (try simp only [mA,mC,mN]);first|done|rfl|(simp only [List.length_drop,List.length_take];rfl)) ?_
     with_reducible refine (impl_BitsFlip.calls kj29 a1_0 _ _ l1_1 t329 t330 _ ?side1 ?side2 A45.out).mono ?_
     (case side1=>repeat (first|exact (Kd.C_below HR1_1.out HB.out)|(with_reducible first|apply aC|apply nC|apply dC)))
     (case side2=>exact HC1_1.out)
     rintro e w49 ⟨v331,rfl,ho0,hb⟩
     refine⟨_,rfl,?_⟩
     have n0_:=mk0 (Kd.V_elder' (by (with_reducible repeat (first|apply aV|apply nV|apply dV));exact HO_319004.out) (Kd.R_base ho0) hb)
     have n1_:=mk0 (Kd.R_lower (Kd.R_newM (M:=fun k_=>(w.heap.size ≤ k_)) ho0 (below_size (by repeat (first|(with_reducible first|exact HB.out|apply aZ|apply nZ|apply dZ|refine sZ ?_ GE318.out)|exact HB.out))) (fun k_ h_=>h_)) (below_size (by repeat (first|(with_reducible first|exact HB.out|apply aZ|apply nZ|apply dZ|refine sZ ?_ GE318.out)|exact HB.out))))
     have n2_:=mk0 (blk_below (g:=gb318) (o:=.cells #[.int .i64 a1_0,.slice A1_1 l1_1.length c1_1,.int .i64 a1_2,.slice A1_3 l1_3.length c1_3,.slice A1_4 l1_4.length c1_4] 27 (0,0)) (by (with_reducible repeat (first|apply nB|apply dB|apply aB));exact BK318.out) hb)
     have n3_:=mk0 (below_step (by repeat (first|(with_reducible first|exact HB.out|apply aZ|apply nZ|apply dZ|refine sZ ?_ GE318.out)|exact HB.out)) hb)
     clear HO_319004
     clear BK318
     clear HB
     have HO_319004:=n0_
     have HO332:=n1_
     have BK318:=n2_
     have HB:=n3_
     clear n0_ n1_ n2_ n3_
     (try clear hb)
     (try clear hb2)
     (try clear hk)
     (try clear hi)
     (try clear ho0)
     obtain⟨Ao50,co50,eo50⟩:=Kd.R_slice HO332.out
     (first|subst eo50|(injection eo50 with f1_ f2_ f3_;have f4_:=f1_.symm;have f5_:=f3_.symm;clear f1_ f2_ f3_;subst f4_;subst f5_))
     refine hK.out _ _ ⟨(blk_cell BK318.out 0).trans rfl,(blk_cell BK318.out 1).trans rfl,(blk_cell BK318.out 2).trans rfl,(blk_cell BK318.out 3).trans rfl,(blk_cell BK318.out 4).trans rfl⟩ (fun hHeld=>?_)
     clear hK K
     refine norm_ (a':=?_) ?_ ?_
     rotate_left
     ·show Act.put _ (some 65) _ = _
      simp only [Act.put,sA,sO,sS,i64_w,i32_w]
      rfl
     refine one_ (i:=4) (N:=some 66) impl_PatchDo.m7 rfl rfl (one_of HT_.out (by kernel_rfl)) (by decide) (fun K hK=>?_)
     refine goes_ Try.func29 (by kernel_rfl) rfl #[.slice A0 l0.length c0,.agg #[.int .i64 t329,.slice Ao50 t330.length co50]] (by rfl) rfl rfl (by (try simp only [mA,mC,mN]);first|done|rfl|(simp only [List.length_drop,List.length_take];rfl)) ?_
     with_reducible refine (impl_unmarked.calls kj29 _ _ l0 t329 _ _ t330 t333 _ ?side1 ?side2 ?side3 ?side4 A46.out).mono ?_
     (case side1=>repeat (first|exact (Kd.C_below HR0.out HB.out)|(with_reducible first|apply aC|apply nC|apply dC)))
     (case side2=>exact HC0.out)
     (case side3=>repeat (first|exact (Kd.R_reads' HO332.out).2.2|(with_reducible first|apply aC|apply nC|apply dC)))
     (case side4=>exact (Kd.R_reads' HO332.out).2.1)
     rintro e w51 ⟨v334,rfl,ho0,hb⟩
     refine⟨_,rfl,?_⟩
     have n0_:=mk0 (Kd.V_elder' (by (with_reducible repeat (first|apply aV|apply nV|apply dV));exact HO_319004.out) (Kd.R_base ho0) hb)
     have n1_:=mk0 (Kd.R_below (by (with_reducible repeat (first|apply aR|apply nR|apply dR));exact HO332.out) hb)
     have n2_:=mk0 (Kd.R_lower (Kd.R_newM (M:=fun k_=>(w.heap.size ≤ k_)) ho0 (below_size (by repeat (first|(with_reducible first|exact HB.out|apply aZ|apply nZ|apply dZ|refine sZ ?_ GE318.out)|exact HB.out))) (fun k_ h_=>h_)) (below_size (by repeat (first|(with_reducible first|exact HB.out|apply aZ|apply nZ|apply dZ|refine sZ ?_ GE318.out)|exact HB.out))))
     have n3_:=mk0 (blk_below (g:=gb318) (o:=.cells #[.int .i64 a1_0,.slice A1_1 l1_1.length c1_1,.int .i64 a1_2,.slice A1_3 l1_3.length c1_3,.slice A1_4 l1_4.length c1_4] 27 (0,0)) (by (with_reducible repeat (first|apply nB|apply dB|apply aB));exact BK318.out) hb)
     have n4_:=mk0 (below_step (by repeat (first|(with_reducible first|exact HB.out|apply aZ|apply nZ|apply dZ|refine sZ ?_ GE318.out)|exact HB.out)) hb)
     clear HO_319004
     clear HO332
     clear BK318
     clear HB
     have HO_319004:=n0_
     have HO332:=n1_
     have HO335:=n2_
     have BK318:=n3_
     have HB:=n4_
     clear n0_ n1_ n2_ n3_ n4_
     (try clear hb)
     (try clear hb2)
     (try clear hk)
     (try clear hi)
     (try clear ho0)
     refine hK.out _ _ ⟨(blk_cell BK318.out 0).trans rfl,(blk_cell BK318.out 1).trans rfl,(blk_cell BK318.out 2).trans rfl,(blk_cell BK318.out 3).trans rfl,(blk_cell BK318.out 4).trans rfl⟩ (fun hHeld=>?_)
     clear hK K
     refine norm_ (a':=?_) ?_ ?_
     rotate_left
     ·show Act.put _ (some 66) _ = _
      simp only [Act.put,sA,sO,sS,i64_w,i32_w]
      rfl
     refine pure_ (i:=7) (N:=some 7) (v:=?_) (a':=?_) impl_PatchDo.m8 rfl rfl (any_of HT_.out (by kernel_rfl)) (fun _ _ _ h=>h) (Or.inl ⟨by rfl,?_⟩) ?_ ?_
     rotate_left
     ·intro w'
      go_simp
      with_reducible rfl
     rotate_left
     ·simp only [Act.put,sA,sO,sS,i64_w,i32_w]
      rfl
     refine pure_ (i:=8) (N:=some 8) (v:=?_) (a':=?_) impl_PatchDo.m9 rfl rfl (any_of HT_.out (by kernel_rfl)) (fun _ _ _ h=>h) (Or.inl ⟨by rfl,?_⟩) ?_ ?_
     rotate_left
     ·intro w'
      go_simp
      with_reducible rfl
     rotate_left
     ·simp only [Act.put,sA,sO,sS,i64_w,i32_w]
      rfl
     refine done_ (done_of HT_.out (by kernel_rfl)) ?_
     have hcz52_0:w51.cell? ⟨gb318,0,none⟩ = some (.int .i64 a1_0):=(blk_cell BK318.out 0).trans rfl
     have hcz52_1:w51.cell? ⟨gb318,1,none⟩ = some (.slice A1_1 l1_1.length c1_1):=(blk_cell BK318.out 1).trans rfl
     have hcz52_2:w51.cell? ⟨gb318,2,none⟩ = some (.int .i64 a1_2):=(blk_cell BK318.out 2).trans rfl
     have hcz52_3:w51.cell? ⟨gb318,3,none⟩ = some (.slice A1_3 l1_3.length c1_3):=(blk_cell BK318.out 3).trans rfl
     have hcz52_4:w51.cell? ⟨gb318,4,none⟩ = some (.slice A1_4 l1_4.length c1_4):=(blk_cell BK318.out 4).trans rfl
     have hfz52_0:=blk_frozen BK318.out 0
     have hfz52_1:=blk_frozen BK318.out 1
     have hfz52_2:=blk_frozen BK318.out 2
     have hfz52_3:=blk_frozen BK318.out 3
     have hfz52_4:=blk_frozen BK318.out 4
     try go_wp2_with (first|((with_reducible refine gate_callee (f:=41) rfl ?_);refine goesL_ (some 71) rfl rfl Try.func41 (by kernel_rfl) rfl #[.agg #[.int .i64 a1_2,.slice A1_3 l1_3.length c1_3]] rfl (by (try simp only [mA,mC,mN]);first|done|rfl|(simp only [List.length_drop,List.length_take];rfl)) ?_;(with_reducible refine (impl_Bits_list.calls kj29 a1_2 _ _ l1_3 t336 _ ?side1 ?side2 A47.out).mono ?_);(case side1=>repeat (first|exact (Kd.C_below HR1_3.out HB.out)|(with_reducible first|apply aC|apply nC|apply dC)));(case side2=>exact HC1_3.out);rintro e w53 ⟨v337,rfl,ho0,hb⟩;refine⟨_,rfl,?_⟩;have n0_:=mk0 (Kd.V_elder' (by (with_reducible repeat (first|apply aV|apply nV|apply dV));exact HO_319004.out) (Kd.R_base ho0) hb);have n1_:=mk0 (Kd.R_below (by (with_reducible repeat (first|apply aR|apply nR|apply dR));exact HO332.out) hb);have n2_:=mk0 (Kd.R_elder' (by (with_reducible repeat (first|apply aR|apply nR|apply dR));exact HO335.out) (Kd.R_base ho0) hb);have n3_:=mk0 (Kd.R_lower (Kd.R_new' (Kd.R_newM (M:=fun k_=>(w.heap.size ≤ k_)) ho0 (below_size (by repeat (first|(with_reducible first|exact HB.out|apply aZ|apply nZ|apply dZ|refine sZ ?_ GE318.out)|exact HB.out))) (fun k_ h_=>h_)) (Kd.R_lt (by (with_reducible repeat (first|apply aR|apply nR|apply dR));exact HO335.out))) (below_size (by repeat (first|(with_reducible first|exact HB.out|apply aZ|apply nZ|apply dZ|refine sZ ?_ GE318.out)|exact HB.out))));have n4_:=mk0 (blk_below (g:=gb318) (o:=.cells #[.int .i64 a1_0,.slice A1_1 l1_1.length c1_1,.int .i64 a1_2,.slice A1_3 l1_3.length c1_3,.slice A1_4 l1_4.length c1_4] 27 (0,0)) (by (with_reducible repeat (first|apply nB|apply dB|apply aB));exact BK318.out) hb);have n5_:=mk0 (below_step (by repeat (first|(with_reducible first|exact HB.out|apply aZ|apply nZ|apply dZ|refine sZ ?_ GE318.out)|exact HB.out)) hb);clear HO_319004 HO332 HO335 BK318 HB;have HO_319004:=n0_;have HO332:=n1_;have HO335:=n2_;have HO338:=n3_;have BK318:=n4_;have HB:=n5_;clear n0_ n1_ n2_ n3_ n4_ n5_;(try clear hb);(try clear hb2);(try clear hk);(try clear hi);(try clear ho0);obtain⟨Ao54,co54,eo54⟩:=Kd.R_slice HO338.out;subst eo54))
     go_loopg [7,8,9,73] kj29 (fun kq v7 v8 v9 v73 w'=>∃ (x7_3:List Int) (x8_3:List Int) (x9_3:List Int) (x73_3:Int),v73 = .int .i64 x73_3 ∧ Aside0 (impl_PatchDo.l0 kq x7_3 x8_3 x9_3 t336 (t336.length:Int) x73_3 = some (r1,r2)) ∧ Aside0 (kq ≤ kj29) ∧ Aside0 (Kd.Q (Kd.int .i64) 3 w' w.heap.size (fun k_=>(w.heap.size ≤ k_) ∧ some k_ ≠ (v9:Value).ownBlock ∧ some k_ ≠ ((.slice Ao54 t336.length co54):Value).ownBlock) v7 x7_3) ∧ Aside0 (Kd.V (Kd.int .i64) 3 w' w.heap.size (fun k_=>(P1_4_ k_ ∨ w.heap.size ≤ k_) ∧ some k_ ≠ (v7:Value).ownBlock ∧ some k_ ≠ (v9:Value).ownBlock ∧ some k_ ≠ ((.slice Ao54 t336.length co54):Value).ownBlock ∧ k_ ≠ gb318) v8 x8_3) ∧ Aside0 (Kd.R (Kd.int .i64) 3 w' w.heap.size (fun k_=>(w.heap.size ≤ k_) ∧ some k_ ≠ (v7:Value).ownBlock ∧ some k_ ≠ ((.slice Ao54 t336.length co54):Value).ownBlock) v9 x9_3) ∧ Aside0 (Kd.R (Kd.int .i64) 3 w' w.heap.size (fun k_=>(w.heap.size ≤ k_) ∧ some k_ ≠ (v7:Value).ownBlock ∧ some k_ ≠ (v9:Value).ownBlock) (.slice Ao54 t336.length co54) t336) ∧ Aside0 (Kd.V (Kd.int .i64) 3 w' w.heap.size (fun k_=>(P1_4_ k_ ∨ w.heap.size ≤ k_) ∧ some k_ ≠ (v7:Value).ownBlock ∧ some k_ ≠ (v9:Value).ownBlock ∧ some k_ ≠ ((.slice Ao54 t336.length co54):Value).ownBlock ∧ k_ ≠ gb318) (.slice A1_4 l1_4.length c1_4) l1_4) ∧ Aside0 (w'.heap[gb318]? = some (.cells #[.int .i64 a1_0,(.slice A1_1 l1_1.length c1_1),.int .i64 a1_2,(.slice A1_3 l1_3.length c1_3),(.slice A1_4 l1_4.length c1_4)] 27 (0,0))) ∧ Aside0 (Below w.heap.size w w'))
     case atStart=>exact⟨(t333),(l1_4),(([]:List Int)),(0),(by first|rfl|(simp;done)|(simp [*];done)),H',⟨Nat.le_refl _⟩,⟨Kd.Q_of_R (by (with_reducible repeat (first|apply aR|apply nR|apply dR));exact Kd.R_mono HO335.out (fun _ hk=>⟨hk.1.1,⟨(by simp [Value.ownBlock]),hk.2⟩⟩))⟩,⟨by (with_reducible repeat (first|apply aV|apply nV|apply dV));exact Kd.V_mono HO_319004.out (fun _ hk=>⟨hk.1.1.1.1,⟨hk.1.2,⟨(by simp [Value.ownBlock]),⟨hk.2,hk.1.1.1.2⟩⟩⟩⟩)⟩,⟨by first|exact Kd.R_nil _ _ _ _ _|exact Kd.N_nil _ _ _ _ _|exact Kd.V_nil _ _ _ _ _|exact Kd.Q_nil _ _ _ _ _|exact Kd.S_nil _ _ _ _ _⟩,⟨by (with_reducible repeat (first|apply aR|apply nR|apply dR));exact Kd.R_mono HO338.out (fun _ hk=>⟨hk.1.1,⟨hk.2,(by simp [Value.ownBlock])⟩⟩)⟩,⟨by (with_reducible repeat (first|apply aV|apply nV|apply dV));exact Kd.V_mono HO_319004.out (fun _ hk=>⟨hk.1.1.1.1,⟨hk.1.2,⟨(by simp [Value.ownBlock]),⟨hk.2,hk.1.1.1.2⟩⟩⟩⟩)⟩,⟨by (with_reducible repeat (first|apply nB|apply dB|apply aB));exact BK318.out⟩,⟨by repeat (first|(with_reducible first|exact HB.out|apply aZ|apply nZ|apply dZ|refine sZ ?_ GE318.out)|exact HB.out)⟩⟩
     case round =>
      clear H'
      try clear c1
      try clear c2
      try clear p2
      try clear c3
      try clear c4
      try clear c5
      try clear c5b0
      try clear c5b1
      try clear p6
      try clear c7
      try clear c9
      try clear c10
      try clear c10b0
      try clear c10b1
      try clear c17
      try clear c27
      try clear c29
      try clear c36
      try clear c36b0
      try clear c36b1
      try clear c40
      try clear c41
      try clear c42
      try clear c44
      try clear hcz11_0
      try clear hcz11_1
      try clear hcz11_2
      try clear hcz11_3
      try clear hcz11_4
      try clear hcz13_0
      try clear hcz13_1
      try clear hcz13_2
      try clear hcz13_3
      try clear hcz13_4
      try clear hcz15_0
      try clear hcz15_1
      try clear hcz15_2
      try clear hcz15_3
      try clear hcz15_4
      try clear hcz16_0
      try clear hcz16_1
      try clear hcz16_2
      try clear hcz16_3
      try clear hcz16_4
      try clear hcz18_0
      try clear hcz18_1
      try clear hcz18_2
      try clear hcz18_3
      try clear hcz18_4
      try clear hcz20_0
      try clear hcz20_1
      try clear hcz20_2
      try clear hcz20_3
      try clear hcz20_4
      try clear hcz21_0
      try clear hcz21_1
      try clear hcz21_2
      try clear hcz21_3
      try clear hcz21_4
      try clear hcz23_0
      try clear hcz23_1
      try clear hcz23_2
      try clear hcz23_3
      try clear hcz23_4
      try clear hcz25_0
      try clear hcz25_1
      try clear hcz25_2
      try clear hcz25_3
      try clear hcz25_4
      try clear hcz31_0
      try clear hcz31_1
      try clear hcz31_2
      try clear hcz31_3
      try clear hcz31_4
      try clear hcz37_0
      try clear hcz37_1
      try clear hcz37_2
      try clear hcz37_3
      try clear hcz37_4
      try clear hcz40_0
      try clear hcz40_1
      try clear hcz40_2
      try clear hcz40_3
      try clear hcz40_4
      try clear hcz41_0
      try clear hcz41_1
      try clear hcz41_2
      try clear hcz41_3
      try clear hcz41_4
      try clear hcz52_0
      try clear hcz52_1
      try clear hcz52_2
      try clear hcz52_3
      try clear hcz52_4
      try clear hfz11_0
      try clear hfz11_1
      try clear hfz11_2
      try clear hfz11_3
      try clear hfz11_4
      try clear hfz13_0
      try clear hfz13_1
      try clear hfz13_2
      try clear hfz13_3
      try clear hfz13_4
      try clear hfz15_0
      try clear hfz15_1
      try clear hfz15_2
      try clear hfz15_3
      try clear hfz15_4
      try clear hfz16_0
      try clear hfz16_1
      try clear hfz16_2
      try clear hfz16_3
      try clear hfz16_4
      try clear hfz18_0
      try clear hfz18_1
      try clear hfz18_2
      try clear hfz18_3
      try clear hfz18_4
      try clear hfz20_0
      try clear hfz20_1
      try clear hfz20_2
      try clear hfz20_3
      try clear hfz20_4
      try clear hfz21_0
      try clear hfz21_1
      try clear hfz21_2
      try clear hfz21_3
      try clear hfz21_4
      try clear hfz23_0
      try clear hfz23_1
      try clear hfz23_2
      try clear hfz23_3
      try clear hfz23_4
      try clear hfz25_0
      try clear hfz25_1
      try clear hfz25_2
      try clear hfz25_3
      try clear hfz25_4
      try clear hfz31_0
      try clear hfz31_1
      try clear hfz31_2
      try clear hfz31_3
      try clear hfz31_4
      try clear hfz37_0
      try clear hfz37_1
      try clear hfz37_2
      try clear hfz37_3
      try clear hfz37_4
      try clear hfz40_0
      try clear hfz40_1
      try clear hfz40_2
      try clear hfz40_3
      try clear hfz40_4
      try clear hfz41_0
      try clear hfz41_1
      try clear hfz41_2
      try clear hfz41_3
      try clear hfz41_4
      try clear hfz52_0
      try clear hfz52_1
      try clear hfz52_2
      try clear hfz52_3
      try clear hfz52_4
      try clear p2
      try clear p6
      obtain⟨x7_3,x8_3,x9_3,x73_3,rfl,HA,HK3,HO_7,HO_8,HO_9,HO_71,HO_319004,BK318,HB⟩:=hrel
      cases gk with
      | zero=>exact absurd HA.out (by simp [impl_PatchDo.l0])
      | succ k3 =>
       have H:=HA.out
       clear HA
       simp only [impl_PatchDo.l0] at H
       by_cases c55:x73_3 < (t336.length:Int)
       rotate_left
       ·rw [if_neg c55] at H
        have c55b0:decide (x73_3 < (t336.length:Int)) = false:=decide_eq_false c55
        clear c55
        simp only [Option.some.injEq,Prod.mk.injEq] at H
        obtain⟨rfl,rfl⟩:=H
        go_wp2
        go_ret2
        exact⟨_,by first|rfl|(simp [errW_none,errW_some] <;> rfl)|(simp [*,errW_none,errW_some] <;> rfl),by (with_reducible repeat (first|apply aR|apply nR|apply dR));exact Kd.R_mono HO_9.out (by first|exact fun _ hk=>hk.1|(intro k_ hk;simp only [hk,ne_eq,and_self,not_false_eq_true])),by repeat (first|(with_reducible first|exact HB.out|apply aZ|apply nZ|apply dZ|refine sZ ?_ GE318.out)|exact HB.out)⟩

       rw [if_pos c55] at H
       have c55b0:decide (x73_3 < (t336.length:Int)) = true:=decide_eq_true c55
       clear c55
       by_cases c56:0 ≤ x73_3
       rotate_left
       ·rw [if_neg c56] at H
        exact absurd H (by simp)
       rw [if_pos c56] at H
       have c56b0:decide (0 ≤ x73_3) = true:=decide_eq_true c56
       clear c56
       by_cases c57:x73_3 < (t336.length:Int)
       rotate_left
       ·rw [if_neg c57] at H
        exact absurd H (by simp)
       rw [if_pos c57] at H
       have c57b0:decide (x73_3 < (t336.length:Int)) = true:=decide_eq_true c57
       clear c57
       by_cases c58:(rd t336 x73_3) = 1
       rotate_left
       ·rw [if_neg c58] at H
        have c58b0:((rd t336 x73_3) == 1) = false:=beq_eq_false_iff_ne.mpr c58
        have c58b1:((rd t336 x73_3) != 1) = true:=bne_iff_ne.mpr c58
        by_cases c66:0 < (x8_3.length:Int)
        rotate_left
        ·rw [if_neg c66] at H
         exact absurd H (by simp)
        rw [if_pos c66] at H
        have c66b0:decide (0 < (x8_3.length:Int)) = true:=decide_eq_true c66
        have c66b1:decide (0 < x8_3.length) = true:=decide_eq_true (by omega)
        clear c66
        by_cases c67:x9_3.length < 17592186044416
        rotate_left
        ·rw [if_neg c67] at H
         exact absurd H (by simp)
        rw [if_pos c67] at H
        have LMc67:=mk0 c67
        clear c67
        obtain⟨y348,hy348⟩:∃ y_:List Int,y_ = (x9_3 ++ [rd x8_3 0]):=⟨_,rfl⟩
        replace H:(if 1 ≤ (x8_3.length:Int) then (impl_PatchDo.l0 k3 x7_3 (x8_3.drop 1) y348 t336 (t336.length:Int) (wrap64 (x73_3 + 1))) else (none)) = some (r1,r2):=by first|(rw [hy348];with_reducible exact H)|(have H2_:=(Option.bind_some _ _).symm.trans H;rw [hy348];with_reducible exact H2_)|(have H2_:=(Option.bind_some _ _).symm.trans H;with_reducible exact H2_)|with_reducible exact H|(rw [hy348];exact H)|exact H
        have Ny348:=mk0 hy348
        clear hy348
        by_cases c68:1 ≤ (x8_3.length:Int)
        rotate_left
        ·rw [if_neg c68] at H
         exact absurd H (by simp)
        rw [if_pos c68] at H
        have c68b0:=eq_true c68
        have c68b1:decide (1 ≤ (x8_3.length:Int)) = true:=decide_eq_true c68
        clear c68
        obtain⟨y351,hy351⟩:∃ y_:List Int,y_ = (x8_3.drop 1):=⟨_,rfl⟩
        replace H:(impl_PatchDo.l0 k3 x7_3 y351 y348 t336 (t336.length:Int) (wrap64 (x73_3 + 1))) = some (r1,r2):=by first|(rw [hy351];with_reducible exact H)|(have H2_:=(Option.bind_some _ _).symm.trans H;rw [hy351];with_reducible exact H2_)|(have H2_:=(Option.bind_some _ _).symm.trans H;with_reducible exact H2_)|with_reducible exact H|(rw [hy351];exact H)|exact H
        have Ny351:=mk0 hy351
        clear hy351
        have H':=mk0 H
        clear H
        have p339:0 ≤ (x73_3:Int):=of_decide_eq_true (by first|(with_reducible assumption)|assumption)
        have q339:x73_3 < (t336.length:Int):=of_decide_eq_true (by first|(with_reducible assumption)|assumption)
        obtain⟨ad339,e339,hx339_0⟩:=Kd.at_int (Kd.R_reads' HO_71.out).2.2 x73_3 p339 q339
        cases e339
        replace p339:=eq_true p339
        replace q339:=eq_true q339
        try go_wp2
        have n0_:=mk0 (dQ HO_7.out)
        have n1_:=mk0 (dV HO_8.out)
        have n2_:=mk0 (dR HO_9.out)
        have n3_:=mk0 (dR HO_71.out)
        have n4_:=mk0 (dV HO_319004.out)
        have n5_:=mk0 (dB BK318.out)
        have n6_:=mk0 (dZ HB.out)
        clear HO_7
        clear HO_8
        clear HO_9
        clear HO_71
        clear HO_319004
        clear BK318
        clear HB
        have HO_7:=n0_
        have HO_8:=n1_
        have HO_9:=n2_
        have HO_71:=n3_
        have HO_319004:=n4_
        have BK318:=n5_
        have HB:=n6_
        clear n0_ n1_ n2_ n3_ n4_ n5_ n6_
        obtain⟨Ao70,co70,eo70⟩:=Kd.V_slice HO_8.out
        (first|subst eo70|(injection eo70 with f1_ f2_ f3_;have f4_:=f1_.symm;have f5_:=f3_.symm;clear f1_ f2_ f3_;subst f4_;subst f5_))
        have p347:0 ≤ (0:Int):=(by omega)
        have q347:0 < (x8_3.length:Int):=of_decide_eq_true (by first|(with_reducible assumption)|assumption)
        obtain⟨ad347,e347,hx347_0⟩:=Kd.at_int (Kd.V_reads' HO_8.out).2.2 0 p347 q347
        cases e347
        have qi347:(0 < x8_3.length) = True:=eq_true (by omega)
        (try rw [show ((0:Int)).toNat = 0 from rfl] at hx347_0)
        (try rw [Addr.add_zero'] at hx347_0)
        replace p347:=eq_true p347
        replace q347:=eq_true q347
        have q71:(1:Int) ≤ ((x8_3.length:Int):Int):=of_decide_eq_true (by first|(with_reducible assumption)|assumption)
        obtain⟨i071,hi071,_,hsz71,_⟩:=info_parts info3
        have hroom71:x8_3.length ≤ co70:=(Kd.V_reads' HO_8.out).2.1
        have hC71:Kd.F (Kd.int .i64) _ _ (some ad347) x8_3.length x8_3:=(Kd.V_at (base:=w.heap.size) HO_8.out).2.2
        have hcut71:=cut_from (P:=Try.prog) 22 3 .i64 Try.underlying22 hi071 1 hsz71 (some ad347) x8_3.length co70 1 (by omega) q71
        have hr71:=Kd.F_cut (m:=(1:Int).toNat) (c:=co70) hC71 (by omega) hroom71
        obtain⟨A71,hA71⟩:∃ A1,A1 = (if co70 = (1:Int).toNat then (some ad347) else ((some ad347):Option Addr).map (·.add ((1:Int).toNat * 1))):=⟨_,rfl⟩
        obtain⟨c71,hc71⟩:∃ c1,c1 = co70 - (1:Int).toNat:=⟨_,rfl⟩
        have hy71:y351.length = x8_3.length - (1:Int).toNat:=(by rw [Ny351.out,List.length_drop] <;> omega)
        rw [show (x8_3).drop (1:Int).toNat = y351 from Ny351.out.symm] at hr71
        replace hr71:Kd.F (Kd.int .i64) _ _ A71 y351.length y351:=(by rw [hA71];exact hr71)
        rw [← hy71, ← hA71, ← hc71] at hcut71
        have HO355:=mk0 (show Kd.V (Kd.int .i64) 3 _ w.heap.size _ (.slice A71 y351.length c71) y351 from Kd.V_mk (by rw [hy71,hc71];exact Nat.sub_le_sub_right hroom71 _) hr71)
        have HC355:=mk0 (show y351.length ≤ c71 from by rw [hy71,hc71];exact Nat.sub_le_sub_right hroom71 _)
        clear hr71 hC71 hroom71 hi071 hsz71 hc71
        have KY71:=mk0 hy71
        have KA71:=mk0 hA71
        clear hy71 hA71
        replace q71:=eq_true q71
        refine start_ (n:=10) (S:=fun w'=>w'.cell? ad347 = some (.int .i64 (rd x8_3 0))) (ds:=[4,5]) impl_PatchDo.m10 (by kernel_rfl) rfl rfl (hx347_0) (fun hHeld=>?_);refine with_tabW impl_PatchDo.tab13 impl_PatchDo.bits13 (fun HT_ HW_=>?_)
        generalize wr.drew = w69 at HO_7 HO_8 HO_9 HO_71 HO_319004 BK318 HB HO355 hx347_0 hHeld ⊢
        refine pure_ (i:=0) (N:=some 87) (v:=?_) (a':=?_) impl_PatchDo.m11 rfl rfl (any_of HT_.out (by kernel_rfl)) (fun _ _ _ h=>h) (Or.inl ⟨by rfl,?_⟩) ?_ ?_
        rotate_left
        ·intro w'
         go_simp
         with_reducible rfl
        rotate_left
        ·simp only [Act.put,sA,sO,sS,i64_w,i32_w]
         rfl
        refine pure_ (i:=1) (N:=some 88) (v:=?_) (a':=?_) impl_PatchDo.m12 rfl rfl (any_of HT_.out (by kernel_rfl)) (fun _ _ _ h=>h) (Or.inl ⟨by rfl,?_⟩) ?_ ?_
        rotate_left
        ·intro w'
         go_simp
         with_reducible rfl
        rotate_left
        ·simp only [Act.put,sA,sO,sS,i64_w,i32_w]
         rfl
        refine pure_ (i:=2) (N:=some 89) (v:=?_) (a':=?_) impl_PatchDo.m13 rfl rfl (any_of HT_.out (by kernel_rfl)) (fun _ _ _ h=>h) (Or.inl ⟨by rfl,?_⟩) ?_ ?_
        rotate_left
        ·intro w'
         go_simp
         with_reducible rfl
        rotate_left
        ·simp only [Act.put,sA,sO,sS,i64_w,i32_w]
         rfl
        refine pure_ (i:=6) (N:=some 93) (v:=?_) (a':=?_) impl_PatchDo.m14 rfl rfl (any_of HT_.out (by kernel_rfl)) (fun _ _ _ h=>h) (Or.inl ⟨by rfl,?_⟩) ?_ ?_
        rotate_left
        ·intro w'
         go_simp
         with_reducible rfl
        rotate_left
        ·simp only [Act.put,sA,sO,sS,i64_w,i32_w]
         rfl
        refine pure_ (i:=7) (N:=some 94) (v:=?_) (a':=?_) impl_PatchDo.m15 rfl rfl (any_of HT_.out (by kernel_rfl)) (fun _ _ _ h=>h) (Or.inl ⟨by rfl,?_⟩) ?_ ?_
        rotate_left
        ·intro w'
         go_simp
         with_reducible rfl
        rotate_left
        ·simp only [Act.put,sA,sO,sS,i64_w,i32_w]
         rfl
        refine take_ (i:=3) (N:=some 90) (v:=?_) (a':=?_) impl_PatchDo.m16 rfl rfl (take_ofW HT_.out HW_.out (by kernel_rfl)) (fun _ _ _ h=>h) (Or.inl ⟨by rfl,?_⟩) hHeld ?_ ?_
        rotate_left
        ·intro w' s0
         go_simp
         with_reducible rfl
        rotate_left
        ·simp only [Act.put,sA,sO,sS,i64_w,i32_w]
         rfl
        refine last_ (i:=4) (N:=some 91) impl_PatchDo.m17 rfl rfl (one_of HT_.out (by kernel_rfl)) (by decide) (fun K hK=>?_)
        refine value_ (w1:=?_) (v:=?_) (by rfl) rfl ?_ ?_
        rotate_left 2
        ·go_simp
         constructor
         ·rfl
         ·rfl
        refine hK.out _ _ ?_
        clear hK K
        refine norm_ (a':=?_) ?_ ?_
        rotate_left
        ·show Act.put _ (some 91) _ = _
         simp only [Act.put,sA,sO,sS,i64_w,i32_w]
         rfl
        refine last_ (i:=5) (N:=some 92) impl_PatchDo.m18 rfl rfl (one_of HT_.out (by kernel_rfl)) (by decide) (fun K hK=>?_)
        refine Kd.R_append_step (Kd.int .i64) (w0:=w) w.heap.size (by rfl) (.tmp 87) (.tmp 91) 22 3 (.int .i64 0) 8 rfl Try.underlying22 info3 rfl (by decide) (by omega) u9 x9_3 (rd x8_3 0) [.int .i64 (rd x8_3 0)] (fun k_=>(w.heap.size ≤ k_) ∧ some k_ ≠ (u7:Value).ownBlock ∧ some k_ ≠ (.slice (some ad339) t336.length co54:Value).ownBlock) (fun _=>False) rfl rfl ?aP (fun _ hk=>hk.elim) ?aF ?aO ?aB ?aS ?aL ?_
        (case aP=>exact rfl)
        (case aB=>exact (by repeat (first|(with_reducible first|exact HB.out|apply aZ|apply nZ|apply dZ|refine sZ ?_ GE318.out)|exact HB.out)))
        (case aF=>exact (fun k_ hk=>⟨(Nat.le_trans (below_size (by repeat (first|(with_reducible first|exact HB.out|apply aZ|apply nZ|apply dZ|refine sZ ?_ GE318.out)|exact HB.out))) hk),Kd.fresh' (Kd.Q_lt (by (with_reducible repeat (first|apply aQ|apply nQ|apply dQ));exact HO_7.out)) k_ hk,Kd.fresh' (Kd.R_lt (by (with_reducible repeat (first|apply aR|apply nR|apply dR));exact HO_71.out)) k_ hk⟩))
        (case aO=>exact (by (with_reducible repeat (first|apply aR|apply nR|apply dR));exact HO_9.out))
        (case aS=>exact (below_size (by repeat (first|(with_reducible first|exact HB.out|apply aZ|apply nZ|apply dZ|refine sZ ?_ GE318.out)|exact HB.out))))
        (case aL=>have:=LMc67.out;omega)
        intro v349 w72 ho hb hg hat
        rw [← Ny348.out] at ho
        have n0_:=mk0 (Kd.Q_after (ok:=(fun k_=>(w.heap.size ≤ k_) ∧ some k_ ≠ (.slice (some ad339) t336.length co54:Value).ownBlock)) (by (with_reducible repeat (first|apply aQ|apply nQ|apply dQ));exact Kd.Q_mono HO_7.out (fun _ hk=>⟨⟨hk.1,hk.2.2⟩,hk.2.1⟩)) hg hat)
        have n1_:=mk0 (Kd.V_afterv (ok:=(fun k_=>(P1_4_ k_ ∨ w.heap.size ≤ k_) ∧ some k_ ≠ (u7:Value).ownBlock ∧ some k_ ≠ (.slice (some ad339) t336.length co54:Value).ownBlock ∧ k_ ≠ gb318)) (by (with_reducible repeat (first|apply aV|apply nV|apply dV));exact Kd.V_mono HO_8.out (fun _ hk=>⟨⟨hk.1,⟨hk.2.1,⟨hk.2.2.2.1,hk.2.2.2.2⟩⟩⟩,hk.2.2.1⟩)) hg hat)
        have n2_:=mk0 (Kd.R_after (ok:=(fun k_=>(w.heap.size ≤ k_) ∧ some k_ ≠ (u7:Value).ownBlock)) (by (with_reducible repeat (first|apply aR|apply nR|apply dR));exact Kd.R_mono HO_71.out (fun _ hk=>⟨⟨hk.1,hk.2.1⟩,hk.2.2⟩)) hg hat)
        have n3_:=mk0 (Kd.V_afterv (ok:=(fun k_=>(P1_4_ k_ ∨ w.heap.size ≤ k_) ∧ some k_ ≠ (u7:Value).ownBlock ∧ some k_ ≠ (.slice (some ad339) t336.length co54:Value).ownBlock ∧ k_ ≠ gb318)) (by (with_reducible repeat (first|apply aV|apply nV|apply dV));exact Kd.V_mono HO_319004.out (fun _ hk=>⟨⟨hk.1,⟨hk.2.1,⟨hk.2.2.2.1,hk.2.2.2.2⟩⟩⟩,hk.2.2.1⟩)) hg hat)
        have n4_:=mk0 (blk_grown (g:=gb318) (o:=.cells #[.int .i64 a1_0,.slice A1_1 l1_1.length c1_1,.int .i64 a1_2,.slice A1_3 l1_3.length c1_3,.slice A1_4 l1_4.length c1_4] 27 (0,0)) (by (with_reducible repeat (first|apply nB|apply dB|apply aB));exact BK318.out) hg (Kd.R_ne HO_9.out BK318.out (by decide)))
        have n5_:=mk0 (Kd.V_afterv (ok:=(fun k_=>(P1_4_ k_ ∨ w.heap.size ≤ k_) ∧ some k_ ≠ (u7:Value).ownBlock ∧ some k_ ≠ (.slice (some ad339) t336.length co54:Value).ownBlock ∧ k_ ≠ gb318)) (by (with_reducible repeat (first|apply aV|apply nV|apply dV));exact Kd.V_mono HO355.out (fun _ hk=>⟨⟨hk.1,⟨hk.2.1,⟨hk.2.2.2.1,hk.2.2.2.2⟩⟩⟩,hk.2.2.1⟩)) hg hat)
        have n6_:=mk0 (hb)
        have n7_:=mk0 (ho)
        clear HO_7
        clear HO_8
        clear HO_71
        clear HO_319004
        clear BK318
        clear HO355
        clear HB
        clear HO_9
        have HO_7:=n0_
        have HO_8:=n1_
        have HO_71:=n2_
        have HO_319004:=n3_
        have BK318:=n4_
        have HO355:=n5_
        have HB:=n6_
        have HO350:=n7_
        clear n0_ n1_ n2_ n3_ n4_ n5_ n6_ n7_
        clear ho hb hg hat
        refine hK.out _ _ ?_
        clear hK K
        refine norm_ (a':=?_) ?_ ?_
        rotate_left
        ·show Act.put _ (some 92) _ = _
         simp only [Act.put,sA,sO,sS,i64_w,i32_w]
         rfl
        refine pure_ (i:=8) (N:=some 9) (v:=?_) (a':=?_) impl_PatchDo.m19 rfl rfl (any_of HT_.out (by kernel_rfl)) (fun _ _ _ h=>h) (Or.inl ⟨by rfl,?_⟩) ?_ ?_
        rotate_left
        ·intro w'
         go_simp
         with_reducible rfl
        rotate_left
        ·simp only [Act.put,sA,sO,sS,i64_w,i32_w]
         rfl
        refine pure_ (i:=9) (N:=some 8) (v:=?_) (a':=?_) impl_PatchDo.m20 rfl rfl (any_of HT_.out (by kernel_rfl)) (fun _ _ _ h=>h) (Or.inl ⟨by rfl,?_⟩) ?_ ?_
        rotate_left
        ·intro w'
         go_simp
         with_reducible rfl
        rotate_left
        ·simp only [Act.put,sA,sO,sS,i64_w,i32_w]
         rfl
        refine done_ (done_of HT_.out (by kernel_rfl)) ?_
        try go_wp2
        go_roundg k3
        case measure=>have:=HJ2.out;have:=HJ29.out;have:=HK3.out;omega
        case rel=>exact⟨(x7_3),(y351),(y348),(wrap64 (x73_3 + 1)),(by first|rfl|(simp;done)|(simp [*];done)),H',⟨by have:=HJ2.out;have:=HJ29.out;have:=HK3.out;omega⟩,⟨by (with_reducible repeat (first|apply aQ|apply nQ|apply dQ));exact Kd.Q_mono HO_7.out (fun _ hk=>⟨hk.1.1,⟨hk.2,hk.1.2⟩⟩)⟩,⟨by (with_reducible repeat (first|apply aV|apply nV|apply dV));exact Kd.V_mono HO355.out (fun _ hk=>⟨hk.1.1,⟨hk.1.2.1,⟨hk.2,⟨hk.1.2.2.1,hk.1.2.2.2⟩⟩⟩⟩)⟩,⟨by (with_reducible repeat (first|apply aR|apply nR|apply dR));exact HO350.out⟩,⟨by (with_reducible repeat (first|apply aR|apply nR|apply dR));exact Kd.R_mono HO_71.out (fun _ hk=>⟨hk.1.1,⟨hk.1.2,hk.2⟩⟩)⟩,⟨by (with_reducible repeat (first|apply aV|apply nV|apply dV));exact Kd.V_mono HO_319004.out (fun _ hk=>⟨hk.1.1,⟨hk.1.2.1,⟨hk.2,⟨hk.1.2.2.1,hk.1.2.2.2⟩⟩⟩⟩)⟩,⟨by (with_reducible repeat (first|apply nB|apply dB|apply aB));exact BK318.out⟩,⟨by repeat (first|(with_reducible first|exact HB.out|apply aZ|apply nZ|apply dZ|refine sZ ?_ GE318.out)|exact HB.out)⟩⟩
       rw [if_pos c58] at H
       have c58b0:((rd t336 x73_3) == 1) = true:=beq_iff_eq.mpr c58
       have c58b1:((rd t336 x73_3) != 1) = false:=bne_eq_false_iff_eq.mpr c58
       clear c58
       by_cases c59:0 < (x7_3.length:Int)
       rotate_left
       ·rw [if_neg c59] at H
        exact absurd H (by simp)
       rw [if_pos c59] at H
       have c59b0:decide (0 < (x7_3.length:Int)) = true:=decide_eq_true c59
       have c59b1:decide (0 < x7_3.length) = true:=decide_eq_true (by omega)
       clear c59
       by_cases c60:x9_3.length < 17592186044416
       rotate_left
       ·rw [if_neg c60] at H
        exact absurd H (by simp)
       rw [if_pos c60] at H
       have LMc60:=mk0 c60
       clear c60
       obtain⟨y341,hy341⟩:∃ y_:List Int,y_ = (x9_3 ++ [rd x7_3 0]):=⟨_,rfl⟩
       replace H:(if 1 ≤ (x7_3.length:Int) then (impl_PatchDo.l0 k3 (x7_3.drop (1:Int).toNat) x8_3 y341 t336 (t336.length:Int) (wrap64 (x73_3 + 1))) else (none)) = some (r1,r2):=by first|(rw [hy341];with_reducible exact H)|(have H2_:=(Option.bind_some _ _).symm.trans H;rw [hy341];with_reducible exact H2_)|(have H2_:=(Option.bind_some _ _).symm.trans H;with_reducible exact H2_)|with_reducible exact H|(rw [hy341];exact H)|exact H
       have Ny341:=mk0 hy341
       clear hy341
       by_cases c61:1 ≤ (x7_3.length:Int)
       rotate_left
       ·rw [if_neg c61] at H
        exact absurd H (by simp)
       rw [if_pos c61] at H
       have c61b0:=eq_true c61
       have c61b1:decide (1 ≤ (x7_3.length:Int)) = true:=decide_eq_true c61
       clear c61
       obtain⟨y344,hy344⟩:∃ y_:List Int,y_ = (x7_3.drop (1:Int).toNat):=⟨_,rfl⟩
       replace H:(impl_PatchDo.l0 k3 y344 x8_3 y341 t336 (t336.length:Int) (wrap64 (x73_3 + 1))) = some (r1,r2):=by first|(rw [hy344];with_reducible exact H)|(have H2_:=(Option.bind_some _ _).symm.trans H;rw [hy344];with_reducible exact H2_)|(have H2_:=(Option.bind_some _ _).symm.trans H;with_reducible exact H2_)|with_reducible exact H|(rw [hy344];exact H)|exact H
       have Ny344:=mk0 hy344
       clear hy344
       have H':=mk0 H
       clear H
       have p339:0 ≤ (x73_3:Int):=of_decide_eq_true (by first|(with_reducible assumption)|assumption)
       have q339:x73_3 < (t336.length:Int):=of_decide_eq_true (by first|(with_reducible assumption)|assumption)
       obtain⟨ad339,e339,hx339_0⟩:=Kd.at_int (Kd.R_reads' HO_71.out).2.2 x73_3 p339 q339
       cases e339
       replace p339:=eq_true p339
       replace q339:=eq_true q339
       try go_wp2
       have n0_:=mk0 (dQ HO_7.out)
       have n1_:=mk0 (dV HO_8.out)
       have n2_:=mk0 (dR HO_9.out)
       have n3_:=mk0 (dR HO_71.out)
       have n4_:=mk0 (dV HO_319004.out)
       have n5_:=mk0 (dB BK318.out)
       have n6_:=mk0 (dZ HB.out)
       clear HO_7
       clear HO_8
       clear HO_9
       clear HO_71
       clear HO_319004
       clear BK318
       clear HB
       have HO_7:=n0_
       have HO_8:=n1_
       have HO_9:=n2_
       have HO_71:=n3_
       have HO_319004:=n4_
       have BK318:=n5_
       have HB:=n6_
       clear n0_ n1_ n2_ n3_ n4_ n5_ n6_
       obtain⟨Ao63,co63,eo63,_⟩:=Kd.Q_slice HO_7.out
       (first|subst eo63|(injection eo63 with f1_ f2_ f3_;have f4_:=f1_.symm;have f5_:=f3_.symm;clear f1_ f2_ f3_;subst f4_;subst f5_))
       have p340:0 ≤ (0:Int):=(by omega)
       have q340:0 < (x7_3.length:Int):=of_decide_eq_true (by first|(with_reducible assumption)|assumption)
       obtain⟨ad340,e340,hx340_0⟩:=Kd.at_int (Kd.Q_reads' HO_7.out).2.2 0 p340 q340
       cases e340
       have qi340:(0 < x7_3.length) = True:=eq_true (by omega)
       (try rw [show ((0:Int)).toNat = 0 from rfl] at hx340_0)
       (try rw [Addr.add_zero'] at hx340_0)
       replace p340:=eq_true p340
       replace q340:=eq_true q340
       have q64:(1:Int) ≤ ((x7_3.length:Int):Int):=of_decide_eq_true (by first|(with_reducible assumption)|assumption)
       obtain⟨i064,hi064,_,hsz64,_⟩:=info_parts info3
       have hcut64:=cut_from (P:=Try.prog) 22 3 .i64 Try.underlying22 hi064 1 hsz64 (some ad340) x7_3.length co63 1 (by omega) q64
       have hr64:=Kd.Q_drop (k:=(1:Int).toNat) HO_7.out (by omega)
       obtain⟨A64,hA64⟩:∃ A1,A1 = (if co63 = (1:Int).toNat then (some ad340) else ((some ad340):Option Addr).map (·.add ((1:Int).toNat * 1))):=⟨_,rfl⟩
       obtain⟨c64,hc64⟩:∃ c1,c1 = co63 - (1:Int).toNat:=⟨_,rfl⟩
       have hy64:y344.length = x7_3.length - (1:Int).toNat:=(by rw [Ny344.out,List.length_drop])
       rw [← Ny344.out] at hr64
       rw [← hy64, ← hA64, ← hc64] at hcut64
       replace hr64:Kd.Q (Kd.int .i64) 3 _ w.heap.size (fun k_=>(w.heap.size ≤ k_) ∧ some k_ ≠ (u9:Value).ownBlock ∧ some k_ ≠ (.slice (some ad339) t336.length co54:Value).ownBlock) (.slice A64 y344.length c64) y344:=(by rw [hA64,hc64,hy64];exact hr64)
       have HE64:Aside0 ((Value.slice A64 y344.length c64).ownBlock = (.slice (some ad340) x7_3.length co63:Value).ownBlock):=⟨by rw [hA64];split <;> (cases ((some ad340):Option Addr) <;> rfl)⟩
       clear hy64 hi064 hsz64 HO_7 hA64 hc64
       have HO346:=mk0 hr64
       clear hr64
       replace q64:=eq_true q64
       have n_:=mk0 (Kd.V_mono (ok':=fun k_=>(((P1_4_ k_ ∨ w.heap.size ≤ k_)) ∧ (some k_ ≠ (.slice A64 y344.length c64:Value).ownBlock ∧ (some k_ ≠ (u9:Value).ownBlock ∧ (some k_ ≠ (.slice (some ad339) t336.length co54:Value).ownBlock ∧ k_ ≠ gb318))))) HO_8.out (fun k_ hk=>⟨hk.1,⟨(by rw [HE64.out];exact hk.2.1),⟨hk.2.2.1,⟨hk.2.2.2.1,hk.2.2.2.2⟩⟩⟩⟩))
       clear HO_8
       have HO_8:=n_
       clear n_
       have n_:=mk0 (Kd.R_mono (ok':=fun k_=>(((w.heap.size ≤ k_)) ∧ (some k_ ≠ (.slice A64 y344.length c64:Value).ownBlock ∧ some k_ ≠ (.slice (some ad339) t336.length co54:Value).ownBlock))) HO_9.out (fun k_ hk=>⟨hk.1,⟨(by rw [HE64.out];exact hk.2.1),hk.2.2⟩⟩))
       clear HO_9
       have HO_9:=n_
       clear n_
       have n_:=mk0 (Kd.R_mono (ok':=fun k_=>(((w.heap.size ≤ k_)) ∧ (some k_ ≠ (.slice A64 y344.length c64:Value).ownBlock ∧ some k_ ≠ (u9:Value).ownBlock))) HO_71.out (fun k_ hk=>⟨hk.1,⟨(by rw [HE64.out];exact hk.2.1),hk.2.2⟩⟩))
       clear HO_71
       have HO_71:=n_
       clear n_
       have n_:=mk0 (Kd.V_mono (ok':=fun k_=>(((P1_4_ k_ ∨ w.heap.size ≤ k_)) ∧ (some k_ ≠ (.slice A64 y344.length c64:Value).ownBlock ∧ (some k_ ≠ (u9:Value).ownBlock ∧ (some k_ ≠ (.slice (some ad339) t336.length co54:Value).ownBlock ∧ k_ ≠ gb318))))) HO_319004.out (fun k_ hk=>⟨hk.1,⟨(by rw [HE64.out];exact hk.2.1),⟨hk.2.2.1,⟨hk.2.2.2.1,hk.2.2.2.2⟩⟩⟩⟩))
       clear HO_319004
       have HO_319004:=n_
       clear n_
       refine start_ (n:=10) (S:=fun w'=>w'.cell? ad340 = some (.int .i64 (rd x7_3 0))) (ds:=[4,5]) impl_PatchDo.m10 (by kernel_rfl) rfl rfl (hx340_0) (fun hHeld=>?_);refine with_tabW impl_PatchDo.tab12 impl_PatchDo.bits12 (fun HT_ HW_=>?_)
       generalize wr.drew = w62 at HO_8 HO_9 HO_71 HO_319004 BK318 HB HO346 hx340_0 hHeld ⊢
       refine pure_ (i:=0) (N:=some 79) (v:=?_) (a':=?_) impl_PatchDo.m11 rfl rfl (any_of HT_.out (by kernel_rfl)) (fun _ _ _ h=>h) (Or.inl ⟨by rfl,?_⟩) ?_ ?_
       rotate_left
       ·intro w'
        go_simp
        with_reducible rfl
       rotate_left
       ·simp only [Act.put,sA,sO,sS,i64_w,i32_w]
        rfl
       refine pure_ (i:=1) (N:=some 80) (v:=?_) (a':=?_) impl_PatchDo.m12 rfl rfl (any_of HT_.out (by kernel_rfl)) (fun _ _ _ h=>h) (Or.inl ⟨by rfl,?_⟩) ?_ ?_
       rotate_left
       ·intro w'
        go_simp
        with_reducible rfl
       rotate_left
       ·simp only [Act.put,sA,sO,sS,i64_w,i32_w]
        rfl
       refine pure_ (i:=2) (N:=some 81) (v:=?_) (a':=?_) impl_PatchDo.m13 rfl rfl (any_of HT_.out (by kernel_rfl)) (fun _ _ _ h=>h) (Or.inl ⟨by rfl,?_⟩) ?_ ?_
       rotate_left
       ·intro w'
        go_simp
        with_reducible rfl
       rotate_left
       ·simp only [Act.put,sA,sO,sS,i64_w,i32_w]
        rfl
       refine pure_ (i:=6) (N:=some 85) (v:=?_) (a':=?_) impl_PatchDo.m14 rfl rfl (any_of HT_.out (by kernel_rfl)) (fun _ _ _ h=>h) (Or.inl ⟨by rfl,?_⟩) ?_ ?_
       rotate_left
       ·intro w'
        go_simp
        with_reducible rfl
       rotate_left
       ·simp only [Act.put,sA,sO,sS,i64_w,i32_w]
        rfl
       refine pure_ (i:=7) (N:=some 86) (v:=?_) (a':=?_) impl_PatchDo.m15 rfl rfl (any_of HT_.out (by kernel_rfl)) (fun _ _ _ h=>h) (Or.inl ⟨by rfl,?_⟩) ?_ ?_
       rotate_left
       ·intro w'
        go_simp
        with_reducible rfl
       rotate_left
       ·simp only [Act.put,sA,sO,sS,i64_w,i32_w]
        rfl
       refine take_ (i:=3) (N:=some 82) (v:=?_) (a':=?_) impl_PatchDo.m16 rfl rfl (take_ofW HT_.out HW_.out (by kernel_rfl)) (fun _ _ _ h=>h) (Or.inl ⟨by rfl,?_⟩) hHeld ?_ ?_
       rotate_left
       ·intro w' s0
        go_simp
        with_reducible rfl
       rotate_left
       ·simp only [Act.put,sA,sO,sS,i64_w,i32_w]
        rfl
       refine last_ (i:=4) (N:=some 83) impl_PatchDo.m17 rfl rfl (one_of HT_.out (by kernel_rfl)) (by decide) (fun K hK=>?_)
       refine value_ (w1:=?_) (v:=?_) (by rfl) rfl ?_ ?_
       rotate_left 2
       ·go_simp
        constructor
        ·rfl
        ·rfl
       refine hK.out _ _ ?_
       clear hK K
       refine norm_ (a':=?_) ?_ ?_
       rotate_left
       ·show Act.put _ (some 83) _ = _
        simp only [Act.put,sA,sO,sS,i64_w,i32_w]
        rfl
       refine last_ (i:=5) (N:=some 84) impl_PatchDo.m18 rfl rfl (one_of HT_.out (by kernel_rfl)) (by decide) (fun K hK=>?_)
       refine Kd.R_append_step (Kd.int .i64) (w0:=w) w.heap.size (by rfl) (.tmp 79) (.tmp 83) 22 3 (.int .i64 0) 8 rfl Try.underlying22 info3 rfl (by decide) (by omega) u9 x9_3 (rd x7_3 0) [.int .i64 (rd x7_3 0)] (fun k_=>(w.heap.size ≤ k_) ∧ some k_ ≠ (.slice A64 y344.length c64:Value).ownBlock ∧ some k_ ≠ (.slice (some ad339) t336.length co54:Value).ownBlock) (fun _=>False) rfl rfl ?aP (fun _ hk=>hk.elim) ?aF ?aO ?aB ?aS ?aL ?_
       (case aP=>exact rfl)
       (case aB=>exact (by repeat (first|(with_reducible first|exact HB.out|apply aZ|apply nZ|apply dZ|refine sZ ?_ GE318.out)|exact HB.out)))
       (case aF=>exact (fun k_ hk=>⟨(Nat.le_trans (below_size (by repeat (first|(with_reducible first|exact HB.out|apply aZ|apply nZ|apply dZ|refine sZ ?_ GE318.out)|exact HB.out))) hk),Kd.fresh' (Kd.Q_lt (by (with_reducible repeat (first|apply aQ|apply nQ|apply dQ));exact HO346.out)) k_ hk,Kd.fresh' (Kd.R_lt (by (with_reducible repeat (first|apply aR|apply nR|apply dR));exact HO_71.out)) k_ hk⟩))
       (case aO=>exact (by (with_reducible repeat (first|apply aR|apply nR|apply dR));exact HO_9.out))
       (case aS=>exact (below_size (by repeat (first|(with_reducible first|exact HB.out|apply aZ|apply nZ|apply dZ|refine sZ ?_ GE318.out)|exact HB.out))))
       (case aL=>have:=LMc60.out;omega)
       intro v342 w65 ho hb hg hat
       rw [← Ny341.out] at ho
       have n0_:=mk0 (Kd.Q_after (ok:=(fun k_=>(w.heap.size ≤ k_) ∧ some k_ ≠ (.slice (some ad339) t336.length co54:Value).ownBlock)) (by (with_reducible repeat (first|apply aQ|apply nQ|apply dQ));exact Kd.Q_mono HO346.out (fun _ hk=>⟨⟨hk.1,hk.2.2⟩,hk.2.1⟩)) hg hat)
       have n1_:=mk0 (Kd.V_afterv (ok:=(fun k_=>(P1_4_ k_ ∨ w.heap.size ≤ k_) ∧ some k_ ≠ (.slice A64 y344.length c64:Value).ownBlock ∧ some k_ ≠ (.slice (some ad339) t336.length co54:Value).ownBlock ∧ k_ ≠ gb318)) (by (with_reducible repeat (first|apply aV|apply nV|apply dV));exact Kd.V_mono HO_8.out (fun _ hk=>⟨⟨hk.1,⟨hk.2.1,⟨hk.2.2.2.1,hk.2.2.2.2⟩⟩⟩,hk.2.2.1⟩)) hg hat)
       have n2_:=mk0 (Kd.R_after (ok:=(fun k_=>(w.heap.size ≤ k_) ∧ some k_ ≠ (.slice A64 y344.length c64:Value).ownBlock)) (by (with_reducible repeat (first|apply aR|apply nR|apply dR));exact Kd.R_mono HO_71.out (fun _ hk=>⟨⟨hk.1,hk.2.1⟩,hk.2.2⟩)) hg hat)
       have n3_:=mk0 (Kd.V_afterv (ok:=(fun k_=>(P1_4_ k_ ∨ w.heap.size ≤ k_) ∧ some k_ ≠ (.slice A64 y344.length c64:Value).ownBlock ∧ some k_ ≠ (.slice (some ad339) t336.length co54:Value).ownBlock ∧ k_ ≠ gb318)) (by (with_reducible repeat (first|apply aV|apply nV|apply dV));exact Kd.V_mono HO_319004.out (fun _ hk=>⟨⟨hk.1,⟨hk.2.1,⟨hk.2.2.2.1,hk.2.2.2.2⟩⟩⟩,hk.2.2.1⟩)) hg hat)
       have n4_:=mk0 (blk_grown (g:=gb318) (o:=.cells #[.int .i64 a1_0,.slice A1_1 l1_1.length c1_1,.int .i64 a1_2,.slice A1_3 l1_3.length c1_3,.slice A1_4 l1_4.length c1_4] 27 (0,0)) (by (with_reducible repeat (first|apply nB|apply dB|apply aB));exact BK318.out) hg (Kd.R_ne HO_9.out BK318.out (by decide)))
       have n5_:=mk0 (hb)
       have n6_:=mk0 (ho)
       clear HO346
       clear HO_8
       clear HO_71
       clear HO_319004
       clear BK318
       clear HB
       clear HO_9
       have HO346:=n0_
       have HO_8:=n1_
       have HO_71:=n2_
       have HO_319004:=n3_
       have BK318:=n4_
       have HB:=n5_
       have HO343:=n6_
       clear n0_ n1_ n2_ n3_ n4_ n5_ n6_
       clear ho hb hg hat
       refine hK.out _ _ ?_
       clear hK K
       refine norm_ (a':=?_) ?_ ?_
       rotate_left
       ·show Act.put _ (some 84) _ = _
        simp only [Act.put,sA,sO,sS,i64_w,i32_w]
        rfl
       refine pure_ (i:=8) (N:=some 9) (v:=?_) (a':=?_) impl_PatchDo.m19 rfl rfl (any_of HT_.out (by kernel_rfl)) (fun _ _ _ h=>h) (Or.inl ⟨by rfl,?_⟩) ?_ ?_
       rotate_left
       ·intro w'
        go_simp
        with_reducible rfl
       rotate_left
       ·simp only [Act.put,sA,sO,sS,i64_w,i32_w]
        rfl
       refine pure_ (i:=9) (N:=some 7) (v:=?_) (a':=?_) impl_PatchDo.m20 rfl rfl (any_of HT_.out (by kernel_rfl)) (fun _ _ _ h=>h) (Or.inl ⟨by rfl,?_⟩) ?_ ?_
       rotate_left
       ·intro w'
        go_simp
        with_reducible rfl
       rotate_left
       ·simp only [Act.put,sA,sO,sS,i64_w,i32_w]
        rfl
       refine done_ (done_of HT_.out (by kernel_rfl)) ?_
       try go_wp2
       go_roundg k3
       case measure=>have:=HJ2.out;have:=HJ29.out;have:=HK3.out;omega
       case rel=>exact⟨(y344),(x8_3),(y341),(wrap64 (x73_3 + 1)),(by first|rfl|(simp;done)|(simp [*];done)),H',⟨by have:=HJ2.out;have:=HJ29.out;have:=HK3.out;omega⟩,⟨by (with_reducible repeat (first|apply aQ|apply nQ|apply dQ));exact Kd.Q_mono HO346.out (fun _ hk=>⟨hk.1.1,⟨hk.2,hk.1.2⟩⟩)⟩,⟨by (with_reducible repeat (first|apply aV|apply nV|apply dV));exact Kd.V_mono HO_8.out (fun _ hk=>⟨hk.1.1,⟨hk.1.2.1,⟨hk.2,⟨hk.1.2.2.1,hk.1.2.2.2⟩⟩⟩⟩)⟩,⟨by (with_reducible repeat (first|apply aR|apply nR|apply dR));exact HO343.out⟩,⟨by (with_reducible repeat (first|apply aR|apply nR|apply dR));exact Kd.R_mono HO_71.out (fun _ hk=>⟨hk.1.1,⟨hk.1.2,hk.2⟩⟩)⟩,⟨by (with_reducible repeat (first|apply aV|apply nV|apply dV));exact Kd.V_mono HO_319004.out (fun _ hk=>⟨hk.1.1,⟨hk.1.2.1,⟨hk.2,⟨hk.1.2.2.1,hk.1.2.2.2⟩⟩⟩⟩)⟩,⟨by (with_reducible repeat (first|apply nB|apply dB|apply aB));exact BK318.out⟩,⟨by repeat (first|(with_reducible first|exact HB.out|apply aZ|apply nZ|apply dZ|refine sZ ?_ GE318.out)|exact HB.out)⟩⟩
end Go.Proofs.Ytdiemmcnekbfaaa.QFnPatchBack
