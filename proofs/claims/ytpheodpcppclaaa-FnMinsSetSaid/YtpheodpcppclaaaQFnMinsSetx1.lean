-- A walk, made by walk.py, a program of this session's.
import Derived.Test.YtpheodpcppclaaaQFnMinsSetx0
namespace Go.Proofs.Ytpheodpcppclaaa.QFnMinsSet
open Go.RowKit Go.Proofs.YtpheodpcppclaaaW.PrintWords Go.Proofs.YtpheodpcppclaaaW.PrintLast Go.Proofs.YtpheodpcppclaaaW.PrintMore
attribute [local go_sem] max2_int min2_int max_two min_two max_three min_three max_four min_four   -- for this text's walks alone
set_option linter.unusedVariables false
set_option linter.unusedSimpArgs false

/-! ### spec_MinsOf: function 11 -/
mutual
def spec_MinsOf.l0 : Nat → List Int → Int → Option (Int × List Int × Bool)
 | 0, _, _ => none
 | k + 1, x0, x4 => if x4 < (x0.length : Int) then (if 0 ≤ x4 then (if (rd x0 x4) < 0 then (some (0, ([] : List Int), false)) else (if (rd x0 x4) > 1000000 then (some (0, ([] : List Int), false)) else (spec_MinsOf.l0 k x0 (wrap64 (x4 + 1))))) else (none)) else (spec_MinsOf.l1 k x0 1)
def spec_MinsOf.l1 : Nat → List Int → Int → Option (Int × List Int × Bool)
 | 0, _, _ => none
 | k + 1, x0, x5 => if x5 < (x0.length : Int) then (spec_MinsOf.l1 k x0 (wrap64 (2 * x5))) else (if 0 ≤ (wrap64 (2 * x5)) then (if (wrap64 (2 * x5) : Int).toNat ≤ 35184372088832 then (spec_MinsOf.l2 k x0 x5 (wrap64 ((wrap64 (2 * x5)) - 1)) (x0.length : Int) (List.replicate (wrap64 (2 * x5) : Int).toNat 0)) else (none)) else (none))
def spec_MinsOf.l2 : Nat → List Int → Int → Int → Int → List Int → Option (Int × List Int × Bool)
 | 0, _, _, _, _, _ => none
 | k + 1, x0, x5, x7, x108000, x108001 => if x7 ≥ 1 then (if x7 < x5 then (if 0 ≤ (wrap64 (2 * x7)) then (if (wrap64 (2 * x7)) < (x108001.length : Int) then (if 0 ≤ (wrap64 ((wrap64 (2 * x7)) + 1)) then (if (wrap64 ((wrap64 (2 * x7)) + 1)) < (x108001.length : Int) then (if 0 ≤ x7 then (if x7 < (x108001.length : Int) then (spec_MinsOf.l2 k x0 x5 (wrap64 (x7 - 1)) x108000 (x108001.set (x7 : Int).toNat (mn (rd x108001 (wrap64 (2 * x7))) (rd x108001 (wrap64 ((wrap64 (2 * x7)) + 1)))))) else (none)) else (none)) else (none)) else (none)) else (none)) else (none)) else (if (wrap64 (x7 - x5)) < (x0.length : Int) then (if 0 ≤ (wrap64 (x7 - x5)) then (if 0 ≤ x7 then (if x7 < (x108001.length : Int) then (spec_MinsOf.l2 k x0 x5 (wrap64 (x7 - 1)) x108000 (x108001.set (x7 : Int).toNat (rd x0 (wrap64 (x7 - x5))))) else (none)) else (none)) else (none)) else (if 0 ≤ x7 then (if x7 < (x108001.length : Int) then (spec_MinsOf.l2 k x0 x5 (wrap64 (x7 - 1)) x108000 (x108001.set (x7 : Int).toNat 1000000000)) else (none)) else (none)))) else (some (x108000, x108001, true))
end
def spec_MinsOf.f (k : Nat) (l0 : List Int) : Option (Int × List Int × Bool) := if (l0.length : Int) > 301 then (some (0, ([] : List Int), false)) else (spec_MinsOf.l0 k l0 0)
theorem spec_MinsOf.mono_l : ∀ k, (∀ y0 y1, LeO (spec_MinsOf.l0 k y0 y1) (spec_MinsOf.l0 (k + 1) y0 y1)) ∧ (∀ y0 y1, LeO (spec_MinsOf.l1 k y0 y1) (spec_MinsOf.l1 (k + 1) y0 y1)) ∧ (∀ y0 y1 y2 y3 y4, LeO (spec_MinsOf.l2 k y0 y1 y2 y3 y4) (spec_MinsOf.l2 (k + 1) y0 y1 y2 y3 y4))
 | 0 => ⟨fun _ _ r h => by simp [spec_MinsOf.l0] at h, fun _ _ r h => by simp [spec_MinsOf.l1] at h, fun _ _ _ _ _ r h => by simp [spec_MinsOf.l2] at h⟩
 | k + 1 => by
  obtain ⟨ih0, ih1, ih2⟩ := spec_MinsOf.mono_l k
  refine ⟨?_, ?_, ?_⟩
  ·intro y0 y1
   unfold spec_MinsOf.l0
   repeat' first|(with_reducible first|exact ih0 _ _|exact ih1 _ _|exact ih2 _ _ _ _ _|exact LeO.refl _|exact LeO.none _|refine LeO.ite ?_ ?_|refine LeO.bind ?_ (fun _ => ?_))|exact LeO.none _|refine LeO.ite ?_ ?_|refine LeO.bind ?_ (fun _ => ?_)
  ·intro y0 y1
   unfold spec_MinsOf.l1
   repeat' first|(with_reducible first|exact ih0 _ _|exact ih1 _ _|exact ih2 _ _ _ _ _|exact LeO.refl _|exact LeO.none _|refine LeO.ite ?_ ?_|refine LeO.bind ?_ (fun _ => ?_))|exact LeO.none _|refine LeO.ite ?_ ?_|refine LeO.bind ?_ (fun _ => ?_)
  ·intro y0 y1 y2 y3 y4
   unfold spec_MinsOf.l2
   repeat' first|(with_reducible first|exact ih0 _ _|exact ih1 _ _|exact ih2 _ _ _ _ _|exact LeO.refl _|exact LeO.none _|refine LeO.ite ?_ ?_|refine LeO.bind ?_ (fun _ => ?_))|exact LeO.none _|refine LeO.ite ?_ ?_|refine LeO.bind ?_ (fun _ => ?_)
theorem spec_MinsOf.mono : ∀ a0 k, LeO (spec_MinsOf.f k a0) (spec_MinsOf.f (k + 1) a0) := by
 intro a0 k
 obtain ⟨ih0, ih1, ih2⟩ := spec_MinsOf.mono_l k
 unfold spec_MinsOf.f
 repeat' first|(with_reducible first|exact ih0 _ _|exact ih1 _ _|exact ih2 _ _ _ _ _|exact LeO.refl _|exact LeO.none _|refine LeO.ite ?_ ?_|refine LeO.bind ?_ (fun _ => ?_))|exact LeO.none _|refine LeO.ite ?_ ?_|refine LeO.bind ?_ (fun _ => ?_)
def spec_MinsOf.T16 : Bool × List (List Nat × List Nat) := (true, [([], []), ([0], [0]), ([], []), ([], []), ([3], [3]), ([], []), ([5], [5]), ([4, 6], [4, 6]), ([7], [7]), ([], []), ([9], [9]), ([], []), ([11], [11]), ([12], [12]), ([10, 13], [10, 13]), ([14], [14]), ([8, 15], [8, 15]), ([1, 2, 0, 1, 2, 3, 4, 5, 6, 7, 8, 9, 10, 11, 12, 13, 14, 15, 16], [1, 2]), ([17, 16, 0, 1, 2, 3, 4, 5, 6, 7, 8, 9, 10, 11, 12, 13, 14, 15, 16], [16, 17])])
def spec_MinsOf.B16 : List Nat := [0, 1, 0, 0, 8, 0, 32, 120, 248, 0, 512, 0, 2048, 6144, 15872, 32256, 65528, 131071, 262143]
theorem spec_MinsOf.tab16 : rtab .any (opsOf Try.f11 16) = spec_MinsOf.T16 := by kernel_rfl
theorem spec_MinsOf.bits16 : waitsOk spec_MinsOf.T16.2 spec_MinsOf.B16 = true := by kernel_rfl
def spec_MinsOf.T18 : Bool × List (List Nat × List Nat) := (true, [([], []), ([0], [0]), ([], []), ([], []), ([], []), ([], []), ([4, 5], [4, 5]), ([3, 6], [3, 6]), ([7], [7]), ([1, 2, 0, 1, 2, 3, 4, 5, 6, 7, 8], [1, 2]), ([9, 8, 0, 1, 2, 3, 4, 5, 6, 7, 8], [8, 9])])
def spec_MinsOf.B18 : List Nat := [0, 1, 0, 0, 0, 0, 48, 120, 248, 511, 1023]
theorem spec_MinsOf.tab18 : rtab .any (opsOf Try.f11 18) = spec_MinsOf.T18 := by kernel_rfl
theorem spec_MinsOf.bits18 : waitsOk spec_MinsOf.T18.2 spec_MinsOf.B18 = true := by kernel_rfl
abbrev spec_MinsOf.m0 : Array Bool := #[F,F,F,F,F,F,F,F,F,F,F]
abbrev spec_MinsOf.m1 : Array Bool := #[T,F,F,F,F,F,F,F,F,F,F]
abbrev spec_MinsOf.m2 : Array Bool := #[T,F,T,F,F,F,F,F,F,F,F]
abbrev spec_MinsOf.m3 : Array Bool := #[T,F,T,T,F,F,F,F,F,F,F]
abbrev spec_MinsOf.m4 : Array Bool := #[T,F,T,T,T,F,F,F,F,F,F]
abbrev spec_MinsOf.m5 : Array Bool := #[T,F,T,T,T,T,F,F,F,F,F]
abbrev spec_MinsOf.m6 : Array Bool := #[T,F,T,T,T,T,T,F,F,F,F]
abbrev spec_MinsOf.m7 : Array Bool := #[T,F,T,T,T,T,T,T,F,F,F]
abbrev spec_MinsOf.m8 : Array Bool := #[T,T,T,T,T,T,T,T,F,F,F]
abbrev spec_MinsOf.m9 : Array Bool := #[T,T,T,T,T,T,T,T,T,F,F]
abbrev spec_MinsOf.m10 : Array Bool := #[T,T,T,T,T,T,T,T,T,T,F]
abbrev spec_MinsOf.m11 : Array Bool := #[T,T,T,T,T,T,T,T,T,T,T]
abbrev spec_MinsOf.m12 : Array Bool := #[F,F,F,F,F,F,F,F,F,F,F,F,F,F,F,F,F,F,F]
abbrev spec_MinsOf.m13 : Array Bool := #[T,F,F,F,F,F,F,F,F,F,F,F,F,F,F,F,F,F,F]
abbrev spec_MinsOf.m14 : Array Bool := #[T,F,T,F,F,F,F,F,F,F,F,F,F,F,F,F,F,F,F]
abbrev spec_MinsOf.m15 : Array Bool := #[T,F,T,T,F,F,F,F,F,F,F,F,F,F,F,F,F,F,F]
abbrev spec_MinsOf.m16 : Array Bool := #[T,F,T,T,F,T,F,F,F,F,F,F,F,F,F,F,F,F,F]
abbrev spec_MinsOf.m17 : Array Bool := #[T,F,T,T,F,T,T,F,F,F,F,F,F,F,F,F,F,F,F]
abbrev spec_MinsOf.m18 : Array Bool := #[T,F,T,T,F,T,T,F,F,T,F,F,F,F,F,F,F,F,F]
abbrev spec_MinsOf.m19 : Array Bool := #[T,F,T,T,F,T,T,F,F,T,F,T,F,F,F,F,F,F,F]
abbrev spec_MinsOf.m20 : Array Bool := #[T,F,T,T,F,T,T,F,F,T,F,T,T,F,F,F,F,F,F]
abbrev spec_MinsOf.m21 : Array Bool := #[T,F,T,T,F,T,T,F,F,T,F,T,T,T,F,F,F,F,F]
abbrev spec_MinsOf.m22 : Array Bool := #[T,T,T,T,F,T,T,F,F,T,F,T,T,T,F,F,F,F,F]
abbrev spec_MinsOf.m23 : Array Bool := #[T,T,T,T,T,T,T,F,F,T,F,T,T,T,F,F,F,F,F]
abbrev spec_MinsOf.m24 : Array Bool := #[T,T,T,T,T,T,T,T,F,T,F,T,T,T,F,F,F,F,F]
abbrev spec_MinsOf.m25 : Array Bool := #[T,T,T,T,T,T,T,T,T,T,F,T,T,T,F,F,F,F,F]
abbrev spec_MinsOf.m26 : Array Bool := #[T,T,T,T,T,T,T,T,T,T,T,T,T,T,F,F,F,F,F]
abbrev spec_MinsOf.m27 : Array Bool := #[T,T,T,T,T,T,T,T,T,T,T,T,T,T,T,F,F,F,F]
abbrev spec_MinsOf.m28 : Array Bool := #[T,T,T,T,T,T,T,T,T,T,T,T,T,T,T,T,F,F,F]
abbrev spec_MinsOf.m29 : Array Bool := #[T,T,T,T,T,T,T,T,T,T,T,T,T,T,T,T,T,F,F]
abbrev spec_MinsOf.m30 : Array Bool := #[T,T,T,T,T,T,T,T,T,T,T,T,T,T,T,T,T,T,F]
abbrev spec_MinsOf.m31 : Array Bool := #[T,T,T,T,T,T,T,T,T,T,T,T,T,T,T,T,T,T,T]
set_option maxHeartbeats 8000000 in
set_option maxRecDepth 100000 in
theorem spec_MinsOf.calls (k : Nat) (A0 : Option Addr) (c0 : Nat) (l0 : List Int) (r1 : Int) (r2 : List Int) (r3 : Bool) (w : World) (hr0 : Kd.C (Kd.int .i64) w A0 l0.length l0) (hc0 : l0.length ≤ c0) (h : spec_MinsOf.f k l0 = some (r1, r2, r3)) :
  Calls Try.prog 11 #[.slice A0 l0.length c0] w fun e w' => ∃ v1_ : Value, e = .returned (.tuple #[.agg #[.int .i64 r1, v1_], .bool r3]) ∧ Kd.R (Kd.int .i64) 3 w' w.heap.size (fun _ => True) v1_ r2 ∧ Below w.heap.size w w' := by
 have hu24:=Try.underlying24
 have HR0:=mk0 hr0
 have HC0:=mk0 hc0
 clear hr0 hc0
 have HB:=mk0 (Below.refl w.heap.size w)
 have H:(if (l0.length:Int) > 301 then (some (0,([]:List Int),false)) else (spec_MinsOf.l0 k l0 0)) = some (r1,r2,r3):=h
 clear h
 by_cases c2:(l0.length:Int) > 301
 ·rw [if_pos c2] at H
  have c2b0:decide (301 < (l0.length:Int)) = true:=decide_eq_true c2
  have c2b1:decide (301 < l0.length) = true:=decide_eq_true (by omega)
  clear c2
  simp only [Option.some.injEq,Prod.mk.injEq] at H
  obtain⟨rfl,rfl,rfl⟩:=H
  go_enter Try.func11,Try.ntmps11
  go_wp2_with (first|((with_reducible refine gate_dst (N:=2) rfl ?_);refine box_event ?hg (N:=2) ?hd (cs:=#[.int .i64 0,.slice none 0 0]) (t:=24) ?hr ?_;(case hd=>rfl);(case hg=>rfl);(case hr=>first|(go_simp;done)|(go_simp;rfl));intro gb101 hg w3 hbox hb;have n0_:=mk0 (below_step (by repeat (first|(with_reducible first|exact HB.out|apply aZ|apply nZ|apply dZ)|exact HB.out)) hb);have n1_:=mk0 (hbox);have n2_:=mk0 ((by rw [hg];exact (below_size (by repeat (first|(with_reducible first|exact HB.out|apply aZ|apply nZ|apply dZ)|exact HB.out))):w.heap.size ≤ gb101));have n3_:=mk0 ((by rw [hg];exact (below_size (by repeat (first|(with_reducible first|exact HB.out|apply aZ|apply nZ|apply dZ)|exact HB.out))):w.heap.size ≤ gb101));clear HB;have HB:=n0_;have BK101:=n1_;have GW101:=n2_;have GE101:=n3_;clear n0_ n1_ n2_ n3_ hb hbox hg;have hcz4_0:w3.cell? ⟨gb101,0,none⟩ = some (.int .i64 0):=(blk_cell BK101.out 0).trans rfl;have hcz4_1:w3.cell? ⟨gb101,1,none⟩ = some (.slice none 0 0):=(blk_cell BK101.out 1).trans rfl;have hfz4_0:=blk_frozen BK101.out 0;have hfz4_1:=blk_frozen BK101.out 1))
  refine bodyPost_ret (results_ct rfl _ _ gb101 24 #[.int .i64 0,.slice none 0 0] (0,0) _ rfl (by (with_reducible repeat (first|apply nB|apply dB|apply aB));refine blk_put (cs:=#[.int .i64 0,.slice none 0 0]) ?_ 1 _ rfl;(with_reducible repeat (first|apply nB|apply dB|apply aB));refine blk_put (cs:=#[.int .i64 0,.slice none 0 0]) ?_ 0 _ rfl;(with_reducible repeat (first|apply nB|apply dB|apply aB));exact BK101.out) Try.underlying24 rfl (by kernel_rfl)) rfl ?_
  exact⟨_,by first|rfl|(simp [errW_none,errW_some] <;> rfl)|(simp [*,errW_none,errW_some] <;> rfl),by first|exact Kd.R_nil _ _ _ _ _|exact Kd.N_nil _ _ _ _ _|exact Kd.V_nil _ _ _ _ _|exact Kd.Q_nil _ _ _ _ _|exact Kd.S_nil _ _ _ _ _,by repeat (first|(with_reducible first|exact HB.out|apply aZ|apply nZ|apply dZ|refine sZ ?_ GE101.out)|exact HB.out)⟩
 rw [if_neg c2] at H
 have c2b0:decide (301 < (l0.length:Int)) = false:=decide_eq_false c2
 have c2b1:decide (301 < l0.length) = false:=decide_eq_false (by omega)
 clear c2
 have H':=mk0 H
 clear H
 go_enter Try.func11,Try.ntmps11
 go_wp2_with (first|((with_reducible refine gate_dst (N:=2) rfl ?_);refine box_event ?hg (N:=2) ?hd (cs:=#[.int .i64 0,.slice none 0 0]) (t:=24) ?hr ?_;(case hd=>rfl);(case hg=>rfl);(case hr=>first|(go_simp;done)|(go_simp;rfl));intro gb101 hg w5 hbox hb;have n0_:=mk0 (below_step (by repeat (first|(with_reducible first|exact HB.out|apply aZ|apply nZ|apply dZ)|exact HB.out)) hb);have n1_:=mk0 (hbox);have n2_:=mk0 ((by rw [hg];exact (below_size (by repeat (first|(with_reducible first|exact HB.out|apply aZ|apply nZ|apply dZ)|exact HB.out))):w.heap.size ≤ gb101));have n3_:=mk0 ((by rw [hg];exact (below_size (by repeat (first|(with_reducible first|exact HB.out|apply aZ|apply nZ|apply dZ)|exact HB.out))):w.heap.size ≤ gb101));clear HB;have HB:=n0_;have BK101:=n1_;have GW101:=n2_;have GE101:=n3_;clear n0_ n1_ n2_ n3_ hb hbox hg))
 go_loopg [4] k (fun kq v4 w'=>∃ (x4_1:Int) (x102000_1:Int),v4 = .int .i64 x4_1 ∧ Aside0 (spec_MinsOf.l0 kq l0 x4_1 = some (r1,r2,r3)) ∧ Aside0 (kq ≤ k) ∧ Aside0 (w'.heap[gb101]? = some (.cells #[.int .i64 x102000_1,(.slice none 0 0)] 24 (0,0))) ∧ Aside0 (Below w.heap.size w w'))
 case atStart=>exact⟨(0),(0),(by first|rfl|(simp;done)|(simp [*];done)),H',⟨Nat.le_refl _⟩,⟨by (with_reducible repeat (first|apply nB|apply dB|apply aB));exact BK101.out⟩,⟨by repeat (first|(with_reducible first|exact HB.out|apply aZ|apply nZ|apply dZ|refine sZ ?_ GE101.out)|exact HB.out)⟩⟩
 case round =>
  clear H'
  try clear c1
  try clear c2
  try clear c2b0
  try clear c2b1
  try clear p2
  try clear hcz4_0
  try clear hcz4_1
  try clear hfz4_0
  try clear hfz4_1
  obtain⟨x4_1,x102000_1,rfl,HA,HK1,BK101,HB⟩:=hrel
  cases gk with
  | zero=>exact absurd HA.out (by simp [spec_MinsOf.l0])
  | succ k1 =>
   have H:=HA.out
   clear HA
   simp only [spec_MinsOf.l0] at H
   by_cases c6:x4_1 < (l0.length:Int)
   ·rw [if_pos c6] at H
    have c6b0:decide (x4_1 < (l0.length:Int)) = true:=decide_eq_true c6
    clear c6
    by_cases c7:0 ≤ x4_1
    rotate_left
    ·rw [if_neg c7] at H
     exact absurd H (by simp)
    rw [if_pos c7] at H
    have c7b0:decide (0 ≤ x4_1) = true:=decide_eq_true c7
    clear c7
    by_cases c8:(rd l0 x4_1) < 0
    ·rw [if_pos c8] at H
     have c8b0:decide ((rd l0 x4_1) < 0) = true:=decide_eq_true c8
     clear c8
     simp only [Option.some.injEq,Prod.mk.injEq] at H
     obtain⟨rfl,rfl,rfl⟩:=H
     have p102:0 ≤ (x4_1:Int):=of_decide_eq_true (by first|(with_reducible assumption)|assumption)
     have q102:x4_1 < (l0.length:Int):=of_decide_eq_true (by first|(with_reducible assumption)|assumption)
     obtain⟨ad102,e102,hx102_0⟩:=Kd.at_int HR0.out x4_1 p102 q102
     cases e102
     replace hx102_0:=(HB.out.cell (World.block_lt_of_cell? w _ hx102_0)).trans hx102_0
     replace p102:=eq_true p102
     replace q102:=eq_true q102
     have hcz9_0:wr.cell? ⟨gb101,0,none⟩ = some (.int .i64 x102000_1):=(blk_cell BK101.out 0).trans rfl
     have hcz9_1:wr.cell? ⟨gb101,1,none⟩ = some (.slice none 0 0):=(blk_cell BK101.out 1).trans rfl
     have hfz9_0:=blk_frozen BK101.out 0
     have hfz9_1:=blk_frozen BK101.out 1
     go_wp2
     refine bodyPost_ret (results_ct rfl _ _ gb101 24 #[.int .i64 0,.slice none 0 0] (0,0) _ rfl (by (with_reducible repeat (first|apply nB|apply dB|apply aB));refine blk_put (cs:=#[.int .i64 0,.slice none 0 0]) ?_ 1 _ rfl;(with_reducible repeat (first|apply nB|apply dB|apply aB));refine blk_put (cs:=#[.int .i64 x102000_1,.slice none 0 0]) ?_ 0 _ rfl;(with_reducible repeat (first|apply nB|apply dB|apply aB));exact BK101.out) Try.underlying24 rfl (by kernel_rfl)) rfl ?_
     exact⟨_,by first|rfl|(simp [errW_none,errW_some] <;> rfl)|(simp [*,errW_none,errW_some] <;> rfl),by first|exact Kd.R_nil _ _ _ _ _|exact Kd.N_nil _ _ _ _ _|exact Kd.V_nil _ _ _ _ _|exact Kd.Q_nil _ _ _ _ _|exact Kd.S_nil _ _ _ _ _,by repeat (first|(with_reducible first|exact HB.out|apply aZ|apply nZ|apply dZ|refine sZ ?_ GE101.out)|exact HB.out)⟩
    rw [if_neg c8] at H
    have c8b0:decide ((rd l0 x4_1) < 0) = false:=decide_eq_false c8
    clear c8
    by_cases c10:(rd l0 x4_1) > 1000000
    rotate_left
    ·rw [if_neg c10] at H
     have c10b0:decide (1000000 < (rd l0 x4_1)) = false:=decide_eq_false c10
     clear c10
     have H':=mk0 H
     clear H
     have p102:0 ≤ (x4_1:Int):=of_decide_eq_true (by first|(with_reducible assumption)|assumption)
     have q102:x4_1 < (l0.length:Int):=of_decide_eq_true (by first|(with_reducible assumption)|assumption)
     obtain⟨ad102,e102,hx102_0⟩:=Kd.at_int HR0.out x4_1 p102 q102
     cases e102
     replace hx102_0:=(HB.out.cell (World.block_lt_of_cell? w _ hx102_0)).trans hx102_0
     replace p102:=eq_true p102
     replace q102:=eq_true q102
     have p103:0 ≤ (x4_1:Int):=of_decide_eq_true (by first|(with_reducible assumption)|assumption)
     have q103:x4_1 < (l0.length:Int):=of_decide_eq_true (by first|(with_reducible assumption)|assumption)
     obtain⟨ad103,e103,hx103_0⟩:=Kd.at_int HR0.out x4_1 p103 q103
     obtain rfl:ad102 = ad103:=(by injection e103)
     replace hx103_0:=(HB.out.cell (World.block_lt_of_cell? w _ hx103_0)).trans hx103_0
     replace p103:=eq_true p103
     replace q103:=eq_true q103
     go_wp2
     go_roundg k1
     case measure=>have:=HK1.out;omega
     case rel=>exact⟨(wrap64 (x4_1 + 1)),(x102000_1),(by first|rfl|(simp;done)|(simp [*];done)),H',⟨by have:=HK1.out;omega⟩,⟨by (with_reducible repeat (first|apply nB|apply dB|apply aB));exact BK101.out⟩,⟨by repeat (first|(with_reducible first|exact HB.out|apply aZ|apply nZ|apply dZ|refine sZ ?_ GE101.out)|exact HB.out)⟩⟩
    rw [if_pos c10] at H
    have c10b0:decide (1000000 < (rd l0 x4_1)) = true:=decide_eq_true c10
    clear c10
    simp only [Option.some.injEq,Prod.mk.injEq] at H
    obtain⟨rfl,rfl,rfl⟩:=H
    have p102:0 ≤ (x4_1:Int):=of_decide_eq_true (by first|(with_reducible assumption)|assumption)
    have q102:x4_1 < (l0.length:Int):=of_decide_eq_true (by first|(with_reducible assumption)|assumption)
    obtain⟨ad102,e102,hx102_0⟩:=Kd.at_int HR0.out x4_1 p102 q102
    cases e102
    replace hx102_0:=(HB.out.cell (World.block_lt_of_cell? w _ hx102_0)).trans hx102_0
    replace p102:=eq_true p102
    replace q102:=eq_true q102
    have p103:0 ≤ (x4_1:Int):=of_decide_eq_true (by first|(with_reducible assumption)|assumption)
    have q103:x4_1 < (l0.length:Int):=of_decide_eq_true (by first|(with_reducible assumption)|assumption)
    obtain⟨ad103,e103,hx103_0⟩:=Kd.at_int HR0.out x4_1 p103 q103
    obtain rfl:ad102 = ad103:=(by injection e103)
    replace hx103_0:=(HB.out.cell (World.block_lt_of_cell? w _ hx103_0)).trans hx103_0
    replace p103:=eq_true p103
    replace q103:=eq_true q103
    have hcz11_0:wr.cell? ⟨gb101,0,none⟩ = some (.int .i64 x102000_1):=(blk_cell BK101.out 0).trans rfl
    have hcz11_1:wr.cell? ⟨gb101,1,none⟩ = some (.slice none 0 0):=(blk_cell BK101.out 1).trans rfl
    have hfz11_0:=blk_frozen BK101.out 0
    have hfz11_1:=blk_frozen BK101.out 1
    go_wp2
    refine bodyPost_ret (results_ct rfl _ _ gb101 24 #[.int .i64 0,.slice none 0 0] (0,0) _ rfl (by (with_reducible repeat (first|apply nB|apply dB|apply aB));refine blk_put (cs:=#[.int .i64 0,.slice none 0 0]) ?_ 1 _ rfl;(with_reducible repeat (first|apply nB|apply dB|apply aB));refine blk_put (cs:=#[.int .i64 x102000_1,.slice none 0 0]) ?_ 0 _ rfl;(with_reducible repeat (first|apply nB|apply dB|apply aB));exact BK101.out) Try.underlying24 rfl (by kernel_rfl)) rfl ?_
    exact⟨_,by first|rfl|(simp [errW_none,errW_some] <;> rfl)|(simp [*,errW_none,errW_some] <;> rfl),by first|exact Kd.R_nil _ _ _ _ _|exact Kd.N_nil _ _ _ _ _|exact Kd.V_nil _ _ _ _ _|exact Kd.Q_nil _ _ _ _ _|exact Kd.S_nil _ _ _ _ _,by repeat (first|(with_reducible first|exact HB.out|apply aZ|apply nZ|apply dZ|refine sZ ?_ GE101.out)|exact HB.out)⟩
   rw [if_neg c6] at H
   have c6b0:decide (x4_1 < (l0.length:Int)) = false:=decide_eq_false c6
   clear c6
   have H':=mk0 H
   clear H
   go_wp2
   go_loopg [5] k1 (fun kq v5 w'=>∃ (x5_2:Int),v5 = .int .i64 x5_2 ∧ Aside0 (spec_MinsOf.l1 kq l0 x5_2 = some (r1,r2,r3)) ∧ Aside0 (kq ≤ k1) ∧ Aside0 (w'.heap[gb101]? = some (.cells #[.int .i64 x102000_1,(.slice none 0 0)] 24 (0,0))) ∧ Aside0 (Below w.heap.size w w'))
   case atStart=>exact⟨(1),(by first|rfl|(simp;done)|(simp [*];done)),H',⟨Nat.le_refl _⟩,⟨by (with_reducible repeat (first|apply nB|apply dB|apply aB));exact BK101.out⟩,⟨by repeat (first|(with_reducible first|exact HB.out|apply aZ|apply nZ|apply dZ|refine sZ ?_ GE101.out)|exact HB.out)⟩⟩
   case round =>
    clear H'
    try clear c1
    try clear p1
    try clear q1
    try clear hx1
    try clear c2
    try clear c2b0
    try clear c2b1
    try clear p2
    try clear c6
    try clear c6b0
    try clear p6
    try clear c7
    try clear c7b0
    try clear c8
    try clear c8b0
    try clear c10
    try clear c10b0
    try clear p10
    try clear q10
    try clear hx10
    try clear c11
    try clear hcz11_0
    try clear hcz11_1
    try clear hcz4_0
    try clear hcz4_1
    try clear hcz9_0
    try clear hcz9_1
    try clear hfz11_0
    try clear hfz11_1
    try clear hfz4_0
    try clear hfz4_1
    try clear hfz9_0
    try clear hfz9_1
    try clear hx102_0
    try clear hx103_0
    try clear p102
    try clear p103
    try clear p2
    try clear q102
    try clear q103
    obtain⟨x5_2,rfl,HA,HK2,BK101,HB⟩:=hrel
    cases gk with
    | zero=>exact absurd HA.out (by simp [spec_MinsOf.l1])
    | succ k2 =>
     have H:=HA.out
     clear HA
     simp only [spec_MinsOf.l1] at H
     by_cases c12:x5_2 < (l0.length:Int)
     ·rw [if_pos c12] at H
      have c12b0:decide (x5_2 < (l0.length:Int)) = true:=decide_eq_true c12
      clear c12
      have H':=mk0 H
      clear H
      go_wp2
      go_roundg k2
      case measure=>have:=HK1.out;have:=HK2.out;omega
      case rel=>exact⟨(wrap64 (2 * x5_2)),(by first|rfl|(simp;done)|(simp [*];done)),H',⟨by have:=HK1.out;have:=HK2.out;omega⟩,⟨by (with_reducible repeat (first|apply nB|apply dB|apply aB));exact BK101.out⟩,⟨by repeat (first|(with_reducible first|exact HB.out|apply aZ|apply nZ|apply dZ|refine sZ ?_ GE101.out)|exact HB.out)⟩⟩
     rw [if_neg c12] at H
     have c12b0:decide (x5_2 < (l0.length:Int)) = false:=decide_eq_false c12
     clear c12
     obtain⟨ji13,hji13⟩:∃ j_:Int,(wrap64 (2 * x5_2)) = j_:=⟨_,rfl⟩
     replace H:(if 0 ≤ (ji13) then (if (ji13:Int).toNat ≤ 35184372088832 then (spec_MinsOf.l2 k2 l0 x5_2 (wrap64 ((ji13) - 1)) (l0.length:Int) (List.replicate (ji13:Int).toNat 0)) else (none)) else (none)) = some (r1,r2,r3):=by first|(rw [hji13] at H;exact H)|(simp only [hji13] at H ⊢;exact H)
     have hji13w:(IntKind.i64.wrap (2 * x5_2)) = ji13:=(i64_w _).trans hji13
     by_cases c14:0 ≤ (ji13)
     rotate_left
     ·rw [if_neg c14] at H
      exact absurd H (by simp)

     rw [if_pos c14] at H
     have c14b0:=eq_true c14
     have c14b1:decide (0 ≤ (ji13)) = true:=decide_eq_true c14
     clear c14
     by_cases c15:(ji13:Int).toNat ≤ 35184372088832
     rotate_left
     ·rw [if_neg c15] at H
      exact absurd H (by simp)
     rw [if_pos c15] at H
     have c15b0:=eq_true c15
     have c15b1:decide ((ji13:Int).toNat ≤ 35184372088832) = true:=decide_eq_true c15
     clear c15
     obtain⟨y104,hy104⟩:∃ y_:List Int,y_ = (List.replicate (ji13:Int).toNat 0):=⟨_,rfl⟩
     replace H:(spec_MinsOf.l2 k2 l0 x5_2 (wrap64 ((ji13) - 1)) (l0.length:Int) y104) = some (r1,r2,r3):=by first|(rw [hy104];with_reducible exact H)|(have H2_:=(Option.bind_some _ _).symm.trans H;rw [hy104];with_reducible exact H2_)|(have H2_:=(Option.bind_some _ _).symm.trans H;with_reducible exact H2_)|with_reducible exact H|(rw [hy104];exact H)|exact H
     have Ny104:=mk0 hy104
     clear hy104
     have H':=mk0 H
     clear H
     go_wp2_with (first|((with_reducible refine gate_dst (N:=41) rfl ?_);refine Kd.R_make (Kd.int .i64) _ 3 rfl (N:=41) rfl 22 _ _ rfl ji13 rfl rfl Try.underlying22 (.int .i64 0) 8 info3 rfl (by decide) (by omega) 0 (ok:=fun _=>True) (okp:=fun _=>True) rfl (fun _ hk=>hk) trivial (of_decide_eq_true (by first|(with_reducible assumption)|assumption)) (Nat.le_trans (Nat.mul_le_mul_right _ (of_decide_eq_true (by first|(with_reducible assumption)|assumption):ji13.toNat ≤ 35184372088832)) (by omega)) (Below.refl _ _) (Nat.le_refl _) ?_;intro v105 w16 ho17 hb hg_ hnew_;clear hg_ hnew_;(first|rw [← Ny104.out] at ho17|(simp only [Int.reduceToNat] at ho17;rw [← Ny104.out] at ho17));have n0_:=mk0 (Kd.R_lower ho17 (below_size (by repeat (first|(with_reducible first|exact HB.out|apply aZ|apply nZ|apply dZ|refine sZ ?_ GE101.out)|exact HB.out))));have n1_:=mk0 (blk_below (g:=gb101) (o:=.cells #[.int .i64 x102000_1,.slice none 0 0] 24 (0,0)) (by (with_reducible repeat (first|apply nB|apply dB|apply aB));exact BK101.out) hb);have n2_:=mk0 (below_step (by repeat (first|(with_reducible first|exact HB.out|apply aZ|apply nZ|apply dZ|refine sZ ?_ GE101.out)|exact HB.out)) hb);clear BK101 HB;have HO106:=n0_;have BK101:=n1_;have HB:=n2_;clear n0_ n1_ n2_ hb ho17;obtain⟨Ao18,co18,eo18⟩:=Kd.R_slice HO106.out;subst eo18)|((with_reducible refine gate_dst (N:=6) rfl ?_);refine box_event ?hg (N:=6) ?hd (cs:=#[.int .i64 0,.slice none 0 0]) (t:=24) ?hr ?_;(case hd=>rfl);(case hg=>rfl);(case hr=>first|(go_simp;done)|(go_simp;rfl));intro gb107 hg w19 hbox hb;have n0_:=mk0 (Kd.R_below (by (with_reducible repeat (first|apply aR|apply nR|apply dR));exact HO106.out) hb);have n1_:=mk0 (blk_below (g:=gb101) (o:=.cells #[.int .i64 x102000_1,.slice none 0 0] 24 (0,0)) (by (with_reducible repeat (first|apply nB|apply dB|apply aB));exact BK101.out) hb);have n2_:=mk0 (below_step (by repeat (first|(with_reducible first|exact HB.out|apply aZ|apply nZ|apply dZ|refine sZ ?_ GE101.out)|exact HB.out)) hb);have n3_:=mk0 (hbox);have n4_:=mk0 ((by rw [hg];exact (below_size (by repeat (first|(with_reducible first|exact HB.out|apply aZ|apply nZ|apply dZ|refine sZ ?_ GE101.out)|exact HB.out))):w.heap.size ≤ gb107));have n5_:=mk0 ((by rw [hg];exact (below_size (by repeat (first|(with_reducible first|exact HB.out|apply aZ|apply nZ|apply dZ|refine sZ ?_ GE101.out)|exact HB.out))):w.heap.size ≤ gb107));have n6_:=mk0 ((by rw [hg];exact Nat.ne_of_lt (blk_lt (g:=gb101) (o:=.cells #[.int .i64 x102000_1,.slice none 0 0] 24 (0,0)) (by (with_reducible repeat (first|apply nB|apply dB|apply aB));exact BK101.out)):gb101 ≠ gb107));have n7_:=mk0 ((by rw [hg];exact Nat.ne_of_gt (blk_lt (g:=gb101) (o:=.cells #[.int .i64 x102000_1,.slice none 0 0] 24 (0,0)) (by (with_reducible repeat (first|apply nB|apply dB|apply aB));exact BK101.out)):gb107 ≠ gb101));clear HO106 BK101 HB;have HO106:=n0_;have BK101:=n1_;have HB:=n2_;have BK107:=n3_;have GW107:=n4_;have GE107:=n5_;have NB101_107:=n6_;have NB107_101:=n7_;clear n0_ n1_ n2_ n3_ n4_ n5_ n6_ n7_ hb hbox hg;have hnb20:=NB107_101.out;have hnc20:=NB101_107.out;have hcz21_0:w19.cell? ⟨gb107,0,none⟩ = some (.int .i64 0):=(blk_cell BK107.out 0).trans rfl;have hcz21_1:w19.cell? ⟨gb107,1,none⟩ = some (.slice none 0 0):=(blk_cell BK107.out 1).trans rfl;have hfz21_0:=blk_frozen BK107.out 0;have hfz21_1:=blk_frozen BK107.out 1))
     go_loopg [7] k2 (fun kq v7 w'=>∃ (x7_3:Int) (x108001_3:List Int) (u108001:Value),v7 = .int .i64 x7_3 ∧ Aside0 (spec_MinsOf.l2 kq l0 x5_2 x7_3 (l0.length:Int) x108001_3 = some (r1,r2,r3)) ∧ Aside0 (kq ≤ k2) ∧ Aside0 (Kd.R (Kd.int .i64) 3 w' w.heap.size (fun _=>True) u108001 x108001_3) ∧ Aside0 (w'.heap[gb101]? = some (.cells #[.int .i64 x102000_1,(.slice none 0 0)] 24 (0,0))) ∧ Aside0 (w'.heap[gb107]? = some (.cells #[.int .i64 (l0.length:Int),u108001] 24 (0,0))) ∧ Aside0 (Below w.heap.size w w'))
     case atStart=>exact⟨(wrap64 ((ji13) - 1)),(y104),(.slice Ao18 y104.length co18),(by first|rfl|(simp;done)|(simp only [← hji13] <;> (first|rfl|simp))|(simp [*];done)),H',⟨Nat.le_refl _⟩,⟨by (with_reducible repeat (first|apply aR|apply nR|apply dR));exact Kd.R_mono (Kd.R_far (p:=⟨gb107,1,none⟩) (Kd.R_far (p:=⟨gb107,0,none⟩) (Kd.R_types HO106.out BK107.out (by decide)) (fun _ hk=>hk.2) (.int .i64 (l0.length:Int))) (fun _ hk=>hk.2) (.slice Ao18 y104.length co18)) (fun _ hk=>trivial)⟩,⟨by (with_reducible repeat (first|apply nB|apply dB|apply aB));refine blk_far ?_ NB101_107.out _;(with_reducible repeat (first|apply nB|apply dB|apply aB));refine blk_far ?_ NB101_107.out _;(with_reducible repeat (first|apply nB|apply dB|apply aB));exact BK101.out⟩,⟨by (with_reducible repeat (first|apply nB|apply dB|apply aB));refine blk_put (cs:=#[.int .i64 (l0.length:Int),.slice none 0 0]) ?_ 1 _ rfl;(with_reducible repeat (first|apply nB|apply dB|apply aB));refine blk_put (cs:=#[.int .i64 0,.slice none 0 0]) ?_ 0 _ rfl;(with_reducible repeat (first|apply nB|apply dB|apply aB));exact BK107.out⟩,⟨by repeat (first|(with_reducible first|exact HB.out|apply aZ|apply nZ|apply dZ|refine sZ ?_ GE101.out|refine sZ ?_ GE107.out)|exact HB.out)⟩⟩
     case round =>
      clear H'
      try clear c1
      try clear p1
      try clear q1
      try clear hx1
      try clear c2
      try clear c2b0
      try clear c2b1
      try clear p2
      try clear c6
      try clear c6b0
      try clear p6
      try clear c7
      try clear c7b0
      try clear c8
      try clear c8b0
      try clear c10
      try clear c10b0
      try clear p10
      try clear q10
      try clear hx10
      try clear c11
      try clear c12
      try clear c12b0
      try clear c14
      try clear c14b0
      try clear c14b1
      try clear c15
      try clear c15b0
      try clear c15b1
      try clear c20
      try clear hcz11_0
      try clear hcz11_1
      try clear hcz21_0
      try clear hcz21_1
      try clear hcz4_0
      try clear hcz4_1
      try clear hcz9_0
      try clear hcz9_1
      try clear hfz11_0
      try clear hfz11_1
      try clear hfz21_0
      try clear hfz21_1
      try clear hfz4_0
      try clear hfz4_1
      try clear hfz9_0
      try clear hfz9_1
      try clear hx102_0
      try clear hx103_0
      try clear p1
      try clear p10
      try clear p102
      try clear p103
      try clear p2
      try clear p6
      try clear q1
      try clear q10
      try clear q102
      try clear q103
      obtain⟨x7_3,x108001_3,u108001,rfl,HA,HK3,HO_108001,BK101,BK107,HB⟩:=hrel
      cases gk with
      | zero=>exact absurd HA.out (by simp [spec_MinsOf.l2])
      | succ k3 =>
       have H:=HA.out
       clear HA
       simp only [spec_MinsOf.l2] at H
       by_cases c22:x7_3 ≥ 1
       rotate_left
       ·rw [if_neg c22] at H
        have c22b0:decide (1 ≤ x7_3) = false:=decide_eq_false c22
        clear c22
        simp only [Option.some.injEq,Prod.mk.injEq] at H
        obtain⟨rfl,rfl,rfl⟩:=H
        have hnb52:=NB107_101.out
        have hnc52:=NB101_107.out
        have hcz53_0:wr.cell? ⟨gb107,0,none⟩ = some (.int .i64 (l0.length:Int)):=(blk_cell BK107.out 0).trans rfl
        have hcz53_1:wr.cell? ⟨gb107,1,none⟩ = some (u108001):=(blk_cell BK107.out 1).trans rfl
        have hfz53_0:=blk_frozen BK107.out 0
        have hfz53_1:=blk_frozen BK107.out 1
        have hcz54_0:wr.cell? ⟨gb101,0,none⟩ = some (.int .i64 x102000_1):=(blk_cell BK101.out 0).trans rfl
        have hcz54_1:wr.cell? ⟨gb101,1,none⟩ = some (.slice none 0 0):=(blk_cell BK101.out 1).trans rfl
        have hfz54_0:=blk_frozen BK101.out 0
        have hfz54_1:=blk_frozen BK101.out 1
        obtain⟨Ao55,co55,eo55⟩:=Kd.R_slice HO_108001.out
        subst eo55
        go_wp2
        refine bodyPost_ret (results_ct rfl _ _ gb101 24 #[.int .i64 (l0.length:Int),.slice Ao55 x108001_3.length co55] (0,0) _ rfl (by (with_reducible repeat (first|apply nB|apply dB|apply aB));refine blk_put (cs:=#[.int .i64 (l0.length:Int),.slice none 0 0]) ?_ 1 _ rfl;(with_reducible repeat (first|apply nB|apply dB|apply aB));refine blk_put (cs:=#[.int .i64 x102000_1,.slice none 0 0]) ?_ 0 _ rfl;(with_reducible repeat (first|apply nB|apply dB|apply aB));exact BK101.out) Try.underlying24 rfl (by kernel_rfl)) rfl ?_
        exact⟨_,by first|rfl|(simp [errW_none,errW_some] <;> rfl)|(simp only [← hji13];first|rfl|(simp [errW_none,errW_some] <;> rfl))|(simp [*,errW_none,errW_some] <;> rfl),by (with_reducible repeat (first|apply aR|apply nR|apply dR));exact Kd.R_mono (Kd.R_far (p:=⟨gb101,1,none⟩) (Kd.R_far (p:=⟨gb101,0,none⟩) (Kd.R_types HO_108001.out BK101.out (by decide)) (fun _ hk=>hk.2) (.int .i64 (l0.length:Int))) (fun _ hk=>hk.2) (.slice Ao55 x108001_3.length co55)) (fun _ hk=>trivial),by repeat (first|(with_reducible first|exact HB.out|apply aZ|apply nZ|apply dZ|refine sZ ?_ GE101.out|refine sZ ?_ GE107.out)|exact HB.out)⟩
       rw [if_pos c22] at H
       have c22b0:decide (1 ≤ x7_3) = true:=decide_eq_true c22
       clear c22
       by_cases c23:x7_3 < x5_2
       rotate_left
       ·rw [if_neg c23] at H
        have c23b0:decide (x7_3 < x5_2) = false:=decide_eq_false c23
        clear c23
        by_cases c37:(wrap64 (x7_3 - x5_2)) < (l0.length:Int)
        rotate_left
        ·rw [if_neg c37] at H
         have c37b0:decide ((wrap64 (x7_3 - x5_2)) < (l0.length:Int)) = false:=decide_eq_false c37
         clear c37
         by_cases c45:0 ≤ x7_3
         rotate_left
         ·rw [if_neg c45] at H
          exact absurd H (by simp)
         rw [if_pos c45] at H
         have c45b0:decide (0 ≤ x7_3) = true:=decide_eq_true c45
         clear c45
         by_cases c46:x7_3 < (x108001_3.length:Int)
         rotate_left
         ·rw [if_neg c46] at H
          exact absurd H (by simp)
         rw [if_pos c46] at H
         have c46b0:decide (x7_3 < (x108001_3.length:Int)) = true:=decide_eq_true c46
         clear c46
         obtain⟨y113,hy113⟩:∃ y_:List Int,y_ = (x108001_3.set (x7_3:Int).toNat 1000000000):=⟨_,rfl⟩
         replace H:(spec_MinsOf.l2 k3 l0 x5_2 (wrap64 (x7_3 - 1)) (l0.length:Int) y113) = some (r1,r2,r3):=by first|(rw [hy113];with_reducible exact H)|(have H2_:=(Option.bind_some _ _).symm.trans H;rw [hy113];with_reducible exact H2_)|(have H2_:=(Option.bind_some _ _).symm.trans H;with_reducible exact H2_)|with_reducible exact H|(rw [hy113];exact H)|exact H
         have Ny113:=mk0 hy113
         clear hy113
         have H':=mk0 H
         clear H
         have hnb48:=NB107_101.out
         have hnc48:=NB101_107.out
         have hcz49_0:wr.cell? ⟨gb107,0,none⟩ = some (.int .i64 (l0.length:Int)):=(blk_cell BK107.out 0).trans rfl
         have hcz49_1:wr.cell? ⟨gb107,1,none⟩ = some (u108001):=(blk_cell BK107.out 1).trans rfl
         have hfz49_0:=blk_frozen BK107.out 0
         have hfz49_1:=blk_frozen BK107.out 1
         have p47:0 ≤ (x7_3:Int):=of_decide_eq_true (by first|(with_reducible assumption)|assumption)
         have q47:(x7_3:Int) < ((x108001_3.length:Int):Int):=of_decide_eq_true (by first|(with_reducible assumption)|assumption)
         obtain⟨go47,co47,eo47,gb47,gl47,cl47,HG47⟩:=Kd.R_form HO_108001.out (by omega)
         (first|cases eo47|(injection eo47 with ea_ en_ ec_;(first|subst ea_|(injection ea_ with ea_;subst ea_));subst ec_;clear en_))
         have GB47:=mk0 gb47
         have GG47:=mk0 HG47
         clear gb47 gl47 HG47
         obtain⟨hx47_0,hf47_0⟩:=Kd.R_celln 0 HO_108001.out (x7_3:Int) p47 q47
         replace p47:=eq_true p47
         replace q47:=eq_true q47
         have HP50:=Kd.R_putg HO_108001.out (x7_3:Int) 1000000000
         go_wp2_with (first|((with_reducible refine gate_store (t:=3) (p:=90) rfl ?_);refine store_event (t:=3) (p:=90) (v:=?vo_w51) (w1:=(wr.setCell ⟨go47,(x7_3:Int).toNat,none⟩ (.int .i64 1000000000))) ?hg ?ho ?hn ?hr ?_;(case ho=>rfl);(case hg=>rfl);(case hn=>rfl);(case hr=>first|(go_simp;done)|(go_simp;rfl));intro w51 hw;have hg:wr.grownBy w51 (some go47):=(by rw [hw];exact HP50.2);have hp_:Kd.R (Kd.int .i64) 3 w51 w.heap.size (fun _=>True) (.slice (some ⟨go47,0,none⟩) x108001_3.length co47) y113:=(by rw [hw,Ny113.out];exact HP50.1);clear HP50;have n0_:=mk0 (hp_);have n1_:=mk0 (blk_grown (g:=gb101) (o:=.cells #[.int .i64 x102000_1,.slice none 0 0] 24 (0,0)) (by (with_reducible repeat (first|apply nB|apply dB|apply aB));exact BK101.out) hg (Kd.R_ne HO_108001.out BK101.out (by decide)));have n2_:=mk0 (blk_grown (g:=gb107) (o:=.cells #[.int .i64 (l0.length:Int),.slice (some ⟨go47,0,none⟩) x108001_3.length co47] 24 (0,0)) (by (with_reducible repeat (first|apply nB|apply dB|apply aB));exact BK107.out) hg (Kd.R_ne HO_108001.out BK107.out (by decide)));have n3_:=mk0 ((by rw [hw];exact sZ (HB.out) GB47.out:Below w.heap.size w w51));clear HO_108001 BK101 BK107 HB;have HO_108001:=n0_;have BK101:=n1_;have BK107:=n2_;have HB:=n3_;clear n0_ n1_ n2_ n3_ hg hw hp_))
         go_roundg k3
         case measure=>have:=HK1.out;have:=HK2.out;have:=HK3.out;omega
         case rel=>exact⟨(wrap64 (x7_3 - 1)),(y113),(.slice (some ⟨go47,0,none⟩) x108001_3.length co47),(by first|rfl|(simp;done)|(simp [*];done)),H',⟨by have:=HK1.out;have:=HK2.out;have:=HK3.out;omega⟩,⟨by (with_reducible repeat (first|apply aR|apply nR|apply dR));exact HO_108001.out⟩,⟨by (with_reducible repeat (first|apply nB|apply dB|apply aB));exact BK101.out⟩,⟨by (with_reducible repeat (first|apply nB|apply dB|apply aB));exact BK107.out⟩,⟨by repeat (first|(with_reducible first|exact HB.out|apply aZ|apply nZ|apply dZ|refine sZ ?_ GE101.out|refine sZ ?_ GE107.out)|exact HB.out)⟩⟩
        rw [if_pos c37] at H
        have c37b0:decide ((wrap64 (x7_3 - x5_2)) < (l0.length:Int)) = true:=decide_eq_true c37
        clear c37
        obtain⟨ji38,hji38⟩:∃ j_:Int,(wrap64 (x7_3 - x5_2)) = j_:=⟨_,rfl⟩
        replace H:(if 0 ≤ (ji38) then (if 0 ≤ x7_3 then (if x7_3 < (x108001_3.length:Int) then (spec_MinsOf.l2 k3 l0 x5_2 (wrap64 (x7_3 - 1)) (l0.length:Int) (x108001_3.set (x7_3:Int).toNat (rd l0 (ji38)))) else (none)) else (none)) else (none)) = some (r1,r2,r3):=by first|(rw [hji38] at H;exact H)|(simp only [hji38] at H ⊢;exact H)
        (try rw [hji38] at c37b0)
        have hji38w:(IntKind.i64.wrap (x7_3 - x5_2)) = ji38:=(i64_w _).trans hji38
        by_cases c39:0 ≤ (ji38)
        rotate_left
        ·rw [if_neg c39] at H
         exact absurd H (by simp)
        rw [if_pos c39] at H
        have c39b0:decide (0 ≤ (ji38)) = true:=decide_eq_true c39
        clear c39
        by_cases c40:0 ≤ x7_3
        rotate_left
        ·rw [if_neg c40] at H
         exact absurd H (by simp)
        rw [if_pos c40] at H
        have c40b0:decide (0 ≤ x7_3) = true:=decide_eq_true c40
        clear c40
        by_cases c41:x7_3 < (x108001_3.length:Int)
        rotate_left
        ·rw [if_neg c41] at H
         exact absurd H (by simp)
        rw [if_pos c41] at H
        have c41b0:decide (x7_3 < (x108001_3.length:Int)) = true:=decide_eq_true c41
        clear c41
        obtain⟨y112,hy112⟩:∃ y_:List Int,y_ = (x108001_3.set (x7_3:Int).toNat (rd l0 (ji38))):=⟨_,rfl⟩
        replace H:(spec_MinsOf.l2 k3 l0 x5_2 (wrap64 (x7_3 - 1)) (l0.length:Int) y112) = some (r1,r2,r3):=by first|(rw [hy112];with_reducible exact H)|(have H2_:=(Option.bind_some _ _).symm.trans H;rw [hy112];with_reducible exact H2_)|(have H2_:=(Option.bind_some _ _).symm.trans H;with_reducible exact H2_)|with_reducible exact H|(rw [hy112];exact H)|exact H
        have Ny112:=mk0 hy112
        clear hy112
        have H':=mk0 H
        clear H
        try go_wp2
        have n0_:=mk0 (dR HO_108001.out)
        have n1_:=mk0 (dB BK101.out)
        have n2_:=mk0 (dB BK107.out)
        have n3_:=mk0 (dZ HB.out)
        clear HO_108001
        clear BK101
        clear BK107
        clear HB
        have HO_108001:=n0_
        have BK101:=n1_
        have BK107:=n2_
        have HB:=n3_
        clear n0_ n1_ n2_ n3_
        have p111:0 ≤ ((ji38):Int):=of_decide_eq_true (by first|(with_reducible assumption)|assumption)
        have q111:(ji38) < (l0.length:Int):=of_decide_eq_true (by first|(with_reducible assumption)|assumption)
        obtain⟨ad111,e111,hx111_0⟩:=Kd.at_int HR0.out (ji38) p111 q111
        have hw111_0:=hx111_0
        cases e111
        replace hx111_0:=(HB.out.cell (World.block_lt_of_cell? w _ hx111_0)).trans hx111_0
        replace p111:=eq_true p111
        replace q111:=eq_true q111
        have p42:0 ≤ (x7_3:Int):=of_decide_eq_true (by first|(with_reducible assumption)|assumption)
        have q42:(x7_3:Int) < ((x108001_3.length:Int):Int):=of_decide_eq_true (by first|(with_reducible assumption)|assumption)
        obtain⟨go42,co42,eo42,gb42,gl42,cl42,HG42⟩:=Kd.R_form HO_108001.out (by omega)
        (first|cases eo42|(injection eo42 with ea_ en_ ec_;(first|subst ea_|(injection ea_ with ea_;subst ea_));subst ec_;clear en_))
        have GB42:=mk0 gb42
        have GG42:=mk0 HG42
        clear gb42 gl42 HG42
        obtain⟨hx42_0,hf42_0⟩:=Kd.R_celln 0 HO_108001.out (x7_3:Int) p42 q42
        replace p42:=eq_true p42
        replace q42:=eq_true q42
        have HP44:=Kd.R_putn HO_108001.out (x7_3:Int) (rd l0 (ji38))
        rw [← Ny112.out] at HP44
        have HQ44:=mk0 HP44
        clear HP44
        refine start_ (n:=11) (S:=fun w'=>w'.cell? ⟨gb107,0,none⟩ = some (.int .i64 (l0.length:Int)) ∧ w'.cell? ⟨gb107,1,none⟩ = some (.slice (some ⟨go42,0,none⟩) x108001_3.length co42) ∧ w'.cell? (ad111.add ((ji38)).toNat) = some (.int .i64 (rd l0 (ji38)))) (ds:=[10]) spec_MinsOf.m0 (by kernel_rfl) rfl rfl ⟨(blk_cell BK107.out 0).trans rfl,(blk_cell BK107.out 1).trans rfl,((HB.out.cell (World.block_lt_of_cell? w _ hw111_0)).trans hw111_0)⟩ (fun hHeld=>?_);refine with_tabW spec_MinsOf.tab18 spec_MinsOf.bits18 (fun HT_ HW_=>?_)
        generalize wr.drew = w43 at HO_108001 BK101 BK107 HB GG42 HQ44 hf42_0 hx111_0 hx42_0 hHeld ⊢
        refine pure_ (i:=0) (N:=some 77) (v:=?_) (a':=?_) spec_MinsOf.m1 rfl rfl (any_of HT_.out (by kernel_rfl)) (fun _ _ _ h=>h) (Or.inl ⟨by rfl,?_⟩) ?_ ?_
        rotate_left
        ·intro w'
         go_simp
         with_reducible rfl
        rotate_left
        ·simp only [Act.put,sA,sO,sS,i64_w,i32_w]
         rfl
        refine pure_ (i:=2) (N:=some 79) (v:=?_) (a':=?_) spec_MinsOf.m2 rfl rfl (any_of HT_.out (by kernel_rfl)) (fun _ _ _ h=>h) (Or.inl ⟨by rfl,?_⟩) ?_ ?_
        rotate_left
        ·intro w'
         go_simp
         with_reducible rfl
        rotate_left
        ·simp only [Act.put,sA,sO,sS,i64_w,i32_w]
         rfl
        refine pure_ (i:=3) (N:=some 80) (v:=?_) (a':=?_) spec_MinsOf.m3 rfl rfl (any_of HT_.out (by kernel_rfl)) (fun _ _ _ h=>h) (Or.inl ⟨by rfl,?_⟩) ?_ ?_
        rotate_left
        ·intro w'
         go_simp
         with_reducible rfl
        rotate_left
        ·simp only [Act.put,sA,sO,sS,i64_w,i32_w]
         rfl
        refine pure_ (i:=4) (N:=some 81) (v:=?_) (a':=?_) spec_MinsOf.m4 rfl rfl (any_of HT_.out (by kernel_rfl)) (fun _ _ _ h=>h) (Or.inl ⟨by rfl,?_⟩) ?_ ?_
        rotate_left
        ·intro w'
         go_simp
         with_reducible rfl
        rotate_left
        ·simp only [Act.put,sA,sO,sS,i64_w,i32_w]
         rfl
        refine pure_ (i:=5) (N:=some 82) (v:=?_) (a':=?_) spec_MinsOf.m5 rfl rfl (any_of HT_.out (by kernel_rfl)) (fun _ _ _ h=>h) (Or.inl ⟨by rfl,?_⟩) ?_ ?_
        rotate_left
        ·intro w'
         go_simp
         with_reducible rfl
        rotate_left
        ·simp only [Act.put,sA,sO,sS,i64_w,i32_w]
         rfl
        refine pure_ (i:=6) (N:=some 83) (v:=?_) (a':=?_) spec_MinsOf.m6 rfl rfl (any_of HT_.out (by kernel_rfl)) (fun _ _ _ h=>h) (Or.inl ⟨by rfl,?_⟩) ?_ ?_
        rotate_left
        ·intro w'
         go_simp
         with_reducible rfl
        rotate_left
        ·simp only [Act.put,sA,sO,sS,i64_w,i32_w]
         rfl
        refine pure_ (i:=7) (N:=some 84) (v:=?_) (a':=?_) spec_MinsOf.m7 rfl rfl (any_of HT_.out (by kernel_rfl)) (fun _ _ _ h=>h) (Or.inl ⟨by rfl,?_⟩) ?_ ?_
        rotate_left
        ·intro w'
         go_simp
         with_reducible rfl
        rotate_left
        ·simp only [Act.put,sA,sO,sS,i64_w,i32_w]
         rfl
        refine take_ (i:=1) (N:=some 78) (v:=?_) (a':=?_) spec_MinsOf.m8 rfl rfl (take_ofW HT_.out HW_.out (by kernel_rfl)) (fun _ _ _ h=>h) (Or.inl ⟨by rfl,?_⟩) hHeld ?_ ?_
        rotate_left
        ·rintro w' ⟨s0,s1,s2⟩
         go_simp
         with_reducible rfl
        rotate_left
        ·simp only [Act.put,sA,sO,sS,i64_w,i32_w]
         rfl
        refine take_ (i:=8) (N:=some 85) (v:=?_) (a':=?_) spec_MinsOf.m9 rfl rfl (take_ofW HT_.out HW_.out (by kernel_rfl)) (fun _ _ _ h=>h) (Or.inl ⟨by rfl,?_⟩) hHeld ?_ ?_
        rotate_left
        ·rintro w' ⟨s0,s1,s2⟩
         go_simp
         with_reducible rfl
        rotate_left
        ·simp only [Act.put,sA,sO,sS,i64_w,i32_w]
         rfl
        refine pure_ (i:=9) (N:=some 86) (v:=?_) (a':=?_) spec_MinsOf.m10 rfl rfl (any_of HT_.out (by kernel_rfl)) (fun _ _ _ h=>h) (Or.inl ⟨by rfl,?_⟩) ?_ ?_
        rotate_left
        ·intro w'
         go_simp
         with_reducible rfl
        rotate_left
        ·simp only [Act.put,sA,sO,sS,i64_w,i32_w]
         rfl
        refine last_ (i:=10) (N:=none) spec_MinsOf.m11 rfl rfl (one_of HT_.out (by kernel_rfl)) (by decide) (fun K hK=>?_)
        refine skip_ (w1:=?_) (by rfl) rfl ?_ ?_
        rotate_left
        ·go_simp
         rfl
        refine hK.out _ _ ?_
        clear hK K
        refine done_ (done_of HT_.out (by kernel_rfl)) ?_
        try go_wp2
        go_roundg k3
        case measure=>have:=HK1.out;have:=HK2.out;have:=HK3.out;omega
        case rel=>exact⟨(wrap64 (x7_3 - 1)),(y112),(.slice (some ⟨go42,0,none⟩) x108001_3.length co42),(by first|rfl|(simp;done)|(simp [*];done)),H',⟨by have:=HK1.out;have:=HK2.out;have:=HK3.out;omega⟩,⟨by (with_reducible repeat (first|apply aR|apply nR|apply dR));exact HQ44.out⟩,⟨by (with_reducible repeat (first|apply nB|apply dB|apply aB));refine blk_far ?_ (by have h_:=Kd.R_ne HO_108001.out BK101.out (by decide);intro e_;exact h_ (by rw [e_];rfl)) _;(with_reducible repeat (first|apply nB|apply dB|apply aB));exact BK101.out⟩,⟨by (with_reducible repeat (first|apply nB|apply dB|apply aB));refine blk_far ?_ (by have h_:=Kd.R_ne HO_108001.out BK107.out (by decide);intro e_;exact h_ (by rw [e_];rfl)) _;(with_reducible repeat (first|apply nB|apply dB|apply aB));exact BK107.out⟩,⟨by repeat (first|(with_reducible first|exact HB.out|apply aZ|apply nZ|apply dZ|refine sZ ?_ GB42.out|refine sZ ?_ GE101.out|refine sZ ?_ GE107.out)|exact HB.out)⟩⟩
       rw [if_pos c23] at H
       have c23b0:decide (x7_3 < x5_2) = true:=decide_eq_true c23
       clear c23
       obtain⟨ji24,hji24⟩:∃ j_:Int,(wrap64 (2 * x7_3)) = j_:=⟨_,rfl⟩
       replace H:(if 0 ≤ (ji24) then (if (ji24) < (x108001_3.length:Int) then (if 0 ≤ (wrap64 ((ji24) + 1)) then (if (wrap64 ((ji24) + 1)) < (x108001_3.length:Int) then (if 0 ≤ x7_3 then (if x7_3 < (x108001_3.length:Int) then (spec_MinsOf.l2 k3 l0 x5_2 (wrap64 (x7_3 - 1)) (l0.length:Int) (x108001_3.set (x7_3:Int).toNat (mn (rd x108001_3 (ji24)) (rd x108001_3 (wrap64 ((ji24) + 1)))))) else (none)) else (none)) else (none)) else (none)) else (none)) else (none)) = some (r1,r2,r3):=by first|(rw [hji24] at H;exact H)|(simp only [hji24] at H ⊢;exact H)
       have hji24w:(IntKind.i64.wrap (2 * x7_3)) = ji24:=(i64_w _).trans hji24
       by_cases c25:0 ≤ (ji24)
       rotate_left
       ·rw [if_neg c25] at H
        exact absurd H (by simp)
       rw [if_pos c25] at H
       have c25b0:decide (0 ≤ (ji24)) = true:=decide_eq_true c25
       clear c25
       by_cases c26:(ji24) < (x108001_3.length:Int)
       rotate_left
       ·rw [if_neg c26] at H
        exact absurd H (by simp)
       rw [if_pos c26] at H
       have c26b0:decide ((ji24) < (x108001_3.length:Int)) = true:=decide_eq_true c26
       clear c26
       obtain⟨ji27,hji27⟩:∃ j_:Int,(wrap64 ((ji24) + 1)) = j_:=⟨_,rfl⟩
       replace H:(if 0 ≤ (ji27) then (if (ji27) < (x108001_3.length:Int) then (if 0 ≤ x7_3 then (if x7_3 < (x108001_3.length:Int) then (spec_MinsOf.l2 k3 l0 x5_2 (wrap64 (x7_3 - 1)) (l0.length:Int) (x108001_3.set (x7_3:Int).toNat (mn (rd x108001_3 (ji24)) (rd x108001_3 (ji27))))) else (none)) else (none)) else (none)) else (none)) = some (r1,r2,r3):=by first|(rw [hji27] at H;exact H)|(simp only [hji27] at H ⊢;exact H)
       have hji27w:(IntKind.i64.wrap ((ji24) + 1)) = ji27:=(i64_w _).trans hji27
       by_cases c28:0 ≤ (ji27)
       rotate_left
       ·rw [if_neg c28] at H
        exact absurd H (by simp)
       rw [if_pos c28] at H
       have c28b0:decide (0 ≤ (ji27)) = true:=decide_eq_true c28
       clear c28
       by_cases c29:(ji27) < (x108001_3.length:Int)
       rotate_left
       ·rw [if_neg c29] at H
        exact absurd H (by simp)
       rw [if_pos c29] at H
       have c29b0:decide ((ji27) < (x108001_3.length:Int)) = true:=decide_eq_true c29
       clear c29
       obtain⟨ji30,hji30⟩:∃ j_:Int,(mn (rd x108001_3 (ji24)) (rd x108001_3 (ji27))) = j_:=⟨_,rfl⟩
       replace H:(if 0 ≤ x7_3 then (if x7_3 < (x108001_3.length:Int) then (spec_MinsOf.l2 k3 l0 x5_2 (wrap64 (x7_3 - 1)) (l0.length:Int) (x108001_3.set (x7_3:Int).toNat (ji30))) else (none)) else (none)) = some (r1,r2,r3):=by first|(rw [hji30] at H;exact H)|(simp only [hji30] at H ⊢;exact H)
       have hji30_:(if (rd x108001_3 (ji27)) < (rd x108001_3 (ji24)) then (rd x108001_3 (ji27)) else (rd x108001_3 (ji24))) = ji30:=hji30
       by_cases c31:0 ≤ x7_3
       rotate_left
       ·rw [if_neg c31] at H
        exact absurd H (by simp)
       rw [if_pos c31] at H
       have c31b0:decide (0 ≤ x7_3) = true:=decide_eq_true c31
       clear c31
       by_cases c32:x7_3 < (x108001_3.length:Int)
       rotate_left
       ·rw [if_neg c32] at H
        exact absurd H (by simp)
       rw [if_pos c32] at H
       have c32b0:decide (x7_3 < (x108001_3.length:Int)) = true:=decide_eq_true c32
       clear c32
       obtain⟨y110,hy110⟩:∃ y_:List Int,y_ = (x108001_3.set (x7_3:Int).toNat (ji30)):=⟨_,rfl⟩
       replace H:(spec_MinsOf.l2 k3 l0 x5_2 (wrap64 (x7_3 - 1)) (l0.length:Int) y110) = some (r1,r2,r3):=by first|(rw [hy110];with_reducible exact H)|(have H2_:=(Option.bind_some _ _).symm.trans H;rw [hy110];with_reducible exact H2_)|(have H2_:=(Option.bind_some _ _).symm.trans H;with_reducible exact H2_)|with_reducible exact H|(rw [hy110];exact H)|exact H
       have Ny110:=mk0 hy110
       clear hy110
       have H':=mk0 H
       clear H
       try go_wp2
       have n0_:=mk0 (dR HO_108001.out)
       have n1_:=mk0 (dB BK101.out)
       have n2_:=mk0 (dB BK107.out)
       have n3_:=mk0 (dZ HB.out)
       clear HO_108001
       clear BK101
       clear BK107
       clear HB
       have HO_108001:=n0_
       have BK101:=n1_
       have BK107:=n2_
       have HB:=n3_
       clear n0_ n1_ n2_ n3_
       obtain⟨Ao35,co35,eo35⟩:=Kd.R_slice HO_108001.out
       (first|subst eo35|(injection eo35 with f1_ f2_ f3_;have f4_:=f1_.symm;have f5_:=f3_.symm;clear f1_ f2_ f3_;subst f4_;subst f5_))
       have p108:0 ≤ ((ji24):Int):=of_decide_eq_true (by first|(with_reducible assumption)|assumption)
       have q108:(ji24) < (x108001_3.length:Int):=of_decide_eq_true (by first|(with_reducible assumption)|assumption)
       obtain⟨ad108,e108,hx108_0⟩:=Kd.at_int (Kd.R_reads' HO_108001.out).2.2 (ji24) p108 q108
       cases e108
       replace p108:=eq_true p108
       replace q108:=eq_true q108
       have p109:0 ≤ ((ji27):Int):=of_decide_eq_true (by first|(with_reducible assumption)|assumption)
       have q109:(ji27) < (x108001_3.length:Int):=of_decide_eq_true (by first|(with_reducible assumption)|assumption)
       obtain⟨ad109,e109,hx109_0⟩:=Kd.at_int (Kd.R_reads' HO_108001.out).2.2 (ji27) p109 q109
       obtain rfl:ad108 = ad109:=(by injection e109)
       replace p109:=eq_true p109
       replace q109:=eq_true q109
       have p33:0 ≤ (x7_3:Int):=of_decide_eq_true (by first|(with_reducible assumption)|assumption)
       have q33:(x7_3:Int) < ((x108001_3.length:Int):Int):=of_decide_eq_true (by first|(with_reducible assumption)|assumption)
       obtain⟨go33,co33,eo33,gb33,gl33,cl33,HG33⟩:=Kd.R_form HO_108001.out (by omega)
       (first|cases eo33|(injection eo33 with ea_ en_ ec_;(first|subst ea_|(injection ea_ with ea_;subst ea_));subst ec_;clear en_))
       have GB33:=mk0 gb33
       have GG33:=mk0 HG33
       clear gb33 gl33 HG33
       (first|simp only [add_plain] at hx108_0|skip)
       (first|simp only [add_plain] at hx109_0|skip)
       obtain⟨hx33_0,hf33_0⟩:=Kd.R_celln 0 HO_108001.out (x7_3:Int) p33 q33
       replace p33:=eq_true p33
       replace q33:=eq_true q33
       have HP36:=Kd.R_putn HO_108001.out (x7_3:Int) ji30
       rw [← Ny110.out] at HP36
       have HQ36:=mk0 HP36
       clear HP36
       refine start_ (n:=19) (S:=fun w'=>w'.cell? ⟨gb107,0,none⟩ = some (.int .i64 (l0.length:Int)) ∧ w'.cell? ⟨gb107,1,none⟩ = some (.slice (some ⟨go33,0,none⟩) x108001_3.length co35) ∧ w'.cell? ⟨go33,((ji24)).toNat,none⟩ = some (.int .i64 (rd x108001_3 (ji24))) ∧ w'.cell? ⟨go33,((ji27)).toNat,none⟩ = some (.int .i64 (rd x108001_3 (ji27)))) (ds:=[18]) spec_MinsOf.m12 (by kernel_rfl) rfl rfl ⟨(blk_cell BK107.out 0).trans rfl,(blk_cell BK107.out 1).trans rfl,hx108_0,hx109_0⟩ (fun hHeld=>?_);refine with_tabW spec_MinsOf.tab16 spec_MinsOf.bits16 (fun HT_ HW_=>?_)
       generalize wr.drew = w34 at HO_108001 BK101 BK107 HB GG33 HQ36 hf33_0 hx108_0 hx109_0 hx33_0 hHeld ⊢
       refine pure_ (i:=0) (N:=some 53) (v:=?_) (a':=?_) spec_MinsOf.m13 rfl rfl (any_of HT_.out (by kernel_rfl)) (fun _ _ _ h=>h) (Or.inl ⟨by rfl,?_⟩) ?_ ?_
       rotate_left
       ·intro w'
        go_simp
        with_reducible rfl
       rotate_left
       ·simp only [Act.put,sA,sO,sS,i64_w,i32_w]
        rfl
       refine pure_ (i:=2) (N:=some 55) (v:=?_) (a':=?_) spec_MinsOf.m14 rfl rfl (any_of HT_.out (by kernel_rfl)) (fun _ _ _ h=>h) (Or.inl ⟨by rfl,?_⟩) ?_ ?_
       rotate_left
       ·intro w'
        go_simp
        with_reducible rfl
       rotate_left
       ·simp only [Act.put,sA,sO,sS,i64_w,i32_w]
        rfl
       refine pure_ (i:=3) (N:=some 56) (v:=?_) (a':=?_) spec_MinsOf.m15 rfl rfl (any_of HT_.out (by kernel_rfl)) (fun _ _ _ h=>h) (Or.inl ⟨by rfl,?_⟩) ?_ ?_
       rotate_left
       ·intro w'
        go_simp
        with_reducible rfl
       rotate_left
       ·simp only [Act.put,sA,sO,sS,i64_w,i32_w]
        rfl
       refine pure_ (i:=5) (N:=some 58) (v:=?_) (a':=?_) spec_MinsOf.m16 rfl rfl (any_of HT_.out (by kernel_rfl)) (fun _ _ _ h=>h) (Or.inl ⟨by rfl,?_⟩) ?_ ?_
       rotate_left
       ·intro w'
        go_simp
        with_reducible rfl
       rotate_left
       ·simp only [Act.put,sA,sO,sS,i64_w,i32_w]
        rfl
       refine pure_ (i:=6) (N:=some 59) (v:=?_) (a':=?_) spec_MinsOf.m17 rfl rfl (any_of HT_.out (by kernel_rfl)) (fun _ _ _ h=>h) (Or.inl ⟨by rfl,?_⟩) ?_ ?_
       rotate_left
       ·intro w'
        go_simp
        with_reducible rfl
       rotate_left
       ·simp only [Act.put,sA,sO,sS,i64_w,i32_w]
        rfl
       refine pure_ (i:=9) (N:=some 62) (v:=?_) (a':=?_) spec_MinsOf.m18 rfl rfl (any_of HT_.out (by kernel_rfl)) (fun _ _ _ h=>h) (Or.inl ⟨by rfl,?_⟩) ?_ ?_
       rotate_left
       ·intro w'
        go_simp
        with_reducible rfl
       rotate_left
       ·simp only [Act.put,sA,sO,sS,i64_w,i32_w]
        rfl
       refine pure_ (i:=11) (N:=some 64) (v:=?_) (a':=?_) spec_MinsOf.m19 rfl rfl (any_of HT_.out (by kernel_rfl)) (fun _ _ _ h=>h) (Or.inl ⟨by rfl,?_⟩) ?_ ?_
       rotate_left
       ·intro w'
        go_simp
        with_reducible rfl
       rotate_left
       ·simp only [Act.put,sA,sO,sS,i64_w,i32_w]
        rfl
       refine pure_ (i:=12) (N:=some 65) (v:=?_) (a':=?_) spec_MinsOf.m20 rfl rfl (any_of HT_.out (by kernel_rfl)) (fun _ _ _ h=>h) (Or.inl ⟨by rfl,?_⟩) ?_ ?_
       rotate_left
       ·intro w'
        go_simp
        with_reducible rfl
       rotate_left
       ·simp only [Act.put,sA,sO,sS,i64_w,i32_w]
        rfl
       refine pure_ (i:=13) (N:=some 66) (v:=?_) (a':=?_) spec_MinsOf.m21 rfl rfl (any_of HT_.out (by kernel_rfl)) (fun _ _ _ h=>h) (Or.inl ⟨by rfl,?_⟩) ?_ ?_
       rotate_left
       ·intro w'
        go_simp
        with_reducible rfl
       rotate_left
       ·simp only [Act.put,sA,sO,sS,i64_w,i32_w]
        rfl
       refine take_ (i:=1) (N:=some 54) (v:=?_) (a':=?_) spec_MinsOf.m22 rfl rfl (take_ofW HT_.out HW_.out (by kernel_rfl)) (fun _ _ _ h=>h) (Or.inl ⟨by rfl,?_⟩) hHeld ?_ ?_
       rotate_left
       ·rintro w' ⟨s0,s1,s2,s3⟩
        go_simp
        with_reducible rfl
       rotate_left
       ·simp only [Act.put,sA,sO,sS,i64_w,i32_w]
        rfl
       refine take_ (i:=4) (N:=some 57) (v:=?_) (a':=?_) spec_MinsOf.m23 rfl rfl (take_ofW HT_.out HW_.out (by kernel_rfl)) (fun _ _ _ h=>h) (Or.inl ⟨by rfl,?_⟩) hHeld ?_ ?_
       rotate_left
       ·rintro w' ⟨s0,s1,s2,s3⟩
        go_simp
        with_reducible rfl
       rotate_left
       ·simp only [Act.put,sA,sO,sS,i64_w,i32_w]
        rfl
       refine pure_ (i:=7) (N:=some 60) (v:=?_) (a':=?_) spec_MinsOf.m24 rfl rfl (any_of HT_.out (by kernel_rfl)) (fun _ _ _ h=>h) (Or.inl ⟨by rfl,?_⟩) ?_ ?_
       rotate_left
       ·intro w'
        go_simp
        with_reducible rfl
       rotate_left
       ·simp only [Act.put,sA,sO,sS,i64_w,i32_w]
        rfl
       refine take_ (i:=8) (N:=some 61) (v:=?_) (a':=?_) spec_MinsOf.m25 rfl rfl (take_ofW HT_.out HW_.out (by kernel_rfl)) (fun _ _ _ h=>h) (Or.inl ⟨by rfl,?_⟩) hHeld ?_ ?_
       rotate_left
       ·rintro w' ⟨s0,s1,s2,s3⟩
        go_simp
        with_reducible rfl
       rotate_left
       ·simp only [Act.put,sA,sO,sS,i64_w,i32_w]
        rfl
       refine take_ (i:=10) (N:=some 63) (v:=?_) (a':=?_) spec_MinsOf.m26 rfl rfl (take_ofW HT_.out HW_.out (by kernel_rfl)) (fun _ _ _ h=>h) (Or.inl ⟨by rfl,?_⟩) hHeld ?_ ?_
       rotate_left
       ·rintro w' ⟨s0,s1,s2,s3⟩
        go_simp
        with_reducible rfl
       rotate_left
       ·simp only [Act.put,sA,sO,sS,i64_w,i32_w]
        rfl
       refine pure_ (i:=14) (N:=some 67) (v:=?_) (a':=?_) spec_MinsOf.m27 rfl rfl (any_of HT_.out (by kernel_rfl)) (fun _ _ _ h=>h) (Or.inl ⟨by rfl,?_⟩) ?_ ?_
       rotate_left
       ·intro w'
        go_simp
        with_reducible rfl
       rotate_left
       ·simp only [Act.put,sA,sO,sS,i64_w,i32_w]
        rfl
       refine take_ (i:=15) (N:=some 68) (v:=?_) (a':=?_) spec_MinsOf.m28 rfl rfl (take_ofW HT_.out HW_.out (by kernel_rfl)) (fun _ _ _ h=>h) (Or.inl ⟨by rfl,?_⟩) hHeld ?_ ?_
       rotate_left
       ·rintro w' ⟨s0,s1,s2,s3⟩
        go_simp
        with_reducible rfl
       rotate_left
       ·simp only [Act.put,sA,sO,sS,i64_w,i32_w]
        rfl
       refine pure_ (i:=16) (N:=some 69) (v:=?_) (a':=?_) spec_MinsOf.m29 rfl rfl (any_of HT_.out (by kernel_rfl)) (fun _ _ _ h=>h) (Or.inl ⟨by rfl,?_⟩) ?_ ?_
       rotate_left
       ·intro w'
        go_simp
        with_reducible rfl
       rotate_left
       ·simp only [Act.put,sA,sO,sS,i64_w,i32_w]
        rfl
       refine pure_ (i:=17) (N:=some 70) (v:=?_) (a':=?_) spec_MinsOf.m30 rfl rfl (any_of HT_.out (by kernel_rfl)) (fun _ _ _ h=>h) (Or.inl ⟨by rfl,?_⟩) ?_ ?_
       rotate_left
       ·intro w'
        go_simp
        with_reducible rfl
       rotate_left
       ·simp only [Act.put,sA,sO,sS,i64_w,i32_w]
        rfl
       refine last_ (i:=18) (N:=none) spec_MinsOf.m31 rfl rfl (one_of HT_.out (by kernel_rfl)) (by decide) (fun K hK=>?_)
       refine skip_ (w1:=?_) (by rfl) rfl ?_ ?_
       rotate_left
       ·go_simp
        rfl
       refine hK.out _ _ ?_
       clear hK K
       refine done_ (done_of HT_.out (by kernel_rfl)) ?_
       try go_wp2
       go_roundg k3
       case measure=>have:=HK1.out;have:=HK2.out;have:=HK3.out;omega
       case rel=>exact⟨(wrap64 (x7_3 - 1)),(y110),(.slice (some ⟨go33,0,none⟩) x108001_3.length co35),(by first|rfl|(simp;done)|(simp [*];done)),H',⟨by have:=HK1.out;have:=HK2.out;have:=HK3.out;omega⟩,⟨by (with_reducible repeat (first|apply aR|apply nR|apply dR));exact HQ36.out⟩,⟨by (with_reducible repeat (first|apply nB|apply dB|apply aB));refine blk_far ?_ (by have h_:=Kd.R_ne HO_108001.out BK101.out (by decide);intro e_;exact h_ (by rw [e_];rfl)) _;(with_reducible repeat (first|apply nB|apply dB|apply aB));exact BK101.out⟩,⟨by (with_reducible repeat (first|apply nB|apply dB|apply aB));refine blk_far ?_ (by have h_:=Kd.R_ne HO_108001.out BK107.out (by decide);intro e_;exact h_ (by rw [e_];rfl)) _;(with_reducible repeat (first|apply nB|apply dB|apply aB));exact BK107.out⟩,⟨by repeat (first|(with_reducible first|exact HB.out|apply aZ|apply nZ|apply dZ|refine sZ ?_ GB33.out|refine sZ ?_ GE101.out|refine sZ ?_ GE107.out)|exact HB.out)⟩⟩
end Go.Proofs.Ytpheodpcppclaaa.QFnMinsSet
