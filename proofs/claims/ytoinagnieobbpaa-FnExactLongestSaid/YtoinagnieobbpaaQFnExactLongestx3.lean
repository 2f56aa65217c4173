-- A walk, made by walk.py, a program of this session's.
import Derived.Test.YtoinagnieobbpaaQFnExactLongestx0
import Derived.Test.YtoinagnieobbpaaQFnExactLongestx1
import Derived.Test.YtoinagnieobbpaaQFnExactLongestx2
namespace Go.Proofs.Ytoinagnieobbpaa.QFnExactLongest
open Go.RowKit Go.Proofs.YtoinagnieobbpaaW.PrintWords Go.Proofs.YtoinagnieobbpaaW.PrintLast Go.Proofs.YtoinagnieobbpaaW.PrintMore
attribute [local go_sem] max2_int min2_int max_two min_two max_three min_three max_four min_four   -- for this text's walks alone
set_option linter.unusedVariables false
set_option linter.unusedSimpArgs false

/-! ### bytes_Contains: function 51 (by hand) -/
def HasMax (w : World) : Prop := ∃ m, w.cell? ⟨0, 0, none⟩ = some (.int .i64 m)
theorem HasMax.below {w W : World} (h : HasMax w) (hb : Below w.heap.size w W) : HasMax W := by
  obtain ⟨m, hm⟩ := h
  exact ⟨m, by rw [← hm]; exact hb.cell (World.block_lt_of_cell? w _ hm)⟩
def bytes_Contains.f (l0 : List Int) (l1 : List Int) : Option (Bool) := if (l0.all Fv.isB && l1.all Fv.isB && decide (0 < l1.length) && decide (l0.length < 4294967281) && decide (l1.length ≤ 9223372036854775807)) = true then some (Lib.contains (Lib.bytesOf l0) (Lib.bytesOf l1)) else none
theorem bytes_Contains.calls (A0 : Option Addr) (c0 : Nat) (l0 : List Int) (A1 : Option Addr) (c1 : Nat) (l1 : List Int) (r : Bool) (w : World) (hr0 : Kd.C (Kd.int .u8) w A0 l0.length l0) (hc0 : l0.length ≤ c0) (hr1 : Kd.C (Kd.int .u8) w A1 l1.length l1) (hc1 : l1.length ≤ c1) (h : bytes_Contains.f l0 l1 = some r) (ha : A0 ≠ none) (hm : HasMax w) :
    Calls Try.prog 51 #[.slice A0 l0.length c0, .slice A1 l1.length c1] w fun e w' => e = .returned (.bool r) ∧ Drawn0 w w' := by
  unfold bytes_Contains.f at h
  split at h
  · rename_i hc
    obtain rfl := Option.some.inj h
    simp only [Bool.and_eq_true, List.all_eq_true, decide_eq_true_eq, Fv.isB] at hc
    obtain ⟨⟨⟨⟨b0, b1⟩, p1⟩, s0⟩, s1⟩ := hc
    obtain ⟨m, hm⟩ := hm
    obtain ⟨a0, rfl⟩ := Option.ne_none_iff_exists'.1 ha
    obtain ⟨a1, rfl, q1⟩ := (Kd.reads_of_C (d := (0 : Int)) hr1).2.2 p1
    have q0 : ∀ i, i < l0.length → w.cell? (a0.add i) = some (.int .u8 (l0.getD i 0)) := fun i hi => by
      obtain ⟨a2, e2, q2⟩ := (Kd.reads_of_C (d := (0 : Int)) hr0).2.2 (by omega)
      injection e2 with e2
      subst e2
      exact q2 i hi
    refine (Any.bytes_Contains_at { Lay.containsM with } a0 a1 l0.length c0 l1.length c1 l0 l1 m w rfl rfl b0 b1 q0 q1 hc0 s0 s1 hm).mono ?_
    rintro e w' ⟨rfl, q, rfl⟩
    exact ⟨rfl, ⟨q, rfl⟩⟩
  · exact absurd h (by simp)

theorem drop_some {t e : TypeId} {i : TypeInfo} (ht : Try.prog.underlying t = some (.slice e)) (hi : Try.prog.info? e = some i) (hsz : i.size = 1) {A A' : Option Addr} {n c L C : Nat} {j : Int} (h0 : 0 ≤ j) (hm : j ≤ n) (hA : A ≠ none)
    (h : ∀ W : World, (Instr.slice t (.slice A n c) (some (.int .i64 j)) none none).run Try.prog W = .ok (.slice A' L C) W) (w : World) : A' ≠ none := by
  have hel : Try.prog.elem t = e := by simp [Program.elem, ht]
  have hu : Try.prog.underlying t = some (.slice (Try.prog.elem t)) := by rw [hel]; exact ht
  have h1 := h w
  rw [run_slice_l w t A n c hu .i64 j h0 hm, hel] at h1
  simp [sizeOf, typeInfo, hi, hsz, sliced, Result.andThen] at h1
  obtain ⟨e1, _⟩ := h1
  rintro rfl
  split at e1
  · exact hA e1
  · cases A with
    | none => exact hA rfl
    | some a => simp at e1
/-! ### impl_Longest: function 24 -/
def impl_Longest.l0 : Nat → List Int → Int → Int → Int → Option (Int × Int)
 | 0, _, _, _, _ => none
 | k + 1, x0, x4, x15, x16 => if x16 < x15 then (if (wrap64 (x16 + x4)) ≤ (x0.length : Int) then (if 0 ≤ (wrap64 (x16 + 1)) then (if (wrap64 (x16 + 1)) ≤ (x0.length : Int) then (if 0 ≤ x16 then (if x16 ≤ (wrap64 (x16 + x4)) then ((bytes_Contains.f (x0.drop ((wrap64 (x16 + 1)) : Int).toNat) ((x0.take ((wrap64 (x16 + x4)) : Int).toNat).drop (x16 : Int).toNat)).bind fun t151 => (if t151 = true then (some (x4, x16)) else (impl_Longest.l0 k x0 x4 x15 (wrap64 (x16 + 1))))) else (none)) else (none)) else (none)) else (none)) else (impl_Longest.l0 k x0 x4 x15 (wrap64 (x16 + 1)))) else (some (0, 0))
def impl_Longest.f (k : Nat) (l0 : List Int) : Option (Int × Int) := (impl_TextOk.f l0).bind fun t144 => (if t144 = true then ((impl_lcpRows.f k l0).bind fun t145 => ((slices_Max_int_int.f k t145).bind fun t148 => (if t148 = 0 then (some (0, 0)) else (impl_Longest.l0 k l0 t148 (l0.length : Int) 0)))) else (some (0, 0)))
theorem impl_Longest.mono_l : ∀ k, (∀ y0 y1 y2 y3, LeO (impl_Longest.l0 k y0 y1 y2 y3) (impl_Longest.l0 (k + 1) y0 y1 y2 y3))
 | 0 => fun _ _ _ _ r h => by simp [impl_Longest.l0] at h
 | k + 1 => by
  have ih0 := impl_Longest.mono_l k
  ·intro y0 y1 y2 y3
   unfold impl_Longest.l0
   repeat' first|(with_reducible first|exact ih0 _ _ _ _|exact impl_lcpRows.mono _ _|exact slices_Max_int_int.mono _ _|exact LeO.refl _|exact LeO.none _|refine LeO.ite ?_ ?_|refine LeO.bind ?_ (fun _ => ?_))|exact LeO.none _|refine LeO.ite ?_ ?_|refine LeO.bind ?_ (fun _ => ?_)
theorem impl_Longest.mono : ∀ a0 k, LeO (impl_Longest.f k a0) (impl_Longest.f (k + 1) a0) := by
 intro a0 k
 have ih0 := impl_Longest.mono_l k
 unfold impl_Longest.f
 repeat' first|(with_reducible first|exact ih0 _ _ _ _|exact impl_lcpRows.mono _ _|exact slices_Max_int_int.mono _ _|exact LeO.refl _|exact LeO.none _|refine LeO.ite ?_ ?_|refine LeO.bind ?_ (fun _ => ?_))|exact LeO.none _|refine LeO.ite ?_ ?_|refine LeO.bind ?_ (fun _ => ?_)
set_option maxHeartbeats 8000000 in
set_option maxRecDepth 100000 in
theorem impl_Longest.calls (k : Nat) (A0 : Option Addr) (c0 : Nat) (l0 : List Int) (r1 : Int) (r2 : Int) (w : World) (hr0 : Kd.C (Kd.int .u8) w A0 l0.length l0) (hc0 : l0.length ≤ c0) (h : impl_Longest.f k l0 = some (r1, r2)) (hm_ : HasMax w) :
  Calls Try.prog 24 #[.slice A0 l0.length c0] w fun e w' => e = .returned (.tuple #[.int .i64 r1, .int .i64 r2]) ∧ Below w.heap.size w w' := by
 have HM_:=mk0 hm_
 clear hm_
 have HR0:=mk0 hr0
 have HC0:=mk0 hc0
 clear hr0 hc0
 have HB:=mk0 (Below.refl w.heap.size w)
 have H:((impl_TextOk.f l0).bind fun t144=>(if t144 = true then ((impl_lcpRows.f k l0).bind fun t145=>((slices_Max_int_int.f k t145).bind fun t148=>(if t148 = 0 then (some (0,0)) else (impl_Longest.l0 k l0 t148 (l0.length:Int) 0)))) else (some (0,0)))) = some (r1,r2):=h
 clear h
 replace H:=Option.bind_eq_some_iff.mp H
 obtain⟨t144,A20,H⟩:=H
 replace H:(if t144 = true then ((impl_lcpRows.f k l0).bind fun t145=>((slices_Max_int_int.f k t145).bind fun t148=>(if t148 = 0 then (some (0,0)) else (impl_Longest.l0 k l0 t148 (l0.length:Int) 0)))) else (some (0,0))) = some (r1,r2):=H
 have A2:=mk0 A20
 clear A20
 by_cases c3:t144 = true
 rotate_left
 ·replace c3:=Bool.eq_false_iff.mpr c3
  subst c3
  have H1:(some (0,0)) = some (r1,r2):=by rw [if_neg (show ¬ (false = true) by decide)] at H;exact H
  clear H
  have H:=H1
  clear H1
  simp only [Option.some.injEq,Prod.mk.injEq] at H
  obtain⟨rfl,rfl⟩:=H
  go_enter Try.func24,Try.ntmps24
  go_wp2_with (first|(go_at_call 39;(with_reducible refine (impl_TextOk.calls _ _ l0 false _ ?side1 ?side2 A2.out).mono ?_);(case side1=>repeat (first|exact HR0.out|(with_reducible first|apply aC|apply nC|apply dC)));(case side2=>exact HC0.out);rintro e w' ⟨rfl,⟨nd,rfl⟩⟩;(try first|exact⟨rfl,_,World.drewN_drewN _ _ _⟩|exact⟨rfl,_,Eq.trans (World.drewN_drewN _ _ _) (congrArg (World.drewN _) (Nat.add_assoc _ _ _))⟩)))
  repeat (go_quiet (first|(go_at_call 39;(with_reducible refine (impl_TextOk.calls _ _ l0 false _ ?side1 ?side2 A2.out).mono ?_);(case side1=>repeat (first|exact HR0.out|(with_reducible first|apply aC|apply nC|apply dC)));(case side2=>exact HC0.out);rintro e w' ⟨rfl,⟨nd,rfl⟩⟩;(try first|exact⟨rfl,_,World.drewN_drewN _ _ _⟩|exact⟨rfl,_,Eq.trans (World.drewN_drewN _ _ _) (congrArg (World.drewN _) (Nat.add_assoc _ _ _))⟩)));try go_wp2_with (first|(go_at_call 39;(with_reducible refine (impl_TextOk.calls _ _ l0 false _ ?side1 ?side2 A2.out).mono ?_);(case side1=>repeat (first|exact HR0.out|(with_reducible first|apply aC|apply nC|apply dC)));(case side2=>exact HC0.out);rintro e w' ⟨rfl,⟨nd,rfl⟩⟩;(try first|exact⟨rfl,_,World.drewN_drewN _ _ _⟩|exact⟨rfl,_,Eq.trans (World.drewN_drewN _ _ _) (congrArg (World.drewN _) (Nat.add_assoc _ _ _))⟩))))
  go_ret2
  exact⟨by first|rfl|(simp [errW_none,errW_some] <;> rfl)|(simp [*,errW_none,errW_some] <;> rfl),kB HB.out⟩

 subst c3
 have H1:((impl_lcpRows.f k l0).bind fun t145=>((slices_Max_int_int.f k t145).bind fun t148=>(if t148 = 0 then (some (0,0)) else (impl_Longest.l0 k l0 t148 (l0.length:Int) 0)))) = some (r1,r2):=by rw [if_pos rfl] at H;exact H
 clear H
 have H:=H1
 clear H1
 replace H:=Option.bind_eq_some_iff.mp H
 obtain⟨t145,A40,H⟩:=H
 replace H:((slices_Max_int_int.f k t145).bind fun t148=>(if t148 = 0 then (some (0,0)) else (impl_Longest.l0 k l0 t148 (l0.length:Int) 0))) = some (r1,r2):=H
 have A4:=mk0 A40
 clear A40
 replace H:=Option.bind_eq_some_iff.mp H
 obtain⟨t148,A50,H⟩:=H
 replace H:(if t148 = 0 then (some (0,0)) else (impl_Longest.l0 k l0 t148 (l0.length:Int) 0)) = some (r1,r2):=H
 have A5:=mk0 A50
 clear A50
 by_cases c6:t148 = 0
 ·rw [if_pos c6] at H
  have c6b0:(t148 == 0) = true:=beq_iff_eq.mpr c6
  have c6b1:(t148 != 0) = false:=bne_eq_false_iff_eq.mpr c6
  clear c6
  simp only [Option.some.injEq,Prod.mk.injEq] at H
  obtain⟨rfl,rfl⟩:=H
  go_enter Try.func24,Try.ntmps24
  go_wp2_with (first|(go_at_call 39;(with_reducible refine (impl_TextOk.calls _ _ l0 true _ ?side1 ?side2 A2.out).mono ?_);(case side1=>repeat (first|exact HR0.out|(with_reducible first|apply aC|apply nC|apply dC)));(case side2=>exact HC0.out);rintro e w' ⟨rfl,⟨nd,rfl⟩⟩;(try first|exact⟨rfl,_,World.drewN_drewN _ _ _⟩|exact⟨rfl,_,Eq.trans (World.drewN_drewN _ _ _) (congrArg (World.drewN _) (Nat.add_assoc _ _ _))⟩))|(go_at_call 41;(with_reducible refine (impl_lcpRows.calls k _ _ l0 t145 _ ?side1 ?side2 A4.out).mono ?_);(case side1=>repeat (first|exact HR0.out|(with_reducible first|apply aC|apply nC|apply dC)));(case side2=>exact HC0.out);rintro e w7 ⟨v146,rfl,ho0,hb⟩;have HO147:=mk0 (Kd.R_lower ho0 (kZ HB.out));replace HB:=mk0 (kS HB.out hb);(try clear hb);(try clear ho0);obtain⟨Ao8,co8,eo8⟩:=Kd.R_slice HO147.out;subst eo8)|(go_at_call 50;(with_reducible refine (slices_Max_int_int.calls k _ _ t145 t148 _ ?side1 ?side2 A5.out).mono ?_);(case side1=>exact kC (Kd.R_reads' HO147.out).2.2);(case side2=>exact (Kd.R_reads' HO147.out).2.1);rintro e w9 ⟨rfl,hb⟩;replace HO147:=mk0 (bR HO147.out hb);replace HB:=mk0 (kS HB.out hb);(try clear hb)))
  repeat (go_quiet (first|(go_at_call 39;(with_reducible refine (impl_TextOk.calls _ _ l0 true _ ?side1 ?side2 A2.out).mono ?_);(case side1=>repeat (first|exact HR0.out|(with_reducible first|apply aC|apply nC|apply dC)));(case side2=>exact HC0.out);rintro e w' ⟨rfl,⟨nd,rfl⟩⟩;(try first|exact⟨rfl,_,World.drewN_drewN _ _ _⟩|exact⟨rfl,_,Eq.trans (World.drewN_drewN _ _ _) (congrArg (World.drewN _) (Nat.add_assoc _ _ _))⟩))|(go_at_call 41;(with_reducible refine (impl_lcpRows.calls k _ _ l0 t145 _ ?side1 ?side2 A4.out).mono ?_);(case side1=>repeat (first|exact HR0.out|(with_reducible first|apply aC|apply nC|apply dC)));(case side2=>exact HC0.out);rintro e w7 ⟨v146,rfl,ho0,hb⟩;have HO147:=mk0 (Kd.R_lower ho0 (kZ HB.out));replace HB:=mk0 (kS HB.out hb);(try clear hb);(try clear ho0);obtain⟨Ao8,co8,eo8⟩:=Kd.R_slice HO147.out;subst eo8)|(go_at_call 50;(with_reducible refine (slices_Max_int_int.calls k _ _ t145 t148 _ ?side1 ?side2 A5.out).mono ?_);(case side1=>exact kC (Kd.R_reads' HO147.out).2.2);(case side2=>exact (Kd.R_reads' HO147.out).2.1);rintro e w9 ⟨rfl,hb⟩;replace HO147:=mk0 (bR HO147.out hb);replace HB:=mk0 (kS HB.out hb);(try clear hb)));try go_wp2_with (first|(go_at_call 39;(with_reducible refine (impl_TextOk.calls _ _ l0 true _ ?side1 ?side2 A2.out).mono ?_);(case side1=>repeat (first|exact HR0.out|(with_reducible first|apply aC|apply nC|apply dC)));(case side2=>exact HC0.out);rintro e w' ⟨rfl,⟨nd,rfl⟩⟩;(try first|exact⟨rfl,_,World.drewN_drewN _ _ _⟩|exact⟨rfl,_,Eq.trans (World.drewN_drewN _ _ _) (congrArg (World.drewN _) (Nat.add_assoc _ _ _))⟩))|(go_at_call 41;(with_reducible refine (impl_lcpRows.calls k _ _ l0 t145 _ ?side1 ?side2 A4.out).mono ?_);(case side1=>repeat (first|exact HR0.out|(with_reducible first|apply aC|apply nC|apply dC)));(case side2=>exact HC0.out);rintro e w7 ⟨v146,rfl,ho0,hb⟩;have HO147:=mk0 (Kd.R_lower ho0 (kZ HB.out));replace HB:=mk0 (kS HB.out hb);(try clear hb);(try clear ho0);obtain⟨Ao8,co8,eo8⟩:=Kd.R_slice HO147.out;subst eo8)|(go_at_call 50;(with_reducible refine (slices_Max_int_int.calls k _ _ t145 t148 _ ?side1 ?side2 A5.out).mono ?_);(case side1=>exact kC (Kd.R_reads' HO147.out).2.2);(case side2=>exact (Kd.R_reads' HO147.out).2.1);rintro e w9 ⟨rfl,hb⟩;replace HO147:=mk0 (bR HO147.out hb);replace HB:=mk0 (kS HB.out hb);(try clear hb))))
  go_ret2
  exact⟨by first|rfl|(simp [errW_none,errW_some] <;> rfl)|(simp [*,errW_none,errW_some] <;> rfl),kB HB.out⟩
 rw [if_neg c6] at H
 have c6b0:(t148 == 0) = false:=beq_eq_false_iff_ne.mpr c6
 have c6b1:(t148 != 0) = true:=bne_iff_ne.mpr c6
 have H':=mk0 H
 clear H
 go_enter Try.func24,Try.ntmps24
 go_wp2_with (first|(go_at_call 39;(with_reducible refine (impl_TextOk.calls _ _ l0 true _ ?side1 ?side2 A2.out).mono ?_);(case side1=>repeat (first|exact HR0.out|(with_reducible first|apply aC|apply nC|apply dC)));(case side2=>exact HC0.out);rintro e w' ⟨rfl,⟨nd,rfl⟩⟩;(try first|exact⟨rfl,_,World.drewN_drewN _ _ _⟩|exact⟨rfl,_,Eq.trans (World.drewN_drewN _ _ _) (congrArg (World.drewN _) (Nat.add_assoc _ _ _))⟩))|(go_at_call 41;(with_reducible refine (impl_lcpRows.calls k _ _ l0 t145 _ ?side1 ?side2 A4.out).mono ?_);(case side1=>repeat (first|exact HR0.out|(with_reducible first|apply aC|apply nC|apply dC)));(case side2=>exact HC0.out);rintro e w10 ⟨v146,rfl,ho0,hb⟩;have HO147:=mk0 (Kd.R_lower ho0 (kZ HB.out));replace HB:=mk0 (kS HB.out hb);(try clear hb);(try clear ho0);obtain⟨Ao11,co11,eo11⟩:=Kd.R_slice HO147.out;subst eo11)|(go_at_call 50;(with_reducible refine (slices_Max_int_int.calls k _ _ t145 t148 _ ?side1 ?side2 A5.out).mono ?_);(case side1=>exact kC (Kd.R_reads' HO147.out).2.2);(case side2=>exact (Kd.R_reads' HO147.out).2.1);rintro e w12 ⟨rfl,hb⟩;replace HO147:=mk0 (bR HO147.out hb);replace HB:=mk0 (kS HB.out hb);(try clear hb)))
 repeat (go_quiet (first|(go_at_call 39;(with_reducible refine (impl_TextOk.calls _ _ l0 true _ ?side1 ?side2 A2.out).mono ?_);(case side1=>repeat (first|exact HR0.out|(with_reducible first|apply aC|apply nC|apply dC)));(case side2=>exact HC0.out);rintro e w' ⟨rfl,⟨nd,rfl⟩⟩;(try first|exact⟨rfl,_,World.drewN_drewN _ _ _⟩|exact⟨rfl,_,Eq.trans (World.drewN_drewN _ _ _) (congrArg (World.drewN _) (Nat.add_assoc _ _ _))⟩))|(go_at_call 41;(with_reducible refine (impl_lcpRows.calls k _ _ l0 t145 _ ?side1 ?side2 A4.out).mono ?_);(case side1=>repeat (first|exact HR0.out|(with_reducible first|apply aC|apply nC|apply dC)));(case side2=>exact HC0.out);rintro e w10 ⟨v146,rfl,ho0,hb⟩;have HO147:=mk0 (Kd.R_lower ho0 (kZ HB.out));replace HB:=mk0 (kS HB.out hb);(try clear hb);(try clear ho0);obtain⟨Ao11,co11,eo11⟩:=Kd.R_slice HO147.out;subst eo11)|(go_at_call 50;(with_reducible refine (slices_Max_int_int.calls k _ _ t145 t148 _ ?side1 ?side2 A5.out).mono ?_);(case side1=>exact kC (Kd.R_reads' HO147.out).2.2);(case side2=>exact (Kd.R_reads' HO147.out).2.1);rintro e w12 ⟨rfl,hb⟩;replace HO147:=mk0 (bR HO147.out hb);replace HB:=mk0 (kS HB.out hb);(try clear hb)));try go_wp2_with (first|(go_at_call 39;(with_reducible refine (impl_TextOk.calls _ _ l0 true _ ?side1 ?side2 A2.out).mono ?_);(case side1=>repeat (first|exact HR0.out|(with_reducible first|apply aC|apply nC|apply dC)));(case side2=>exact HC0.out);rintro e w' ⟨rfl,⟨nd,rfl⟩⟩;(try first|exact⟨rfl,_,World.drewN_drewN _ _ _⟩|exact⟨rfl,_,Eq.trans (World.drewN_drewN _ _ _) (congrArg (World.drewN _) (Nat.add_assoc _ _ _))⟩))|(go_at_call 41;(with_reducible refine (impl_lcpRows.calls k _ _ l0 t145 _ ?side1 ?side2 A4.out).mono ?_);(case side1=>repeat (first|exact HR0.out|(with_reducible first|apply aC|apply nC|apply dC)));(case side2=>exact HC0.out);rintro e w10 ⟨v146,rfl,ho0,hb⟩;have HO147:=mk0 (Kd.R_lower ho0 (kZ HB.out));replace HB:=mk0 (kS HB.out hb);(try clear hb);(try clear ho0);obtain⟨Ao11,co11,eo11⟩:=Kd.R_slice HO147.out;subst eo11)|(go_at_call 50;(with_reducible refine (slices_Max_int_int.calls k _ _ t145 t148 _ ?side1 ?side2 A5.out).mono ?_);(case side1=>exact kC (Kd.R_reads' HO147.out).2.2);(case side2=>exact (Kd.R_reads' HO147.out).2.1);rintro e w12 ⟨rfl,hb⟩;replace HO147:=mk0 (bR HO147.out hb);replace HB:=mk0 (kS HB.out hb);(try clear hb))))
 go_loopg [16] k (fun kq v16 w'=>∃ (x16_1:Int),v16 = .int .i64 x16_1 ∧ Aside0 (impl_Longest.l0 kq l0 t148 (l0.length:Int) x16_1 = some (r1,r2)) ∧ Aside0 (kq ≤ k) ∧ Aside0 (Below w.heap.size w w'))
 case atStart=>exact⟨(0),(by first|rfl|(simp;done)|(simp [*];done)),H',⟨Nat.le_refl _⟩,⟨kB HB.out⟩⟩
 case round =>
  clear H'
  try clear c2
  try clear p2
  try clear c3
  try clear c6
  try clear c6b0
  try clear c6b1
  obtain⟨x16_1,rfl,HA,HK1,HB⟩:=hrel
  cases gk with
  | zero=>exact absurd HA.out (by simp [impl_Longest.l0])
  | succ k1 =>
   have H:=HA.out
   clear HA
   simp only [impl_Longest.l0] at H
   by_cases c13:x16_1 < (l0.length:Int)
   rotate_left
   ·rw [if_neg c13] at H
    have c13b0:decide (x16_1 < (l0.length:Int)) = false:=decide_eq_false c13
    clear c13
    simp only [Option.some.injEq,Prod.mk.injEq] at H
    obtain⟨rfl,rfl⟩:=H
    go_wp2
    repeat (go_quiet (fail);try go_wp2)
    go_ret2
    exact⟨by first|rfl|(simp [errW_none,errW_some] <;> rfl)|(simp [*,errW_none,errW_some] <;> rfl),kB HB.out⟩
   rw [if_pos c13] at H
   have c13b0:decide (x16_1 < (l0.length:Int)) = true:=decide_eq_true c13
   clear c13
   by_cases c14:(wrap64 (x16_1 + t148)) ≤ (l0.length:Int)
   rotate_left
   ·rw [if_neg c14] at H
    have c14b0:decide ((wrap64 (x16_1 + t148)) ≤ (l0.length:Int)) = false:=decide_eq_false c14
    clear c14
    have H':=mk0 H
    clear H
    go_wp2
    repeat (go_quiet (fail);try go_wp2)
    go_roundg k1
    case measure=>have:=HK1.out;omega
    case rel=>exact⟨(wrap64 (x16_1 + 1)),(by first|rfl|(simp;done)|(simp [*];done)),H',⟨by have:=HK1.out;omega⟩,⟨kB HB.out⟩⟩
   rw [if_pos c14] at H
   have c14b0:decide ((wrap64 (x16_1 + t148)) ≤ (l0.length:Int)) = true:=decide_eq_true c14
   clear c14
   have hw14:(IntKind.i64.wrap (x16_1 + t148)) = wrap64 (x16_1 + t148):=i64_w _
   obtain⟨ji15,hji15⟩:∃ j_:Int,(wrap64 (x16_1 + 1)) = j_:=⟨_,rfl⟩
   replace H:(if 0 ≤ (ji15) then (if (ji15) ≤ (l0.length:Int) then (if 0 ≤ x16_1 then (if x16_1 ≤ (wrap64 (x16_1 + t148)) then ((bytes_Contains.f (l0.drop ((ji15):Int).toNat) ((l0.take ((wrap64 (x16_1 + t148)):Int).toNat).drop (x16_1:Int).toNat)).bind fun t151=>(if t151 = true then (some (t148,x16_1)) else (impl_Longest.l0 k1 l0 t148 (l0.length:Int) ji15))) else (none)) else (none)) else (none)) else (none)) = some (r1,r2):=by first|(rw [hji15] at H;exact H)|(simp only [hji15] at H ⊢;exact H)
   have hji15w:(IntKind.i64.wrap (x16_1 + 1)) = ji15:=(i64_w _).trans hji15
   by_cases c16:0 ≤ (ji15)
   rotate_left
   ·rw [if_neg c16] at H
    exact absurd H (by simp)
   rw [if_pos c16] at H
   have c16b0:=eq_true c16
   have c16b1:decide (0 ≤ (ji15)) = true:=decide_eq_true c16
   clear c16
   by_cases c17:(ji15) ≤ (l0.length:Int)
   rotate_left
   ·rw [if_neg c17] at H
    exact absurd H (by simp)
   rw [if_pos c17] at H
   have c17b0:=eq_true c17
   have c17b1:decide ((ji15) ≤ (l0.length:Int)) = true:=decide_eq_true c17
   clear c17
   by_cases c18:0 ≤ x16_1
   rotate_left
   ·rw [if_neg c18] at H
    exact absurd H (by simp)
   rw [if_pos c18] at H
   have c18b0:=eq_true c18
   have c18b1:decide (0 ≤ x16_1) = true:=decide_eq_true c18
   clear c18
   by_cases c19:x16_1 ≤ (wrap64 (x16_1 + t148))
   rotate_left
   ·rw [if_neg c19] at H
    exact absurd H (by simp)
   rw [if_pos c19] at H
   have c19b0:=eq_true c19
   have c19b1:decide (x16_1 ≤ (wrap64 (x16_1 + t148))) = true:=decide_eq_true c19
   have c20b0:=eq_true (of_decide_eq_true (by first|(with_reducible assumption)|assumption):(wrap64 (x16_1 + t148)) ≤ (l0.length:Int))
   replace H:=Option.bind_eq_some_iff.mp H
   obtain⟨t151,A210,H⟩:=H
   replace H:(if t151 = true then (some (t148,x16_1)) else (impl_Longest.l0 k1 l0 t148 (l0.length:Int) ji15)) = some (r1,r2):=H
   have A21:=mk0 A210
   clear A210
   by_cases c22:t151 = true
   ·subst c22
    have H1:(some (t148,x16_1)) = some (r1,r2):=by rw [if_pos rfl] at H;exact H
    clear H
    have H:=H1
    clear H1
    simp only [Option.some.injEq,Prod.mk.injEq] at H
    obtain⟨rfl,rfl⟩:=H
    obtain⟨i023,hi023,_,hsz23,_⟩:=info_parts info5
    obtain⟨A23,hcut23,hA23,hC23⟩:=print_drop_of (P:=Try.prog) (Value.int .u8) 0 22 5 .i64 Try.underlying22 hi023 hsz23 A0 c0 l0 (ji15) (of_decide_eq_true (by first|(with_reducible assumption)|assumption)) (of_decide_eq_true (by first|(with_reducible assumption)|assumption)) HC0.out
    have HR149:=mk0 (Kd.C_of_reads (h1:=fun _=>rfl) (hA23 _ (Kd.reads_of_C HR0.out)))
    have HC149:=mk0 hC23
    have HN_23:=mk0 (drop_some Try.underlying22 hi023 hsz23 (of_decide_eq_true (by first|(with_reducible assumption)|assumption)) (of_decide_eq_true (by first|(with_reducible assumption)|assumption)) (fun e_=>by have u1:=of_decide_eq_true c18b1;have u2:=of_decide_eq_true c13b0;obtain⟨_,e2,_⟩:=(Kd.reads_of_C (d:=(0:Int)) HR0.out).2.2 (by omega);rw [e_] at e2;cases e2) hcut23 w)
    clear hA23 hC23 hi023 hsz23
    obtain⟨i024,hi024,_,hsz24,_⟩:=info_parts info5
    obtain⟨A24,hcut24,hA24,hC24⟩:=print_mid_of (P:=Try.prog) (Value.int .u8) 0 22 5 .i64 .i64 Try.underlying22 hi024 hsz24 A0 c0 l0 x16_1 (wrap64 (x16_1 + t148)) (of_decide_eq_true (by first|(with_reducible assumption)|assumption)) (by first|omega|exact of_decide_eq_true (by first|(with_reducible assumption)|assumption)) (of_decide_eq_true (by first|(with_reducible assumption)|assumption)) HC0.out
    have HR150:=mk0 (Kd.C_of_reads (h1:=fun _=>rfl) (hA24 _ (Kd.reads_of_C HR0.out)))
    have HC150:=mk0 hC24
    clear hA24 hC24 hi024 hsz24
    go_wp2_with (first|(go_at_call 51;refine calls_of_args (args':=#[.slice A23 (l0.drop ((ji15):Int).toNat).length (c0 - (ji15).toNat),.slice A24 ((l0.take ((wrap64 (x16_1 + t148)):Int).toNat).drop (x16_1:Int).toNat).length (c0 - x16_1.toNat)]) (by first|(rw [show (l0.drop ((ji15):Int).toNat).length = (l0.length - (ji15).toNat) from List.length_drop,show ((l0.take ((wrap64 (x16_1 + t148)):Int).toNat).drop (x16_1:Int).toNat).length = ((wrap64 (x16_1 + t148)).toNat - x16_1.toNat) from (by rw [List.length_drop,List.length_take];have h_:((wrap64 (x16_1 + t148)):Int) ≤ (l0.length:Int):=of_decide_eq_true (by first|(with_reducible assumption)|assumption);omega)] <;> rfl)|(rw [show (l0.drop ((ji15):Int).toNat).length = (l0.length - (ji15).toNat) from List.length_drop] <;> rfl)|(rw [show ((l0.take ((wrap64 (x16_1 + t148)):Int).toNat).drop (x16_1:Int).toNat).length = ((wrap64 (x16_1 + t148)).toNat - x16_1.toNat) from (by rw [List.length_drop,List.length_take];have h_:((wrap64 (x16_1 + t148)):Int) ≤ (l0.length:Int):=of_decide_eq_true (by first|(with_reducible assumption)|assumption);omega)] <;> rfl)|rfl|(simp only [List.length_drop,List.length_take];done)|(simp only [List.length_drop,List.length_take];rfl)) ?_;(with_reducible refine (bytes_Contains.calls _ _ (l0.drop ((ji15):Int).toNat) _ _ ((l0.take ((wrap64 (x16_1 + t148)):Int).toNat).drop (x16_1:Int).toNat) true _ ?side1 ?side2 ?side3 ?side4 A21.out ?side8 ?side9).mono ?_);(case side8=>exact HN_23.out);(case side9=>exact HasMax.below HM_.out (kB HB.out));(case side1=>exact kC (Kd.C_below HR149.out HB.out));(case side2=>exact HC149.out);(case side3=>exact kC (Kd.C_below HR150.out HB.out));(case side4=>exact HC150.out);rintro e w' ⟨rfl,⟨nd,rfl⟩⟩;(try first|exact⟨rfl,_,World.drewN_drewN _ _ _⟩|exact⟨rfl,_,Eq.trans (World.drewN_drewN _ _ _) (congrArg (World.drewN _) (Nat.add_assoc _ _ _))⟩)))
    repeat (go_quiet (first|(go_at_call 51;refine calls_of_args (args':=#[.slice A23 (l0.drop ((ji15):Int).toNat).length (c0 - (ji15).toNat),.slice A24 ((l0.take ((wrap64 (x16_1 + t148)):Int).toNat).drop (x16_1:Int).toNat).length (c0 - x16_1.toNat)]) (by first|(rw [show (l0.drop ((ji15):Int).toNat).length = (l0.length - (ji15).toNat) from List.length_drop,show ((l0.take ((wrap64 (x16_1 + t148)):Int).toNat).drop (x16_1:Int).toNat).length = ((wrap64 (x16_1 + t148)).toNat - x16_1.toNat) from (by rw [List.length_drop,List.length_take];have h_:((wrap64 (x16_1 + t148)):Int) ≤ (l0.length:Int):=of_decide_eq_true (by first|(with_reducible assumption)|assumption);omega)] <;> rfl)|(rw [show (l0.drop ((ji15):Int).toNat).length = (l0.length - (ji15).toNat) from List.length_drop] <;> rfl)|(rw [show ((l0.take ((wrap64 (x16_1 + t148)):Int).toNat).drop (x16_1:Int).toNat).length = ((wrap64 (x16_1 + t148)).toNat - x16_1.toNat) from (by rw [List.length_drop,List.length_take];have h_:((wrap64 (x16_1 + t148)):Int) ≤ (l0.length:Int):=of_decide_eq_true (by first|(with_reducible assumption)|assumption);omega)] <;> rfl)|rfl|(simp only [List.length_drop,List.length_take];done)|(simp only [List.length_drop,List.length_take];rfl)) ?_;(with_reducible refine (bytes_Contains.calls _ _ (l0.drop ((ji15):Int).toNat) _ _ ((l0.take ((wrap64 (x16_1 + t148)):Int).toNat).drop (x16_1:Int).toNat) true _ ?side1 ?side2 ?side3 ?side4 A21.out ?side8 ?side9).mono ?_);(case side8=>exact HN_23.out);(case side9=>exact HasMax.below HM_.out (kB HB.out));(case side1=>exact kC (Kd.C_below HR149.out HB.out));(case side2=>exact HC149.out);(case side3=>exact kC (Kd.C_below HR150.out HB.out));(case side4=>exact HC150.out);rintro e w' ⟨rfl,⟨nd,rfl⟩⟩;(try first|exact⟨rfl,_,World.drewN_drewN _ _ _⟩|exact⟨rfl,_,Eq.trans (World.drewN_drewN _ _ _) (congrArg (World.drewN _) (Nat.add_assoc _ _ _))⟩)));try go_wp2_with (first|(go_at_call 51;refine calls_of_args (args':=#[.slice A23 (l0.drop ((ji15):Int).toNat).length (c0 - (ji15).toNat),.slice A24 ((l0.take ((wrap64 (x16_1 + t148)):Int).toNat).drop (x16_1:Int).toNat).length (c0 - x16_1.toNat)]) (by first|(rw [show (l0.drop ((ji15):Int).toNat).length = (l0.length - (ji15).toNat) from List.length_drop,show ((l0.take ((wrap64 (x16_1 + t148)):Int).toNat).drop (x16_1:Int).toNat).length = ((wrap64 (x16_1 + t148)).toNat - x16_1.toNat) from (by rw [List.length_drop,List.length_take];have h_:((wrap64 (x16_1 + t148)):Int) ≤ (l0.length:Int):=of_decide_eq_true (by first|(with_reducible assumption)|assumption);omega)] <;> rfl)|(rw [show (l0.drop ((ji15):Int).toNat).length = (l0.length - (ji15).toNat) from List.length_drop] <;> rfl)|(rw [show ((l0.take ((wrap64 (x16_1 + t148)):Int).toNat).drop (x16_1:Int).toNat).length = ((wrap64 (x16_1 + t148)).toNat - x16_1.toNat) from (by rw [List.length_drop,List.length_take];have h_:((wrap64 (x16_1 + t148)):Int) ≤ (l0.length:Int):=of_decide_eq_true (by first|(with_reducible assumption)|assumption);omega)] <;> rfl)|rfl|(simp only [List.length_drop,List.length_take];done)|(simp only [List.length_drop,List.length_take];rfl)) ?_;(with_reducible refine (bytes_Contains.calls _ _ (l0.drop ((ji15):Int).toNat) _ _ ((l0.take ((wrap64 (x16_1 + t148)):Int).toNat).drop (x16_1:Int).toNat) true _ ?side1 ?side2 ?side3 ?side4 A21.out ?side8 ?side9).mono ?_);(case side8=>exact HN_23.out);(case side9=>exact HasMax.below HM_.out (kB HB.out));(case side1=>exact kC (Kd.C_below HR149.out HB.out));(case side2=>exact HC149.out);(case side3=>exact kC (Kd.C_below HR150.out HB.out));(case side4=>exact HC150.out);rintro e w' ⟨rfl,⟨nd,rfl⟩⟩;(try first|exact⟨rfl,_,World.drewN_drewN _ _ _⟩|exact⟨rfl,_,Eq.trans (World.drewN_drewN _ _ _) (congrArg (World.drewN _) (Nat.add_assoc _ _ _))⟩))))
    go_ret2
    exact⟨by first|rfl|(simp [errW_none,errW_some] <;> rfl)|(simp only [← hji15];first|rfl|(simp [errW_none,errW_some] <;> rfl))|(simp [*,errW_none,errW_some] <;> rfl),kB HB.out⟩
   replace c22:=Bool.eq_false_iff.mpr c22
   subst c22
   have H1:(impl_Longest.l0 k1 l0 t148 (l0.length:Int) ji15) = some (r1,r2):=by rw [if_neg (show ¬ (false = true) by decide)] at H;exact H
   clear H
   have H:=H1
   clear H1
   have H':=mk0 H
   clear H
   obtain⟨i025,hi025,_,hsz25,_⟩:=info_parts info5
   obtain⟨A25,hcut25,hA25,hC25⟩:=print_drop_of (P:=Try.prog) (Value.int .u8) 0 22 5 .i64 Try.underlying22 hi025 hsz25 A0 c0 l0 (ji15) (of_decide_eq_true (by first|(with_reducible assumption)|assumption)) (of_decide_eq_true (by first|(with_reducible assumption)|assumption)) HC0.out
   have HR149:=mk0 (Kd.C_of_reads (h1:=fun _=>rfl) (hA25 _ (Kd.reads_of_C HR0.out)))
   have HC149:=mk0 hC25
   have HN_25:=mk0 (drop_some Try.underlying22 hi025 hsz25 (of_decide_eq_true (by first|(with_reducible assumption)|assumption)) (of_decide_eq_true (by first|(with_reducible assumption)|assumption)) (fun e_=>by have u1:=of_decide_eq_true c18b1;have u2:=of_decide_eq_true c13b0;obtain⟨_,e2,_⟩:=(Kd.reads_of_C (d:=(0:Int)) HR0.out).2.2 (by omega);rw [e_] at e2;cases e2) hcut25 w)
   clear hA25 hC25 hi025 hsz25
   obtain⟨i026,hi026,_,hsz26,_⟩:=info_parts info5
   obtain⟨A26,hcut26,hA26,hC26⟩:=print_mid_of (P:=Try.prog) (Value.int .u8) 0 22 5 .i64 .i64 Try.underlying22 hi026 hsz26 A0 c0 l0 x16_1 (wrap64 (x16_1 + t148)) (of_decide_eq_true (by first|(with_reducible assumption)|assumption)) (by first|omega|exact of_decide_eq_true (by first|(with_reducible assumption)|assumption)) (of_decide_eq_true (by first|(with_reducible assumption)|assumption)) HC0.out
   have HR150:=mk0 (Kd.C_of_reads (h1:=fun _=>rfl) (hA26 _ (Kd.reads_of_C HR0.out)))
   have HC150:=mk0 hC26
   clear hA26 hC26 hi026 hsz26
   go_wp2_with (first|(go_at_call 51;refine calls_of_args (args':=#[.slice A25 (l0.drop ((ji15):Int).toNat).length (c0 - (ji15).toNat),.slice A26 ((l0.take ((wrap64 (x16_1 + t148)):Int).toNat).drop (x16_1:Int).toNat).length (c0 - x16_1.toNat)]) (by first|(rw [show (l0.drop ((ji15):Int).toNat).length = (l0.length - (ji15).toNat) from List.length_drop,show ((l0.take ((wrap64 (x16_1 + t148)):Int).toNat).drop (x16_1:Int).toNat).length = ((wrap64 (x16_1 + t148)).toNat - x16_1.toNat) from (by rw [List.length_drop,List.length_take];have h_:((wrap64 (x16_1 + t148)):Int) ≤ (l0.length:Int):=of_decide_eq_true (by first|(with_reducible assumption)|assumption);omega)] <;> rfl)|(rw [show (l0.drop ((ji15):Int).toNat).length = (l0.length - (ji15).toNat) from List.length_drop] <;> rfl)|(rw [show ((l0.take ((wrap64 (x16_1 + t148)):Int).toNat).drop (x16_1:Int).toNat).length = ((wrap64 (x16_1 + t148)).toNat - x16_1.toNat) from (by rw [List.length_drop,List.length_take];have h_:((wrap64 (x16_1 + t148)):Int) ≤ (l0.length:Int):=of_decide_eq_true (by first|(with_reducible assumption)|assumption);omega)] <;> rfl)|rfl|(simp only [List.length_drop,List.length_take];done)|(simp only [List.length_drop,List.length_take];rfl)) ?_;(with_reducible refine (bytes_Contains.calls _ _ (l0.drop ((ji15):Int).toNat) _ _ ((l0.take ((wrap64 (x16_1 + t148)):Int).toNat).drop (x16_1:Int).toNat) false _ ?side1 ?side2 ?side3 ?side4 A21.out ?side8 ?side9).mono ?_);(case side8=>exact HN_25.out);(case side9=>exact HasMax.below HM_.out (kB HB.out));(case side1=>exact kC (Kd.C_below HR149.out HB.out));(case side2=>exact HC149.out);(case side3=>exact kC (Kd.C_below HR150.out HB.out));(case side4=>exact HC150.out);rintro e w' ⟨rfl,⟨nd,rfl⟩⟩;(try first|exact⟨rfl,_,World.drewN_drewN _ _ _⟩|exact⟨rfl,_,Eq.trans (World.drewN_drewN _ _ _) (congrArg (World.drewN _) (Nat.add_assoc _ _ _))⟩)))
   repeat (go_quiet (first|(go_at_call 51;refine calls_of_args (args':=#[.slice A25 (l0.drop ((ji15):Int).toNat).length (c0 - (ji15).toNat),.slice A26 ((l0.take ((wrap64 (x16_1 + t148)):Int).toNat).drop (x16_1:Int).toNat).length (c0 - x16_1.toNat)]) (by first|(rw [show (l0.drop ((ji15):Int).toNat).length = (l0.length - (ji15).toNat) from List.length_drop,show ((l0.take ((wrap64 (x16_1 + t148)):Int).toNat).drop (x16_1:Int).toNat).length = ((wrap64 (x16_1 + t148)).toNat - x16_1.toNat) from (by rw [List.length_drop,List.length_take];have h_:((wrap64 (x16_1 + t148)):Int) ≤ (l0.length:Int):=of_decide_eq_true (by first|(with_reducible assumption)|assumption);omega)] <;> rfl)|(rw [show (l0.drop ((ji15):Int).toNat).length = (l0.length - (ji15).toNat) from List.length_drop] <;> rfl)|(rw [show ((l0.take ((wrap64 (x16_1 + t148)):Int).toNat).drop (x16_1:Int).toNat).length = ((wrap64 (x16_1 + t148)).toNat - x16_1.toNat) from (by rw [List.length_drop,List.length_take];have h_:((wrap64 (x16_1 + t148)):Int) ≤ (l0.length:Int):=of_decide_eq_true (by first|(with_reducible assumption)|assumption);omega)] <;> rfl)|rfl|(simp only [List.length_drop,List.length_take];done)|(simp only [List.length_drop,List.length_take];rfl)) ?_;(with_reducible refine (bytes_Contains.calls _ _ (l0.drop ((ji15):Int).toNat) _ _ ((l0.take ((wrap64 (x16_1 + t148)):Int).toNat).drop (x16_1:Int).toNat) false _ ?side1 ?side2 ?side3 ?side4 A21.out ?side8 ?side9).mono ?_);(case side8=>exact HN_25.out);(case side9=>exact HasMax.below HM_.out (kB HB.out));(case side1=>exact kC (Kd.C_below HR149.out HB.out));(case side2=>exact HC149.out);(case side3=>exact kC (Kd.C_below HR150.out HB.out));(case side4=>exact HC150.out);rintro e w' ⟨rfl,⟨nd,rfl⟩⟩;(try first|exact⟨rfl,_,World.drewN_drewN _ _ _⟩|exact⟨rfl,_,Eq.trans (World.drewN_drewN _ _ _) (congrArg (World.drewN _) (Nat.add_assoc _ _ _))⟩)));try go_wp2_with (first|(go_at_call 51;refine calls_of_args (args':=#[.slice A25 (l0.drop ((ji15):Int).toNat).length (c0 - (ji15).toNat),.slice A26 ((l0.take ((wrap64 (x16_1 + t148)):Int).toNat).drop (x16_1:Int).toNat).length (c0 - x16_1.toNat)]) (by first|(rw [show (l0.drop ((ji15):Int).toNat).length = (l0.length - (ji15).toNat) from List.length_drop,show ((l0.take ((wrap64 (x16_1 + t148)):Int).toNat).drop (x16_1:Int).toNat).length = ((wrap64 (x16_1 + t148)).toNat - x16_1.toNat) from (by rw [List.length_drop,List.length_take];have h_:((wrap64 (x16_1 + t148)):Int) ≤ (l0.length:Int):=of_decide_eq_true (by first|(with_reducible assumption)|assumption);omega)] <;> rfl)|(rw [show (l0.drop ((ji15):Int).toNat).length = (l0.length - (ji15).toNat) from List.length_drop] <;> rfl)|(rw [show ((l0.take ((wrap64 (x16_1 + t148)):Int).toNat).drop (x16_1:Int).toNat).length = ((wrap64 (x16_1 + t148)).toNat - x16_1.toNat) from (by rw [List.length_drop,List.length_take];have h_:((wrap64 (x16_1 + t148)):Int) ≤ (l0.length:Int):=of_decide_eq_true (by first|(with_reducible assumption)|assumption);omega)] <;> rfl)|rfl|(simp only [List.length_drop,List.length_take];done)|(simp only [List.length_drop,List.length_take];rfl)) ?_;(with_reducible refine (bytes_Contains.calls _ _ (l0.drop ((ji15):Int).toNat) _ _ ((l0.take ((wrap64 (x16_1 + t148)):Int).toNat).drop (x16_1:Int).toNat) false _ ?side1 ?side2 ?side3 ?side4 A21.out ?side8 ?side9).mono ?_);(case side8=>exact HN_25.out);(case side9=>exact HasMax.below HM_.out (kB HB.out));(case side1=>exact kC (Kd.C_below HR149.out HB.out));(case side2=>exact HC149.out);(case side3=>exact kC (Kd.C_below HR150.out HB.out));(case side4=>exact HC150.out);rintro e w' ⟨rfl,⟨nd,rfl⟩⟩;(try first|exact⟨rfl,_,World.drewN_drewN _ _ _⟩|exact⟨rfl,_,Eq.trans (World.drewN_drewN _ _ _) (congrArg (World.drewN _) (Nat.add_assoc _ _ _))⟩))))
   go_roundg k1
   case measure=>have:=HK1.out;omega
   case rel=>exact⟨(ji15),(by first|rfl|(simp;done)|(simp only [← hji15] <;> (first|rfl|simp))|(simp [*];done)),H',⟨by have:=HK1.out;omega⟩,⟨kB HB.out⟩⟩
/-! ### laws_FnExactLongest: function 6 -/
def laws_FnExactLongest.j0 : Nat → List Int → List Int → Bool → Option (Bool)
 | 0, _, _, _ => none
 | k + 1, x0, x5, x31 => if x31 = true then (some false) else ((laws_toByteS.f k x0).bind fun t162 => ((laws_eqByteS.f k x5 t162).bind fun t165 => (if t165 = true then (some true) else (some false))))
def laws_FnExactLongest.f (k : Nat) (l0 : List Int) : Option (Bool) := if (l0.length : Int) > 1048576 then (some true) else ((laws_toByteS.f k l0).bind fun t152 => ((spec_Longest.f k t152).bind fun bt155 => ((laws_toByteS.f k l0).bind fun t157 => ((impl_Longest.f k t157).bind fun bt160 => (if bt160.1 = bt155.1 then (laws_FnExactLongest.j0 k l0 t157 (bt160.2 != bt155.2)) else (laws_FnExactLongest.j0 k l0 t157 true))))))
theorem laws_FnExactLongest.mono_l : ∀ k, (∀ y0 y1 y2, LeO (laws_FnExactLongest.j0 k y0 y1 y2) (laws_FnExactLongest.j0 (k + 1) y0 y1 y2))
 | 0 => fun _ _ _ r h => by simp [laws_FnExactLongest.j0] at h
 | k + 1 => by
  have ih0 := laws_FnExactLongest.mono_l k
  ·intro y0 y1 y2
   unfold laws_FnExactLongest.j0
   repeat' first|(with_reducible first|exact ih0 _ _ _|exact impl_Longest.mono _ _|exact laws_eqByteS.mono _ _ _|exact laws_toByteS.mono _ _|exact spec_Longest.mono _ _|exact LeO.refl _|exact LeO.none _|refine LeO.ite ?_ ?_|refine LeO.bind ?_ (fun _ => ?_))|exact LeO.none _|refine LeO.ite ?_ ?_|refine LeO.bind ?_ (fun _ => ?_)
theorem laws_FnExactLongest.mono : ∀ a0 k, LeO (laws_FnExactLongest.f k a0) (laws_FnExactLongest.f (k + 1) a0) := by
 intro a0 k
 have ih0 := laws_FnExactLongest.mono_l k
 unfold laws_FnExactLongest.f
 repeat' first|(with_reducible first|exact ih0 _ _ _|exact impl_Longest.mono _ _|exact laws_eqByteS.mono _ _ _|exact laws_toByteS.mono _ _|exact spec_Longest.mono _ _|exact LeO.refl _|exact LeO.none _|refine LeO.ite ?_ ?_|refine LeO.bind ?_ (fun _ => ?_))|exact LeO.none _|refine LeO.ite ?_ ?_|refine LeO.bind ?_ (fun _ => ?_)
set_option maxHeartbeats 8000000 in
set_option maxRecDepth 100000 in
theorem laws_FnExactLongest.calls (k : Nat) (A0 : Option Addr) (c0 : Nat) (l0 : List Int) (r : Bool) (w : World) (hr0 : Kd.C (Kd.int .u8) w A0 l0.length l0) (hc0 : l0.length ≤ c0) (h : laws_FnExactLongest.f k l0 = some r) (hm_ : HasMax w) :
  Calls Try.prog 6 #[.slice A0 l0.length c0] w fun e w' => e = .returned (.bool r) ∧ Below w.heap.size w w' := by
 have HM_:=mk0 hm_
 clear hm_
 have HR0:=mk0 hr0
 have HC0:=mk0 hc0
 clear hr0 hc0
 have HB:=mk0 (Below.refl w.heap.size w)
 have H:(if (l0.length:Int) > 1048576 then (some true) else ((laws_toByteS.f k l0).bind fun t152=>((spec_Longest.f k t152).bind fun bt155=>((laws_toByteS.f k l0).bind fun t157=>((impl_Longest.f k t157).bind fun bt160=>(if bt160.1 = bt155.1 then (laws_FnExactLongest.j0 k l0 t157 (bt160.2 != bt155.2)) else (laws_FnExactLongest.j0 k l0 t157 true))))))) = some r:=h
 clear h
 by_cases c2:(l0.length:Int) > 1048576
 ·rw [if_pos c2] at H
  have c2b0:decide (1048576 < (l0.length:Int)) = true:=decide_eq_true c2
  have c2b1:decide (1048576 < l0.length) = true:=decide_eq_true (by omega)
  clear c2
  obtain rfl:=Option.some.inj H
  go_enter Try.func6,Try.ntmps6
  go_wp2
  go_ret
  exact⟨by first|rfl|(simp [errW_none,errW_some] <;> rfl)|(simp [*,errW_none,errW_some] <;> rfl),kB HB.out⟩
 rw [if_neg c2] at H
 have c2b0:decide (1048576 < (l0.length:Int)) = false:=decide_eq_false c2
 have c2b1:decide (1048576 < l0.length) = false:=decide_eq_false (by omega)
 clear c2
 replace H:=Option.bind_eq_some_iff.mp H
 obtain⟨t152,A30,H⟩:=H
 replace H:((spec_Longest.f k t152).bind fun bt155=>((laws_toByteS.f k l0).bind fun t157=>((impl_Longest.f k t157).bind fun bt160=>(if bt160.1 = bt155.1 then (laws_FnExactLongest.j0 k l0 t157 (bt160.2 != bt155.2)) else (laws_FnExactLongest.j0 k l0 t157 true))))) = some r:=H
 have A3:=mk0 A30
 clear A30
 replace H:=Option.bind_eq_some_iff.mp H
 obtain⟨⟨t155,t156⟩,A40,H⟩:=H
 replace H:((laws_toByteS.f k l0).bind fun t157=>((impl_Longest.f k t157).bind fun bt160=>(if bt160.1 = t155 then (laws_FnExactLongest.j0 k l0 t157 (bt160.2 != t156)) else (laws_FnExactLongest.j0 k l0 t157 true)))) = some r:=H
 have A4:=mk0 A40
 clear A40
 replace H:=Option.bind_eq_some_iff.mp H
 obtain⟨t157,A50,H⟩:=H
 replace H:((impl_Longest.f k t157).bind fun bt160=>(if bt160.1 = t155 then (laws_FnExactLongest.j0 k l0 t157 (bt160.2 != t156)) else (laws_FnExactLongest.j0 k l0 t157 true))) = some r:=H
 have A5:=mk0 A50
 clear A50
 replace H:=Option.bind_eq_some_iff.mp H
 obtain⟨⟨t160,t161⟩,A60,H⟩:=H
 replace H:(if t160 = t155 then (laws_FnExactLongest.j0 k l0 t157 (t161 != t156)) else (laws_FnExactLongest.j0 k l0 t157 true)) = some r:=H
 have A6:=mk0 A60
 clear A60
 have HC7:=mk0 H
 clear H
 go_enter Try.func6,Try.ntmps6
 go_upto_region 6 with (first|((with_reducible refine gate_callee (f:=12) rfl ?_);refine goesL_ (some 13) rfl rfl Try.func12 (by kernel_rfl) rfl #[.slice A0 l0.length c0] rfl (by (try simp only [mA,mC,mN]);first|done|rfl|(simp only [List.length_drop,List.length_take];done)|(simp only [List.length_drop,List.length_take];rfl)) ?_;(with_reducible refine (laws_toByteS.calls k _ _ l0 t152 _ ?side1 ?side2 A3.out).mono ?_);(case side1=>repeat (first|exact HR0.out|(with_reducible first|apply aC|apply nC|apply dC)));(case side2=>exact HC0.out);rintro e w8 ⟨v153,rfl,ho0,hb⟩;refine⟨_,rfl,?_⟩;have HO154:=mk0 (Kd.R_lower ho0 (kZ HB.out));replace HB:=mk0 (kS HB.out hb);(try clear hb);(try clear ho0);obtain⟨Ao9,co9,eo9⟩:=Kd.R_slice HO154.out;subst eo9)|((with_reducible refine gate_callee (f:=23) rfl ?_);refine goesL_ (some 14) rfl rfl Try.func23 (by kernel_rfl) rfl #[.slice Ao9 t152.length co9] rfl (by (try simp only [mA,mC,mN]);first|done|rfl|(simp only [List.length_drop,List.length_take];done)|(simp only [List.length_drop,List.length_take];rfl)) ?_;(with_reducible refine (spec_Longest.calls k _ _ t152 t155 t156 _ ?side1 ?side2 A4.out).mono ?_);(case side1=>exact kC (Kd.R_reads' HO154.out).2.2);(case side2=>exact (Kd.R_reads' HO154.out).2.1);rintro e w' ⟨rfl,⟨nd,rfl⟩⟩;refine⟨_,rfl,?_⟩)|((with_reducible refine gate_callee (f:=12) rfl ?_);refine goesL_ (some 18) rfl rfl Try.func12 (by kernel_rfl) rfl #[.slice A0 l0.length c0] rfl (by (try simp only [mA,mC,mN]);first|done|rfl|(simp only [List.length_drop,List.length_take];done)|(simp only [List.length_drop,List.length_take];rfl)) ?_;(with_reducible refine (laws_toByteS.calls k _ _ l0 t157 _ ?side1 ?side2 A5.out).mono ?_);(case side1=>repeat (first|exact (Kd.C_below HR0.out (kB HB.out))|(with_reducible first|apply aC|apply nC|apply dC)));(case side2=>exact HC0.out);rintro e w10 ⟨v158,rfl,ho0,hb⟩;refine⟨_,rfl,?_⟩;have HO159:=mk0 (Kd.R_lower (Kd.R_new' ho0 (Kd.R_lt (rR HO154.out))) (kZ HB.out));replace HO154:=mk0 (Kd.R_elder' (rR HO154.out) (Kd.R_base ho0) hb);replace HB:=mk0 (kS HB.out hb);(try clear hb);(try clear ho0);obtain⟨Ao11,co11,eo11⟩:=Kd.R_slice HO159.out;subst eo11)|((with_reducible refine gate_callee (f:=24) rfl ?_);refine goesL_ (some 21) rfl rfl Try.func24 (by kernel_rfl) rfl #[.slice Ao11 t157.length co11] rfl (by (try simp only [mA,mC,mN]);first|done|rfl|(simp only [List.length_drop,List.length_take];done)|(simp only [List.length_drop,List.length_take];rfl)) ?_;(with_reducible refine (impl_Longest.calls k _ _ t157 t160 t161 _ ?side1 ?side2 A6.out ?side8).mono ?_);(case side8=>exact HasMax.below HM_.out (kB HB.out));(case side1=>exact kC (Kd.R_reads' HO159.out).2.2);(case side2=>exact (Kd.R_reads' HO159.out).2.1);rintro e w12 ⟨rfl,hb⟩;refine⟨_,rfl,?_⟩;replace HO154:=mk0 (bR HO154.out hb);replace HO159:=mk0 (bR HO159.out hb);replace HB:=mk0 (kS HB.out hb);(try clear hb)))
 (try simp only [Act.put,sA,sO,sS])
 go_cut [31] (fun v31 wc=>∃ (kq:Nat) (x31_6:Bool),v31 = .bool x31_6 ∧ Aside0 (laws_FnExactLongest.j0 kq l0 t157 x31_6 = some r) ∧ Aside0 (kq ≤ k) ∧ Aside0 (Kd.R (Kd.int .u8) 5 wc w.heap.size (fun _=>True) (.slice Ao11 t157.length co11) t157) ∧ Aside0 (Below w.heap.size w wc))
 case first =>
  have H:=HC7.out
  clear HC7
  by_cases c13:t160 = t155
  rotate_left
  ·rw [if_neg c13] at H
   have c13b0:(t160 == t155) = false:=beq_eq_false_iff_ne.mpr c13
   have c13b1:(t160 != t155) = true:=bne_iff_ne.mpr c13
   (first|rw [c13b0]|(simp only [i64_w,i32_w];rw [c13b0])|skip)
   have H':=mk0 H
   clear H
   go_wp2
   go_meet
   case rel=>exact⟨_,(true),(by first|rfl|(simp;done)|(simp [*];done)),H',⟨by first|omega|exact Nat.le_refl _⟩,⟨rR (Kd.R_mono HO159.out (fun _ hk=>trivial))⟩,⟨kB HB.out⟩⟩
  rw [if_pos c13] at H
  have c13b0:(t160 == t155) = true:=beq_iff_eq.mpr c13
  have c13b1:(t160 != t155) = false:=bne_eq_false_iff_eq.mpr c13
  clear c13
  (first|rw [c13b0]|(simp only [i64_w,i32_w];rw [c13b0])|skip)
  have H':=mk0 H
  clear H
  go_wp2
  go_meet
  case rel=>exact⟨_,((t161 != t156)),(by first|rfl|(simp;done)|(simp [*];done)),H',⟨by first|omega|exact Nat.le_refl _⟩,⟨rR (Kd.R_mono HO159.out (fun _ hk=>trivial))⟩,⟨kB HB.out⟩⟩
 case rest =>
  clear HC7
  try clear c1
  try clear c2
  try clear c2b0
  try clear c2b1
  try clear p2
  try clear c6
  try clear c12
  try clear c13
  try clear c13b0
  try clear c13b1
  obtain⟨kq,x31_6,rfl,HA,HJ6,HO_5,HB⟩:=hcut
  cases kq with
  | zero=>exact absurd HA.out (by simp [laws_FnExactLongest.j0])
  | succ kj6 =>
   have H:=HA.out
   clear HA
   simp only [laws_FnExactLongest.j0] at H
   by_cases c14:x31_6 = true
   ·subst c14
    have H1:(some false) = some r:=by rw [if_pos rfl] at H;exact H
    clear H
    have H:=H1
    clear H1
    obtain rfl:=Option.some.inj H
    go_wp2
    go_ret
    exact⟨by first|rfl|(simp [errW_none,errW_some] <;> rfl)|(simp [*,errW_none,errW_some] <;> rfl),kB HB.out⟩
   replace c14:=Bool.eq_false_iff.mpr c14
   subst c14
   have H1:((laws_toByteS.f kj6 l0).bind fun t162=>((laws_eqByteS.f kj6 t157 t162).bind fun t165=>(if t165 = true then (some true) else (some false)))) = some r:=by rw [if_neg (show ¬ (false = true) by decide)] at H;exact H
   clear H
   have H:=H1
   clear H1
   replace H:=Option.bind_eq_some_iff.mp H
   obtain⟨t162,A150,H⟩:=H
   replace H:((laws_eqByteS.f kj6 t157 t162).bind fun t165=>(if t165 = true then (some true) else (some false))) = some r:=H
   have A15:=mk0 A150
   clear A150
   replace H:=Option.bind_eq_some_iff.mp H
   obtain⟨t165,A160,H⟩:=H
   replace H:(if t165 = true then (some true) else (some false)) = some r:=H
   have A16:=mk0 A160
   clear A160
   by_cases c17:t165 = true
   ·subst c17
    have H1:(some true) = some r:=by rw [if_pos rfl] at H;exact H
    clear H
    have H:=H1
    clear H1
    obtain rfl:=Option.some.inj H
    go_wp2_with (first|((with_reducible refine gate_callee (f:=12) rfl ?_);refine goesL_ (some 34) rfl rfl Try.func12 (by kernel_rfl) rfl #[.slice A0 l0.length c0] rfl (by (try simp only [mA,mC,mN]);first|done|rfl|(simp only [List.length_drop,List.length_take];done)|(simp only [List.length_drop,List.length_take];rfl)) ?_;(with_reducible refine (laws_toByteS.calls kj6 _ _ l0 t162 _ ?side1 ?side2 A15.out).mono ?_);(case side1=>exact kC (Kd.C_below HR0.out HB.out));(case side2=>exact HC0.out);rintro e w18 ⟨v163,rfl,ho0,hb⟩;refine⟨_,rfl,?_⟩;have HO164:=mk0 (Kd.R_lower (Kd.R_new' ho0 (Kd.R_lt (rR HO_5.out))) (kZ HB.out));replace HO_5:=mk0 (Kd.R_elder' (rR HO_5.out) (Kd.R_base ho0) hb);replace HB:=mk0 (kS HB.out hb);(try clear hb);(try clear ho0);obtain⟨Ao19,co19,eo19⟩:=Kd.R_slice HO164.out;subst eo19)|((with_reducible refine gate_callee (f:=15) rfl ?_);refine goesL_ (some 35) rfl rfl Try.func15 (by kernel_rfl) rfl #[.slice Ao11 t157.length co11,.slice Ao19 t162.length co19] rfl (by (try simp only [mA,mC,mN]);first|done|rfl|(simp only [List.length_drop,List.length_take];done)|(simp only [List.length_drop,List.length_take];rfl)) ?_;(with_reducible refine (laws_eqByteS.calls kj6 _ _ t157 _ _ t162 true _ ?side1 ?side2 ?side3 ?side4 A16.out).mono ?_);(case side1=>exact kC (Kd.R_reads' HO_5.out).2.2);(case side2=>exact (Kd.R_reads' HO_5.out).2.1);(case side3=>exact kC (Kd.R_reads' HO164.out).2.2);(case side4=>exact (Kd.R_reads' HO164.out).2.1);rintro e w' ⟨rfl,⟨nd,rfl⟩⟩;refine⟨_,rfl,?_⟩))
    go_ret
    exact⟨by first|rfl|(simp [errW_none,errW_some] <;> rfl)|(simp [*,errW_none,errW_some] <;> rfl),kB HB.out⟩
   replace c17:=Bool.eq_false_iff.mpr c17
   subst c17
   have H1:(some false) = some r:=by rw [if_neg (show ¬ (false = true) by decide)] at H;exact H
   clear H
   have H:=H1
   clear H1
   obtain rfl:=Option.some.inj H
   go_wp2_with (first|((with_reducible refine gate_callee (f:=12) rfl ?_);refine goesL_ (some 34) rfl rfl Try.func12 (by kernel_rfl) rfl #[.slice A0 l0.length c0] rfl (by (try simp only [mA,mC,mN]);first|done|rfl|(simp only [List.length_drop,List.length_take];done)|(simp only [List.length_drop,List.length_take];rfl)) ?_;(with_reducible refine (laws_toByteS.calls kj6 _ _ l0 t162 _ ?side1 ?side2 A15.out).mono ?_);(case side1=>exact kC (Kd.C_below HR0.out HB.out));(case side2=>exact HC0.out);rintro e w20 ⟨v163,rfl,ho0,hb⟩;refine⟨_,rfl,?_⟩;have HO164:=mk0 (Kd.R_lower (Kd.R_new' ho0 (Kd.R_lt (rR HO_5.out))) (kZ HB.out));replace HO_5:=mk0 (Kd.R_elder' (rR HO_5.out) (Kd.R_base ho0) hb);replace HB:=mk0 (kS HB.out hb);(try clear hb);(try clear ho0);obtain⟨Ao21,co21,eo21⟩:=Kd.R_slice HO164.out;subst eo21)|((with_reducible refine gate_callee (f:=15) rfl ?_);refine goesL_ (some 35) rfl rfl Try.func15 (by kernel_rfl) rfl #[.slice Ao11 t157.length co11,.slice Ao21 t162.length co21] rfl (by (try simp only [mA,mC,mN]);first|done|rfl|(simp only [List.length_drop,List.length_take];done)|(simp only [List.length_drop,List.length_take];rfl)) ?_;(with_reducible refine (laws_eqByteS.calls kj6 _ _ t157 _ _ t162 false _ ?side1 ?side2 ?side3 ?side4 A16.out).mono ?_);(case side1=>exact kC (Kd.R_reads' HO_5.out).2.2);(case side2=>exact (Kd.R_reads' HO_5.out).2.1);(case side3=>exact kC (Kd.R_reads' HO164.out).2.2);(case side4=>exact (Kd.R_reads' HO164.out).2.1);rintro e w' ⟨rfl,⟨nd,rfl⟩⟩;refine⟨_,rfl,?_⟩))
   go_ret
   exact⟨by first|rfl|(simp [errW_none,errW_some] <;> rfl)|(simp [*,errW_none,errW_some] <;> rfl),kB HB.out⟩

/-- THE ONE PURE STATEMENT of laws_FnExactLongest: yours. -/
def laws_FnExactLongest.Pure : Prop := ∀ (l0 : List Int), l0.length ≤ maxLen → l0.length * 1 ≤ 140737488351232 → (∀ x ∈ l0, (Lit.int .u8 x).wf = true) → ∃ k, laws_FnExactLongest.f k l0 = some true
theorem laws_FnExactLongest.walk (P : laws_FnExactLongest.Pure) (a0 : Option Addr) (len0 cap0 : Nat) (z0 : List Int) (w : World) (w0 : (a0 = none ∧ len0 = 0 ∧ cap0 = 0 ∧ z0 = []) ∨ ∃ x, a0 = some x ∧ len0 ≤ cap0 ∧ cap0 ≤ maxLen ∧ z0.length = cap0 ∧ (∀ i, i < z0.length → w.cell? (x.add i) = some (.int .u8 (z0.getD i 0))) ∧ ∀ n ∈ z0, (Lit.int .u8 n).wf = true) (y0 : len0 * 1 ≤ 140737488351232) (hm_ : HasMax w) :
    Calls Try.prog 6 #[.slice a0 len0 cap0] w fun e w' => e = .returned (.bool true) ∧ Below w.heap.size w w' := by
  obtain ⟨l0, rfl, hr0, hm0, hw0, hc0⟩ := ReadsInt.ofRowC w0
  obtain ⟨k, h⟩ := P l0 hm0 y0 hw0
  refine (laws_FnExactLongest.calls k _ _ l0 true w (Kd.C_of_reads (d := (0 : Int)) (h1 := fun _ => rfl) hr0) hc0 h hm_).mono ?_
  rintro e w' ⟨rfl, hd⟩
  exact ⟨rfl, hd⟩

end Go.Proofs.Ytoinagnieobbpaa.QFnExactLongest
