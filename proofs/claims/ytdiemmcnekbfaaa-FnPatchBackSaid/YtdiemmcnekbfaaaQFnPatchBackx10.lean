-- A walk, made by walk.py, a program of this session's.
import Derived.Test.YtdiemmcnekbfaaaQFnPatchBackx0
namespace Go.Proofs.Ytdiemmcnekbfaaa.QFnPatchBack
open Go.RowKit Go.Proofs.YtdiemmcnekbfaaaW.PrintWords Go.Proofs.YtdiemmcnekbfaaaW.PrintLast Go.Proofs.YtdiemmcnekbfaaaW.PrintMore
attribute [local go_sem] max2_int min2_int max_two min_two max_three min_three max_four min_four   -- for this text's walks alone
set_option linter.unusedVariables false
set_option linter.unusedSimpArgs false

/-! ### laws_big: function 19 -/
def laws_big.f (l0 : List Int) : Option (Bool) := some (decide ((l0.length : Int) > 1048576))
set_option maxHeartbeats 8000000 in
set_option maxRecDepth 100000 in
theorem laws_big.calls (A0 : Option Addr) (c0 : Nat) (l0 : List Int) (r : Bool) (w : World) (hr0 : Kd.C (Kd.int .u8) w A0 l0.length l0) (hc0 : l0.length ≤ c0) (h : laws_big.f l0 = some r) :
  Calls Try.prog 19 #[.slice A0 l0.length c0] w fun e w' => e = .returned (.bool r) ∧ Drawn0 w w' := by
 have HR0:=mk0 hr0
 have HC0:=mk0 hc0
 clear hr0 hc0
 have H:(some (decide ((l0.length:Int) > 1048576))) = some r:=h
 clear h
 obtain rfl:=Option.some.inj H
 go_enter Try.func19,Try.ntmps19
 go_wp2
 go_ret
 exact⟨by first|rfl|(simp;done)|(simp [*];done),by repeat (first|exact Drawn0.refl _|apply Drawn0.step)⟩

/-- A state of type 82 at block g of W; what its slices lead to came in by w0. -/
def IsS82 (w0 W : World) (g : Nat) (f0 : List Int) (f1 : Int) (f2 : Int) : Prop := ∃ A0 c0, W.heap[g]? = some (.cells #[.slice A0 f0.length c0, .int .i64 f1, .int .i64 f2] 82 (0, 0)) ∧ w0.heap.size ≤ g ∧ Kd.C (Kd.int .u8) w0 A0 f0.length f0
theorem IsS82.grown {w0 W : World} {g : Nat} {f0 : List Int} {f1 : Int} {f2 : Int} {W1 : World} {row : Option Nat} (h : IsS82 w0 W g f0 f1 f2) (hw : W.grownBy W1 row) (hne : some g ≠ row) : IsS82 w0 W1 g f0 f1 f2 := by
 obtain ⟨A0, c0, hb, hg, hr0⟩ := h
 exact ⟨A0, c0, blk_grown hb hw hne, hg, hr0⟩
theorem IsS82.own_neN {w0 W : World} {g : Nat} {f0 : List Int} {f1 : Int} {f2 : Int} {α : Type} {d : Kd α} {e : Nat} {base : Nat} {ok : Nat → Prop} {v : Value} {xs : List α} (h : IsS82 w0 W g f0 f1 f2) (ho : Kd.N d e W base ok v xs) (ht : e ≠ 82) : some g ≠ v.ownBlock := by
 obtain ⟨A0, c0, hb, hg, hr0⟩ := h
 exact Kd.N_ne ho hb ht
theorem IsS82.fresh {w0 W : World} {g : Nat} {f0 : List Int} {f1 : Int} {f2 : Int} (h : IsS82 w0 W g f0 f1 f2) : ∀ k, W.heap.size ≤ k → k ≠ g := by
 obtain ⟨A0, c0, hb, hg, hr0⟩ := h
 exact Kd.freshB hb
theorem IsS82.kept {w0 W : World} {g : Nat} {f0 : List Int} {f1 : Int} {f2 : Int} {W1 : World} {S : Nat → Prop} (h : IsS82 w0 W g f0 f1 f2) (hk : Kept W W1 S) (hne : ¬ S g) : IsS82 w0 W1 g f0 f1 f2 := by
 obtain ⟨A0, c0, hb, hg, hr0⟩ := h
 exact ⟨A0, c0, blk_kept hb hk hne, hg, hr0⟩
theorem IsS82.below {w0 W : World} {g : Nat} {f0 : List Int} {f1 : Int} {f2 : Int} {W1 : World} (h : IsS82 w0 W g f0 f1 f2) (hw : Below W.heap.size W W1) : IsS82 w0 W1 g f0 f1 f2 := h.grown (grown_of_below hw none) (by simp)
theorem IsS82.alloc {w0 W : World} {g : Nat} {f0 : List Int} {f1 : Int} {f2 : Int} (h : IsS82 w0 W g f0 f1 f2) (o : Obj) : IsS82 w0 (W.alloc o) g f0 f1 f2 := h.below (below_alloc (Below.refl _ _) o)
theorem IsS82.drewN {w0 W : World} {g : Nat} {f0 : List Int} {f1 : Int} {f2 : Int} (h : IsS82 w0 W g f0 f1 f2) (m : Nat) : IsS82 w0 (W.drewN m) g f0 f1 f2 := h
theorem IsS82.drew {w0 W : World} {g : Nat} {f0 : List Int} {f1 : Int} {f2 : Int} (h : IsS82 w0 W g f0 f1 f2) : IsS82 w0 W.drew g f0 f1 f2 := h
theorem IsS82.at_ {w0 W : World} {g : Nat} {f0 : List Int} {f1 : Int} {f2 : Int} {w' : World} {m : Nat} (hq : W.drewN m = w') (h : IsS82 w0 W g f0 f1 f2) : IsS82 w0 w' g f0 f1 f2 := by subst hq; exact IsS82.drewN h m
theorem IsS82.apart {w0 W : World} {g : Nat} {f0 : List Int} {f1 : Int} {f2 : Int} {α : Type} {d : Kd α} {e : Nat} {base : Nat} {ok : Nat → Prop} {v : Value} {xs : List α} (h : IsS82 w0 W g f0 f1 f2) (ho : d.R e W base ok v xs) (ht : ∀ q, q ∈ e :: d.E → q ≠ 82) : d.R e W base (fun k => ok k ∧ k ≠ g) v xs := by
 obtain ⟨A0, c0, hb, hg, hr0⟩ := h
 exact Kd.R_types ho hb ht
theorem IsS82.own_ne {w0 W : World} {g : Nat} {f0 : List Int} {f1 : Int} {f2 : Int} {α : Type} {d : Kd α} {e : Nat} {base : Nat} {ok : Nat → Prop} {v : Value} {xs : List α} (h : IsS82 w0 W g f0 f1 f2) (ho : d.R e W base ok v xs) (ht : e ≠ 82) : some g ≠ v.ownBlock := by
 obtain ⟨A0, c0, hb, hg, hr0⟩ := h
 exact Kd.R_ne ho hb ht
theorem IsS82.apartQ {w0 W : World} {g : Nat} {f0 : List Int} {f1 : Int} {f2 : Int} {α : Type} {d : Kd α} {e : Nat} {base : Nat} {ok : Nat → Prop} {v : Value} {xs : List α} (h : IsS82 w0 W g f0 f1 f2) (ho : d.Q e W base ok v xs) (ht : ∀ q, q ∈ e :: d.E → q ≠ 82) : d.Q e W base (fun k => ok k ∧ k ≠ g) v xs := by
 obtain ⟨A0, c0, hb, hg, hr0⟩ := h
 exact Kd.Q_types ho hb ht
theorem IsS82.own_neQ {w0 W : World} {g : Nat} {f0 : List Int} {f1 : Int} {f2 : Int} {α : Type} {d : Kd α} {e : Nat} {base : Nat} {ok : Nat → Prop} {v : Value} {xs : List α} (h : IsS82 w0 W g f0 f1 f2) (ho : d.Q e W base ok v xs) (ht : e ≠ 82) : some g ≠ v.ownBlock := by
 obtain ⟨A0, c0, hb, hg, hr0⟩ := h
 exact Kd.Q_ne ho hb ht
theorem IsS82.apartS {w0 W : World} {g : Nat} {f0 : List Int} {f1 : Int} {f2 : Int} {α : Type} {d : Kd α} {e : Nat} {base : Nat} {ok : Nat → Prop} {v : Value} {xs : List α} (h : IsS82 w0 W g f0 f1 f2) (ho : d.S e W base ok v xs) (ht : ∀ q, q ∈ e :: d.E → q ≠ 82) : d.S e W base (fun k => ok k ∧ k ≠ g) v xs := by
 obtain ⟨A0, c0, hb, hg, hr0⟩ := h
 exact Kd.S_types ho hb ht
theorem IsS82.own_neS {w0 W : World} {g : Nat} {f0 : List Int} {f1 : Int} {f2 : Int} {α : Type} {d : Kd α} {e : Nat} {base : Nat} {ok : Nat → Prop} {v : Value} {xs : List α} (h : IsS82 w0 W g f0 f1 f2) (ho : d.S e W base ok v xs) (ht : e ≠ 82) : some g ≠ v.ownBlock := by
 obtain ⟨A0, c0, hb, hg, hr0⟩ := h
 exact Kd.S_ne ho hb ht
theorem IsS82.lt {w0 W : World} {g : Nat} {f0 : List Int} {f1 : Int} {f2 : Int} (h : IsS82 w0 W g f0 f1 f2) : g < W.heap.size := by
 obtain ⟨A0, c0, hb, hg, hr0⟩ := h
 exact blk_lt hb
theorem IsS82.ge {w0 W : World} {g : Nat} {f0 : List Int} {f1 : Int} {f2 : Int} (h : IsS82 w0 W g f0 f1 f2) : w0.heap.size ≤ g := by
 obtain ⟨A0, c0, hb, hg, hr0⟩ := h
 exact hg
theorem IsS82.ne_blk {w0 W : World} {g : Nat} {f0 : List Int} {f1 : Int} {f2 : Int} {a : Nat} {cs : Array Value} {t : TypeId} {fr : Nat × Nat} (h : IsS82 w0 W g f0 f1 f2) (hb2 : W.heap[a]? = some (.cells cs t fr)) (ht : t ≠ 82) : g ≠ a := by
 obtain ⟨A0, c0, hb, hg, hr0⟩ := h
 rintro rfl
 rw [hb] at hb2
 injection hb2 with hb2
 injection hb2 with _ ht2
 exact ht ht2.symm
theorem IsS82.far {w0 W : World} {g : Nat} {f0 : List Int} {f1 : Int} {f2 : Int} {p : Addr} (h : IsS82 w0 W g f0 f1 f2) (hne : g ≠ p.block) (u : Value) : IsS82 w0 (W.setCell p u) g f0 f1 f2 := by
 obtain ⟨A0, c0, hb, hg, hr0⟩ := h
 exact ⟨A0, c0, blk_far hb hne u, hg, hr0⟩
theorem cellS82_0 {W : World} {g : Nat} {A0 : Option Addr} {c0 : Nat} {f0 : List Int} {f1 : Int} {f2 : Int} (h : W.heap[g]? = some (.cells #[.slice A0 f0.length c0, .int .i64 f1, .int .i64 f2] 82 (0, 0))) : W.cell? ⟨g, 0, none⟩ = some (.slice A0 f0.length c0) := (blk_cell h 0).trans rfl
theorem cellS82_1 {W : World} {g : Nat} {A0 : Option Addr} {c0 : Nat} {f0 : List Int} {f1 : Int} {f2 : Int} (h : W.heap[g]? = some (.cells #[.slice A0 f0.length c0, .int .i64 f1, .int .i64 f2] 82 (0, 0))) : W.cell? ⟨g, 1, none⟩ = some (.int .i64 f1) := (blk_cell h 1).trans rfl
theorem IsS82.set_1 {w0 W : World} {g : Nat} {f0 : List Int} {f1 : Int} {f2 : Int} (h : IsS82 w0 W g f0 f1 f2) (x : Int) : IsS82 w0 (W.setCell ⟨g, 1, none⟩ (.int .i64 x)) g f0 x f2 := by
 obtain ⟨A0, c0, hb, hg, hr0⟩ := h
 exact ⟨A0, c0, by simpa using blk_set hb 1 (.int .i64 x), hg, hr0⟩
theorem cellS82_2 {W : World} {g : Nat} {A0 : Option Addr} {c0 : Nat} {f0 : List Int} {f1 : Int} {f2 : Int} (h : W.heap[g]? = some (.cells #[.slice A0 f0.length c0, .int .i64 f1, .int .i64 f2] 82 (0, 0))) : W.cell? ⟨g, 2, none⟩ = some (.int .i64 f2) := (blk_cell h 2).trans rfl
theorem IsS82.set_2 {w0 W : World} {g : Nat} {f0 : List Int} {f1 : Int} {f2 : Int} (h : IsS82 w0 W g f0 f1 f2) (x : Int) : IsS82 w0 (W.setCell ⟨g, 2, none⟩ (.int .i64 x)) g f0 f1 x := by
 obtain ⟨A0, c0, hb, hg, hr0⟩ := h
 exact ⟨A0, c0, by simpa using blk_set hb 2 (.int .i64 x), hg, hr0⟩
theorem IsS82.new (w0 W : World) (A0 : Option Addr) (c0 : Nat) (f0 : List Int) (f1 : Int) (f2 : Int) (hB : Below w0.heap.size w0 W) (hr0 : Kd.C (Kd.int .u8) w0 A0 f0.length f0) : IsS82 w0 (W.alloc (.cells #[.slice A0 f0.length c0, .int .i64 f1, .int .i64 f2] 82)) W.heap.size f0 f1 f2 := ⟨A0, c0, by simpa using heap_alloc_new W _, hB.size, hr0⟩

/-! ### spec_l01Open: function 43 -/
def spec_l01Open.f (l0 : List Int) : Option (List Int × Int × Int) := some (l0, 0, 89 + ((l0.length : Int) % 1000))
set_option maxHeartbeats 8000000 in
set_option maxRecDepth 100000 in
theorem spec_l01Open.calls (A0 : Option Addr) (c0 : Nat) (l0 : List Int) (r1 : List Int) (r2 : Int) (r3 : Int) (w0 w : World) (hB : Below w0.heap.size w0 w) (hr0 : Kd.C (Kd.int .u8) w0 A0 l0.length l0) (hc0 : l0.length ≤ c0) (h : spec_l01Open.f l0 = some (r1, r2, r3)) :
  Calls Try.prog 43 #[.slice A0 l0.length c0] w fun e w' => ∃ g_ : Nat, e = .returned (.pointer (some ⟨g_, 0, none⟩)) ∧ IsS82 w0 w' g_ r1 r2 r3 ∧ Below w0.heap.size w0 w' ∧ Below w.heap.size w w' := by
 have hu82:=Try.underlying82
 have HR0:=mk0 hr0
 have HC0:=mk0 hc0
 clear hr0 hc0
 have HBW:=mk0 (Below.refl w.heap.size w)
 have HW0:=mk0 hB.size
 have HB:=mk0 hB
 clear hB
 have H:(some (l0,0,89 + ((l0.length:Int) % 1000))) = some (r1,r2,r3):=h
 clear h
 simp only [Option.some.injEq,Prod.mk.injEq] at H
 obtain⟨rfl,rfl,rfl⟩:=H
 go_enter Try.func43,Try.ntmps43
 go_wp2_with (first|((with_reducible refine gate_dst (N:=9) rfl ?_);refine box_event ?hg (N:=9) ?hd (cs:=#[.slice A0 l0.length c0,.int .i64 0,.int .i64 (89 + ((l0.length:Int) % 1000))]) (t:=82) ?hr ?_;(case hd=>rfl);(case hg=>rfl);(case hr=>first|(go_simp;done)|(go_simp;rfl));intro gb356 hg w2 hbox hb;have n0_:=mk0 (below_step HBW.out hb);have n1_:=mk0 (below_step (by repeat (first|(with_reducible first|exact HB.out|apply aZ|apply nZ|apply dZ)|exact HB.out)) hb);have n2_:=mk0 (hbox);have n3_:=mk0 ((by rw [hg];exact (below_size (by repeat (first|(with_reducible first|exact HBW.out|apply aZ|apply nZ|apply dZ)|exact HBW.out))):w.heap.size ≤ gb356));have n4_:=mk0 ((Nat.le_trans HW0.out (by rw [hg];exact (below_size (by repeat (first|(with_reducible first|exact HBW.out|apply aZ|apply nZ|apply dZ)|exact HBW.out))):w.heap.size ≤ gb356):w0.heap.size ≤ gb356));clear HBW HB;have HBW:=n0_;have HB:=n1_;have BK356:=n2_;have GW356:=n3_;have GE356:=n4_;clear n0_ n1_ n2_ n3_ n4_ hb hbox hg))
 go_ret
 exact⟨_,rfl,(show IsS82 w0 _ gb356 l0 0 (89 + ((l0.length:Int) % 1000)) from ⟨_,_,by (with_reducible repeat (first|apply nB|apply dB|apply aB));exact BK356.out,GE356.out,HR0.out⟩),by repeat (first|(with_reducible first|exact HB.out|apply aZ|apply nZ|apply dZ|refine sZ ?_ GE356.out)|exact HB.out),by repeat (first|(with_reducible first|exact HBW.out|apply aZ|apply nZ|apply dZ|refine sZ ?_ GW356.out)|exact HBW.out)⟩

/-! ### spec_l01Cur_pick: function 59 -/
def spec_l01Cur_pick.f (s0_0 : List Int) (s0_1 : Int) (s0_2 : Int) (a1 : Int) : Option (Int × Int × Int) := if a1 < 2 then (some (0, s0_1, s0_2)) else (if s0_1 < (s0_0.length : Int) then (if 0 ≤ s0_1 then (if a1 = 0 then (none) else (some (Int.tmod (wrap64 (rd s0_0 s0_1)) a1, wrap64 (s0_1 + 1), s0_2))) else (none)) else (if (s0_0.length : Int) > 0 then (if (s0_0.length : Int) = 0 then (none) else (if 0 ≤ (Int.tmod s0_1 (s0_0.length : Int)) then (if (Int.tmod s0_1 (s0_0.length : Int)) < (s0_0.length : Int) then (if a1 = 0 then (none) else (some (Int.tmod (wrap64 ((wrap64 (Int.tdiv (Int.tmod (wrap64 ((wrap64 (s0_2 * 1103)) + 12345)) 65521) 7)) + (wrap64 (rd s0_0 (Int.tmod s0_1 (s0_0.length : Int)))))) a1, wrap64 (s0_1 + 1), Int.tmod (wrap64 ((wrap64 (s0_2 * 1103)) + 12345)) 65521))) else (none)) else (none))) else (if a1 = 0 then (none) else (some ((0 : Int) % a1, wrap64 (s0_1 + 1), Int.tmod (wrap64 ((wrap64 (s0_2 * 1103)) + 12345)) 65521)))))
set_option maxHeartbeats 8000000 in
set_option maxRecDepth 100000 in
theorem spec_l01Cur_pick.calls (g : Nat) (s0_0 : List Int) (s0_1 : Int) (s0_2 : Int) (a1 : Int) (r1 : Int) (r2 : Int) (r3 : Int) (w0 w : World) (hI : IsS82 w0 w g s0_0 s0_1 s0_2) (hB : Below w0.heap.size w0 w) (h : spec_l01Cur_pick.f s0_0 s0_1 s0_2 a1 = some (r1, r2, r3)) :
  Calls Try.prog 59 #[.pointer (some ⟨g, 0, none⟩), .int .i64 a1] w fun e w' => e = .returned (.int .i64 r1) ∧ IsS82 w0 w' g s0_0 r2 r3 ∧ Below w0.heap.size w0 w' ∧ KeepBut w w' g none := by
 have HI0:=mk0 hI
 have HK:=mk0 (KeepBut.refl w g none)
 have HL:=mk0 hB.size
 clear hI
 have HW0:=mk0 hB.size
 have HB:=mk0 hB
 clear hB
 have H:(if a1 < 2 then (some (0,s0_1,s0_2)) else (if s0_1 < (s0_0.length:Int) then (if 0 ≤ s0_1 then (if a1 = 0 then (none) else (some (Int.tmod (wrap64 (rd s0_0 s0_1)) a1,wrap64 (s0_1 + 1),s0_2))) else (none)) else (if (s0_0.length:Int) > 0 then (if (s0_0.length:Int) = 0 then (none) else (if 0 ≤ (Int.tmod s0_1 (s0_0.length:Int)) then (if (Int.tmod s0_1 (s0_0.length:Int)) < (s0_0.length:Int) then (if a1 = 0 then (none) else (some (Int.tmod (wrap64 ((wrap64 (Int.tdiv (Int.tmod (wrap64 ((wrap64 (s0_2 * 1103)) + 12345)) 65521) 7)) + (wrap64 (rd s0_0 (Int.tmod s0_1 (s0_0.length:Int)))))) a1,wrap64 (s0_1 + 1),Int.tmod (wrap64 ((wrap64 (s0_2 * 1103)) + 12345)) 65521))) else (none)) else (none))) else (if a1 = 0 then (none) else (some ((0:Int) % a1,wrap64 (s0_1 + 1),Int.tmod (wrap64 ((wrap64 (s0_2 * 1103)) + 12345)) 65521)))))) = some (r1,r2,r3):=h
 clear h
 by_cases c3:a1 < 2
 ·rw [if_pos c3] at H
  have c3b0:decide (a1 < 2) = true:=decide_eq_true c3
  clear c3
  simp only [Option.some.injEq,Prod.mk.injEq] at H
  obtain⟨rfl,rfl,rfl⟩:=H
  go_enter Try.func59,Try.ntmps59
  go_wp2
  repeat (go_quiet (fail);try go_wp2)
  go_ret
  exact⟨by first|rfl|(simp [errW_none,errW_some] <;> rfl)|(simp [*,errW_none,errW_some] <;> rfl),by repeat (first|(with_reducible first|exact HI0.out|apply IsS82.alloc|apply IsS82.drewN|apply IsS82.drew|apply IsS82.set_1|apply IsS82.set_2)|exact HI0.out),by repeat (first|(with_reducible first|exact HB.out|apply aZ|apply nZ|apply dZ|refine sZ ?_ (IsS82.ge HI0.out))|exact HB.out),by repeat (first|(with_reducible first|exact HK.out|apply KeepBut.set_|apply keep_drewN|apply keep_drew|apply keep_alloc)|exact HK.out)⟩
 ·rw [if_neg c3] at H
  have c3b0:decide (a1 < 2) = false:=decide_eq_false c3
  clear c3
  by_cases c4:s0_1 < (s0_0.length:Int)
  ·rw [if_pos c4] at H
   have c4b0:decide (s0_1 < (s0_0.length:Int)) = true:=decide_eq_true c4
   clear c4
   by_cases c5:0 ≤ s0_1
   ·rw [if_pos c5] at H
    have c5b0:decide (0 ≤ s0_1) = true:=decide_eq_true c5
    clear c5
    by_cases c6:a1 = 0
    ·rw [if_pos c6] at H
     exact absurd H (by simp)
    ·rw [if_neg c6] at H
     have c6b0:(a1 == 0) = false:=beq_eq_false_iff_ne.mpr c6
     have c6b1:(a1 != 0) = true:=bne_iff_ne.mpr c6
     simp only [Option.some.injEq,Prod.mk.injEq] at H
     obtain⟨rfl,rfl,rfl⟩:=H
     obtain⟨ASz7_0,cSz7_0,HGz7,hgz7,HSz7_0⟩:=HI0.out
     have hcz7_0:=cellS82_0 HGz7
     have hcz7_1:=cellS82_1 HGz7
     have hcz7_2:=cellS82_2 HGz7
     have hfz7_1:=blk_frozen HGz7 1
     have hfz7_2:=blk_frozen HGz7 2
     clear HGz7 hgz7
     have p357:0 ≤ (s0_1:Int):=of_decide_eq_true (by first|(with_reducible assumption)|assumption)
     have q357:s0_1 < (s0_0.length:Int):=of_decide_eq_true (by first|(with_reducible assumption)|assumption)
     obtain⟨ad357,e357,hx357_0⟩:=Kd.at_int HSz7_0 s0_1 p357 q357
     cases e357
     replace hx357_0:=pw_cell_below HB.out hx357_0
     replace p357:=eq_true p357
     replace q357:=eq_true q357
     go_enter Try.func59,Try.ntmps59
     go_wp2
     repeat (go_quiet (fail);try go_wp2)
     go_ret
     exact⟨by first|rfl|(simp [errW_none,errW_some] <;> rfl)|(simp [*,errW_none,errW_some] <;> rfl),by repeat (first|(with_reducible first|exact HI0.out|apply IsS82.alloc|apply IsS82.drewN|apply IsS82.drew|apply IsS82.set_1|apply IsS82.set_2)|exact HI0.out),by repeat (first|(with_reducible first|exact HB.out|apply aZ|apply nZ|apply dZ|refine sZ ?_ (IsS82.ge HI0.out))|exact HB.out),by repeat (first|(with_reducible first|exact HK.out|apply KeepBut.set_|apply keep_drewN|apply keep_drew|apply keep_alloc)|exact HK.out)⟩
   ·rw [if_neg c5] at H
    exact absurd H (by simp)
  ·rw [if_neg c4] at H
   have c4b0:decide (s0_1 < (s0_0.length:Int)) = false:=decide_eq_false c4
   clear c4
   by_cases c8:(s0_0.length:Int) > 0
   ·rw [if_pos c8] at H
    have c8b0:decide (0 < (s0_0.length:Int)) = true:=decide_eq_true c8
    have c8b1:decide (0 < s0_0.length) = true:=decide_eq_true (by omega)
    clear c8
    by_cases c9:(s0_0.length:Int) = 0
    ·rw [if_pos c9] at H
     exact absurd H (by simp)
    ·rw [if_neg c9] at H
     have c9b0:((s0_0.length:Int) == 0) = false:=beq_eq_false_iff_ne.mpr c9
     have c9b1:((s0_0.length:Int) != 0) = true:=bne_iff_ne.mpr c9
     have c9b2:¬ (s0_0 = []):=fun h_=>c9 (by rw [h_];rfl)
     obtain⟨ji10,hji10⟩:∃ j_:Int,(Int.tmod s0_1 (s0_0.length:Int)) = j_:=⟨_,rfl⟩
     replace H:(if 0 ≤ (ji10) then (if (ji10) < (s0_0.length:Int) then (if a1 = 0 then (none) else (some (Int.tmod (wrap64 ((wrap64 (Int.tdiv (Int.tmod (wrap64 ((wrap64 (s0_2 * 1103)) + 12345)) 65521) 7)) + (wrap64 (rd s0_0 (ji10))))) a1,wrap64 (s0_1 + 1),Int.tmod (wrap64 ((wrap64 (s0_2 * 1103)) + 12345)) 65521))) else (none)) else (none)) = some (r1,r2,r3):=by first|(rw [hji10] at H;exact H)|(simp only [hji10] at H ⊢;exact H)
     by_cases c11:0 ≤ (ji10)
     ·rw [if_pos c11] at H
      have c11b0:decide (0 ≤ (ji10)) = true:=decide_eq_true c11
      clear c11
      by_cases c12:(ji10) < (s0_0.length:Int)
      ·rw [if_pos c12] at H
       have c12b0:decide ((ji10) < (s0_0.length:Int)) = true:=decide_eq_true c12
       clear c12
       by_cases c13:a1 = 0
       ·rw [if_pos c13] at H
        exact absurd H (by simp)
       ·rw [if_neg c13] at H
        have c13b0:(a1 == 0) = false:=beq_eq_false_iff_ne.mpr c13
        have c13b1:(a1 != 0) = true:=bne_iff_ne.mpr c13
        simp only [Option.some.injEq,Prod.mk.injEq] at H
        obtain⟨rfl,rfl,rfl⟩:=H
        obtain⟨ASz14_0,cSz14_0,HGz14,hgz14,HSz14_0⟩:=HI0.out
        have hcz14_0:=cellS82_0 HGz14
        have hcz14_1:=cellS82_1 HGz14
        have hcz14_2:=cellS82_2 HGz14
        have hfz14_1:=blk_frozen HGz14 1
        have hfz14_2:=blk_frozen HGz14 2
        clear HGz14 hgz14
        have p358:0 ≤ ((ji10):Int):=of_decide_eq_true (by first|(with_reducible assumption)|assumption)
        have q358:(ji10) < (s0_0.length:Int):=of_decide_eq_true (by first|(with_reducible assumption)|assumption)
        obtain⟨ad358,e358,hx358_0⟩:=Kd.at_int HSz14_0 (ji10) p358 q358
        cases e358
        have hn358_0:ad358.block ≠ g:=Nat.ne_of_lt (Nat.lt_of_lt_of_le (by have:=World.block_lt_of_cell? _ _ hx358_0;first|rwa [add_block] at this|exact this) (IsS82.ge HI0.out))
        replace hx358_0:=pw_cell_below HB.out hx358_0
        replace hx358_0:=(cell_far (p:=⟨g,2,none⟩) (by first|(rw [add_block];exact hn358_0)|(show (Addr.add _ _).block ≠ _;rw [add_block];exact hn358_0)|exact hn358_0) (.int .i64 (Int.tmod (wrap64 ((wrap64 (s0_2 * 1103)) + 12345)) 65521))).trans hx358_0
        (try have hy358_0:=fun (n_:Nat)=>(show (((w.drewN n_).setCell ⟨g,2,none⟩ (.int .i64 (Int.tmod (wrap64 ((wrap64 (s0_2 * 1103)) + 12345)) 65521)))).cell? _ = some _ from hx358_0))
        clear hn358_0
        replace p358:=eq_true p358
        replace q358:=eq_true q358
        go_enter Try.func59,Try.ntmps59
        go_wp2
        repeat (go_quiet (fail);try go_wp2)
        go_ret
        exact⟨by first|rfl|(simp [errW_none,errW_some] <;> rfl)|(simp only [← hji10];first|rfl|(simp [errW_none,errW_some] <;> rfl))|(simp [*,errW_none,errW_some] <;> rfl),by repeat (first|(with_reducible first|exact HI0.out|apply IsS82.alloc|apply IsS82.drewN|apply IsS82.drew|apply IsS82.set_1|apply IsS82.set_2)|exact HI0.out),by repeat (first|(with_reducible first|exact HB.out|apply aZ|apply nZ|apply dZ|refine sZ ?_ (IsS82.ge HI0.out))|exact HB.out),by repeat (first|(with_reducible first|exact HK.out|apply KeepBut.set_|apply keep_drewN|apply keep_drew|apply keep_alloc)|exact HK.out)⟩
      ·rw [if_neg c12] at H
       exact absurd H (by simp)
     ·rw [if_neg c11] at H
      exact absurd H (by simp)
   ·rw [if_neg c8] at H
    have c8b0:decide (0 < (s0_0.length:Int)) = false:=decide_eq_false c8
    have c8b1:decide (0 < s0_0.length) = false:=decide_eq_false (by omega)
    clear c8
    by_cases c15:a1 = 0
    ·rw [if_pos c15] at H
     exact absurd H (by simp)
    ·rw [if_neg c15] at H
     have c15b0:(a1 == 0) = false:=beq_eq_false_iff_ne.mpr c15
     have c15b1:(a1 != 0) = true:=bne_iff_ne.mpr c15
     simp only [Option.some.injEq,Prod.mk.injEq] at H
     obtain⟨rfl,rfl,rfl⟩:=H
     obtain⟨ASz16_0,cSz16_0,HGz16,hgz16,HSz16_0⟩:=HI0.out
     have hcz16_0:=cellS82_0 HGz16
     have hcz16_1:=cellS82_1 HGz16
     have hcz16_2:=cellS82_2 HGz16
     have hfz16_1:=blk_frozen HGz16 1
     have hfz16_2:=blk_frozen HGz16 2
     clear HGz16 hgz16
     go_enter Try.func59,Try.ntmps59
     go_wp2
     repeat (go_quiet (fail);try go_wp2)
     go_ret
     exact⟨by first|rfl|(simp [errW_none,errW_some] <;> rfl)|(simp [*,errW_none,errW_some] <;> rfl),by repeat (first|(with_reducible first|exact HI0.out|apply IsS82.alloc|apply IsS82.drewN|apply IsS82.drew|apply IsS82.set_1|apply IsS82.set_2)|exact HI0.out),by repeat (first|(with_reducible first|exact HB.out|apply aZ|apply nZ|apply dZ|refine sZ ?_ (IsS82.ge HI0.out))|exact HB.out),by repeat (first|(with_reducible first|exact HK.out|apply KeepBut.set_|apply keep_drewN|apply keep_drew|apply keep_alloc)|exact HK.out)⟩

/-! ### spec_l01Cur_size: function 62 -/
def spec_l01Cur_size.f (s0_0 : List Int) (s0_1 : Int) (s0_2 : Int) (a1 : Int) : Option (Int × Int × Int) := (spec_l01Cur_pick.f s0_0 s0_1 s0_2 (wrap64 ((mn a1 (wrap64 (1 + (wrap64 ((s0_0.length : Int) / 8))))) + 1))).bind fun bt359 => (some (bt359.1, bt359.2.1, bt359.2.2))
set_option maxHeartbeats 8000000 in
set_option maxRecDepth 100000 in
theorem spec_l01Cur_size.calls (g : Nat) (s0_0 : List Int) (s0_1 : Int) (s0_2 : Int) (a1 : Int) (r1 : Int) (r2 : Int) (r3 : Int) (w0 w : World) (hI : IsS82 w0 w g s0_0 s0_1 s0_2) (hB : Below w0.heap.size w0 w) (h : spec_l01Cur_size.f s0_0 s0_1 s0_2 a1 = some (r1, r2, r3)) :
  Calls Try.prog 62 #[.pointer (some ⟨g, 0, none⟩), .int .i64 a1] w fun e w' => e = .returned (.int .i64 r1) ∧ IsS82 w0 w' g s0_0 r2 r3 ∧ Below w0.heap.size w0 w' ∧ KeepBut w w' g none := by
 have HI0:=mk0 hI
 have HK:=mk0 (KeepBut.refl w g none)
 have HL:=mk0 hB.size
 clear hI
 have HW0:=mk0 hB.size
 have HB:=mk0 hB
 clear hB
 have H:((spec_l01Cur_pick.f s0_0 s0_1 s0_2 (wrap64 ((mn a1 (wrap64 (1 + (wrap64 ((s0_0.length:Int) / 8))))) + 1))).bind fun bt359=>(some (bt359.1,bt359.2.1,bt359.2.2))) = some (r1,r2,r3):=h
 clear h
 obtain⟨ji3,hji3⟩:∃ j_:Int,(mn a1 (wrap64 (1 + (wrap64 ((s0_0.length:Int) / 8))))) = j_:=⟨_,rfl⟩
 replace H:((spec_l01Cur_pick.f s0_0 s0_1 s0_2 (wrap64 ((ji3) + 1))).bind fun bt359=>(some (bt359.1,bt359.2.1,bt359.2.2))) = some (r1,r2,r3):=by first|(rw [hji3] at H;exact H)|(simp only [hji3] at H ⊢;exact H)
 have hji3_:(if (wrap64 (1 + (wrap64 ((s0_0.length:Int) / 8)))) < a1 then (wrap64 (1 + (wrap64 ((s0_0.length:Int) / 8)))) else a1) = ji3:=hji3
 replace H:=Option.bind_eq_some_iff.mp H
 obtain⟨⟨t359,t360,t361⟩,A40,H⟩:=H
 replace H:(some (t359,t360,t361)) = some (r1,r2,r3):=H
 have A4:=mk0 A40
 clear A40
 simp only [Option.some.injEq,Prod.mk.injEq] at H
 obtain⟨rfl,rfl,rfl⟩:=H
 obtain⟨ASz5_0,cSz5_0,HGz5,hgz5,HSz5_0⟩:=HI0.out
 have hcz5_0:=cellS82_0 HGz5
 have hcz5_1:=cellS82_1 HGz5
 have hcz5_2:=cellS82_2 HGz5
 have hfz5_1:=blk_frozen HGz5 1
 have hfz5_2:=blk_frozen HGz5 2
 clear HGz5 hgz5
 go_enter Try.func62,Try.ntmps62
 go_wp2_with (first|((with_reducible refine gate_callee (f:=59) rfl ?_);refine goesL_ (some 16) rfl rfl Try.func59 (by kernel_rfl) rfl #[.pointer (some ⟨g,0,none⟩),.int .i64 (wrap64 ((ji3) + 1))] rfl (by (try simp only [mA,mC,mN]);first|done|(simp only [hji3];rfl)|rfl|(simp only [List.length_drop,List.length_take];rfl)) ?_;(with_reducible refine (spec_l01Cur_pick.calls g s0_0 s0_1 s0_2 (wrap64 ((ji3) + 1)) t359 t360 t361 w0 _ ?side1 ?side2 A4.out).mono ?_);(case side1=>repeat (first|(with_reducible first|exact HI0.out|apply IsS82.alloc|apply IsS82.drewN|apply IsS82.drew|apply IsS82.set_1|apply IsS82.set_2)|exact HI0.out));(case side2=>repeat (first|(with_reducible first|exact HB.out|apply aZ|apply nZ|apply dZ|refine sZ ?_ (IsS82.ge HI0.out))|exact HB.out));rintro e w6 ⟨rfl,hi,hb,hk⟩;refine⟨_,rfl,?_⟩;have n0_:=mk0 (KeepBut.trans (by repeat (first|(with_reducible first|exact HK.out|apply KeepBut.set_|apply keep_drewN|apply keep_drew|apply keep_alloc)|exact HK.out)) hk (.inl rfl));have n1_:=mk0 (hb);have n2_:=mk0 (hi);clear HK HB HI0;have HK:=n0_;have HB:=n1_;have HI0:=n2_;clear n0_ n1_ n2_;(try clear hb);(try clear hb2);(try clear hk);(try clear hi)))
 go_ret
 exact⟨by first|rfl|(simp [errW_none,errW_some] <;> rfl)|(simp only [← hji3];first|rfl|(simp [errW_none,errW_some] <;> rfl))|(simp [*,errW_none,errW_some] <;> rfl),by repeat (first|(with_reducible first|exact HI0.out|apply IsS82.alloc|apply IsS82.drewN|apply IsS82.drew|apply IsS82.set_1|apply IsS82.set_2)|exact HI0.out),by repeat (first|(with_reducible first|exact HB.out|apply aZ|apply nZ|apply dZ|refine sZ ?_ (IsS82.ge HI0.out))|exact HB.out),by repeat (first|(with_reducible first|exact HK.out|apply KeepBut.set_|apply keep_drewN|apply keep_drew|apply keep_alloc)|exact HK.out)⟩

/-! ### spec_l01Cur_wide: function 63 -/
def spec_l01Cur_wide.f (s0_0 : List Int) (s0_1 : Int) (s0_2 : Int) (a1 : Int) : Option (Int × Int × Int) := (spec_l01Cur_pick.f s0_0 s0_1 s0_2 256).bind fun bt362 => ((spec_l01Cur_pick.f s0_0 bt362.2.1 bt362.2.2 256).bind fun bt365 => ((spec_l01Cur_pick.f s0_0 bt365.2.1 bt365.2.2 256).bind fun bt368 => (if a1 = 0 then (none) else (some (Int.tmod (wrap64 ((wrap64 ((wrap64 (65536 * bt362.1)) + (wrap64 (256 * bt365.1)))) + bt368.1)) a1, bt368.2.1, bt368.2.2)))))
set_option maxHeartbeats 8000000 in
set_option maxRecDepth 100000 in
theorem spec_l01Cur_wide.calls (g : Nat) (s0_0 : List Int) (s0_1 : Int) (s0_2 : Int) (a1 : Int) (r1 : Int) (r2 : Int) (r3 : Int) (w0 w : World) (hI : IsS82 w0 w g s0_0 s0_1 s0_2) (hB : Below w0.heap.size w0 w) (h : spec_l01Cur_wide.f s0_0 s0_1 s0_2 a1 = some (r1, r2, r3)) :
  Calls Try.prog 63 #[.pointer (some ⟨g, 0, none⟩), .int .i64 a1] w fun e w' => e = .returned (.int .i64 r1) ∧ IsS82 w0 w' g s0_0 r2 r3 ∧ Below w0.heap.size w0 w' ∧ KeepBut w w' g none := by
 have HI0:=mk0 hI
 have HK:=mk0 (KeepBut.refl w g none)
 have HL:=mk0 hB.size
 clear hI
 have HW0:=mk0 hB.size
 have HB:=mk0 hB
 clear hB
 have H:((spec_l01Cur_pick.f s0_0 s0_1 s0_2 256).bind fun bt362=>((spec_l01Cur_pick.f s0_0 bt362.2.1 bt362.2.2 256).bind fun bt365=>((spec_l01Cur_pick.f s0_0 bt365.2.1 bt365.2.2 256).bind fun bt368=>(if a1 = 0 then (none) else (some (Int.tmod (wrap64 ((wrap64 ((wrap64 (65536 * bt362.1)) + (wrap64 (256 * bt365.1)))) + bt368.1)) a1,bt368.2.1,bt368.2.2)))))) = some (r1,r2,r3):=h
 clear h
 replace H:=Option.bind_eq_some_iff.mp H
 obtain⟨⟨t362,t363,t364⟩,A30,H⟩:=H
 replace H:((spec_l01Cur_pick.f s0_0 t363 t364 256).bind fun bt365=>((spec_l01Cur_pick.f s0_0 bt365.2.1 bt365.2.2 256).bind fun bt368=>(if a1 = 0 then (none) else (some (Int.tmod (wrap64 ((wrap64 ((wrap64 (65536 * t362)) + (wrap64 (256 * bt365.1)))) + bt368.1)) a1,bt368.2.1,bt368.2.2))))) = some (r1,r2,r3):=H
 have A3:=mk0 A30
 clear A30
 replace H:=Option.bind_eq_some_iff.mp H
 obtain⟨⟨t365,t366,t367⟩,A40,H⟩:=H
 replace H:((spec_l01Cur_pick.f s0_0 t366 t367 256).bind fun bt368=>(if a1 = 0 then (none) else (some (Int.tmod (wrap64 ((wrap64 ((wrap64 (65536 * t362)) + (wrap64 (256 * t365)))) + bt368.1)) a1,bt368.2.1,bt368.2.2)))) = some (r1,r2,r3):=H
 have A4:=mk0 A40
 clear A40
 replace H:=Option.bind_eq_some_iff.mp H
 obtain⟨⟨t368,t369,t370⟩,A50,H⟩:=H
 replace H:(if a1 = 0 then (none) else (some (Int.tmod (wrap64 ((wrap64 ((wrap64 (65536 * t362)) + (wrap64 (256 * t365)))) + t368)) a1,t369,t370))) = some (r1,r2,r3):=H
 have A5:=mk0 A50
 clear A50
 by_cases c6:a1 = 0
 ·rw [if_pos c6] at H
  exact absurd H (by simp)
 ·rw [if_neg c6] at H
  have c6b0:(a1 == 0) = false:=beq_eq_false_iff_ne.mpr c6
  have c6b1:(a1 != 0) = true:=bne_iff_ne.mpr c6
  simp only [Option.some.injEq,Prod.mk.injEq] at H
  obtain⟨rfl,rfl,rfl⟩:=H
  go_enter Try.func63,Try.ntmps63
  go_wp2_with (first|((with_reducible refine gate_callee (f:=59) rfl ?_);refine goesL_ (some 6) rfl rfl Try.func59 (by kernel_rfl) rfl #[.pointer (some ⟨g,0,none⟩),.int .i64 256] rfl (by (try simp only [mA,mC,mN]);first|done|rfl|(simp only [List.length_drop,List.length_take];rfl)) ?_;(with_reducible refine (spec_l01Cur_pick.calls g s0_0 s0_1 s0_2 256 t362 t363 t364 w0 _ ?side1 ?side2 A3.out).mono ?_);(case side1=>repeat (first|(with_reducible first|exact HI0.out|apply IsS82.alloc|apply IsS82.drewN|apply IsS82.drew|apply IsS82.set_1|apply IsS82.set_2)|exact HI0.out));(case side2=>repeat (first|(with_reducible first|exact HB.out|apply aZ|apply nZ|apply dZ|refine sZ ?_ (IsS82.ge HI0.out))|exact HB.out));rintro e w7 ⟨rfl,hi,hb,hk⟩;refine⟨_,rfl,?_⟩;have n0_:=mk0 (KeepBut.trans (by repeat (first|(with_reducible first|exact HK.out|apply KeepBut.set_|apply keep_drewN|apply keep_drew|apply keep_alloc)|exact HK.out)) hk (.inl rfl));have n1_:=mk0 (hb);have n2_:=mk0 (hi);clear HK HB HI0;have HK:=n0_;have HB:=n1_;have HI0:=n2_;clear n0_ n1_ n2_;(try clear hb);(try clear hb2);(try clear hk);(try clear hi))|((with_reducible refine gate_callee (f:=59) rfl ?_);refine goesL_ (some 9) rfl rfl Try.func59 (by kernel_rfl) rfl #[.pointer (some ⟨g,0,none⟩),.int .i64 256] rfl (by (try simp only [mA,mC,mN]);first|done|rfl|(simp only [List.length_drop,List.length_take];rfl)) ?_;(with_reducible refine (spec_l01Cur_pick.calls g s0_0 t363 t364 256 t365 t366 t367 w0 _ ?side1 ?side2 A4.out).mono ?_);(case side1=>repeat (first|(with_reducible first|exact HI0.out|apply IsS82.alloc|apply IsS82.drewN|apply IsS82.drew|apply IsS82.set_1|apply IsS82.set_2)|exact HI0.out));(case side2=>repeat (first|(with_reducible first|exact HB.out|apply aZ|apply nZ|apply dZ|refine sZ ?_ (IsS82.ge HI0.out))|exact HB.out));rintro e w8 ⟨rfl,hi,hb,hk⟩;refine⟨_,rfl,?_⟩;have n0_:=mk0 (KeepBut.trans (by repeat (first|(with_reducible first|exact HK.out|apply KeepBut.set_|apply keep_drewN|apply keep_drew|apply keep_alloc)|exact HK.out)) hk (.inl rfl));have n1_:=mk0 (hb);have n2_:=mk0 (hi);clear HK HB HI0;have HK:=n0_;have HB:=n1_;have HI0:=n2_;clear n0_ n1_ n2_;(try clear hb);(try clear hb2);(try clear hk);(try clear hi))|((with_reducible refine gate_callee (f:=59) rfl ?_);refine goesL_ (some 13) rfl rfl Try.func59 (by kernel_rfl) rfl #[.pointer (some ⟨g,0,none⟩),.int .i64 256] rfl (by (try simp only [mA,mC,mN]);first|done|rfl|(simp only [List.length_drop,List.length_take];rfl)) ?_;(with_reducible refine (spec_l01Cur_pick.calls g s0_0 t366 t367 256 t368 t369 t370 w0 _ ?side1 ?side2 A5.out).mono ?_);(case side1=>repeat (first|(with_reducible first|exact HI0.out|apply IsS82.alloc|apply IsS82.drewN|apply IsS82.drew|apply IsS82.set_1|apply IsS82.set_2)|exact HI0.out));(case side2=>repeat (first|(with_reducible first|exact HB.out|apply aZ|apply nZ|apply dZ|refine sZ ?_ (IsS82.ge HI0.out))|exact HB.out));rintro e w9 ⟨rfl,hi,hb,hk⟩;refine⟨_,rfl,?_⟩;have n0_:=mk0 (KeepBut.trans (by repeat (first|(with_reducible first|exact HK.out|apply KeepBut.set_|apply keep_drewN|apply keep_drew|apply keep_alloc)|exact HK.out)) hk (.inl rfl));have n1_:=mk0 (hb);have n2_:=mk0 (hi);clear HK HB HI0;have HK:=n0_;have HB:=n1_;have HI0:=n2_;clear n0_ n1_ n2_;(try clear hb);(try clear hb2);(try clear hk);(try clear hi)))
  go_ret
  exact⟨by first|rfl|(simp [errW_none,errW_some] <;> rfl)|(simp [*,errW_none,errW_some] <;> rfl),by repeat (first|(with_reducible first|exact HI0.out|apply IsS82.alloc|apply IsS82.drewN|apply IsS82.drew|apply IsS82.set_1|apply IsS82.set_2)|exact HI0.out),by repeat (first|(with_reducible first|exact HB.out|apply aZ|apply nZ|apply dZ|refine sZ ?_ (IsS82.ge HI0.out))|exact HB.out),by repeat (first|(with_reducible first|exact HK.out|apply KeepBut.set_|apply keep_drewN|apply keep_drew|apply keep_alloc)|exact HK.out)⟩

/-! ### spec_l01Cur_numbers: function 58 -/
def spec_l01Cur_numbers.l0 : Nat → Int → List Int → Int → List Int → Int → Int → Option (List Int × Int × Int)
 | 0, _, _, _, _, _, _ => none
 | k + 1, x2, x7, x8, x1000, x1001, x1002 => if x8 > 0 then ((spec_l01Cur_wide.f x1000 x1001 x1002 (mx 1 x2)).bind fun bt377 => (if x7.length < 17592186044416 then (spec_l01Cur_numbers.l0 k x2 (x7 ++ [bt377.1]) (wrap64 (x8 - 1)) x1000 bt377.2.1 bt377.2.2) else (none))) else (some (x7, x1001, x1002))
def spec_l01Cur_numbers.f (k : Nat) (s0_0 : List Int) (s0_1 : Int) (s0_2 : Int) (a1 : Int) (a2 : Int) : Option (List Int × Int × Int) := (spec_l01Cur_size.f s0_0 s0_1 s0_2 a1).bind fun bt374 => (spec_l01Cur_numbers.l0 k a2 (([] : List Int)) bt374.1 s0_0 bt374.2.1 bt374.2.2)
theorem spec_l01Cur_numbers.mono_l : ∀ k, (∀ y0 y1 y2 y3 y4 y5, LeO (spec_l01Cur_numbers.l0 k y0 y1 y2 y3 y4 y5) (spec_l01Cur_numbers.l0 (k + 1) y0 y1 y2 y3 y4 y5))
 | 0 => fun _ _ _ _ _ _ r h => by simp [spec_l01Cur_numbers.l0] at h
 | k + 1 => by
  have ih0 := spec_l01Cur_numbers.mono_l k
  ·intro y0 y1 y2 y3 y4 y5
   unfold spec_l01Cur_numbers.l0
   repeat' first|(with_reducible first|exact ih0 _ _ _ _ _ _|exact LeO.refl _|exact LeO.none _|refine LeO.ite ?_ ?_|refine LeO.bind ?_ (fun _ => ?_))|exact LeO.none _|refine LeO.ite ?_ ?_|refine LeO.bind ?_ (fun _ => ?_)
theorem spec_l01Cur_numbers.mono : ∀ a0 a1 a2 a3 a4 k, LeO (spec_l01Cur_numbers.f k a0 a1 a2 a3 a4) (spec_l01Cur_numbers.f (k + 1) a0 a1 a2 a3 a4) := by
 intro a0 a1 a2 a3 a4 k
 have ih0 := spec_l01Cur_numbers.mono_l k
 unfold spec_l01Cur_numbers.f
 repeat' first|(with_reducible first|exact ih0 _ _ _ _ _ _|exact LeO.refl _|exact LeO.none _|refine LeO.ite ?_ ?_|refine LeO.bind ?_ (fun _ => ?_))|exact LeO.none _|refine LeO.ite ?_ ?_|refine LeO.bind ?_ (fun _ => ?_)
set_option maxHeartbeats 8000000 in
set_option maxRecDepth 100000 in
theorem spec_l01Cur_numbers.calls (k : Nat) (g : Nat) (s0_0 : List Int) (s0_1 : Int) (s0_2 : Int) (a1 : Int) (a2 : Int) (r1 : List Int) (r2 : Int) (r3 : Int) (w0 w : World) (hI : IsS82 w0 w g s0_0 s0_1 s0_2) (hB : Below w0.heap.size w0 w) (h : spec_l01Cur_numbers.f k s0_0 s0_1 s0_2 a1 a2 = some (r1, r2, r3)) :
  Calls Try.prog 58 #[.pointer (some ⟨g, 0, none⟩), .int .i64 a1, .int .i64 a2] w fun e w' => ∃ v0_ : Value, e = .returned (v0_) ∧ Kd.R (Kd.int .i64) 3 w' w.heap.size (fun _ => True) v0_ r1 ∧ IsS82 w0 w' g s0_0 r2 r3 ∧ Below w0.heap.size w0 w' ∧ KeepBut w w' g none := by
 have HI0:=mk0 hI
 have HK:=mk0 (KeepBut.refl w g none)
 have HL:=mk0 hB.size
 clear hI
 have HW0:=mk0 hB.size
 have HB:=mk0 hB
 clear hB
 have H:((spec_l01Cur_size.f s0_0 s0_1 s0_2 a1).bind fun bt374=>(spec_l01Cur_numbers.l0 k a2 (([]:List Int)) bt374.1 s0_0 bt374.2.1 bt374.2.2)) = some (r1,r2,r3):=h
 clear h
 obtain⟨y371,hy371⟩:∃ y_:List Int,y_ = (([]:List Int)):=⟨_,rfl⟩
 replace H:((spec_l01Cur_size.f s0_0 s0_1 s0_2 a1).bind fun bt374=>(spec_l01Cur_numbers.l0 k a2 y371 bt374.1 s0_0 bt374.2.1 bt374.2.2)) = some (r1,r2,r3):=by first|(rw [hy371];with_reducible exact H)|(have H2_:=(Option.bind_some _ _).symm.trans H;rw [hy371];with_reducible exact H2_)|(have H2_:=(Option.bind_some _ _).symm.trans H;with_reducible exact H2_)|with_reducible exact H|(rw [hy371];exact H)|exact H
 have Ny371:=mk0 hy371
 clear hy371
 replace H:=Option.bind_eq_some_iff.mp H
 obtain⟨⟨t374,t375,t376⟩,A40,H⟩:=H
 replace H:(spec_l01Cur_numbers.l0 k a2 y371 t374 s0_0 t375 t376) = some (r1,r2,r3):=H
 have A4:=mk0 A40
 clear A40
 have H':=mk0 H
 clear H
 go_enter Try.func58,Try.ntmps58
 go_wp2_with (first|((with_reducible refine gate_dst (N:=9) rfl ?_);refine Kd.R_lit (Kd.int .i64) _ 3 ?hg (N:=9) ?hd (xs:=([]:List Int)) (inner:=[]) (ok:=fun _=>True) (okp:=fun _=>True) ?hr ?hp (fun _ hk=>hk) trivial (Below.refl _ _) (Nat.le_refl _) (by simp) ?_;(case hd=>rfl);(case hg=>rfl);(case hr=>first|(go_simp;done)|(go_simp;rfl));(case hp=>exact (Reps.none _ _));intro v372 w5 ho6 hb hg_ hnew_;clear hg_ hnew_;(first|rw [← Ny371.out] at ho6|(simp only [Int.reduceToNat] at ho6;rw [← Ny371.out] at ho6));have n0_:=mk0 (Kd.R_lower ho6 (keep_size (w:=w) (g:=g) (row:=none) (by repeat (first|(with_reducible first|exact HK.out|apply KeepBut.set_|apply keep_drewN|apply keep_drew|apply keep_alloc)|exact HK.out))));have n1_:=mk0 (IsS82.below (by repeat (first|(with_reducible first|exact HI0.out|apply IsS82.alloc|apply IsS82.drewN|apply IsS82.drew|apply IsS82.set_1|apply IsS82.set_2)|exact HI0.out)) hb);have n2_:=mk0 (KeepBut.trans (by repeat (first|(with_reducible first|exact HK.out|apply KeepBut.set_|apply keep_drewN|apply keep_drew|apply keep_alloc)|exact HK.out)) (KeepBut.of_below hb g none) (.inl rfl));have n3_:=mk0 (below_step (by repeat (first|(with_reducible first|exact HB.out|apply aZ|apply nZ|apply dZ|refine sZ ?_ (IsS82.ge HI0.out))|exact HB.out)) hb);clear HI0 HK HB;have HO373:=n0_;have HI0:=n1_;have HK:=n2_;have HB:=n3_;clear n0_ n1_ n2_ n3_ hb ho6)|((with_reducible refine gate_callee (f:=62) rfl ?_);refine goesL_ (some 12) rfl rfl Try.func62 (by kernel_rfl) rfl #[.pointer (some ⟨g,0,none⟩),.int .i64 a1] rfl (by (try simp only [mA,mC,mN]);first|done|rfl|(simp only [List.length_drop,List.length_take];rfl)) ?_;(with_reducible refine (spec_l01Cur_size.calls g s0_0 s0_1 s0_2 a1 t374 t375 t376 w0 _ ?side1 ?side2 A4.out).mono ?_);(case side1=>repeat (first|(with_reducible first|exact HI0.out|apply IsS82.alloc|apply IsS82.drewN|apply IsS82.drew|apply IsS82.set_1|apply IsS82.set_2)|exact HI0.out));(case side2=>repeat (first|(with_reducible first|exact HB.out|apply aZ|apply nZ|apply dZ|refine sZ ?_ (IsS82.ge HI0.out))|exact HB.out));rintro e w7 ⟨rfl,hi,hb,hk⟩;refine⟨_,rfl,?_⟩;have n0_:=mk0 (Kd.R_mono (Kd.R_keep (IsS82.apart (show IsS82 w0 _ g s0_0 s0_1 s0_2 from by repeat (first|(with_reducible first|exact HI0.out|apply IsS82.alloc|apply IsS82.drewN|apply IsS82.drew|apply IsS82.set_1|apply IsS82.set_2)|exact HI0.out)) (by (with_reducible repeat (first|apply aR|apply nR|apply dR));exact HO373.out) (by decide)) hk (fun _ h=>h.2)) (fun _ h=>h.1));have n1_:=mk0 (KeepBut.trans (by repeat (first|(with_reducible first|exact HK.out|apply KeepBut.set_|apply keep_drewN|apply keep_drew|apply keep_alloc)|exact HK.out)) hk (.inl rfl));have n2_:=mk0 (hb);have n3_:=mk0 (hi);clear HO373 HK HB HI0;have HO373:=n0_;have HK:=n1_;have HB:=n2_;have HI0:=n3_;clear n0_ n1_ n2_ n3_;(try clear hb);(try clear hb2);(try clear hk);(try clear hi)))
 go_loopg [7,8] k (fun kq v7 v8 w'=>∃ (x7_1:List Int) (x8_1:Int) (x1001_1:Int) (x1002_1:Int),v8 = .int .i64 x8_1 ∧ Aside0 (spec_l01Cur_numbers.l0 kq a2 x7_1 x8_1 s0_0 x1001_1 x1002_1 = some (r1,r2,r3)) ∧ Aside0 (kq ≤ k) ∧ Aside0 (Kd.R (Kd.int .i64) 3 w' w.heap.size (fun _=>True) v7 x7_1) ∧ Aside0 (IsS82 w0 w' g s0_0 x1001_1 x1002_1) ∧ Aside0 (KeepBut w w' g none) ∧ Aside0 (Below w0.heap.size w0 w'))
 case atStart=>exact⟨(y371),(t374),(t375),(t376),(by first|rfl|(simp;done)|(simp [*];done)),H',⟨Nat.le_refl _⟩,⟨by (with_reducible repeat (first|apply aR|apply nR|apply dR));exact HO373.out⟩,⟨by repeat (first|(with_reducible first|exact HI0.out|apply IsS82.alloc|apply IsS82.drewN|apply IsS82.drew|apply IsS82.set_1|apply IsS82.set_2)|exact HI0.out)⟩,⟨by repeat (first|(with_reducible first|exact HK.out|apply KeepBut.set_|apply keep_drewN|apply keep_drew|apply keep_alloc)|exact HK.out)⟩,⟨by repeat (first|(with_reducible first|exact HB.out|apply aZ|apply nZ|apply dZ|refine sZ ?_ (IsS82.ge HI0.out))|exact HB.out)⟩⟩
 case round =>
  clear H'
  try clear p2
  try clear c5
  try clear c6
  obtain⟨x7_1,x8_1,x1001_1,x1002_1,rfl,HA,HK1,HO_7,HI0,HK,HB⟩:=hrel
  cases gk with
  | zero=>exact absurd HA.out (by simp [spec_l01Cur_numbers.l0])
  | succ k1 =>
   have H:=HA.out
   clear HA
   simp only [spec_l01Cur_numbers.l0] at H
   by_cases c8:x8_1 > 0
   ·rw [if_pos c8] at H
    have c8b0:decide (0 < x8_1) = true:=decide_eq_true c8
    clear c8
    obtain⟨ji9,hji9⟩:∃ j_:Int,(mx 1 a2) = j_:=⟨_,rfl⟩
    replace H:((spec_l01Cur_wide.f s0_0 x1001_1 x1002_1 (ji9)).bind fun bt377=>(if x7_1.length < 17592186044416 then (spec_l01Cur_numbers.l0 k1 a2 (x7_1 ++ [bt377.1]) (wrap64 (x8_1 - 1)) s0_0 bt377.2.1 bt377.2.2) else (none))) = some (r1,r2,r3):=by first|(rw [hji9] at H;exact H)|(simp only [hji9] at H ⊢;exact H)
    have hji9_:(if 1 < a2 then a2 else 1) = ji9:=hji9
    replace H:=Option.bind_eq_some_iff.mp H
    obtain⟨⟨t377,t378,t379⟩,A100,H⟩:=H
    replace H:(if x7_1.length < 17592186044416 then (spec_l01Cur_numbers.l0 k1 a2 (x7_1 ++ [t377]) (wrap64 (x8_1 - 1)) s0_0 t378 t379) else (none)) = some (r1,r2,r3):=H
    have A10:=mk0 A100
    clear A100
    by_cases c11:x7_1.length < 17592186044416
    ·rw [if_pos c11] at H
     have LMc11:=mk0 c11
     clear c11
     obtain⟨y380,hy380⟩:∃ y_:List Int,y_ = (x7_1 ++ [t377]):=⟨_,rfl⟩
     replace H:(spec_l01Cur_numbers.l0 k1 a2 y380 (wrap64 (x8_1 - 1)) s0_0 t378 t379) = some (r1,r2,r3):=by first|(rw [hy380];with_reducible exact H)|(have H2_:=(Option.bind_some _ _).symm.trans H;rw [hy380];with_reducible exact H2_)|(have H2_:=(Option.bind_some _ _).symm.trans H;with_reducible exact H2_)|with_reducible exact H|(rw [hy380];exact H)|exact H
     have Ny380:=mk0 hy380
     clear hy380
     have H':=mk0 H
     clear H
     go_wp2_with (first|((with_reducible refine gate_callee (f:=63) rfl ?_);refine goesL_ (some 21) rfl rfl Try.func63 (by kernel_rfl) rfl #[.pointer (some ⟨g,0,none⟩),.int .i64 ji9] rfl (by (try simp only [mA,mC,mN]);first|done|(simp only [hji9];rfl)|rfl|(simp only [List.length_drop,List.length_take];rfl)) ?_;(with_reducible refine (spec_l01Cur_wide.calls g s0_0 x1001_1 x1002_1 ji9 t377 t378 t379 w0 _ ?side1 ?side2 A10.out).mono ?_);(case side1=>repeat (first|(with_reducible first|exact HI0.out|apply IsS82.alloc|apply IsS82.drewN|apply IsS82.drew|apply IsS82.set_1|apply IsS82.set_2)|exact HI0.out));(case side2=>repeat (first|(with_reducible first|exact HB.out|apply aZ|apply nZ|apply dZ|refine sZ ?_ (IsS82.ge HI0.out))|exact HB.out));rintro e w12 ⟨rfl,hi,hb,hk⟩;refine⟨_,rfl,?_⟩;have n0_:=mk0 (Kd.R_mono (Kd.R_keep (IsS82.apart (show IsS82 w0 _ g s0_0 x1001_1 x1002_1 from by repeat (first|(with_reducible first|exact HI0.out|apply IsS82.alloc|apply IsS82.drewN|apply IsS82.drew|apply IsS82.set_1|apply IsS82.set_2)|exact HI0.out)) (by (with_reducible repeat (first|apply aR|apply nR|apply dR));exact HO_7.out) (by decide)) hk (fun _ h=>h.2)) (fun _ h=>h.1));have n1_:=mk0 (KeepBut.trans (by repeat (first|(with_reducible first|exact HK.out|apply KeepBut.set_|apply keep_drewN|apply keep_drew|apply keep_alloc)|exact HK.out)) hk (.inl rfl));have n2_:=mk0 (hb);have n3_:=mk0 (hi);clear HO_7 HK HB HI0;have HO_7:=n0_;have HK:=n1_;have HB:=n2_;have HI0:=n3_;clear n0_ n1_ n2_ n3_;(try clear hb);(try clear hb2);(try clear hk);(try clear hi))|((with_reducible refine gate_builtin (b:=.append) (xs:=#[.tmp 17,.tmp 22]) rfl ?_);at_builtin;refine Kd.R_append (Kd.int .i64) w.heap.size rfl (.tmp 17) (.tmp 22) 22 3 (.int .i64 0) 8 rfl Try.underlying22 info3 rfl (by decide) (by omega) u7 x7_1 t377 [.int .i64 t377] (fun _=>True) (fun _=>False) rfl rfl ?aP (fun _ hk=>hk.elim) ?aF ?aO (Below.refl _ _) ?aS ?aL ?_;(case aP=>exact rfl);(case aF=>exact (fun _ _=>trivial));(case aO=>exact (by (with_reducible repeat (first|apply aR|apply nR|apply dR));exact HO_7.out));(case aS=>exact (keep_size (w:=w) (g:=g) (row:=none) (by repeat (first|(with_reducible first|exact HK.out|apply KeepBut.set_|apply keep_drewN|apply keep_drew|apply keep_alloc)|exact HK.out))));(case aL=>have:=LMc11.out;omega);intro v381 w13 ho hb hg hat;rw [← Ny380.out] at ho;have n0_:=mk0 (IsS82.grown (by repeat (first|(with_reducible first|exact HI0.out|apply IsS82.alloc|apply IsS82.drewN|apply IsS82.drew|apply IsS82.set_1|apply IsS82.set_2)|exact HI0.out)) hg (IsS82.own_ne HI0.out HO_7.out (by decide)));have n1_:=mk0 (below_weaken (by repeat (first|(with_reducible first|exact HB.out|apply aZ|apply nZ|apply dZ|refine sZ ?_ (IsS82.ge HI0.out))|exact HB.out)) HL.out hb);have n2_:=mk0 (KeepBut.trans (by repeat (first|(with_reducible first|exact HK.out|apply KeepBut.set_|apply keep_drewN|apply keep_drew|apply keep_alloc)|exact HK.out)) (KeepBut.of_grown hg g) (Kd.R_base2 HO_7.out));have n3_:=mk0 (ho);clear HI0 HB HK HO_7;have HI0:=n0_;have HB:=n1_;have HK:=n2_;have HO382:=n3_;clear n0_ n1_ n2_ n3_ ho hb hg hat))
     go_roundg k1
     case measure=>have:=HK1.out;omega
     case rel=>exact⟨(y380),(wrap64 (x8_1 - 1)),(t378),(t379),(by first|rfl|(simp;done)|(simp [*];done)),H',⟨by have:=HK1.out;omega⟩,⟨by (with_reducible repeat (first|apply aR|apply nR|apply dR));exact HO382.out⟩,⟨by repeat (first|(with_reducible first|exact HI0.out|apply IsS82.alloc|apply IsS82.drewN|apply IsS82.drew|apply IsS82.set_1|apply IsS82.set_2)|exact HI0.out)⟩,⟨by repeat (first|(with_reducible first|exact HK.out|apply KeepBut.set_|apply keep_drewN|apply keep_drew|apply keep_alloc)|exact HK.out)⟩,⟨by repeat (first|(with_reducible first|exact HB.out|apply aZ|apply nZ|apply dZ|refine sZ ?_ (IsS82.ge HI0.out))|exact HB.out)⟩⟩
    ·rw [if_neg c11] at H
     exact absurd H (by simp)
   ·rw [if_neg c8] at H
    have c8b0:decide (0 < x8_1) = false:=decide_eq_false c8
    clear c8
    simp only [Option.some.injEq,Prod.mk.injEq] at H
    obtain⟨rfl,rfl,rfl⟩:=H
    go_wp2
    go_ret
    exact⟨_,by first|rfl|(simp [errW_none,errW_some] <;> rfl)|(simp [*,errW_none,errW_some] <;> rfl),by (with_reducible repeat (first|apply aR|apply nR|apply dR));exact HO_7.out,by repeat (first|(with_reducible first|exact HI0.out|apply IsS82.alloc|apply IsS82.drewN|apply IsS82.drew|apply IsS82.set_1|apply IsS82.set_2)|exact HI0.out),by repeat (first|(with_reducible first|exact HB.out|apply aZ|apply nZ|apply dZ|refine sZ ?_ (IsS82.ge HI0.out))|exact HB.out),by repeat (first|(with_reducible first|exact HK.out|apply KeepBut.set_|apply keep_drewN|apply keep_drew|apply keep_alloc)|exact HK.out)⟩

/-! ### spec_l01Cur_once: function 60 -/
def spec_l01Cur_once.f (s0_0 : List Int) (s0_1 : Int) (s0_2 : Int) (a1 : Int) : Option (Bool × Int × Int) := (spec_l01Cur_pick.f s0_0 s0_1 s0_2 a1).bind fun bt383 => (some ((bt383.1 == (wrap64 (a1 - 1))), bt383.2.1, bt383.2.2))
set_option maxHeartbeats 8000000 in
set_option maxRecDepth 100000 in
theorem spec_l01Cur_once.calls (g : Nat) (s0_0 : List Int) (s0_1 : Int) (s0_2 : Int) (a1 : Int) (r1 : Bool) (r2 : Int) (r3 : Int) (w0 w : World) (hI : IsS82 w0 w g s0_0 s0_1 s0_2) (hB : Below w0.heap.size w0 w) (h : spec_l01Cur_once.f s0_0 s0_1 s0_2 a1 = some (r1, r2, r3)) :
  Calls Try.prog 60 #[.pointer (some ⟨g, 0, none⟩), .int .i64 a1] w fun e w' => e = .returned (.bool r1) ∧ IsS82 w0 w' g s0_0 r2 r3 ∧ Below w0.heap.size w0 w' ∧ KeepBut w w' g none := by
 have HI0:=mk0 hI
 have HK:=mk0 (KeepBut.refl w g none)
 have HL:=mk0 hB.size
 clear hI
 have HW0:=mk0 hB.size
 have HB:=mk0 hB
 clear hB
 have H:((spec_l01Cur_pick.f s0_0 s0_1 s0_2 a1).bind fun bt383=>(some ((bt383.1 == (wrap64 (a1 - 1))),bt383.2.1,bt383.2.2))) = some (r1,r2,r3):=h
 clear h
 replace H:=Option.bind_eq_some_iff.mp H
 obtain⟨⟨t383,t384,t385⟩,A30,H⟩:=H
 replace H:(some ((t383 == (wrap64 (a1 - 1))),t384,t385)) = some (r1,r2,r3):=H
 have A3:=mk0 A30
 clear A30
 simp only [Option.some.injEq,Prod.mk.injEq] at H
 obtain⟨rfl,rfl,rfl⟩:=H
 go_enter Try.func60,Try.ntmps60
 go_wp2_with (first|((with_reducible refine gate_callee (f:=59) rfl ?_);refine goesL_ (some 7) rfl rfl Try.func59 (by kernel_rfl) rfl #[.pointer (some ⟨g,0,none⟩),.int .i64 a1] rfl (by (try simp only [mA,mC,mN]);first|done|rfl|(simp only [List.length_drop,List.length_take];rfl)) ?_;(with_reducible refine (spec_l01Cur_pick.calls g s0_0 s0_1 s0_2 a1 t383 t384 t385 w0 _ ?side1 ?side2 A3.out).mono ?_);(case side1=>repeat (first|(with_reducible first|exact HI0.out|apply IsS82.alloc|apply IsS82.drewN|apply IsS82.drew|apply IsS82.set_1|apply IsS82.set_2)|exact HI0.out));(case side2=>repeat (first|(with_reducible first|exact HB.out|apply aZ|apply nZ|apply dZ|refine sZ ?_ (IsS82.ge HI0.out))|exact HB.out));rintro e w4 ⟨rfl,hi,hb,hk⟩;refine⟨_,rfl,?_⟩;have n0_:=mk0 (KeepBut.trans (by repeat (first|(with_reducible first|exact HK.out|apply KeepBut.set_|apply keep_drewN|apply keep_drew|apply keep_alloc)|exact HK.out)) hk (.inl rfl));have n1_:=mk0 (hb);have n2_:=mk0 (hi);clear HK HB HI0;have HK:=n0_;have HB:=n1_;have HI0:=n2_;clear n0_ n1_ n2_;(try clear hb);(try clear hb2);(try clear hk);(try clear hi)))
 go_ret
 exact⟨by first|rfl|(simp [errW_none,errW_some] <;> rfl)|(simp [*,errW_none,errW_some] <;> rfl),by repeat (first|(with_reducible first|exact HI0.out|apply IsS82.alloc|apply IsS82.drewN|apply IsS82.drew|apply IsS82.set_1|apply IsS82.set_2)|exact HI0.out),by repeat (first|(with_reducible first|exact HB.out|apply aZ|apply nZ|apply dZ|refine sZ ?_ (IsS82.ge HI0.out))|exact HB.out),by repeat (first|(with_reducible first|exact HK.out|apply KeepBut.set_|apply keep_drewN|apply keep_drew|apply keep_alloc)|exact HK.out)⟩

/-! ### spec_l01Cur_rows: function 44 -/
mutual
def spec_l01Cur_rows.l0 : Nat → List Int → List Int → Int → List Int → Int → Int → Option (List Int × List Int × Int × Int)
 | 0, _, _, _, _, _, _ => none
 | k + 1, x4, x5, x6, x1000, x1001, x1002 => if x6 < (x4.length : Int) then ((spec_l01Cur_once.f x1000 x1001 x1002 5).bind fun bt401 => (if bt401.1 = true then ((spec_l01Cur_pick.f x1000 bt401.2.1 bt401.2.2 4).bind fun bt404 => (if x5.length < 17592186044416 then (spec_l01Cur_rows.j1 k x4 (x5 ++ [bt404.1]) x6 x1000 bt404.2.1 bt404.2.2) else (none))) else (spec_l01Cur_rows.j1 k x4 x5 x6 x1000 bt401.2.1 bt401.2.2))) else ((spec_l01Cur_once.f x1000 x1001 x1002 5).bind fun bt417 => (if bt417.1 = true then ((spec_l01Cur_numbers.f k x1000 bt417.2.1 bt417.2.2 14 4).bind fun bt420 => (spec_l01Cur_rows.j2 k x4 bt420.1 x1000 bt420.2.1 bt420.2.2)) else (spec_l01Cur_rows.j2 k x4 x5 x1000 bt417.2.1 bt417.2.2)))
def spec_l01Cur_rows.j1 : Nat → List Int → List Int → Int → List Int → Int → Int → Option (List Int × List Int × Int × Int)
 | 0, _, _, _, _, _, _ => none
 | k + 1, x4, x5, x6, x1000, x1001, x1002 => (spec_l01Cur_once.f x1000 x1001 x1002 5).bind fun bt410 => (if bt410.1 = true then (spec_l01Cur_rows.l0 k x4 x5 (wrap64 (x6 + 1)) x1000 bt410.2.1 bt410.2.2) else (if 0 ≤ x6 then (if x6 < (x4.length : Int) then (if x5.length < 17592186044416 then (spec_l01Cur_rows.l0 k x4 (x5 ++ [rd x4 x6]) (wrap64 (x6 + 1)) x1000 bt410.2.1 bt410.2.2) else (none)) else (none)) else (none)))
def spec_l01Cur_rows.j2 : Nat → List Int → List Int → List Int → Int → Int → Option (List Int × List Int × Int × Int)
 | 0, _, _, _, _, _ => none
 | k + 1, x4, x5, x1000, x1001, x1002 => (spec_l01Cur_once.f x1000 x1001 x1002 60).bind fun bt425 => (if bt425.1 = true then ((spec_l01Cur_pick.f x1000 bt425.2.1 bt425.2.2 2).bind fun bt428 => (if 0 ≤ (wrap64 (301 + bt428.1)) then (if (wrap64 (301 + bt428.1) : Int).toNat ≤ 35184372088832 then (some ((List.replicate (wrap64 (301 + bt428.1) : Int).toNat 0), x5, bt428.2.1, bt428.2.2)) else (none)) else (none))) else (some (x4, x5, bt425.2.1, bt425.2.2)))
end
def spec_l01Cur_rows.f (k : Nat) (s0_0 : List Int) (s0_1 : Int) (s0_2 : Int) : Option (List Int × List Int × Int × Int) := (some (([2, 4, 30] : List Int) : List Int)).bind fun y386 => ((spec_l01Cur_pick.f s0_0 s0_1 s0_2 3).bind fun bt389 => (if 0 ≤ bt389.1 then (if bt389.1 < (y386.length : Int) then ((spec_l01Cur_numbers.f k s0_0 bt389.2.1 bt389.2.2 14 (rd y386 bt389.1)).bind fun bt393 => (spec_l01Cur_rows.l0 k bt393.1 (([] : List Int)) 0 s0_0 bt393.2.1 bt393.2.2)) else (none)) else (none)))
theorem spec_l01Cur_rows.mono_l : ∀ k, (∀ y0 y1 y2 y3 y4 y5, LeO (spec_l01Cur_rows.l0 k y0 y1 y2 y3 y4 y5) (spec_l01Cur_rows.l0 (k + 1) y0 y1 y2 y3 y4 y5)) ∧ (∀ y0 y1 y2 y3 y4 y5, LeO (spec_l01Cur_rows.j1 k y0 y1 y2 y3 y4 y5) (spec_l01Cur_rows.j1 (k + 1) y0 y1 y2 y3 y4 y5)) ∧ (∀ y0 y1 y2 y3 y4, LeO (spec_l01Cur_rows.j2 k y0 y1 y2 y3 y4) (spec_l01Cur_rows.j2 (k + 1) y0 y1 y2 y3 y4))
 | 0 => ⟨fun _ _ _ _ _ _ r h => by simp [spec_l01Cur_rows.l0] at h, fun _ _ _ _ _ _ r h => by simp [spec_l01Cur_rows.j1] at h, fun _ _ _ _ _ r h => by simp [spec_l01Cur_rows.j2] at h⟩
 | k + 1 => by
  obtain ⟨ih0, ih1, ih2⟩ := spec_l01Cur_rows.mono_l k
  refine ⟨?_, ?_, ?_⟩
  ·intro y0 y1 y2 y3 y4 y5
   unfold spec_l01Cur_rows.l0
   repeat' first|(with_reducible first|exact ih0 _ _ _ _ _ _|exact ih1 _ _ _ _ _ _|exact ih2 _ _ _ _ _|exact spec_l01Cur_numbers.mono _ _ _ _ _ _|exact LeO.refl _|exact LeO.none _|refine LeO.ite ?_ ?_|refine LeO.bind ?_ (fun _ => ?_))|exact LeO.none _|refine LeO.ite ?_ ?_|refine LeO.bind ?_ (fun _ => ?_)
  ·intro y0 y1 y2 y3 y4 y5
   unfold spec_l01Cur_rows.j1
   repeat' first|(with_reducible first|exact ih0 _ _ _ _ _ _|exact ih1 _ _ _ _ _ _|exact ih2 _ _ _ _ _|exact spec_l01Cur_numbers.mono _ _ _ _ _ _|exact LeO.refl _|exact LeO.none _|refine LeO.ite ?_ ?_|refine LeO.bind ?_ (fun _ => ?_))|exact LeO.none _|refine LeO.ite ?_ ?_|refine LeO.bind ?_ (fun _ => ?_)
  ·intro y0 y1 y2 y3 y4
   unfold spec_l01Cur_rows.j2
   repeat' first|(with_reducible first|exact ih0 _ _ _ _ _ _|exact ih1 _ _ _ _ _ _|exact ih2 _ _ _ _ _|exact spec_l01Cur_numbers.mono _ _ _ _ _ _|exact LeO.refl _|exact LeO.none _|refine LeO.ite ?_ ?_|refine LeO.bind ?_ (fun _ => ?_))|exact LeO.none _|refine LeO.ite ?_ ?_|refine LeO.bind ?_ (fun _ => ?_)
theorem spec_l01Cur_rows.mono : ∀ a0 a1 a2 k, LeO (spec_l01Cur_rows.f k a0 a1 a2) (spec_l01Cur_rows.f (k + 1) a0 a1 a2) := by
 intro a0 a1 a2 k
 obtain ⟨ih0, ih1, ih2⟩ := spec_l01Cur_rows.mono_l k
 unfold spec_l01Cur_rows.f
 repeat' first|(with_reducible first|exact ih0 _ _ _ _ _ _|exact ih1 _ _ _ _ _ _|exact ih2 _ _ _ _ _|exact spec_l01Cur_numbers.mono _ _ _ _ _ _|exact LeO.refl _|exact LeO.none _|refine LeO.ite ?_ ?_|refine LeO.bind ?_ (fun _ => ?_))|exact LeO.none _|refine LeO.ite ?_ ?_|refine LeO.bind ?_ (fun _ => ?_)
set_option maxHeartbeats 8000000 in
set_option maxRecDepth 100000 in
theorem spec_l01Cur_rows.calls (k : Nat) (g : Nat) (s0_0 : List Int) (s0_1 : Int) (s0_2 : Int) (r1 : List Int) (r2 : List Int) (r3 : Int) (r4 : Int) (w0 w : World) (hI : IsS82 w0 w g s0_0 s0_1 s0_2) (hB : Below w0.heap.size w0 w) (h : spec_l01Cur_rows.f k s0_0 s0_1 s0_2 = some (r1, r2, r3, r4)) :
  Calls Try.prog 44 #[.pointer (some ⟨g, 0, none⟩)] w fun e w' => ∃ v0_ v1_ : Value, e = .returned (.tuple #[v0_, v1_]) ∧ Kd.R (Kd.int .i64) 3 w' w.heap.size (fun k_ => some k_ ≠ (v1_ : Value).ownBlock) v0_ r1 ∧ Kd.R (Kd.int .i64) 3 w' w.heap.size (fun k_ => some k_ ≠ (v0_ : Value).ownBlock) v1_ r2 ∧ IsS82 w0 w' g s0_0 r3 r4 ∧ Below w0.heap.size w0 w' ∧ KeepBut w w' g none := by
 have HI0:=mk0 hI
 have HK:=mk0 (KeepBut.refl w g none)
 have HL:=mk0 hB.size
 clear hI
 have HW0:=mk0 hB.size
 have HB:=mk0 hB
 clear hB
 have H:((some (([2,4,30]:List Int):List Int)).bind fun y386=>((spec_l01Cur_pick.f s0_0 s0_1 s0_2 3).bind fun bt389=>(if 0 ≤ bt389.1 then (if bt389.1 < (y386.length:Int) then ((spec_l01Cur_numbers.f k s0_0 bt389.2.1 bt389.2.2 14 (rd y386 bt389.1)).bind fun bt393=>(spec_l01Cur_rows.l0 k bt393.1 (([]:List Int)) 0 s0_0 bt393.2.1 bt393.2.2)) else (none)) else (none)))) = some (r1,r2,r3,r4):=h
 clear h
 obtain⟨y386,hy386⟩:∃ y_:List Int,y_ = (([2,4,30]:List Int)):=⟨_,rfl⟩
 replace H:((spec_l01Cur_pick.f s0_0 s0_1 s0_2 3).bind fun bt389=>(if 0 ≤ bt389.1 then (if bt389.1 < (y386.length:Int) then ((spec_l01Cur_numbers.f k s0_0 bt389.2.1 bt389.2.2 14 (rd y386 bt389.1)).bind fun bt393=>(spec_l01Cur_rows.l0 k bt393.1 (([]:List Int)) 0 s0_0 bt393.2.1 bt393.2.2)) else (none)) else (none))) = some (r1,r2,r3,r4):=by first|(rw [hy386];with_reducible exact H)|(have H2_:=(Option.bind_some _ _).symm.trans H;rw [hy386];with_reducible exact H2_)|(have H2_:=(Option.bind_some _ _).symm.trans H;with_reducible exact H2_)|with_reducible exact H|(rw [hy386];exact H)|exact H
 have Ny386:=mk0 hy386
 clear hy386
 replace H:=Option.bind_eq_some_iff.mp H
 obtain⟨⟨t389,t390,t391⟩,A20,H⟩:=H
 replace H:(if 0 ≤ t389 then (if t389 < (y386.length:Int) then ((spec_l01Cur_numbers.f k s0_0 t390 t391 14 (rd y386 t389)).bind fun bt393=>(spec_l01Cur_rows.l0 k bt393.1 (([]:List Int)) 0 s0_0 bt393.2.1 bt393.2.2)) else (none)) else (none)) = some (r1,r2,r3,r4):=H
 have A2:=mk0 A20
 clear A20
 by_cases c3:0 ≤ t389
 rotate_left
 ·rw [if_neg c3] at H
  exact absurd H (by simp)

 rw [if_pos c3] at H
 have c3b0:decide (0 ≤ t389) = true:=decide_eq_true c3
 clear c3
 by_cases c4:t389 < (y386.length:Int)
 rotate_left
 ·rw [if_neg c4] at H
  exact absurd H (by simp)
 rw [if_pos c4] at H
 have c4b0:decide (t389 < (y386.length:Int)) = true:=decide_eq_true c4
 clear c4
 replace H:=Option.bind_eq_some_iff.mp H
 obtain⟨⟨t393,t396,t397⟩,A50,H⟩:=H
 replace H:(spec_l01Cur_rows.l0 k t393 (([]:List Int)) 0 s0_0 t396 t397) = some (r1,r2,r3,r4):=H
 have A5:=mk0 A50
 clear A50
 obtain⟨y398,hy398⟩:∃ y_:List Int,y_ = (([]:List Int)):=⟨_,rfl⟩
 replace H:(spec_l01Cur_rows.l0 k t393 y398 0 s0_0 t396 t397) = some (r1,r2,r3,r4):=by first|(rw [hy398];with_reducible exact H)|(have H2_:=(Option.bind_some _ _).symm.trans H;rw [hy398];with_reducible exact H2_)|(have H2_:=(Option.bind_some _ _).symm.trans H;with_reducible exact H2_)|with_reducible exact H|(rw [hy398];exact H)|exact H
 have Ny398:=mk0 hy398
 clear hy398
 have H':=mk0 H
 clear H
 go_enter Try.func44,Try.ntmps44
 go_wp2_with (first|((with_reducible refine gate_dst (N:=8) rfl ?_);refine Kd.R_lit (Kd.int .i64) _ 3 ?hg (N:=8) ?hd (xs:=([2,4,30]:List Int)) (inner:=[.int .i64 2,.int .i64 4,.int .i64 30]) (ok:=fun _=>True) (okp:=fun _=>True) ?hr ?hp (fun _ hk=>hk) trivial (Below.refl _ _) (Nat.le_refl _) (by simp) ?_;(case hd=>rfl);(case hg=>rfl);(case hr=>first|(go_simp;done)|(go_simp;rfl));(case hp=>exact (Reps.one (show Kd.M (Kd.int .i64) _ _ _ 2 [.int .i64 2] from rfl) (Reps.one (show Kd.M (Kd.int .i64) _ _ _ 4 [.int .i64 4] from rfl) (Reps.one (show Kd.M (Kd.int .i64) _ _ _ 30 [.int .i64 30] from rfl) (Reps.none _ _)))));intro v387 w6 ho7 hb hg_ hnew_;clear hg_ hnew_;(first|rw [← Ny386.out] at ho7|(simp only [Int.reduceToNat] at ho7;rw [← Ny386.out] at ho7));have n0_:=mk0 (Kd.R_lower ho7 (keep_size (w:=w) (g:=g) (row:=none) (by repeat (first|(with_reducible first|exact HK.out|apply KeepBut.set_|apply keep_drewN|apply keep_drew|apply keep_alloc)|exact HK.out))));have n1_:=mk0 (IsS82.below (by repeat (first|(with_reducible first|exact HI0.out|apply IsS82.alloc|apply IsS82.drewN|apply IsS82.drew|apply IsS82.set_1|apply IsS82.set_2)|exact HI0.out)) hb);have n2_:=mk0 (KeepBut.trans (by repeat (first|(with_reducible first|exact HK.out|apply KeepBut.set_|apply keep_drewN|apply keep_drew|apply keep_alloc)|exact HK.out)) (KeepBut.of_below hb g none) (.inl rfl));have n3_:=mk0 (below_step (by repeat (first|(with_reducible first|exact HB.out|apply aZ|apply nZ|apply dZ|refine sZ ?_ (IsS82.ge HI0.out))|exact HB.out)) hb);clear HI0 HK HB;have HO388:=n0_;have HI0:=n1_;have HK:=n2_;have HB:=n3_;clear n0_ n1_ n2_ n3_ hb ho7)|((with_reducible refine gate_callee (f:=59) rfl ?_);refine goesL_ (some 10) rfl rfl Try.func59 (by kernel_rfl) rfl #[.pointer (some ⟨g,0,none⟩),.int .i64 3] rfl (by (try simp only [mA,mC,mN]);first|done|rfl|(simp only [List.length_drop,List.length_take];rfl)) ?_;(with_reducible refine (spec_l01Cur_pick.calls g s0_0 s0_1 s0_2 3 t389 t390 t391 w0 _ ?side1 ?side2 A2.out).mono ?_);(case side1=>repeat (first|(with_reducible first|exact HI0.out|apply IsS82.alloc|apply IsS82.drewN|apply IsS82.drew|apply IsS82.set_1|apply IsS82.set_2)|exact HI0.out));(case side2=>repeat (first|(with_reducible first|exact HB.out|apply aZ|apply nZ|apply dZ|refine sZ ?_ (IsS82.ge HI0.out))|exact HB.out));rintro e w8 ⟨rfl,hi,hb,hk⟩;refine⟨_,rfl,?_⟩;have n0_:=mk0 (Kd.R_mono (Kd.R_keep (IsS82.apart (show IsS82 w0 _ g s0_0 s0_1 s0_2 from by repeat (first|(with_reducible first|exact HI0.out|apply IsS82.alloc|apply IsS82.drewN|apply IsS82.drew|apply IsS82.set_1|apply IsS82.set_2)|exact HI0.out)) (by (with_reducible repeat (first|apply aR|apply nR|apply dR));exact HO388.out) (by decide)) hk (fun _ h=>h.2)) (fun _ h=>h.1));have n1_:=mk0 (KeepBut.trans (by repeat (first|(with_reducible first|exact HK.out|apply KeepBut.set_|apply keep_drewN|apply keep_drew|apply keep_alloc)|exact HK.out)) hk (.inl rfl));have n2_:=mk0 (hb);have n3_:=mk0 (hi);clear HO388 HK HB HI0;have HO388:=n0_;have HK:=n1_;have HB:=n2_;have HI0:=n3_;clear n0_ n1_ n2_ n3_;(try clear hb);(try clear hb2);(try clear hk);(try clear hi);obtain⟨Ao9,co9,eo9⟩:=Kd.R_slice HO388.out;subst eo9;have p392:0 ≤ (t389:Int):=of_decide_eq_true (by first|(with_reducible assumption)|assumption);have q392:t389 < (y386.length:Int):=of_decide_eq_true (by first|(with_reducible assumption)|assumption);obtain⟨ad392,e392,hx392_0⟩:=Kd.at_int (Kd.R_reads' HO388.out).2.2 t389 p392 q392;cases e392;replace p392:=eq_true p392;replace q392:=eq_true q392)|((with_reducible refine gate_callee (f:=58) rfl ?_);refine goesL_ (some 13) rfl rfl Try.func58 (by kernel_rfl) rfl #[.pointer (some ⟨g,0,none⟩),.int .i64 14,.int .i64 (rd y386 t389)] rfl (by (try simp only [mA,mC,mN]);first|done|rfl|(simp only [List.length_drop,List.length_take];rfl)) ?_;(with_reducible refine (spec_l01Cur_numbers.calls k g s0_0 t390 t391 14 (rd y386 t389) t393 t396 t397 w0 _ ?side1 ?side2 A5.out).mono ?_);(case side1=>repeat (first|(with_reducible first|exact HI0.out|apply IsS82.alloc|apply IsS82.drewN|apply IsS82.drew|apply IsS82.set_1|apply IsS82.set_2)|exact HI0.out));(case side2=>repeat (first|(with_reducible first|exact HB.out|apply aZ|apply nZ|apply dZ|refine sZ ?_ (IsS82.ge HI0.out))|exact HB.out));rintro e w10 ⟨v394,rfl,ho0,hi,hb,hk⟩;refine⟨_,rfl,?_⟩;have n0_:=mk0 (Kd.R_mono (Kd.R_told (Kd.R_oldK (IsS82.apart (show IsS82 w0 _ g s0_0 t390 t391 from by repeat (first|(with_reducible first|exact HI0.out|apply IsS82.alloc|apply IsS82.drewN|apply IsS82.drew|apply IsS82.set_1|apply IsS82.set_2)|exact HI0.out)) (by (with_reducible repeat (first|apply aR|apply nR|apply dR));exact HO388.out) (by decide)) hk) (Kd.R_base ho0)) (fun _ h_=>h_.1));have n1_:=mk0 (Kd.R_lower (Kd.R_new' ho0 (Kd.R_lt (by (with_reducible repeat (first|apply aR|apply nR|apply dR));exact HO388.out))) (keep_size (w:=w) (g:=g) (row:=none) (by repeat (first|(with_reducible first|exact HK.out|apply KeepBut.set_|apply keep_drewN|apply keep_drew|apply keep_alloc)|exact HK.out))));have n2_:=mk0 (KeepBut.trans (by repeat (first|(with_reducible first|exact HK.out|apply KeepBut.set_|apply keep_drewN|apply keep_drew|apply keep_alloc)|exact HK.out)) hk (.inl rfl));have n3_:=mk0 (hb);have n4_:=mk0 (hi);clear HO388 HK HB HI0;have HO388:=n0_;have HO395:=n1_;have HK:=n2_;have HB:=n3_;have HI0:=n4_;clear n0_ n1_ n2_ n3_ n4_;(try clear hb);(try clear hb2);(try clear hk);(try clear hi);(try clear ho0))|((with_reducible refine gate_dst (N:=14) rfl ?_);refine Kd.R_lit (Kd.int .i64) _ 3 ?hg (N:=14) ?hd (xs:=([]:List Int)) (inner:=[]) (ok:=fun _=>True) (okp:=fun _=>True) ?hr ?hp (fun _ hk=>hk) trivial (Below.refl _ _) (Nat.le_refl _) (by simp) ?_;(case hd=>rfl);(case hg=>rfl);(case hr=>first|(go_simp;done)|(go_simp;rfl));(case hp=>exact (Reps.none _ _));intro v399 w11 ho12 hb hg_ hnew_;clear hg_ hnew_;(first|rw [← Ny398.out] at ho12|(simp only [Int.reduceToNat] at ho12;rw [← Ny398.out] at ho12));have n0_:=mk0 (Kd.R_elder' (by (with_reducible repeat (first|apply aR|apply nR|apply dR));exact HO388.out) (Kd.R_base ho12) hb);have n1_:=mk0 (Kd.R_elder' (by (with_reducible repeat (first|apply aR|apply nR|apply dR));exact HO395.out) (Kd.R_base ho12) hb);have n2_:=mk0 (Kd.R_lower (Kd.R_new' (Kd.R_new' ho12 (Kd.R_lt (by (with_reducible repeat (first|apply aR|apply nR|apply dR));exact HO388.out))) (Kd.R_lt (by (with_reducible repeat (first|apply aR|apply nR|apply dR));exact HO395.out))) (keep_size (w:=w) (g:=g) (row:=none) (by repeat (first|(with_reducible first|exact HK.out|apply KeepBut.set_|apply keep_drewN|apply keep_drew|apply keep_alloc)|exact HK.out))));have n3_:=mk0 (IsS82.below (by repeat (first|(with_reducible first|exact HI0.out|apply IsS82.alloc|apply IsS82.drewN|apply IsS82.drew|apply IsS82.set_1|apply IsS82.set_2)|exact HI0.out)) hb);have n4_:=mk0 (KeepBut.trans (by repeat (first|(with_reducible first|exact HK.out|apply KeepBut.set_|apply keep_drewN|apply keep_drew|apply keep_alloc)|exact HK.out)) (KeepBut.of_below hb g none) (.inl rfl));have n5_:=mk0 (below_step (by repeat (first|(with_reducible first|exact HB.out|apply aZ|apply nZ|apply dZ|refine sZ ?_ (IsS82.ge HI0.out))|exact HB.out)) hb);clear HO388 HO395 HI0 HK HB;have HO388:=n0_;have HO395:=n1_;have HO400:=n2_;have HI0:=n3_;have HK:=n4_;have HB:=n5_;clear n0_ n1_ n2_ n3_ n4_ n5_ hb ho12))
 go_loopg [5,6] k (fun kq v5 v6 w'=>∃ (x5_1:List Int) (x6_1:Int) (x1001_1:Int) (x1002_1:Int),v6 = .int .i64 x6_1 ∧ Aside0 (spec_l01Cur_rows.l0 kq t393 x5_1 x6_1 s0_0 x1001_1 x1002_1 = some (r1,r2,r3,r4)) ∧ Aside0 (kq ≤ k) ∧ Aside0 (Kd.R (Kd.int .i64) 3 w' w.heap.size (fun k_=>some k_ ≠ (v5:Value).ownBlock) v394 t393) ∧ Aside0 (Kd.R (Kd.int .i64) 3 w' w.heap.size (fun k_=>some k_ ≠ (v394:Value).ownBlock) v5 x5_1) ∧ Aside0 (IsS82 w0 w' g s0_0 x1001_1 x1002_1) ∧ Aside0 (KeepBut w w' g none) ∧ Aside0 (Below w0.heap.size w0 w'))
 case atStart=>exact⟨(y398),(0),(t396),(t397),(by first|rfl|(simp;done)|(simp [*];done)),H',⟨Nat.le_refl _⟩,⟨by (with_reducible repeat (first|apply aR|apply nR|apply dR));exact Kd.R_mono HO395.out (by first|exact fun _ hk=>hk.2|(intro k_ hk;simp only [hk,ne_eq,and_self,not_false_eq_true]))⟩,⟨by (with_reducible repeat (first|apply aR|apply nR|apply dR));exact Kd.R_mono HO400.out (by first|exact fun _ hk=>hk.2|(intro k_ hk;simp only [hk,ne_eq,and_self,not_false_eq_true]))⟩,⟨by repeat (first|(with_reducible first|exact HI0.out|apply IsS82.alloc|apply IsS82.drewN|apply IsS82.drew|apply IsS82.set_1|apply IsS82.set_2)|exact HI0.out)⟩,⟨by repeat (first|(with_reducible first|exact HK.out|apply KeepBut.set_|apply keep_drewN|apply keep_drew|apply keep_alloc)|exact HK.out)⟩,⟨by repeat (first|(with_reducible first|exact HB.out|apply aZ|apply nZ|apply dZ|refine sZ ?_ (IsS82.ge HI0.out))|exact HB.out)⟩⟩
 case round =>
  clear H'
  try clear p2
  try clear c3
  try clear c3b0
  try clear p3
  try clear q3
  try clear hx3
  try clear c4
  try clear c4b0
  try clear c5
  try clear hx392_0
  try clear p392
  try clear q392
  obtain⟨x5_1,x6_1,x1001_1,x1002_1,rfl,HA,HK1,HO_4,HO_5,HI0,HK,HB⟩:=hrel
  cases gk with
  | zero=>exact absurd HA.out (by simp [spec_l01Cur_rows.l0])
  | succ k1 =>
   have H:=HA.out
   clear HA
   simp only [spec_l01Cur_rows.l0] at H
   by_cases c13:x6_1 < (t393.length:Int)
   ·rw [if_pos c13] at H
    have c13b0:decide (x6_1 < (t393.length:Int)) = true:=decide_eq_true c13
    clear c13
    replace H:=Option.bind_eq_some_iff.mp H
    obtain⟨⟨t401,t402,t403⟩,A140,H⟩:=H
    replace H:(if t401 = true then ((spec_l01Cur_pick.f s0_0 t402 t403 4).bind fun bt404=>(if x5_1.length < 17592186044416 then (spec_l01Cur_rows.j1 k1 t393 (x5_1 ++ [bt404.1]) x6_1 s0_0 bt404.2.1 bt404.2.2) else (none))) else (spec_l01Cur_rows.j1 k1 t393 x5_1 x6_1 s0_0 t402 t403)) = some (r1,r2,r3,r4):=H
    have A14:=mk0 A140
    clear A140
    have HC15:=mk0 H
    clear H
    obtain⟨Ao16,co16,eo16⟩:=Kd.R_slice HO_4.out
    subst eo16
    go_upto_if 22 with (first|((with_reducible refine gate_callee (f:=60) rfl ?_);refine goesL_ (some 22) rfl rfl Try.func60 (by kernel_rfl) rfl #[.pointer (some ⟨g,0,none⟩),.int .i64 5] rfl (by (try simp only [mA,mC,mN]);first|done|rfl|(simp only [List.length_drop,List.length_take];rfl)) ?_;(with_reducible refine (spec_l01Cur_once.calls g s0_0 x1001_1 x1002_1 5 t401 t402 t403 w0 _ ?side1 ?side2 A14.out).mono ?_);(case side1=>repeat (first|(with_reducible first|exact HI0.out|apply IsS82.alloc|apply IsS82.drewN|apply IsS82.drew|apply IsS82.set_1|apply IsS82.set_2)|exact HI0.out));(case side2=>repeat (first|(with_reducible first|exact HB.out|apply aZ|apply nZ|apply dZ|refine sZ ?_ (IsS82.ge HI0.out))|exact HB.out));rintro e w17 ⟨rfl,hi,hb,hk⟩;refine⟨_,rfl,?_⟩;have n0_:=mk0 (Kd.R_mono (Kd.R_keep (IsS82.apart (show IsS82 w0 _ g s0_0 x1001_1 x1002_1 from by repeat (first|(with_reducible first|exact HI0.out|apply IsS82.alloc|apply IsS82.drewN|apply IsS82.drew|apply IsS82.set_1|apply IsS82.set_2)|exact HI0.out)) (by (with_reducible repeat (first|apply aR|apply nR|apply dR));exact HO_4.out) (by decide)) hk (fun _ h=>h.2)) (fun _ h=>h.1));have n1_:=mk0 (Kd.R_mono (Kd.R_keep (IsS82.apart (show IsS82 w0 _ g s0_0 x1001_1 x1002_1 from by repeat (first|(with_reducible first|exact HI0.out|apply IsS82.alloc|apply IsS82.drewN|apply IsS82.drew|apply IsS82.set_1|apply IsS82.set_2)|exact HI0.out)) (by (with_reducible repeat (first|apply aR|apply nR|apply dR));exact HO_5.out) (by decide)) hk (fun _ h=>h.2)) (fun _ h=>h.1));have n2_:=mk0 (KeepBut.trans (by repeat (first|(with_reducible first|exact HK.out|apply KeepBut.set_|apply keep_drewN|apply keep_drew|apply keep_alloc)|exact HK.out)) hk (.inl rfl));have n3_:=mk0 (hb);have n4_:=mk0 (hi);clear HO_4 HO_5 HK HB HI0;have HO_4:=n0_;have HO_5:=n1_;have HK:=n2_;have HB:=n3_;have HI0:=n4_;clear n0_ n1_ n2_ n3_ n4_;(try clear hb);(try clear hb2);(try clear hk);(try clear hi)))
    (try simp only [Act.put,sA,sO,sS])
    go_cut [5] (fun v5 wc=>∃ (kq:Nat) (x5_14:List Int) (x1001_14:Int) (x1002_14:Int),Aside0 (spec_l01Cur_rows.j1 kq t393 x5_14 x6_1 s0_0 x1001_14 x1002_14 = some (r1,r2,r3,r4)) ∧ Aside0 (kq ≤ k1) ∧ Aside0 (Kd.R (Kd.int .i64) 3 wc w.heap.size (fun k_=>some k_ ≠ (v5:Value).ownBlock) (.slice Ao16 t393.length co16) t393) ∧ Aside0 (Kd.R (Kd.int .i64) 3 wc w.heap.size (fun k_=>some k_ ≠ ((.slice Ao16 t393.length co16):Value).ownBlock) v5 x5_14) ∧ Aside0 (IsS82 w0 wc g s0_0 x1001_14 x1002_14) ∧ Aside0 (KeepBut w wc g none) ∧ Aside0 (Below w0.heap.size w0 wc))
    case first =>
     have H:=HC15.out
     clear HC15
     by_cases c18:t401 = true
     rotate_left
     ·replace c18:=Bool.eq_false_iff.mpr c18
      subst c18
      have H1:(spec_l01Cur_rows.j1 k1 t393 x5_1 x6_1 s0_0 t402 t403) = some (r1,r2,r3,r4):=by rw [if_neg (show ¬ (false = true) by decide)] at H;exact H
      clear H
      have H:=H1
      clear H1
      have H':=mk0 H
      clear H
      go_wp2
      go_meet
      case rel=>exact⟨_,(x5_1),(t402),(t403),H',⟨by have:=HK1.out;first|omega|exact Nat.le_refl _⟩,⟨by (with_reducible repeat (first|apply aR|apply nR|apply dR));exact HO_4.out⟩,⟨by (with_reducible repeat (first|apply aR|apply nR|apply dR));exact HO_5.out⟩,⟨by repeat (first|(with_reducible first|exact HI0.out|apply IsS82.alloc|apply IsS82.drewN|apply IsS82.drew|apply IsS82.set_1|apply IsS82.set_2)|exact HI0.out)⟩,⟨by repeat (first|(with_reducible first|exact HK.out|apply KeepBut.set_|apply keep_drewN|apply keep_drew|apply keep_alloc)|exact HK.out)⟩,⟨by repeat (first|(with_reducible first|exact HB.out|apply aZ|apply nZ|apply dZ|refine sZ ?_ (IsS82.ge HI0.out))|exact HB.out)⟩⟩
     subst c18
     have H1:((spec_l01Cur_pick.f s0_0 t402 t403 4).bind fun bt404=>(if x5_1.length < 17592186044416 then (spec_l01Cur_rows.j1 k1 t393 (x5_1 ++ [bt404.1]) x6_1 s0_0 bt404.2.1 bt404.2.2) else (none))) = some (r1,r2,r3,r4):=by rw [if_pos rfl] at H;exact H
     clear H
     have H:=H1
     clear H1
     replace H:=Option.bind_eq_some_iff.mp H
     obtain⟨⟨t404,t405,t406⟩,A190,H⟩:=H
     replace H:(if x5_1.length < 17592186044416 then (spec_l01Cur_rows.j1 k1 t393 (x5_1 ++ [t404]) x6_1 s0_0 t405 t406) else (none)) = some (r1,r2,r3,r4):=H
     have A19:=mk0 A190
     clear A190
     by_cases c20:x5_1.length < 17592186044416
     rotate_left
     ·rw [if_neg c20] at H
      exact absurd H (by simp)
     rw [if_pos c20] at H
     have LMc20:=mk0 c20
     clear c20
     obtain⟨y407,hy407⟩:∃ y_:List Int,y_ = (x5_1 ++ [t404]):=⟨_,rfl⟩
     replace H:(spec_l01Cur_rows.j1 k1 t393 y407 x6_1 s0_0 t405 t406) = some (r1,r2,r3,r4):=by first|(rw [hy407];with_reducible exact H)|(have H2_:=(Option.bind_some _ _).symm.trans H;rw [hy407];with_reducible exact H2_)|(have H2_:=(Option.bind_some _ _).symm.trans H;with_reducible exact H2_)|with_reducible exact H|(rw [hy407];exact H)|exact H
     have Ny407:=mk0 hy407
     clear hy407
     have H':=mk0 H
     clear H
     go_wp2_with (first|((with_reducible refine gate_callee (f:=59) rfl ?_);refine goesL_ (some 25) rfl rfl Try.func59 (by kernel_rfl) rfl #[.pointer (some ⟨g,0,none⟩),.int .i64 4] rfl (by (try simp only [mA,mC,mN]);first|done|rfl|(simp only [List.length_drop,List.length_take];rfl)) ?_;(with_reducible refine (spec_l01Cur_pick.calls g s0_0 t402 t403 4 t404 t405 t406 w0 _ ?side1 ?side2 A19.out).mono ?_);(case side1=>repeat (first|(with_reducible first|exact HI0.out|apply IsS82.alloc|apply IsS82.drewN|apply IsS82.drew|apply IsS82.set_1|apply IsS82.set_2)|exact HI0.out));(case side2=>repeat (first|(with_reducible first|exact HB.out|apply aZ|apply nZ|apply dZ|refine sZ ?_ (IsS82.ge HI0.out))|exact HB.out));rintro e w21 ⟨rfl,hi,hb,hk⟩;refine⟨_,rfl,?_⟩;have n0_:=mk0 (Kd.R_mono (Kd.R_keep (IsS82.apart (show IsS82 w0 _ g s0_0 t402 t403 from by repeat (first|(with_reducible first|exact HI0.out|apply IsS82.alloc|apply IsS82.drewN|apply IsS82.drew|apply IsS82.set_1|apply IsS82.set_2)|exact HI0.out)) (by (with_reducible repeat (first|apply aR|apply nR|apply dR));exact HO_4.out) (by decide)) hk (fun _ h=>h.2)) (fun _ h=>h.1));have n1_:=mk0 (Kd.R_mono (Kd.R_keep (IsS82.apart (show IsS82 w0 _ g s0_0 t402 t403 from by repeat (first|(with_reducible first|exact HI0.out|apply IsS82.alloc|apply IsS82.drewN|apply IsS82.drew|apply IsS82.set_1|apply IsS82.set_2)|exact HI0.out)) (by (with_reducible repeat (first|apply aR|apply nR|apply dR));exact HO_5.out) (by decide)) hk (fun _ h=>h.2)) (fun _ h=>h.1));have n2_:=mk0 (KeepBut.trans (by repeat (first|(with_reducible first|exact HK.out|apply KeepBut.set_|apply keep_drewN|apply keep_drew|apply keep_alloc)|exact HK.out)) hk (.inl rfl));have n3_:=mk0 (hb);have n4_:=mk0 (hi);clear HO_4 HO_5 HK HB HI0;have HO_4:=n0_;have HO_5:=n1_;have HK:=n2_;have HB:=n3_;have HI0:=n4_;clear n0_ n1_ n2_ n3_ n4_;(try clear hb);(try clear hb2);(try clear hk);(try clear hi))|((with_reducible refine gate_builtin (b:=.append) (xs:=#[.tmp 23,.tmp 26]) rfl ?_);at_builtin;refine Kd.R_append (Kd.int .i64) w.heap.size rfl (.tmp 23) (.tmp 26) 22 3 (.int .i64 0) 8 rfl Try.underlying22 info3 rfl (by decide) (by omega) u5 x5_1 t404 [.int .i64 t404] (fun k_=>some k_ ≠ (.slice Ao16 t393.length co16:Value).ownBlock) (fun _=>False) rfl rfl ?aP (fun _ hk=>hk.elim) ?aF ?aO (Below.refl _ _) ?aS ?aL ?_;(case aP=>exact rfl);(case aF=>exact (fun k_ hk=>Kd.fresh' (Kd.R_lt (by (with_reducible repeat (first|apply aR|apply nR|apply dR));exact HO_4.out)) k_ hk));(case aO=>exact (by (with_reducible repeat (first|apply aR|apply nR|apply dR));exact HO_5.out));(case aS=>exact (keep_size (w:=w) (g:=g) (row:=none) (by repeat (first|(with_reducible first|exact HK.out|apply KeepBut.set_|apply keep_drewN|apply keep_drew|apply keep_alloc)|exact HK.out))));(case aL=>have:=LMc20.out;omega);intro v408 w22 ho hb hg hat;rw [← Ny407.out] at ho;have n0_:=mk0 (Kd.R_after (ok:=(fun _=>True)) (by (with_reducible repeat (first|apply aR|apply nR|apply dR));exact Kd.R_mono HO_4.out (fun _ hk=>⟨trivial,hk⟩)) hg hat);have n1_:=mk0 (IsS82.grown (by repeat (first|(with_reducible first|exact HI0.out|apply IsS82.alloc|apply IsS82.drewN|apply IsS82.drew|apply IsS82.set_1|apply IsS82.set_2)|exact HI0.out)) hg (IsS82.own_ne HI0.out HO_5.out (by decide)));have n2_:=mk0 (below_weaken (by repeat (first|(with_reducible first|exact HB.out|apply aZ|apply nZ|apply dZ|refine sZ ?_ (IsS82.ge HI0.out))|exact HB.out)) HL.out hb);have n3_:=mk0 (KeepBut.trans (by repeat (first|(with_reducible first|exact HK.out|apply KeepBut.set_|apply keep_drewN|apply keep_drew|apply keep_alloc)|exact HK.out)) (KeepBut.of_grown hg g) (Kd.R_base2 HO_5.out));have n4_:=mk0 (ho);clear HO_4 HI0 HB HK HO_5;have HO_4:=n0_;have HI0:=n1_;have HB:=n2_;have HK:=n3_;have HO409:=n4_;clear n0_ n1_ n2_ n3_ n4_ ho hb hg hat))
     go_meet
     case rel=>exact⟨_,(y407),(t405),(t406),H',⟨by have:=HK1.out;first|omega|exact Nat.le_refl _⟩,⟨by (with_reducible repeat (first|apply aR|apply nR|apply dR));exact Kd.R_mono HO_4.out (by first|exact fun _ hk=>hk.2|(intro k_ hk;simp only [hk,ne_eq,and_self,not_false_eq_true]))⟩,⟨by (with_reducible repeat (first|apply aR|apply nR|apply dR));exact HO409.out⟩,⟨by repeat (first|(with_reducible first|exact HI0.out|apply IsS82.alloc|apply IsS82.drewN|apply IsS82.drew|apply IsS82.set_1|apply IsS82.set_2)|exact HI0.out)⟩,⟨by repeat (first|(with_reducible first|exact HK.out|apply KeepBut.set_|apply keep_drewN|apply keep_drew|apply keep_alloc)|exact HK.out)⟩,⟨by repeat (first|(with_reducible first|exact HB.out|apply aZ|apply nZ|apply dZ|refine sZ ?_ (IsS82.ge HI0.out))|exact HB.out)⟩⟩
    case rest =>
     clear HC15
     try clear c1
     try clear c2
     try clear p2
     try clear c3
     try clear c3b0
     try clear p3
     try clear q3
     try clear hx3
     try clear c4
     try clear c4b0
     try clear c5
     try clear c6
     try clear c13
     try clear c13b0
     try clear c18
     try clear c20
     try clear hx392_0
     try clear p2
     try clear p3
     try clear p392
     try clear q3
     try clear q392
     obtain⟨kq,x5_14,x1001_14,x1002_14,HA,HJ14,HO_4,HO_5,HI0,HK,HB⟩:=hcut
     cases kq with
     | zero=>exact absurd HA.out (by simp [spec_l01Cur_rows.j1])
     | succ kj14 =>
      have H:=HA.out
      clear HA
      simp only [spec_l01Cur_rows.j1] at H
      replace H:=Option.bind_eq_some_iff.mp H
      obtain⟨⟨t410,t411,t412⟩,A230,H⟩:=H
      replace H:(if t410 = true then (spec_l01Cur_rows.l0 kj14 t393 x5_14 (wrap64 (x6_1 + 1)) s0_0 t411 t412) else (if 0 ≤ x6_1 then (if x6_1 < (t393.length:Int) then (if x5_14.length < 17592186044416 then (spec_l01Cur_rows.l0 kj14 t393 (x5_14 ++ [rd t393 x6_1]) (wrap64 (x6_1 + 1)) s0_0 t411 t412) else (none)) else (none)) else (none))) = some (r1,r2,r3,r4):=H
      have A23:=mk0 A230
      clear A230
      by_cases c24:t410 = true
      ·subst c24
       have H1:(spec_l01Cur_rows.l0 kj14 t393 x5_14 (wrap64 (x6_1 + 1)) s0_0 t411 t412) = some (r1,r2,r3,r4):=by rw [if_pos rfl] at H;exact H
       clear H
       have H:=H1
       clear H1
       have H':=mk0 H
       clear H
       go_wp2_with (first|((with_reducible refine gate_callee (f:=60) rfl ?_);refine goesL_ (some 29) rfl rfl Try.func60 (by kernel_rfl) rfl #[.pointer (some ⟨g,0,none⟩),.int .i64 5] rfl (by (try simp only [mA,mC,mN]);first|done|rfl|(simp only [List.length_drop,List.length_take];rfl)) ?_;(with_reducible refine (spec_l01Cur_once.calls g s0_0 x1001_14 x1002_14 5 true t411 t412 w0 _ ?side1 ?side2 A23.out).mono ?_);(case side1=>repeat (first|(with_reducible first|exact HI0.out|apply IsS82.alloc|apply IsS82.drewN|apply IsS82.drew|apply IsS82.set_1|apply IsS82.set_2)|exact HI0.out));(case side2=>repeat (first|(with_reducible first|exact HB.out|apply aZ|apply nZ|apply dZ|refine sZ ?_ (IsS82.ge HI0.out))|exact HB.out));rintro e w25 ⟨rfl,hi,hb,hk⟩;refine⟨_,rfl,?_⟩;have n0_:=mk0 (Kd.R_mono (Kd.R_keep (IsS82.apart (show IsS82 w0 _ g s0_0 x1001_14 x1002_14 from by repeat (first|(with_reducible first|exact HI0.out|apply IsS82.alloc|apply IsS82.drewN|apply IsS82.drew|apply IsS82.set_1|apply IsS82.set_2)|exact HI0.out)) (by (with_reducible repeat (first|apply aR|apply nR|apply dR));exact HO_4.out) (by decide)) hk (fun _ h=>h.2)) (fun _ h=>h.1));have n1_:=mk0 (Kd.R_mono (Kd.R_keep (IsS82.apart (show IsS82 w0 _ g s0_0 x1001_14 x1002_14 from by repeat (first|(with_reducible first|exact HI0.out|apply IsS82.alloc|apply IsS82.drewN|apply IsS82.drew|apply IsS82.set_1|apply IsS82.set_2)|exact HI0.out)) (by (with_reducible repeat (first|apply aR|apply nR|apply dR));exact HO_5.out) (by decide)) hk (fun _ h=>h.2)) (fun _ h=>h.1));have n2_:=mk0 (KeepBut.trans (by repeat (first|(with_reducible first|exact HK.out|apply KeepBut.set_|apply keep_drewN|apply keep_drew|apply keep_alloc)|exact HK.out)) hk (.inl rfl));have n3_:=mk0 (hb);have n4_:=mk0 (hi);clear HO_4 HO_5 HK HB HI0;have HO_4:=n0_;have HO_5:=n1_;have HK:=n2_;have HB:=n3_;have HI0:=n4_;clear n0_ n1_ n2_ n3_ n4_;(try clear hb);(try clear hb2);(try clear hk);(try clear hi)))
       go_roundg kj14
       case measure=>have:=HK1.out;have:=HJ14.out;omega
       case rel=>exact⟨(x5_14),(wrap64 (x6_1 + 1)),(t411),(t412),(by first|rfl|(simp;done)|(simp [*];done)),H',⟨by have:=HK1.out;have:=HJ14.out;omega⟩,⟨by (with_reducible repeat (first|apply aR|apply nR|apply dR));exact HO_4.out⟩,⟨by (with_reducible repeat (first|apply aR|apply nR|apply dR));exact HO_5.out⟩,⟨by repeat (first|(with_reducible first|exact HI0.out|apply IsS82.alloc|apply IsS82.drewN|apply IsS82.drew|apply IsS82.set_1|apply IsS82.set_2)|exact HI0.out)⟩,⟨by repeat (first|(with_reducible first|exact HK.out|apply KeepBut.set_|apply keep_drewN|apply keep_drew|apply keep_alloc)|exact HK.out)⟩,⟨by repeat (first|(with_reducible first|exact HB.out|apply aZ|apply nZ|apply dZ|refine sZ ?_ (IsS82.ge HI0.out))|exact HB.out)⟩⟩
      replace c24:=Bool.eq_false_iff.mpr c24
      subst c24
      have H1:(if 0 ≤ x6_1 then (if x6_1 < (t393.length:Int) then (if x5_14.length < 17592186044416 then (spec_l01Cur_rows.l0 kj14 t393 (x5_14 ++ [rd t393 x6_1]) (wrap64 (x6_1 + 1)) s0_0 t411 t412) else (none)) else (none)) else (none)) = some (r1,r2,r3,r4):=by rw [if_neg (show ¬ (false = true) by decide)] at H;exact H
      clear H
      have H:=H1
      clear H1
      by_cases c26:0 ≤ x6_1
      rotate_left
      ·rw [if_neg c26] at H
       exact absurd H (by simp)
      rw [if_pos c26] at H
      have c26b0:decide (0 ≤ x6_1) = true:=decide_eq_true c26
      clear c26
      by_cases c27:x6_1 < (t393.length:Int)
      rotate_left
      ·rw [if_neg c27] at H
       exact absurd H (by simp)
      rw [if_pos c27] at H
      have c27b0:decide (x6_1 < (t393.length:Int)) = true:=decide_eq_true c27
      clear c27
      by_cases c28:x5_14.length < 17592186044416
      rotate_left
      ·rw [if_neg c28] at H
       exact absurd H (by simp)
      rw [if_pos c28] at H
      have LMc28:=mk0 c28
      clear c28
      obtain⟨y414,hy414⟩:∃ y_:List Int,y_ = (x5_14 ++ [rd t393 x6_1]):=⟨_,rfl⟩
      replace H:(spec_l01Cur_rows.l0 kj14 t393 y414 (wrap64 (x6_1 + 1)) s0_0 t411 t412) = some (r1,r2,r3,r4):=by first|(rw [hy414];with_reducible exact H)|(have H2_:=(Option.bind_some _ _).symm.trans H;rw [hy414];with_reducible exact H2_)|(have H2_:=(Option.bind_some _ _).symm.trans H;with_reducible exact H2_)|with_reducible exact H|(rw [hy414];exact H)|exact H
      have Ny414:=mk0 hy414
      clear hy414
      have H':=mk0 H
      clear H
      go_wp2_with (first|((with_reducible refine gate_callee (f:=60) rfl ?_);refine goesL_ (some 29) rfl rfl Try.func60 (by kernel_rfl) rfl #[.pointer (some ⟨g,0,none⟩),.int .i64 5] rfl (by (try simp only [mA,mC,mN]);first|done|rfl|(simp only [List.length_drop,List.length_take];rfl)) ?_;(with_reducible refine (spec_l01Cur_once.calls g s0_0 x1001_14 x1002_14 5 false t411 t412 w0 _ ?side1 ?side2 A23.out).mono ?_);(case side1=>repeat (first|(with_reducible first|exact HI0.out|apply IsS82.alloc|apply IsS82.drewN|apply IsS82.drew|apply IsS82.set_1|apply IsS82.set_2)|exact HI0.out));(case side2=>repeat (first|(with_reducible first|exact HB.out|apply aZ|apply nZ|apply dZ|refine sZ ?_ (IsS82.ge HI0.out))|exact HB.out));rintro e w29 ⟨rfl,hi,hb,hk⟩;refine⟨_,rfl,?_⟩;have n0_:=mk0 (Kd.R_mono (Kd.R_keep (IsS82.apart (show IsS82 w0 _ g s0_0 x1001_14 x1002_14 from by repeat (first|(with_reducible first|exact HI0.out|apply IsS82.alloc|apply IsS82.drewN|apply IsS82.drew|apply IsS82.set_1|apply IsS82.set_2)|exact HI0.out)) (by (with_reducible repeat (first|apply aR|apply nR|apply dR));exact HO_4.out) (by decide)) hk (fun _ h=>h.2)) (fun _ h=>h.1));have n1_:=mk0 (Kd.R_mono (Kd.R_keep (IsS82.apart (show IsS82 w0 _ g s0_0 x1001_14 x1002_14 from by repeat (first|(with_reducible first|exact HI0.out|apply IsS82.alloc|apply IsS82.drewN|apply IsS82.drew|apply IsS82.set_1|apply IsS82.set_2)|exact HI0.out)) (by (with_reducible repeat (first|apply aR|apply nR|apply dR));exact HO_5.out) (by decide)) hk (fun _ h=>h.2)) (fun _ h=>h.1));have n2_:=mk0 (KeepBut.trans (by repeat (first|(with_reducible first|exact HK.out|apply KeepBut.set_|apply keep_drewN|apply keep_drew|apply keep_alloc)|exact HK.out)) hk (.inl rfl));have n3_:=mk0 (hb);have n4_:=mk0 (hi);clear HO_4 HO_5 HK HB HI0;have HO_4:=n0_;have HO_5:=n1_;have HK:=n2_;have HB:=n3_;have HI0:=n4_;clear n0_ n1_ n2_ n3_ n4_;(try clear hb);(try clear hb2);(try clear hk);(try clear hi);have p413:0 ≤ (x6_1:Int):=of_decide_eq_true (by first|(with_reducible assumption)|assumption);have q413:x6_1 < (t393.length:Int):=of_decide_eq_true (by first|(with_reducible assumption)|assumption);obtain⟨ad413,e413,hx413_0⟩:=Kd.at_int (Kd.R_reads' HO_4.out).2.2 x6_1 p413 q413;cases e413;replace p413:=eq_true p413;replace q413:=eq_true q413)|((with_reducible refine gate_builtin (b:=.append) (xs:=#[.tmp 31,.tmp 36]) rfl ?_);at_builtin;refine Kd.R_append (Kd.int .i64) w.heap.size rfl (.tmp 31) (.tmp 36) 22 3 (.int .i64 0) 8 rfl Try.underlying22 info3 rfl (by decide) (by omega) u5 x5_14 (rd t393 x6_1) [.int .i64 (rd t393 x6_1)] (fun k_=>some k_ ≠ (.slice (some ad413) t393.length co16:Value).ownBlock) (fun _=>False) rfl rfl ?aP (fun _ hk=>hk.elim) ?aF ?aO (Below.refl _ _) ?aS ?aL ?_;(case aP=>exact rfl);(case aF=>exact (fun k_ hk=>Kd.fresh' (Kd.R_lt (by (with_reducible repeat (first|apply aR|apply nR|apply dR));exact HO_4.out)) k_ hk));(case aO=>exact (by (with_reducible repeat (first|apply aR|apply nR|apply dR));exact HO_5.out));(case aS=>exact (keep_size (w:=w) (g:=g) (row:=none) (by repeat (first|(with_reducible first|exact HK.out|apply KeepBut.set_|apply keep_drewN|apply keep_drew|apply keep_alloc)|exact HK.out))));(case aL=>have:=LMc28.out;omega);intro v415 w30 ho hb hg hat;rw [← Ny414.out] at ho;have n0_:=mk0 (Kd.R_after (ok:=(fun _=>True)) (by (with_reducible repeat (first|apply aR|apply nR|apply dR));exact Kd.R_mono HO_4.out (fun _ hk=>⟨trivial,hk⟩)) hg hat);have n1_:=mk0 (IsS82.grown (by repeat (first|(with_reducible first|exact HI0.out|apply IsS82.alloc|apply IsS82.drewN|apply IsS82.drew|apply IsS82.set_1|apply IsS82.set_2)|exact HI0.out)) hg (IsS82.own_ne HI0.out HO_5.out (by decide)));have n2_:=mk0 (below_weaken (by repeat (first|(with_reducible first|exact HB.out|apply aZ|apply nZ|apply dZ|refine sZ ?_ (IsS82.ge HI0.out))|exact HB.out)) HL.out hb);have n3_:=mk0 (KeepBut.trans (by repeat (first|(with_reducible first|exact HK.out|apply KeepBut.set_|apply keep_drewN|apply keep_drew|apply keep_alloc)|exact HK.out)) (KeepBut.of_grown hg g) (Kd.R_base2 HO_5.out));have n4_:=mk0 (ho);clear HO_4 HI0 HB HK HO_5;have HO_4:=n0_;have HI0:=n1_;have HB:=n2_;have HK:=n3_;have HO416:=n4_;clear n0_ n1_ n2_ n3_ n4_ ho hb hg hat))
      go_roundg kj14
      case measure=>have:=HK1.out;have:=HJ14.out;omega
      case rel=>exact⟨(y414),(wrap64 (x6_1 + 1)),(t411),(t412),(by first|rfl|(simp;done)|(simp [*];done)),H',⟨by have:=HK1.out;have:=HJ14.out;omega⟩,⟨by (with_reducible repeat (first|apply aR|apply nR|apply dR));exact Kd.R_mono HO_4.out (by first|exact fun _ hk=>hk.2|(intro k_ hk;simp only [hk,ne_eq,and_self,not_false_eq_true]))⟩,⟨by (with_reducible repeat (first|apply aR|apply nR|apply dR));exact HO416.out⟩,⟨by repeat (first|(with_reducible first|exact HI0.out|apply IsS82.alloc|apply IsS82.drewN|apply IsS82.drew|apply IsS82.set_1|apply IsS82.set_2)|exact HI0.out)⟩,⟨by repeat (first|(with_reducible first|exact HK.out|apply KeepBut.set_|apply keep_drewN|apply keep_drew|apply keep_alloc)|exact HK.out)⟩,⟨by repeat (first|(with_reducible first|exact HB.out|apply aZ|apply nZ|apply dZ|refine sZ ?_ (IsS82.ge HI0.out))|exact HB.out)⟩⟩
   rw [if_neg c13] at H
   have c13b0:decide (x6_1 < (t393.length:Int)) = false:=decide_eq_false c13
   clear c13
   replace H:=Option.bind_eq_some_iff.mp H
   obtain⟨⟨t417,t418,t419⟩,A310,H⟩:=H
   replace H:(if t417 = true then ((spec_l01Cur_numbers.f k1 s0_0 t418 t419 14 4).bind fun bt420=>(spec_l01Cur_rows.j2 k1 t393 bt420.1 s0_0 bt420.2.1 bt420.2.2)) else (spec_l01Cur_rows.j2 k1 t393 x5_1 s0_0 t418 t419)) = some (r1,r2,r3,r4):=H
   have A31:=mk0 A310
   clear A310
   have HC32:=mk0 H
   clear H
   obtain⟨Ao33,co33,eo33⟩:=Kd.R_slice HO_4.out
   subst eo33
   go_upto_if 39 with (first|((with_reducible refine gate_callee (f:=60) rfl ?_);refine goesL_ (some 39) rfl rfl Try.func60 (by kernel_rfl) rfl #[.pointer (some ⟨g,0,none⟩),.int .i64 5] rfl (by (try simp only [mA,mC,mN]);first|done|rfl|(simp only [List.length_drop,List.length_take];rfl)) ?_;(with_reducible refine (spec_l01Cur_once.calls g s0_0 x1001_1 x1002_1 5 t417 t418 t419 w0 _ ?side1 ?side2 A31.out).mono ?_);(case side1=>repeat (first|(with_reducible first|exact HI0.out|apply IsS82.alloc|apply IsS82.drewN|apply IsS82.drew|apply IsS82.set_1|apply IsS82.set_2)|exact HI0.out));(case side2=>repeat (first|(with_reducible first|exact HB.out|apply aZ|apply nZ|apply dZ|refine sZ ?_ (IsS82.ge HI0.out))|exact HB.out));rintro e w34 ⟨rfl,hi,hb,hk⟩;refine⟨_,rfl,?_⟩;have n0_:=mk0 (Kd.R_mono (Kd.R_keep (IsS82.apart (show IsS82 w0 _ g s0_0 x1001_1 x1002_1 from by repeat (first|(with_reducible first|exact HI0.out|apply IsS82.alloc|apply IsS82.drewN|apply IsS82.drew|apply IsS82.set_1|apply IsS82.set_2)|exact HI0.out)) (by (with_reducible repeat (first|apply aR|apply nR|apply dR));exact HO_4.out) (by decide)) hk (fun _ h=>h.2)) (fun _ h=>h.1));have n1_:=mk0 (Kd.R_mono (Kd.R_keep (IsS82.apart (show IsS82 w0 _ g s0_0 x1001_1 x1002_1 from by repeat (first|(with_reducible first|exact HI0.out|apply IsS82.alloc|apply IsS82.drewN|apply IsS82.drew|apply IsS82.set_1|apply IsS82.set_2)|exact HI0.out)) (by (with_reducible repeat (first|apply aR|apply nR|apply dR));exact HO_5.out) (by decide)) hk (fun _ h=>h.2)) (fun _ h=>h.1));have n2_:=mk0 (KeepBut.trans (by repeat (first|(with_reducible first|exact HK.out|apply KeepBut.set_|apply keep_drewN|apply keep_drew|apply keep_alloc)|exact HK.out)) hk (.inl rfl));have n3_:=mk0 (hb);have n4_:=mk0 (hi);clear HO_4 HO_5 HK HB HI0;have HO_4:=n0_;have HO_5:=n1_;have HK:=n2_;have HB:=n3_;have HI0:=n4_;clear n0_ n1_ n2_ n3_ n4_;(try clear hb);(try clear hb2);(try clear hk);(try clear hi)))
   (try simp only [Act.put,sA,sO,sS])
   go_cut [5] (fun v5 wc=>∃ (kq:Nat) (x5_31:List Int) (x1001_31:Int) (x1002_31:Int),Aside0 (spec_l01Cur_rows.j2 kq t393 x5_31 s0_0 x1001_31 x1002_31 = some (r1,r2,r3,r4)) ∧ Aside0 (kq ≤ k1) ∧ Aside0 (Kd.R (Kd.int .i64) 3 wc w.heap.size (fun k_=>some k_ ≠ (v5:Value).ownBlock) (.slice Ao33 t393.length co33) t393) ∧ Aside0 (Kd.R (Kd.int .i64) 3 wc w.heap.size (fun k_=>some k_ ≠ ((.slice Ao33 t393.length co33):Value).ownBlock) v5 x5_31) ∧ Aside0 (IsS82 w0 wc g s0_0 x1001_31 x1002_31) ∧ Aside0 (KeepBut w wc g none) ∧ Aside0 (Below w0.heap.size w0 wc))
   case first =>
    have H:=HC32.out
    clear HC32
    by_cases c35:t417 = true
    rotate_left
    ·replace c35:=Bool.eq_false_iff.mpr c35
     subst c35
     have H1:(spec_l01Cur_rows.j2 k1 t393 x5_1 s0_0 t418 t419) = some (r1,r2,r3,r4):=by rw [if_neg (show ¬ (false = true) by decide)] at H;exact H
     clear H
     have H:=H1
     clear H1
     have H':=mk0 H
     clear H
     go_wp2
     go_meet
     case rel=>exact⟨_,(x5_1),(t418),(t419),H',⟨by have:=HK1.out;first|omega|exact Nat.le_refl _⟩,⟨by (with_reducible repeat (first|apply aR|apply nR|apply dR));exact HO_4.out⟩,⟨by (with_reducible repeat (first|apply aR|apply nR|apply dR));exact HO_5.out⟩,⟨by repeat (first|(with_reducible first|exact HI0.out|apply IsS82.alloc|apply IsS82.drewN|apply IsS82.drew|apply IsS82.set_1|apply IsS82.set_2)|exact HI0.out)⟩,⟨by repeat (first|(with_reducible first|exact HK.out|apply KeepBut.set_|apply keep_drewN|apply keep_drew|apply keep_alloc)|exact HK.out)⟩,⟨by repeat (first|(with_reducible first|exact HB.out|apply aZ|apply nZ|apply dZ|refine sZ ?_ (IsS82.ge HI0.out))|exact HB.out)⟩⟩
    subst c35
    have H1:((spec_l01Cur_numbers.f k1 s0_0 t418 t419 14 4).bind fun bt420=>(spec_l01Cur_rows.j2 k1 t393 bt420.1 s0_0 bt420.2.1 bt420.2.2)) = some (r1,r2,r3,r4):=by rw [if_pos rfl] at H;exact H
    clear H
    have H:=H1
    clear H1
    replace H:=Option.bind_eq_some_iff.mp H
    obtain⟨⟨t420,t423,t424⟩,A360,H⟩:=H
    replace H:(spec_l01Cur_rows.j2 k1 t393 t420 s0_0 t423 t424) = some (r1,r2,r3,r4):=H
    have A36:=mk0 A360
    clear A360
    have H':=mk0 H
    clear H
    go_wp2_with (first|((with_reducible refine gate_callee (f:=58) rfl ?_);refine goesL_ (some 41) rfl rfl Try.func58 (by kernel_rfl) rfl #[.pointer (some ⟨g,0,none⟩),.int .i64 14,.int .i64 4] rfl (by (try simp only [mA,mC,mN]);first|done|rfl|(simp only [List.length_drop,List.length_take];rfl)) ?_;(with_reducible refine (spec_l01Cur_numbers.calls k1 g s0_0 t418 t419 14 4 t420 t423 t424 w0 _ ?side1 ?side2 A36.out).mono ?_);(case side1=>repeat (first|(with_reducible first|exact HI0.out|apply IsS82.alloc|apply IsS82.drewN|apply IsS82.drew|apply IsS82.set_1|apply IsS82.set_2)|exact HI0.out));(case side2=>repeat (first|(with_reducible first|exact HB.out|apply aZ|apply nZ|apply dZ|refine sZ ?_ (IsS82.ge HI0.out))|exact HB.out));rintro e w37 ⟨v421,rfl,ho0,hi,hb,hk⟩;refine⟨_,rfl,?_⟩;have n0_:=mk0 (Kd.R_mono (Kd.R_told (Kd.R_oldK (IsS82.apart (show IsS82 w0 _ g s0_0 t418 t419 from by repeat (first|(with_reducible first|exact HI0.out|apply IsS82.alloc|apply IsS82.drewN|apply IsS82.drew|apply IsS82.set_1|apply IsS82.set_2)|exact HI0.out)) (by (with_reducible repeat (first|apply aR|apply nR|apply dR));exact HO_4.out) (by decide)) hk) (Kd.R_base ho0)) (fun _ h_=>h_.1));have n1_:=mk0 (Kd.R_mono (Kd.R_told (Kd.R_oldK (IsS82.apart (show IsS82 w0 _ g s0_0 t418 t419 from by repeat (first|(with_reducible first|exact HI0.out|apply IsS82.alloc|apply IsS82.drewN|apply IsS82.drew|apply IsS82.set_1|apply IsS82.set_2)|exact HI0.out)) (by (with_reducible repeat (first|apply aR|apply nR|apply dR));exact HO_5.out) (by decide)) hk) (Kd.R_base ho0)) (fun _ h_=>h_.1));have n2_:=mk0 (Kd.R_lower (Kd.R_new' (Kd.R_new' ho0 (Kd.R_lt (by (with_reducible repeat (first|apply aR|apply nR|apply dR));exact HO_4.out))) (Kd.R_lt (by (with_reducible repeat (first|apply aR|apply nR|apply dR));exact HO_5.out))) (keep_size (w:=w) (g:=g) (row:=none) (by repeat (first|(with_reducible first|exact HK.out|apply KeepBut.set_|apply keep_drewN|apply keep_drew|apply keep_alloc)|exact HK.out))));have n3_:=mk0 (KeepBut.trans (by repeat (first|(with_reducible first|exact HK.out|apply KeepBut.set_|apply keep_drewN|apply keep_drew|apply keep_alloc)|exact HK.out)) hk (.inl rfl));have n4_:=mk0 (hb);have n5_:=mk0 (hi);clear HO_4 HO_5 HK HB HI0;have HO_4:=n0_;have HO_5:=n1_;have HO422:=n2_;have HK:=n3_;have HB:=n4_;have HI0:=n5_;clear n0_ n1_ n2_ n3_ n4_ n5_;(try clear hb);(try clear hb2);(try clear hk);(try clear hi);(try clear ho0)))
    go_meet
    case rel=>exact⟨_,(t420),(t423),(t424),H',⟨by have:=HK1.out;first|omega|exact Nat.le_refl _⟩,⟨by (with_reducible repeat (first|apply aR|apply nR|apply dR));exact Kd.R_mono HO_4.out (by first|exact fun _ hk=>hk.2|(intro k_ hk;simp only [hk,ne_eq,and_self,not_false_eq_true]))⟩,⟨by (with_reducible repeat (first|apply aR|apply nR|apply dR));exact Kd.R_mono HO422.out (by first|exact fun _ hk=>hk.1.2|(intro k_ hk;simp only [hk,ne_eq,and_self,not_false_eq_true]))⟩,⟨by repeat (first|(with_reducible first|exact HI0.out|apply IsS82.alloc|apply IsS82.drewN|apply IsS82.drew|apply IsS82.set_1|apply IsS82.set_2)|exact HI0.out)⟩,⟨by repeat (first|(with_reducible first|exact HK.out|apply KeepBut.set_|apply keep_drewN|apply keep_drew|apply keep_alloc)|exact HK.out)⟩,⟨by repeat (first|(with_reducible first|exact HB.out|apply aZ|apply nZ|apply dZ|refine sZ ?_ (IsS82.ge HI0.out))|exact HB.out)⟩⟩
   case rest =>
    clear HC32
    try clear c1
    try clear c2
    try clear p2
    try clear c3
    try clear c3b0
    try clear p3
    try clear q3
    try clear hx3
    try clear c4
    try clear c4b0
    try clear p4
    try clear q4
    try clear hx4
    try clear c5
    try clear c6
    try clear p6
    try clear c13
    try clear c13b0
    try clear c18
    try clear c20
    try clear c24
    try clear c26
    try clear c26b0
    try clear c27
    try clear c27b0
    try clear c28
    try clear c35
    try clear hx392_0
    try clear hx413_0
    try clear p2
    try clear p3
    try clear p392
    try clear p413
    try clear q3
    try clear q392
    try clear q413
    obtain⟨kq,x5_31,x1001_31,x1002_31,HA,HJ31,HO_4,HO_5,HI0,HK,HB⟩:=hcut
    cases kq with
    | zero=>exact absurd HA.out (by simp [spec_l01Cur_rows.j2])
    | succ kj31 =>
     have H:=HA.out
     clear HA
     simp only [spec_l01Cur_rows.j2] at H
     replace H:=Option.bind_eq_some_iff.mp H
     obtain⟨⟨t425,t426,t427⟩,A380,H⟩:=H
     replace H:(if t425 = true then ((spec_l01Cur_pick.f s0_0 t426 t427 2).bind fun bt428=>(if 0 ≤ (wrap64 (301 + bt428.1)) then (if (wrap64 (301 + bt428.1):Int).toNat ≤ 35184372088832 then (some ((List.replicate (wrap64 (301 + bt428.1):Int).toNat 0),x5_31,bt428.2.1,bt428.2.2)) else (none)) else (none))) else (some (t393,x5_31,t426,t427))) = some (r1,r2,r3,r4):=H
     have A38:=mk0 A380
     clear A380
     by_cases c39:t425 = true
     rotate_left
     ·replace c39:=Bool.eq_false_iff.mpr c39
      subst c39
      have H1:(some (t393,x5_31,t426,t427)) = some (r1,r2,r3,r4):=by rw [if_neg (show ¬ (false = true) by decide)] at H;exact H
      clear H
      have H:=H1
      clear H1
      simp only [Option.some.injEq,Prod.mk.injEq] at H
      obtain⟨rfl,rfl,rfl,rfl⟩:=H
      go_wp2_with (first|((with_reducible refine gate_callee (f:=60) rfl ?_);refine goesL_ (some 43) rfl rfl Try.func60 (by kernel_rfl) rfl #[.pointer (some ⟨g,0,none⟩),.int .i64 60] rfl (by (try simp only [mA,mC,mN]);first|done|rfl|(simp only [List.length_drop,List.length_take];rfl)) ?_;(with_reducible refine (spec_l01Cur_once.calls g s0_0 x1001_31 x1002_31 60 false t426 t427 w0 _ ?side1 ?side2 A38.out).mono ?_);(case side1=>repeat (first|(with_reducible first|exact HI0.out|apply IsS82.alloc|apply IsS82.drewN|apply IsS82.drew|apply IsS82.set_1|apply IsS82.set_2)|exact HI0.out));(case side2=>repeat (first|(with_reducible first|exact HB.out|apply aZ|apply nZ|apply dZ|refine sZ ?_ (IsS82.ge HI0.out))|exact HB.out));rintro e w48 ⟨rfl,hi,hb,hk⟩;refine⟨_,rfl,?_⟩;have n0_:=mk0 (Kd.R_mono (Kd.R_keep (IsS82.apart (show IsS82 w0 _ g s0_0 x1001_31 x1002_31 from by repeat (first|(with_reducible first|exact HI0.out|apply IsS82.alloc|apply IsS82.drewN|apply IsS82.drew|apply IsS82.set_1|apply IsS82.set_2)|exact HI0.out)) (by (with_reducible repeat (first|apply aR|apply nR|apply dR));exact HO_4.out) (by decide)) hk (fun _ h=>h.2)) (fun _ h=>h.1));have n1_:=mk0 (Kd.R_mono (Kd.R_keep (IsS82.apart (show IsS82 w0 _ g s0_0 x1001_31 x1002_31 from by repeat (first|(with_reducible first|exact HI0.out|apply IsS82.alloc|apply IsS82.drewN|apply IsS82.drew|apply IsS82.set_1|apply IsS82.set_2)|exact HI0.out)) (by (with_reducible repeat (first|apply aR|apply nR|apply dR));exact HO_5.out) (by decide)) hk (fun _ h=>h.2)) (fun _ h=>h.1));have n2_:=mk0 (KeepBut.trans (by repeat (first|(with_reducible first|exact HK.out|apply KeepBut.set_|apply keep_drewN|apply keep_drew|apply keep_alloc)|exact HK.out)) hk (.inl rfl));have n3_:=mk0 (hb);have n4_:=mk0 (hi);clear HO_4 HO_5 HK HB HI0;have HO_4:=n0_;have HO_5:=n1_;have HK:=n2_;have HB:=n3_;have HI0:=n4_;clear n0_ n1_ n2_ n3_ n4_;(try clear hb);(try clear hb2);(try clear hk);(try clear hi)))
      go_ret2
      exact⟨_,_,by first|rfl|(simp [errW_none,errW_some] <;> rfl)|(simp [*,errW_none,errW_some] <;> rfl),by (with_reducible repeat (first|apply aR|apply nR|apply dR));exact HO_4.out,by (with_reducible repeat (first|apply aR|apply nR|apply dR));exact HO_5.out,by repeat (first|(with_reducible first|exact HI0.out|apply IsS82.alloc|apply IsS82.drewN|apply IsS82.drew|apply IsS82.set_1|apply IsS82.set_2)|exact HI0.out),by repeat (first|(with_reducible first|exact HB.out|apply aZ|apply nZ|apply dZ|refine sZ ?_ (IsS82.ge HI0.out))|exact HB.out),by repeat (first|(with_reducible first|exact HK.out|apply KeepBut.set_|apply keep_drewN|apply keep_drew|apply keep_alloc)|exact HK.out)⟩
     subst c39
     have H1:((spec_l01Cur_pick.f s0_0 t426 t427 2).bind fun bt428=>(if 0 ≤ (wrap64 (301 + bt428.1)) then (if (wrap64 (301 + bt428.1):Int).toNat ≤ 35184372088832 then (some ((List.replicate (wrap64 (301 + bt428.1):Int).toNat 0),x5_31,bt428.2.1,bt428.2.2)) else (none)) else (none))) = some (r1,r2,r3,r4):=by rw [if_pos rfl] at H;exact H
     clear H
     have H:=H1
     clear H1
     replace H:=Option.bind_eq_some_iff.mp H
     obtain⟨⟨t428,t429,t430⟩,A400,H⟩:=H
     replace H:(if 0 ≤ (wrap64 (301 + t428)) then (if (wrap64 (301 + t428):Int).toNat ≤ 35184372088832 then (some ((List.replicate (wrap64 (301 + t428):Int).toNat 0),x5_31,t429,t430)) else (none)) else (none)) = some (r1,r2,r3,r4):=H
     have A40:=mk0 A400
     clear A400
     obtain⟨ji41,hji41⟩:∃ j_:Int,(wrap64 (301 + t428)) = j_:=⟨_,rfl⟩
     replace H:(if 0 ≤ (ji41) then (if (ji41:Int).toNat ≤ 35184372088832 then (some ((List.replicate (ji41:Int).toNat 0),x5_31,t429,t430)) else (none)) else (none)) = some (r1,r2,r3,r4):=by first|(rw [hji41] at H;exact H)|(simp only [hji41] at H ⊢;exact H)
     (try rw [hji41] at A38)
     (try rw [hji41] at A40)
     have hji41w:(IntKind.i64.wrap (301 + t428)) = ji41:=(i64_w _).trans hji41
     by_cases c42:0 ≤ (ji41)
     rotate_left
     ·rw [if_neg c42] at H
      exact absurd H (by simp)
     rw [if_pos c42] at H
     have c42b0:=eq_true c42
     have c42b1:decide (0 ≤ (ji41)) = true:=decide_eq_true c42
     clear c42
     by_cases c43:(ji41:Int).toNat ≤ 35184372088832
     rotate_left
     ·rw [if_neg c43] at H
      exact absurd H (by simp)
     rw [if_pos c43] at H
     have c43b0:=eq_true c43
     have c43b1:decide ((ji41:Int).toNat ≤ 35184372088832) = true:=decide_eq_true c43
     clear c43
     obtain⟨y431,hy431⟩:∃ y_:List Int,y_ = (List.replicate (ji41:Int).toNat 0):=⟨_,rfl⟩
     replace H:(some (y431,x5_31,t429,t430)) = some (r1,r2,r3,r4):=by first|(rw [hy431];with_reducible exact H)|(have H2_:=(Option.bind_some _ _).symm.trans H;rw [hy431];with_reducible exact H2_)|(have H2_:=(Option.bind_some _ _).symm.trans H;with_reducible exact H2_)|with_reducible exact H|(rw [hy431];exact H)|exact H
     have Ny431:=mk0 hy431
     clear hy431
     simp only [Option.some.injEq,Prod.mk.injEq] at H
     obtain⟨rfl,rfl,rfl,rfl⟩:=H
     go_wp2_with (first|((with_reducible refine gate_callee (f:=60) rfl ?_);refine goesL_ (some 43) rfl rfl Try.func60 (by kernel_rfl) rfl #[.pointer (some ⟨g,0,none⟩),.int .i64 60] rfl (by (try simp only [mA,mC,mN]);first|done|rfl|(simp only [List.length_drop,List.length_take];rfl)) ?_;(with_reducible refine (spec_l01Cur_once.calls g s0_0 x1001_31 x1002_31 60 true t426 t427 w0 _ ?side1 ?side2 A38.out).mono ?_);(case side1=>repeat (first|(with_reducible first|exact HI0.out|apply IsS82.alloc|apply IsS82.drewN|apply IsS82.drew|apply IsS82.set_1|apply IsS82.set_2)|exact HI0.out));(case side2=>repeat (first|(with_reducible first|exact HB.out|apply aZ|apply nZ|apply dZ|refine sZ ?_ (IsS82.ge HI0.out))|exact HB.out));rintro e w44 ⟨rfl,hi,hb,hk⟩;refine⟨_,rfl,?_⟩;have n0_:=mk0 (Kd.R_mono (Kd.R_keep (IsS82.apart (show IsS82 w0 _ g s0_0 x1001_31 x1002_31 from by repeat (first|(with_reducible first|exact HI0.out|apply IsS82.alloc|apply IsS82.drewN|apply IsS82.drew|apply IsS82.set_1|apply IsS82.set_2)|exact HI0.out)) (by (with_reducible repeat (first|apply aR|apply nR|apply dR));exact HO_4.out) (by decide)) hk (fun _ h=>h.2)) (fun _ h=>h.1));have n1_:=mk0 (Kd.R_mono (Kd.R_keep (IsS82.apart (show IsS82 w0 _ g s0_0 x1001_31 x1002_31 from by repeat (first|(with_reducible first|exact HI0.out|apply IsS82.alloc|apply IsS82.drewN|apply IsS82.drew|apply IsS82.set_1|apply IsS82.set_2)|exact HI0.out)) (by (with_reducible repeat (first|apply aR|apply nR|apply dR));exact HO_5.out) (by decide)) hk (fun _ h=>h.2)) (fun _ h=>h.1));have n2_:=mk0 (KeepBut.trans (by repeat (first|(with_reducible first|exact HK.out|apply KeepBut.set_|apply keep_drewN|apply keep_drew|apply keep_alloc)|exact HK.out)) hk (.inl rfl));have n3_:=mk0 (hb);have n4_:=mk0 (hi);clear HO_4 HO_5 HK HB HI0;have HO_4:=n0_;have HO_5:=n1_;have HK:=n2_;have HB:=n3_;have HI0:=n4_;clear n0_ n1_ n2_ n3_ n4_;(try clear hb);(try clear hb2);(try clear hk);(try clear hi))|((with_reducible refine gate_callee (f:=59) rfl ?_);refine goesL_ (some 45) rfl rfl Try.func59 (by kernel_rfl) rfl #[.pointer (some ⟨g,0,none⟩),.int .i64 2] rfl (by (try simp only [mA,mC,mN]);first|done|rfl|(simp only [List.length_drop,List.length_take];rfl)) ?_;(with_reducible refine (spec_l01Cur_pick.calls g s0_0 t426 t427 2 t428 t429 t430 w0 _ ?side1 ?side2 A40.out).mono ?_);(case side1=>repeat (first|(with_reducible first|exact HI0.out|apply IsS82.alloc|apply IsS82.drewN|apply IsS82.drew|apply IsS82.set_1|apply IsS82.set_2)|exact HI0.out));(case side2=>repeat (first|(with_reducible first|exact HB.out|apply aZ|apply nZ|apply dZ|refine sZ ?_ (IsS82.ge HI0.out))|exact HB.out));rintro e w45 ⟨rfl,hi,hb,hk⟩;refine⟨_,rfl,?_⟩;have n0_:=mk0 (Kd.R_mono (Kd.R_keep (IsS82.apart (show IsS82 w0 _ g s0_0 t426 t427 from by repeat (first|(with_reducible first|exact HI0.out|apply IsS82.alloc|apply IsS82.drewN|apply IsS82.drew|apply IsS82.set_1|apply IsS82.set_2)|exact HI0.out)) (by (with_reducible repeat (first|apply aR|apply nR|apply dR));exact HO_4.out) (by decide)) hk (fun _ h=>h.2)) (fun _ h=>h.1));have n1_:=mk0 (Kd.R_mono (Kd.R_keep (IsS82.apart (show IsS82 w0 _ g s0_0 t426 t427 from by repeat (first|(with_reducible first|exact HI0.out|apply IsS82.alloc|apply IsS82.drewN|apply IsS82.drew|apply IsS82.set_1|apply IsS82.set_2)|exact HI0.out)) (by (with_reducible repeat (first|apply aR|apply nR|apply dR));exact HO_5.out) (by decide)) hk (fun _ h=>h.2)) (fun _ h=>h.1));have n2_:=mk0 (KeepBut.trans (by repeat (first|(with_reducible first|exact HK.out|apply KeepBut.set_|apply keep_drewN|apply keep_drew|apply keep_alloc)|exact HK.out)) hk (.inl rfl));have n3_:=mk0 (hb);have n4_:=mk0 (hi);clear HO_4 HO_5 HK HB HI0;have HO_4:=n0_;have HO_5:=n1_;have HK:=n2_;have HB:=n3_;have HI0:=n4_;clear n0_ n1_ n2_ n3_ n4_;(try clear hb);(try clear hb2);(try clear hk);(try clear hi))|((with_reducible refine gate_dst (N:=47) rfl ?_);refine Kd.R_make (Kd.int .i64) _ 3 rfl (N:=47) rfl 22 _ _ rfl ji41 rfl rfl Try.underlying22 (.int .i64 0) 8 info3 rfl (by decide) (by omega) 0 (ok:=fun _=>True) (okp:=fun _=>True) rfl (fun _ hk=>hk) trivial (of_decide_eq_true (by first|(with_reducible assumption)|assumption)) (Nat.le_trans (Nat.mul_le_mul_right _ (of_decide_eq_true (by first|(with_reducible assumption)|assumption):ji41.toNat ≤ 35184372088832)) (by omega)) (Below.refl _ _) (Nat.le_refl _) ?_;intro v432 w46 ho47 hb hg_ hnew_;clear hg_ hnew_;(first|rw [← Ny431.out] at ho47|(simp only [Int.reduceToNat] at ho47;rw [← Ny431.out] at ho47));have n0_:=mk0 (Kd.R_elder' (by (with_reducible repeat (first|apply aR|apply nR|apply dR));exact HO_4.out) (Kd.R_base ho47) hb);have n1_:=mk0 (Kd.R_elder' (by (with_reducible repeat (first|apply aR|apply nR|apply dR));exact HO_5.out) (Kd.R_base ho47) hb);have n2_:=mk0 (Kd.R_lower (Kd.R_new' (Kd.R_new' ho47 (Kd.R_lt (by (with_reducible repeat (first|apply aR|apply nR|apply dR));exact HO_4.out))) (Kd.R_lt (by (with_reducible repeat (first|apply aR|apply nR|apply dR));exact HO_5.out))) (keep_size (w:=w) (g:=g) (row:=none) (by repeat (first|(with_reducible first|exact HK.out|apply KeepBut.set_|apply keep_drewN|apply keep_drew|apply keep_alloc)|exact HK.out))));have n3_:=mk0 (IsS82.below (by repeat (first|(with_reducible first|exact HI0.out|apply IsS82.alloc|apply IsS82.drewN|apply IsS82.drew|apply IsS82.set_1|apply IsS82.set_2)|exact HI0.out)) hb);have n4_:=mk0 (KeepBut.trans (by repeat (first|(with_reducible first|exact HK.out|apply KeepBut.set_|apply keep_drewN|apply keep_drew|apply keep_alloc)|exact HK.out)) (KeepBut.of_below hb g none) (.inl rfl));have n5_:=mk0 (below_step (by repeat (first|(with_reducible first|exact HB.out|apply aZ|apply nZ|apply dZ|refine sZ ?_ (IsS82.ge HI0.out))|exact HB.out)) hb);clear HO_4 HO_5 HI0 HK HB;have HO_4:=n0_;have HO_5:=n1_;have HO433:=n2_;have HI0:=n3_;have HK:=n4_;have HB:=n5_;clear n0_ n1_ n2_ n3_ n4_ n5_ hb ho47))
     go_ret2
     exact⟨_,_,by first|rfl|(simp [errW_none,errW_some] <;> rfl)|(simp only [← hji41];first|rfl|(simp [errW_none,errW_some] <;> rfl))|(simp [*,errW_none,errW_some] <;> rfl),by (with_reducible repeat (first|apply aR|apply nR|apply dR));exact Kd.R_mono HO433.out (by first|exact fun _ hk=>hk.2|(intro k_ hk;simp only [hk,ne_eq,and_self,not_false_eq_true])),by (with_reducible repeat (first|apply aR|apply nR|apply dR));exact Kd.R_mono HO_5.out (by first|exact fun _ hk=>hk.2|(intro k_ hk;simp only [hk,ne_eq,and_self,not_false_eq_true])),by repeat (first|(with_reducible first|exact HI0.out|apply IsS82.alloc|apply IsS82.drewN|apply IsS82.drew|apply IsS82.set_1|apply IsS82.set_2)|exact HI0.out),by repeat (first|(with_reducible first|exact HB.out|apply aZ|apply nZ|apply dZ|refine sZ ?_ (IsS82.ge HI0.out))|exact HB.out),by repeat (first|(with_reducible first|exact HK.out|apply KeepBut.set_|apply keep_drewN|apply keep_drew|apply keep_alloc)|exact HK.out)⟩
/-! ### spec_DrawPatchOf: function 20 -/
def spec_DrawPatchOf.f (k : Nat) (l0 : List Int) : Option (List Int × List Int) := (spec_l01Open.f l0).bind fun bt434 => ((spec_l01Cur_rows.f k bt434.1 bt434.2.1 bt434.2.2).bind fun bt438 => (some (bt438.1, bt438.2.1)))
theorem spec_DrawPatchOf.mono : ∀ a0 k, LeO (spec_DrawPatchOf.f k a0) (spec_DrawPatchOf.f (k + 1) a0) := by
 intro a0 k
 unfold spec_DrawPatchOf.f
 repeat' first|(with_reducible first|exact spec_l01Cur_rows.mono _ _ _ _|exact LeO.refl _|exact LeO.none _|refine LeO.ite ?_ ?_|refine LeO.bind ?_ (fun _ => ?_))|exact LeO.none _|refine LeO.ite ?_ ?_|refine LeO.bind ?_ (fun _ => ?_)
set_option maxHeartbeats 8000000 in
set_option maxRecDepth 100000 in
theorem spec_DrawPatchOf.calls (k : Nat) (A0 : Option Addr) (c0 : Nat) (l0 : List Int) (r1 : List Int) (r2 : List Int) (w : World) (hr0 : Kd.C (Kd.int .u8) w A0 l0.length l0) (hc0 : l0.length ≤ c0) (h : spec_DrawPatchOf.f k l0 = some (r1, r2)) :
  Calls Try.prog 20 #[.slice A0 l0.length c0] w fun e w' => ∃ v0_ v1_ : Value, e = .returned (.tuple #[v0_, v1_]) ∧ Kd.R (Kd.int .i64) 3 w' w.heap.size (fun k_ => some k_ ≠ (v1_ : Value).ownBlock) v0_ r1 ∧ Kd.R (Kd.int .i64) 3 w' w.heap.size (fun k_ => some k_ ≠ (v0_ : Value).ownBlock) v1_ r2 ∧ Below w.heap.size w w' := by
 have HR0:=mk0 hr0
 have HC0:=mk0 hc0
 clear hr0 hc0
 have HB:=mk0 (Below.refl w.heap.size w)
 have H:((spec_l01Open.f l0).bind fun bt434=>((spec_l01Cur_rows.f k bt434.1 bt434.2.1 bt434.2.2).bind fun bt438=>(some (bt438.1,bt438.2.1)))) = some (r1,r2):=h
 clear h
 replace H:=Option.bind_eq_some_iff.mp H
 obtain⟨⟨t434,t435,t436⟩,A20,H⟩:=H
 replace H:((spec_l01Cur_rows.f k t434 t435 t436).bind fun bt438=>(some (bt438.1,bt438.2.1))) = some (r1,r2):=H
 have A2:=mk0 A20
 clear A20
 replace H:=Option.bind_eq_some_iff.mp H
 obtain⟨⟨t438,t441,t444,t445⟩,A30,H⟩:=H
 replace H:(some (t438,t441)) = some (r1,r2):=H
 have A3:=mk0 A30
 clear A30
 simp only [Option.some.injEq,Prod.mk.injEq] at H
 obtain⟨rfl,rfl⟩:=H
 go_enter Try.func20,Try.ntmps20
 go_wp2_with (first|((with_reducible refine gate_callee (f:=43) rfl ?_);refine goesL_ (some 6) rfl rfl Try.func43 (by kernel_rfl) rfl #[.slice A0 l0.length c0] rfl (by (try simp only [mA,mC,mN]);first|done|rfl|(simp only [List.length_drop,List.length_take];rfl)) ?_;(with_reducible refine (spec_l01Open.calls _ _ l0 t434 t435 t436 w _ ?side1 ?side2 ?side3 A2.out).mono ?_);(case side1=>repeat (first|(with_reducible first|exact HB.out|apply aZ|apply nZ|apply dZ)|exact HB.out));(case side2=>exact HR0.out);(case side3=>exact HC0.out);rintro e w4 ⟨g437,rfl,hi,hb,hb2⟩;refine⟨_,rfl,?_⟩;have n0_:=mk0 (hb);have n1_:=mk0 (hi);clear HB;have HB:=n0_;have HI437:=n1_;clear n0_ n1_;(try clear hb);(try clear hb2);(try clear hk);(try clear hi))|((with_reducible refine gate_callee (f:=44) rfl ?_);refine goesL_ (some 8) rfl rfl Try.func44 (by kernel_rfl) rfl #[.pointer (some ⟨g437,0,none⟩)] rfl (by (try simp only [mA,mC,mN]);first|done|rfl|(simp only [List.length_drop,List.length_take];rfl)) ?_;(with_reducible refine (spec_l01Cur_rows.calls k g437 t434 t435 t436 t438 t441 t444 t445 w _ ?side1 ?side2 A3.out).mono ?_);(case side1=>repeat (first|(with_reducible first|exact HI437.out|apply IsS82.alloc|apply IsS82.drewN|apply IsS82.drew|apply IsS82.set_1|apply IsS82.set_2)|exact HI437.out));(case side2=>repeat (first|(with_reducible first|exact HB.out|apply aZ|apply nZ|apply dZ|refine sZ ?_ (IsS82.ge HI437.out))|exact HB.out));rintro e w5 ⟨v439,v442,rfl,ho0,ho1,hi,hb,hk⟩;refine⟨_,rfl,?_⟩;have n0_:=mk0 (Kd.R_lower ho0 (below_size (by repeat (first|(with_reducible first|exact HB.out|apply aZ|apply nZ|apply dZ|refine sZ ?_ (IsS82.ge HI437.out))|exact HB.out))));have n1_:=mk0 (Kd.R_lower ho1 (below_size (by repeat (first|(with_reducible first|exact HB.out|apply aZ|apply nZ|apply dZ|refine sZ ?_ (IsS82.ge HI437.out))|exact HB.out))));have n2_:=mk0 (hb);have n3_:=mk0 (hi);clear HB HI437;have HO440:=n0_;have HO443:=n1_;have HB:=n2_;have HI437:=n3_;clear n0_ n1_ n2_ n3_;(try clear hb);(try clear hb2);(try clear hk);(try clear hi);(try clear ho0);(try clear ho1)))
 go_ret2
 exact⟨_,_,by first|rfl|(simp [errW_none,errW_some] <;> rfl)|(simp [*,errW_none,errW_some] <;> rfl),by (with_reducible repeat (first|apply aR|apply nR|apply dR));exact HO440.out,by (with_reducible repeat (first|apply aR|apply nR|apply dR));exact HO443.out,by repeat (first|(with_reducible first|exact HB.out|apply aZ|apply nZ|apply dZ|refine sZ ?_ (IsS82.ge HI437.out))|exact HB.out)⟩

end Go.Proofs.Ytdiemmcnekbfaaa.QFnPatchBack
