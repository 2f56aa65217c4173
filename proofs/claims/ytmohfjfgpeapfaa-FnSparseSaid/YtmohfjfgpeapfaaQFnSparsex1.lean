-- A walk, made by walk.py, a program of this session's.
import Derived.Test.YtmohfjfgpeapfaaQFnSparsex0
namespace Go.Proofs.Ytmohfjfgpeapfaa.QFnSparse
open Go.RowKit Go.Proofs.YtmohfjfgpeapfaaW.PrintWords Go.Proofs.YtmohfjfgpeapfaaW.PrintLast Go.Proofs.YtmohfjfgpeapfaaW.PrintMore
attribute [local go_sem] max2_int min2_int max_two min_two max_three min_three max_four min_four   -- for this text's walks alone
set_option linter.unusedVariables false
set_option linter.unusedSimpArgs false

/-! ### laws_big: function 7 -/
def laws_big.f (l0 : List Int) : Option (Bool) := some (decide ((l0.length : Int) > 1048576))
set_option maxHeartbeats 8000000 in
set_option maxRecDepth 100000 in
theorem laws_big.calls (A0 : Option Addr) (c0 : Nat) (l0 : List Int) (r : Bool) (w : World) (hr0 : Kd.C (Kd.int .u8) w A0 l0.length l0) (hc0 : l0.length ≤ c0) (h : laws_big.f l0 = some r) :
  Calls Try.prog 7 #[.slice A0 l0.length c0] w fun e w' => e = .returned (.bool r) ∧ Drawn0 w w' := by
 have HR0:=mk0 hr0
 have HC0:=mk0 hc0
 clear hr0 hc0
 have H:(some (decide ((l0.length:Int) > 1048576))) = some r:=h
 clear h
 obtain rfl:=Option.some.inj H
 go_enter Try.func7,Try.ntmps7
 go_wp2
 go_ret
 exact⟨by first|rfl|(simp;done)|(simp [*];done),by repeat (first|exact Drawn0.refl _|apply Drawn0.step)⟩

/-- A state of type 77 at block g of W; what its slices lead to came in by w0. -/
def IsS77 (w0 W : World) (g : Nat) (f0 : List Int) (f1 : Int) (f2 : Int) : Prop := ∃ A0 c0, W.heap[g]? = some (.cells #[.slice A0 f0.length c0, .int .i64 f1, .int .i64 f2] 77 (0, 0)) ∧ w0.heap.size ≤ g ∧ Kd.C (Kd.int .u8) w0 A0 f0.length f0
theorem IsS77.grown {w0 W : World} {g : Nat} {f0 : List Int} {f1 : Int} {f2 : Int} {W1 : World} {row : Option Nat} (h : IsS77 w0 W g f0 f1 f2) (hw : W.grownBy W1 row) (hne : some g ≠ row) : IsS77 w0 W1 g f0 f1 f2 := by
 obtain ⟨A0, c0, hb, hg, hr0⟩ := h
 exact ⟨A0, c0, blk_grown hb hw hne, hg, hr0⟩
theorem IsS77.own_neN {w0 W : World} {g : Nat} {f0 : List Int} {f1 : Int} {f2 : Int} {α : Type} {d : Kd α} {e : Nat} {base : Nat} {ok : Nat → Prop} {v : Value} {xs : List α} (h : IsS77 w0 W g f0 f1 f2) (ho : Kd.N d e W base ok v xs) (ht : e ≠ 77) : some g ≠ v.ownBlock := by
 obtain ⟨A0, c0, hb, hg, hr0⟩ := h
 exact Kd.N_ne ho hb ht
theorem IsS77.fresh {w0 W : World} {g : Nat} {f0 : List Int} {f1 : Int} {f2 : Int} (h : IsS77 w0 W g f0 f1 f2) : ∀ k, W.heap.size ≤ k → k ≠ g := by
 obtain ⟨A0, c0, hb, hg, hr0⟩ := h
 exact Kd.freshB hb
theorem IsS77.kept {w0 W : World} {g : Nat} {f0 : List Int} {f1 : Int} {f2 : Int} {W1 : World} {S : Nat → Prop} (h : IsS77 w0 W g f0 f1 f2) (hk : Kept W W1 S) (hne : ¬ S g) : IsS77 w0 W1 g f0 f1 f2 := by
 obtain ⟨A0, c0, hb, hg, hr0⟩ := h
 exact ⟨A0, c0, blk_kept hb hk hne, hg, hr0⟩
theorem IsS77.below {w0 W : World} {g : Nat} {f0 : List Int} {f1 : Int} {f2 : Int} {W1 : World} (h : IsS77 w0 W g f0 f1 f2) (hw : Below W.heap.size W W1) : IsS77 w0 W1 g f0 f1 f2 := h.grown (grown_of_below hw none) (by simp)
theorem IsS77.alloc {w0 W : World} {g : Nat} {f0 : List Int} {f1 : Int} {f2 : Int} (h : IsS77 w0 W g f0 f1 f2) (o : Obj) : IsS77 w0 (W.alloc o) g f0 f1 f2 := h.below (below_alloc (Below.refl _ _) o)
theorem IsS77.drewN {w0 W : World} {g : Nat} {f0 : List Int} {f1 : Int} {f2 : Int} (h : IsS77 w0 W g f0 f1 f2) (m : Nat) : IsS77 w0 (W.drewN m) g f0 f1 f2 := h
theorem IsS77.drew {w0 W : World} {g : Nat} {f0 : List Int} {f1 : Int} {f2 : Int} (h : IsS77 w0 W g f0 f1 f2) : IsS77 w0 W.drew g f0 f1 f2 := h
theorem IsS77.at_ {w0 W : World} {g : Nat} {f0 : List Int} {f1 : Int} {f2 : Int} {w' : World} {m : Nat} (hq : W.drewN m = w') (h : IsS77 w0 W g f0 f1 f2) : IsS77 w0 w' g f0 f1 f2 := by subst hq; exact IsS77.drewN h m
theorem IsS77.apart {w0 W : World} {g : Nat} {f0 : List Int} {f1 : Int} {f2 : Int} {α : Type} {d : Kd α} {e : Nat} {base : Nat} {ok : Nat → Prop} {v : Value} {xs : List α} (h : IsS77 w0 W g f0 f1 f2) (ho : d.R e W base ok v xs) (ht : ∀ q, q ∈ e :: d.E → q ≠ 77) : d.R e W base (fun k => ok k ∧ k ≠ g) v xs := by
 obtain ⟨A0, c0, hb, hg, hr0⟩ := h
 exact Kd.R_types ho hb ht
theorem IsS77.own_ne {w0 W : World} {g : Nat} {f0 : List Int} {f1 : Int} {f2 : Int} {α : Type} {d : Kd α} {e : Nat} {base : Nat} {ok : Nat → Prop} {v : Value} {xs : List α} (h : IsS77 w0 W g f0 f1 f2) (ho : d.R e W base ok v xs) (ht : e ≠ 77) : some g ≠ v.ownBlock := by
 obtain ⟨A0, c0, hb, hg, hr0⟩ := h
 exact Kd.R_ne ho hb ht
theorem IsS77.apartQ {w0 W : World} {g : Nat} {f0 : List Int} {f1 : Int} {f2 : Int} {α : Type} {d : Kd α} {e : Nat} {base : Nat} {ok : Nat → Prop} {v : Value} {xs : List α} (h : IsS77 w0 W g f0 f1 f2) (ho : d.Q e W base ok v xs) (ht : ∀ q, q ∈ e :: d.E → q ≠ 77) : d.Q e W base (fun k => ok k ∧ k ≠ g) v xs := by
 obtain ⟨A0, c0, hb, hg, hr0⟩ := h
 exact Kd.Q_types ho hb ht
theorem IsS77.own_neQ {w0 W : World} {g : Nat} {f0 : List Int} {f1 : Int} {f2 : Int} {α : Type} {d : Kd α} {e : Nat} {base : Nat} {ok : Nat → Prop} {v : Value} {xs : List α} (h : IsS77 w0 W g f0 f1 f2) (ho : d.Q e W base ok v xs) (ht : e ≠ 77) : some g ≠ v.ownBlock := by
 obtain ⟨A0, c0, hb, hg, hr0⟩ := h
 exact Kd.Q_ne ho hb ht
theorem IsS77.apartS {w0 W : World} {g : Nat} {f0 : List Int} {f1 : Int} {f2 : Int} {α : Type} {d : Kd α} {e : Nat} {base : Nat} {ok : Nat → Prop} {v : Value} {xs : List α} (h : IsS77 w0 W g f0 f1 f2) (ho : d.S e W base ok v xs) (ht : ∀ q, q ∈ e :: d.E → q ≠ 77) : d.S e W base (fun k => ok k ∧ k ≠ g) v xs := by
 obtain ⟨A0, c0, hb, hg, hr0⟩ := h
 exact Kd.S_types ho hb ht
theorem IsS77.own_neS {w0 W : World} {g : Nat} {f0 : List Int} {f1 : Int} {f2 : Int} {α : Type} {d : Kd α} {e : Nat} {base : Nat} {ok : Nat → Prop} {v : Value} {xs : List α} (h : IsS77 w0 W g f0 f1 f2) (ho : d.S e W base ok v xs) (ht : e ≠ 77) : some g ≠ v.ownBlock := by
 obtain ⟨A0, c0, hb, hg, hr0⟩ := h
 exact Kd.S_ne ho hb ht
theorem IsS77.lt {w0 W : World} {g : Nat} {f0 : List Int} {f1 : Int} {f2 : Int} (h : IsS77 w0 W g f0 f1 f2) : g < W.heap.size := by
 obtain ⟨A0, c0, hb, hg, hr0⟩ := h
 exact blk_lt hb
theorem IsS77.ge {w0 W : World} {g : Nat} {f0 : List Int} {f1 : Int} {f2 : Int} (h : IsS77 w0 W g f0 f1 f2) : w0.heap.size ≤ g := by
 obtain ⟨A0, c0, hb, hg, hr0⟩ := h
 exact hg
theorem IsS77.ne_blk {w0 W : World} {g : Nat} {f0 : List Int} {f1 : Int} {f2 : Int} {a : Nat} {cs : Array Value} {t : TypeId} {fr : Nat × Nat} (h : IsS77 w0 W g f0 f1 f2) (hb2 : W.heap[a]? = some (.cells cs t fr)) (ht : t ≠ 77) : g ≠ a := by
 obtain ⟨A0, c0, hb, hg, hr0⟩ := h
 rintro rfl
 rw [hb] at hb2
 injection hb2 with hb2
 injection hb2 with _ ht2
 exact ht ht2.symm
theorem IsS77.far {w0 W : World} {g : Nat} {f0 : List Int} {f1 : Int} {f2 : Int} {p : Addr} (h : IsS77 w0 W g f0 f1 f2) (hne : g ≠ p.block) (u : Value) : IsS77 w0 (W.setCell p u) g f0 f1 f2 := by
 obtain ⟨A0, c0, hb, hg, hr0⟩ := h
 exact ⟨A0, c0, blk_far hb hne u, hg, hr0⟩
theorem cellS77_0 {W : World} {g : Nat} {A0 : Option Addr} {c0 : Nat} {f0 : List Int} {f1 : Int} {f2 : Int} (h : W.heap[g]? = some (.cells #[.slice A0 f0.length c0, .int .i64 f1, .int .i64 f2] 77 (0, 0))) : W.cell? ⟨g, 0, none⟩ = some (.slice A0 f0.length c0) := (blk_cell h 0).trans rfl
theorem cellS77_1 {W : World} {g : Nat} {A0 : Option Addr} {c0 : Nat} {f0 : List Int} {f1 : Int} {f2 : Int} (h : W.heap[g]? = some (.cells #[.slice A0 f0.length c0, .int .i64 f1, .int .i64 f2] 77 (0, 0))) : W.cell? ⟨g, 1, none⟩ = some (.int .i64 f1) := (blk_cell h 1).trans rfl
theorem IsS77.set_1 {w0 W : World} {g : Nat} {f0 : List Int} {f1 : Int} {f2 : Int} (h : IsS77 w0 W g f0 f1 f2) (x : Int) : IsS77 w0 (W.setCell ⟨g, 1, none⟩ (.int .i64 x)) g f0 x f2 := by
 obtain ⟨A0, c0, hb, hg, hr0⟩ := h
 exact ⟨A0, c0, by simpa using blk_set hb 1 (.int .i64 x), hg, hr0⟩
theorem cellS77_2 {W : World} {g : Nat} {A0 : Option Addr} {c0 : Nat} {f0 : List Int} {f1 : Int} {f2 : Int} (h : W.heap[g]? = some (.cells #[.slice A0 f0.length c0, .int .i64 f1, .int .i64 f2] 77 (0, 0))) : W.cell? ⟨g, 2, none⟩ = some (.int .i64 f2) := (blk_cell h 2).trans rfl
theorem IsS77.set_2 {w0 W : World} {g : Nat} {f0 : List Int} {f1 : Int} {f2 : Int} (h : IsS77 w0 W g f0 f1 f2) (x : Int) : IsS77 w0 (W.setCell ⟨g, 2, none⟩ (.int .i64 x)) g f0 f1 x := by
 obtain ⟨A0, c0, hb, hg, hr0⟩ := h
 exact ⟨A0, c0, by simpa using blk_set hb 2 (.int .i64 x), hg, hr0⟩
theorem IsS77.new (w0 W : World) (A0 : Option Addr) (c0 : Nat) (f0 : List Int) (f1 : Int) (f2 : Int) (hB : Below w0.heap.size w0 W) (hr0 : Kd.C (Kd.int .u8) w0 A0 f0.length f0) : IsS77 w0 (W.alloc (.cells #[.slice A0 f0.length c0, .int .i64 f1, .int .i64 f2] 77)) W.heap.size f0 f1 f2 := ⟨A0, c0, by simpa using heap_alloc_new W _, hB.size, hr0⟩

/-! ### spec_l01Open: function 23 -/
def spec_l01Open.f (l0 : List Int) : Option (List Int × Int × Int) := some (l0, 0, 89 + ((l0.length : Int) % 1000))
set_option maxHeartbeats 8000000 in
set_option maxRecDepth 100000 in
theorem spec_l01Open.calls (A0 : Option Addr) (c0 : Nat) (l0 : List Int) (r1 : List Int) (r2 : Int) (r3 : Int) (w0 w : World) (hB : Below w0.heap.size w0 w) (hr0 : Kd.C (Kd.int .u8) w0 A0 l0.length l0) (hc0 : l0.length ≤ c0) (h : spec_l01Open.f l0 = some (r1, r2, r3)) :
  Calls Try.prog 23 #[.slice A0 l0.length c0] w fun e w' => ∃ g_ : Nat, e = .returned (.pointer (some ⟨g_, 0, none⟩)) ∧ IsS77 w0 w' g_ r1 r2 r3 ∧ Below w0.heap.size w0 w' ∧ Below w.heap.size w w' := by
 have hu77:=Try.underlying77
 have HR0:=mk0 hr0
 have HC0:=mk0 hc0
 clear hr0 hc0
 have HBW:=mk0 (Below.refl w.heap.size w)
 have HW0:=mk0 hB.size
 have HB:=mk0 hB
 clear hB
 have H:(some (l0,0,89 + ((l0.length:Int) % 1000))) = some (r1,r2,r3):=h
 clear h
 simp only [Option.some.injEq,Prod.mk.injEq] at H
 obtain⟨rfl,rfl,rfl⟩:=H
 go_enter Try.func23,Try.ntmps23
 go_wp2_with (first|((with_reducible refine gate_dst (N:=9) rfl ?_);refine box_event ?hg (N:=9) ?hd (cs:=#[.slice A0 l0.length c0,.int .i64 0,.int .i64 (89 + ((l0.length:Int) % 1000))]) (t:=77) ?hr ?_;(case hd=>rfl);(case hg=>rfl);(case hr=>first|(go_simp;done)|(go_simp;rfl));intro gb101 hg w2 hbox hb;replace HB:=mk0 (kS HB.out hb);have BK101:=mk0 (hbox);have GW101:=mk0 ((by rw [hg];exact (kZ HBW.out):w.heap.size ≤ gb101));have GE101:=mk0 ((Nat.le_trans HW0.out (by rw [hg];exact (kZ HBW.out):w.heap.size ≤ gb101):w0.heap.size ≤ gb101));replace HBW:=mk0 (below_step HBW.out hb);clear hb hbox hg))
 go_ret
 exact⟨_,rfl,(show IsS77 w0 _ gb101 l0 0 (89 + ((l0.length:Int) % 1000)) from ⟨_,_,kN BK101.out,GE101.out,HR0.out⟩),kB HB.out,kB HBW.out⟩

/-! ### spec_l01Cur_pick: function 25 -/
def spec_l01Cur_pick.f (s0_0 : List Int) (s0_1 : Int) (s0_2 : Int) (a1 : Int) : Option (Int × Int × Int) := if a1 < 2 then (some (0, s0_1, s0_2)) else (if s0_1 < (s0_0.length : Int) then (if 0 ≤ s0_1 then (if a1 = 0 then (none) else (some (Int.tmod (wrap64 (rd s0_0 s0_1)) a1, wrap64 (s0_1 + 1), s0_2))) else (none)) else (if (s0_0.length : Int) > 0 then (if (s0_0.length : Int) = 0 then (none) else (if 0 ≤ (Int.tmod s0_1 (s0_0.length : Int)) then (if (Int.tmod s0_1 (s0_0.length : Int)) < (s0_0.length : Int) then (if a1 = 0 then (none) else (some (Int.tmod (wrap64 ((wrap64 (Int.tdiv (Int.tmod (wrap64 ((wrap64 (s0_2 * 1103)) + 12345)) 65521) 7)) + (wrap64 (rd s0_0 (Int.tmod s0_1 (s0_0.length : Int)))))) a1, wrap64 (s0_1 + 1), Int.tmod (wrap64 ((wrap64 (s0_2 * 1103)) + 12345)) 65521))) else (none)) else (none))) else (if a1 = 0 then (none) else (some ((0 : Int) % a1, wrap64 (s0_1 + 1), Int.tmod (wrap64 ((wrap64 (s0_2 * 1103)) + 12345)) 65521)))))
set_option maxHeartbeats 8000000 in
set_option maxRecDepth 100000 in
theorem spec_l01Cur_pick.calls (g : Nat) (s0_0 : List Int) (s0_1 : Int) (s0_2 : Int) (a1 : Int) (r1 : Int) (r2 : Int) (r3 : Int) (w0 w : World) (hI : IsS77 w0 w g s0_0 s0_1 s0_2) (hB : Below w0.heap.size w0 w) (h : spec_l01Cur_pick.f s0_0 s0_1 s0_2 a1 = some (r1, r2, r3)) :
  Calls Try.prog 25 #[.pointer (some ⟨g, 0, none⟩), .int .i64 a1] w fun e w' => e = .returned (.int .i64 r1) ∧ IsS77 w0 w' g s0_0 r2 r3 ∧ Below w0.heap.size w0 w' ∧ KeepBut w w' g none := by
 have HI0:=mk0 hI
 have HK:=mk0 (KeepBut.refl w g none)
 have HL:=mk0 hB.size
 clear hI
 have HW0:=mk0 hB.size
 have HB:=mk0 hB
 clear hB
 have H:(if a1 < 2 then (some (0,s0_1,s0_2)) else (if s0_1 < (s0_0.length:Int) then (if 0 ≤ s0_1 then (if a1 = 0 then (none) else (some (Int.tmod (wrap64 (rd s0_0 s0_1)) a1,wrap64 (s0_1 + 1),s0_2))) else (none)) else (if (s0_0.length:Int) > 0 then (if (s0_0.length:Int) = 0 then (none) else (if 0 ≤ (Int.tmod s0_1 (s0_0.length:Int)) then (if (Int.tmod s0_1 (s0_0.length:Int)) < (s0_0.length:Int) then (if a1 = 0 then (none) else (some (Int.tmod (wrap64 ((wrap64 (Int.tdiv (Int.tmod (wrap64 ((wrap64 (s0_2 * 1103)) + 12345)) 65521) 7)) + (wrap64 (rd s0_0 (Int.tmod s0_1 (s0_0.length:Int)))))) a1,wrap64 (s0_1 + 1),Int.tmod (wrap64 ((wrap64 (s0_2 * 1103)) + 12345)) 65521))) else (none)) else (none))) else (if a1 = 0 then (none) else (some ((0:Int) % a1,wrap64 (s0_1 + 1),Int.tmod (wrap64 ((wrap64 (s0_2 * 1103)) + 12345)) 65521)))))) = some (r1,r2,r3):=h
 clear h
 by_cases c3:a1 < 2
 ·rw [if_pos c3] at H
  have c3b0:decide (a1 < 2) = true:=decide_eq_true c3
  clear c3
  simp only [Option.some.injEq,Prod.mk.injEq] at H
  obtain⟨rfl,rfl,rfl⟩:=H
  go_enter Try.func25,Try.ntmps25
  go_wp2
  repeat (go_quiet (fail);try go_wp2)
  go_ret
  exact⟨by first|rfl|(simp [errW_none,errW_some] <;> rfl)|(simp [*,errW_none,errW_some] <;> rfl),by repeat (first|(with_reducible first|exact HI0.out|apply IsS77.alloc|apply IsS77.drewN|apply IsS77.drew|apply IsS77.set_1|apply IsS77.set_2)|exact HI0.out),by repeat (first|(with_reducible first|exact HB.out|apply aZ|apply nZ|apply dZ|refine sZ ?_ (IsS77.ge HI0.out))|exact HB.out),by repeat (first|(with_reducible first|exact HK.out|apply KeepBut.set_|apply keep_drewN|apply keep_drew|apply keep_alloc)|exact HK.out)⟩
 ·rw [if_neg c3] at H
  have c3b0:decide (a1 < 2) = false:=decide_eq_false c3
  clear c3
  by_cases c4:s0_1 < (s0_0.length:Int)
  ·rw [if_pos c4] at H
   have c4b0:decide (s0_1 < (s0_0.length:Int)) = true:=decide_eq_true c4
   clear c4
   by_cases c5:0 ≤ s0_1
   ·rw [if_pos c5] at H
    have c5b0:decide (0 ≤ s0_1) = true:=decide_eq_true c5
    clear c5
    by_cases c6:a1 = 0
    ·rw [if_pos c6] at H
     exact absurd H (by simp)
    ·rw [if_neg c6] at H
     have c6b0:(a1 == 0) = false:=beq_eq_false_iff_ne.mpr c6
     have c6b1:(a1 != 0) = true:=bne_iff_ne.mpr c6
     simp only [Option.some.injEq,Prod.mk.injEq] at H
     obtain⟨rfl,rfl,rfl⟩:=H
     obtain⟨ASz7_0,cSz7_0,HGz7,hgz7,HSz7_0⟩:=HI0.out
     have hcz7_0:=cellS77_0 HGz7
     have hcz7_1:=cellS77_1 HGz7
     have hcz7_2:=cellS77_2 HGz7
     have hfz7_1:=blk_frozen HGz7 1
     have hfz7_2:=blk_frozen HGz7 2
     clear HGz7 hgz7
     have p102:0 ≤ (s0_1:Int):=of_decide_eq_true (by first|(with_reducible assumption)|assumption)
     have q102:s0_1 < (s0_0.length:Int):=of_decide_eq_true (by first|(with_reducible assumption)|assumption)
     obtain⟨ad102,e102,hx102_0⟩:=Kd.at_int HSz7_0 s0_1 p102 q102
     cases e102
     replace hx102_0:=pw_cell_below HB.out hx102_0
     replace p102:=eq_true p102
     replace q102:=eq_true q102
     go_enter Try.func25,Try.ntmps25
     go_wp2
     repeat (go_quiet (fail);try go_wp2)
     go_ret
     exact⟨by first|rfl|(simp [errW_none,errW_some] <;> rfl)|(simp [*,errW_none,errW_some] <;> rfl),by repeat (first|(with_reducible first|exact HI0.out|apply IsS77.alloc|apply IsS77.drewN|apply IsS77.drew|apply IsS77.set_1|apply IsS77.set_2)|exact HI0.out),by repeat (first|(with_reducible first|exact HB.out|apply aZ|apply nZ|apply dZ|refine sZ ?_ (IsS77.ge HI0.out))|exact HB.out),by repeat (first|(with_reducible first|exact HK.out|apply KeepBut.set_|apply keep_drewN|apply keep_drew|apply keep_alloc)|exact HK.out)⟩
   ·rw [if_neg c5] at H
    exact absurd H (by simp)
  ·rw [if_neg c4] at H
   have c4b0:decide (s0_1 < (s0_0.length:Int)) = false:=decide_eq_false c4
   clear c4
   by_cases c8:(s0_0.length:Int) > 0
   ·rw [if_pos c8] at H
    have c8b0:decide (0 < (s0_0.length:Int)) = true:=decide_eq_true c8
    have c8b1:decide (0 < s0_0.length) = true:=decide_eq_true (by omega)
    clear c8
    by_cases c9:(s0_0.length:Int) = 0
    ·rw [if_pos c9] at H
     exact absurd H (by simp)
    ·rw [if_neg c9] at H
     have c9b0:((s0_0.length:Int) == 0) = false:=beq_eq_false_iff_ne.mpr c9
     have c9b1:((s0_0.length:Int) != 0) = true:=bne_iff_ne.mpr c9
     have c9b2:¬ (s0_0 = []):=fun h_=>c9 (by rw [h_];rfl)
     obtain⟨ji10,hji10⟩:∃ j_:Int,(Int.tmod s0_1 (s0_0.length:Int)) = j_:=⟨_,rfl⟩
     replace H:(if 0 ≤ (ji10) then (if (ji10) < (s0_0.length:Int) then (if a1 = 0 then (none) else (some (Int.tmod (wrap64 ((wrap64 (Int.tdiv (Int.tmod (wrap64 ((wrap64 (s0_2 * 1103)) + 12345)) 65521) 7)) + (wrap64 (rd s0_0 (ji10))))) a1,wrap64 (s0_1 + 1),Int.tmod (wrap64 ((wrap64 (s0_2 * 1103)) + 12345)) 65521))) else (none)) else (none)) = some (r1,r2,r3):=by first|(rw [hji10] at H;exact H)|(simp only [hji10] at H ⊢;exact H)
     by_cases c11:0 ≤ (ji10)
     ·rw [if_pos c11] at H
      have c11b0:decide (0 ≤ (ji10)) = true:=decide_eq_true c11
      clear c11
      by_cases c12:(ji10) < (s0_0.length:Int)
      ·rw [if_pos c12] at H
       have c12b0:decide ((ji10) < (s0_0.length:Int)) = true:=decide_eq_true c12
       clear c12
       by_cases c13:a1 = 0
       ·rw [if_pos c13] at H
        exact absurd H (by simp)
       ·rw [if_neg c13] at H
        have c13b0:(a1 == 0) = false:=beq_eq_false_iff_ne.mpr c13
        have c13b1:(a1 != 0) = true:=bne_iff_ne.mpr c13
        simp only [Option.some.injEq,Prod.mk.injEq] at H
        obtain⟨rfl,rfl,rfl⟩:=H
        obtain⟨ASz14_0,cSz14_0,HGz14,hgz14,HSz14_0⟩:=HI0.out
        have hcz14_0:=cellS77_0 HGz14
        have hcz14_1:=cellS77_1 HGz14
        have hcz14_2:=cellS77_2 HGz14
        have hfz14_1:=blk_frozen HGz14 1
        have hfz14_2:=blk_frozen HGz14 2
        clear HGz14 hgz14
        have p103:0 ≤ ((ji10):Int):=of_decide_eq_true (by first|(with_reducible assumption)|assumption)
        have q103:(ji10) < (s0_0.length:Int):=of_decide_eq_true (by first|(with_reducible assumption)|assumption)
        obtain⟨ad103,e103,hx103_0⟩:=Kd.at_int HSz14_0 (ji10) p103 q103
        cases e103
        have hn103_0:ad103.block ≠ g:=Nat.ne_of_lt (Nat.lt_of_lt_of_le (by have:=World.block_lt_of_cell? _ _ hx103_0;first|rwa [add_block] at this|exact this) (IsS77.ge HI0.out))
        replace hx103_0:=pw_cell_below HB.out hx103_0
        replace hx103_0:=(cell_far (p:=⟨g,2,none⟩) (by first|(rw [add_block];exact hn103_0)|(show (Addr.add _ _).block ≠ _;rw [add_block];exact hn103_0)|exact hn103_0) (.int .i64 (Int.tmod (wrap64 ((wrap64 (s0_2 * 1103)) + 12345)) 65521))).trans hx103_0
        (try have hy103_0:=fun (n_:Nat)=>(show (((w.drewN n_).setCell ⟨g,2,none⟩ (.int .i64 (Int.tmod (wrap64 ((wrap64 (s0_2 * 1103)) + 12345)) 65521)))).cell? _ = some _ from hx103_0))
        clear hn103_0
        replace p103:=eq_true p103
        replace q103:=eq_true q103
        go_enter Try.func25,Try.ntmps25
        go_wp2
        repeat (go_quiet (fail);try go_wp2)
        go_ret
        exact⟨by first|rfl|(simp [errW_none,errW_some] <;> rfl)|(simp only [← hji10];first|rfl|(simp [errW_none,errW_some] <;> rfl))|(simp [*,errW_none,errW_some] <;> rfl),by repeat (first|(with_reducible first|exact HI0.out|apply IsS77.alloc|apply IsS77.drewN|apply IsS77.drew|apply IsS77.set_1|apply IsS77.set_2)|exact HI0.out),by repeat (first|(with_reducible first|exact HB.out|apply aZ|apply nZ|apply dZ|refine sZ ?_ (IsS77.ge HI0.out))|exact HB.out),by repeat (first|(with_reducible first|exact HK.out|apply KeepBut.set_|apply keep_drewN|apply keep_drew|apply keep_alloc)|exact HK.out)⟩
      ·rw [if_neg c12] at H
       exact absurd H (by simp)
     ·rw [if_neg c11] at H
      exact absurd H (by simp)
   ·rw [if_neg c8] at H
    have c8b0:decide (0 < (s0_0.length:Int)) = false:=decide_eq_false c8
    have c8b1:decide (0 < s0_0.length) = false:=decide_eq_false (by omega)
    clear c8
    by_cases c15:a1 = 0
    ·rw [if_pos c15] at H
     exact absurd H (by simp)
    ·rw [if_neg c15] at H
     have c15b0:(a1 == 0) = false:=beq_eq_false_iff_ne.mpr c15
     have c15b1:(a1 != 0) = true:=bne_iff_ne.mpr c15
     simp only [Option.some.injEq,Prod.mk.injEq] at H
     obtain⟨rfl,rfl,rfl⟩:=H
     obtain⟨ASz16_0,cSz16_0,HGz16,hgz16,HSz16_0⟩:=HI0.out
     have hcz16_0:=cellS77_0 HGz16
     have hcz16_1:=cellS77_1 HGz16
     have hcz16_2:=cellS77_2 HGz16
     have hfz16_1:=blk_frozen HGz16 1
     have hfz16_2:=blk_frozen HGz16 2
     clear HGz16 hgz16
     go_enter Try.func25,Try.ntmps25
     go_wp2
     repeat (go_quiet (fail);try go_wp2)
     go_ret
     exact⟨by first|rfl|(simp [errW_none,errW_some] <;> rfl)|(simp [*,errW_none,errW_some] <;> rfl),by repeat (first|(with_reducible first|exact HI0.out|apply IsS77.alloc|apply IsS77.drewN|apply IsS77.drew|apply IsS77.set_1|apply IsS77.set_2)|exact HI0.out),by repeat (first|(with_reducible first|exact HB.out|apply aZ|apply nZ|apply dZ|refine sZ ?_ (IsS77.ge HI0.out))|exact HB.out),by repeat (first|(with_reducible first|exact HK.out|apply KeepBut.set_|apply keep_drewN|apply keep_drew|apply keep_alloc)|exact HK.out)⟩

/-! ### spec_l01Cur_size: function 50 -/
def spec_l01Cur_size.f (s0_0 : List Int) (s0_1 : Int) (s0_2 : Int) (a1 : Int) : Option (Int × Int × Int) := (spec_l01Cur_pick.f s0_0 s0_1 s0_2 (wrap64 ((mn a1 (wrap64 (1 + (wrap64 ((s0_0.length : Int) / 8))))) + 1))).bind fun bt104 => (some (bt104.1, bt104.2.1, bt104.2.2))
set_option maxHeartbeats 8000000 in
set_option maxRecDepth 100000 in
theorem spec_l01Cur_size.calls (g : Nat) (s0_0 : List Int) (s0_1 : Int) (s0_2 : Int) (a1 : Int) (r1 : Int) (r2 : Int) (r3 : Int) (w0 w : World) (hI : IsS77 w0 w g s0_0 s0_1 s0_2) (hB : Below w0.heap.size w0 w) (h : spec_l01Cur_size.f s0_0 s0_1 s0_2 a1 = some (r1, r2, r3)) :
  Calls Try.prog 50 #[.pointer (some ⟨g, 0, none⟩), .int .i64 a1] w fun e w' => e = .returned (.int .i64 r1) ∧ IsS77 w0 w' g s0_0 r2 r3 ∧ Below w0.heap.size w0 w' ∧ KeepBut w w' g none := by
 have HI0:=mk0 hI
 have HK:=mk0 (KeepBut.refl w g none)
 have HL:=mk0 hB.size
 clear hI
 have HW0:=mk0 hB.size
 have HB:=mk0 hB
 clear hB
 have H:((spec_l01Cur_pick.f s0_0 s0_1 s0_2 (wrap64 ((mn a1 (wrap64 (1 + (wrap64 ((s0_0.length:Int) / 8))))) + 1))).bind fun bt104=>(some (bt104.1,bt104.2.1,bt104.2.2))) = some (r1,r2,r3):=h
 clear h
 obtain⟨ji3,hji3⟩:∃ j_:Int,(mn a1 (wrap64 (1 + (wrap64 ((s0_0.length:Int) / 8))))) = j_:=⟨_,rfl⟩
 replace H:((spec_l01Cur_pick.f s0_0 s0_1 s0_2 (wrap64 ((ji3) + 1))).bind fun bt104=>(some (bt104.1,bt104.2.1,bt104.2.2))) = some (r1,r2,r3):=by first|(rw [hji3] at H;exact H)|(simp only [hji3] at H ⊢;exact H)
 have hji3_:(if (wrap64 (1 + (wrap64 ((s0_0.length:Int) / 8)))) < a1 then (wrap64 (1 + (wrap64 ((s0_0.length:Int) / 8)))) else a1) = ji3:=hji3
 replace H:=Option.bind_eq_some_iff.mp H
 obtain⟨⟨t104,t105,t106⟩,A40,H⟩:=H
 replace H:(some (t104,t105,t106)) = some (r1,r2,r3):=H
 have A4:=mk0 A40
 clear A40
 simp only [Option.some.injEq,Prod.mk.injEq] at H
 obtain⟨rfl,rfl,rfl⟩:=H
 obtain⟨ASz5_0,cSz5_0,HGz5,hgz5,HSz5_0⟩:=HI0.out
 have hcz5_0:=cellS77_0 HGz5
 have hcz5_1:=cellS77_1 HGz5
 have hcz5_2:=cellS77_2 HGz5
 have hfz5_1:=blk_frozen HGz5 1
 have hfz5_2:=blk_frozen HGz5 2
 clear HGz5 hgz5
 go_enter Try.func50,Try.ntmps50
 go_wp2_with (first|((with_reducible refine gate_callee (f:=25) rfl ?_);refine goesL_ (some 16) rfl rfl Try.func25 (by kernel_rfl) rfl #[.pointer (some ⟨g,0,none⟩),.int .i64 (wrap64 ((ji3) + 1))] rfl (by (try simp only [mA,mC,mN]);first|done|(simp only [hji3];rfl)|rfl|(simp only [List.length_drop,List.length_take];done)|(simp only [List.length_drop,List.length_take];rfl)) ?_;(with_reducible refine (spec_l01Cur_pick.calls g s0_0 s0_1 s0_2 (wrap64 ((ji3) + 1)) t104 t105 t106 w0 _ ?side1 ?side2 A4.out).mono ?_);(case side1=>repeat (first|(with_reducible first|exact HI0.out|apply IsS77.alloc|apply IsS77.drewN|apply IsS77.drew|apply IsS77.set_1|apply IsS77.set_2)|exact HI0.out));(case side2=>repeat (first|(with_reducible first|exact HB.out|apply aZ|apply nZ|apply dZ|refine sZ ?_ (IsS77.ge HI0.out))|exact HB.out));rintro e w6 ⟨rfl,hi,hb,hk⟩;refine⟨_,rfl,?_⟩;replace HK:=mk0 (KeepBut.trans (by repeat (first|(with_reducible first|exact HK.out|apply KeepBut.set_|apply keep_drewN|apply keep_drew|apply keep_alloc)|exact HK.out)) hk (.inl rfl));replace HB:=mk0 (hb);replace HI0:=mk0 (hi);(try clear hb);(try clear hk);(try clear hi)))
 go_ret
 exact⟨by first|rfl|(simp [errW_none,errW_some] <;> rfl)|(simp only [← hji3];first|rfl|(simp [errW_none,errW_some] <;> rfl))|(simp [*,errW_none,errW_some] <;> rfl),by repeat (first|(with_reducible first|exact HI0.out|apply IsS77.alloc|apply IsS77.drewN|apply IsS77.drew|apply IsS77.set_1|apply IsS77.set_2)|exact HI0.out),by repeat (first|(with_reducible first|exact HB.out|apply aZ|apply nZ|apply dZ|refine sZ ?_ (IsS77.ge HI0.out))|exact HB.out),by repeat (first|(with_reducible first|exact HK.out|apply KeepBut.set_|apply keep_drewN|apply keep_drew|apply keep_alloc)|exact HK.out)⟩

/-! ### spec_l01Cur_wide: function 51 -/
def spec_l01Cur_wide.f (s0_0 : List Int) (s0_1 : Int) (s0_2 : Int) (a1 : Int) : Option (Int × Int × Int) := (spec_l01Cur_pick.f s0_0 s0_1 s0_2 256).bind fun bt107 => ((spec_l01Cur_pick.f s0_0 bt107.2.1 bt107.2.2 256).bind fun bt110 => ((spec_l01Cur_pick.f s0_0 bt110.2.1 bt110.2.2 256).bind fun bt113 => (if a1 = 0 then (none) else (some (Int.tmod (wrap64 ((wrap64 ((wrap64 (65536 * bt107.1)) + (wrap64 (256 * bt110.1)))) + bt113.1)) a1, bt113.2.1, bt113.2.2)))))
set_option maxHeartbeats 8000000 in
set_option maxRecDepth 100000 in
theorem spec_l01Cur_wide.calls (g : Nat) (s0_0 : List Int) (s0_1 : Int) (s0_2 : Int) (a1 : Int) (r1 : Int) (r2 : Int) (r3 : Int) (w0 w : World) (hI : IsS77 w0 w g s0_0 s0_1 s0_2) (hB : Below w0.heap.size w0 w) (h : spec_l01Cur_wide.f s0_0 s0_1 s0_2 a1 = some (r1, r2, r3)) :
  Calls Try.prog 51 #[.pointer (some ⟨g, 0, none⟩), .int .i64 a1] w fun e w' => e = .returned (.int .i64 r1) ∧ IsS77 w0 w' g s0_0 r2 r3 ∧ Below w0.heap.size w0 w' ∧ KeepBut w w' g none := by
 have HI0:=mk0 hI
 have HK:=mk0 (KeepBut.refl w g none)
 have HL:=mk0 hB.size
 clear hI
 have HW0:=mk0 hB.size
 have HB:=mk0 hB
 clear hB
 have H:((spec_l01Cur_pick.f s0_0 s0_1 s0_2 256).bind fun bt107=>((spec_l01Cur_pick.f s0_0 bt107.2.1 bt107.2.2 256).bind fun bt110=>((spec_l01Cur_pick.f s0_0 bt110.2.1 bt110.2.2 256).bind fun bt113=>(if a1 = 0 then (none) else (some (Int.tmod (wrap64 ((wrap64 ((wrap64 (65536 * bt107.1)) + (wrap64 (256 * bt110.1)))) + bt113.1)) a1,bt113.2.1,bt113.2.2)))))) = some (r1,r2,r3):=h
 clear h
 replace H:=Option.bind_eq_some_iff.mp H
 obtain⟨⟨t107,t108,t109⟩,A30,H⟩:=H
 replace H:((spec_l01Cur_pick.f s0_0 t108 t109 256).bind fun bt110=>((spec_l01Cur_pick.f s0_0 bt110.2.1 bt110.2.2 256).bind fun bt113=>(if a1 = 0 then (none) else (some (Int.tmod (wrap64 ((wrap64 ((wrap64 (65536 * t107)) + (wrap64 (256 * bt110.1)))) + bt113.1)) a1,bt113.2.1,bt113.2.2))))) = some (r1,r2,r3):=H
 have A3:=mk0 A30
 clear A30
 replace H:=Option.bind_eq_some_iff.mp H
 obtain⟨⟨t110,t111,t112⟩,A40,H⟩:=H
 replace H:((spec_l01Cur_pick.f s0_0 t111 t112 256).bind fun bt113=>(if a1 = 0 then (none) else (some (Int.tmod (wrap64 ((wrap64 ((wrap64 (65536 * t107)) + (wrap64 (256 * t110)))) + bt113.1)) a1,bt113.2.1,bt113.2.2)))) = some (r1,r2,r3):=H
 have A4:=mk0 A40
 clear A40
 replace H:=Option.bind_eq_some_iff.mp H
 obtain⟨⟨t113,t114,t115⟩,A50,H⟩:=H
 replace H:(if a1 = 0 then (none) else (some (Int.tmod (wrap64 ((wrap64 ((wrap64 (65536 * t107)) + (wrap64 (256 * t110)))) + t113)) a1,t114,t115))) = some (r1,r2,r3):=H
 have A5:=mk0 A50
 clear A50
 by_cases c6:a1 = 0
 ·rw [if_pos c6] at H
  exact absurd H (by simp)
 ·rw [if_neg c6] at H
  have c6b0:(a1 == 0) = false:=beq_eq_false_iff_ne.mpr c6
  have c6b1:(a1 != 0) = true:=bne_iff_ne.mpr c6
  simp only [Option.some.injEq,Prod.mk.injEq] at H
  obtain⟨rfl,rfl,rfl⟩:=H
  go_enter Try.func51,Try.ntmps51
  go_wp2_with (first|((with_reducible refine gate_callee (f:=25) rfl ?_);refine goesL_ (some 6) rfl rfl Try.func25 (by kernel_rfl) rfl #[.pointer (some ⟨g,0,none⟩),.int .i64 256] rfl (by (try simp only [mA,mC,mN]);first|done|rfl|(simp only [List.length_drop,List.length_take];done)|(simp only [List.length_drop,List.length_take];rfl)) ?_;(with_reducible refine (spec_l01Cur_pick.calls g s0_0 s0_1 s0_2 256 t107 t108 t109 w0 _ ?side1 ?side2 A3.out).mono ?_);(case side1=>repeat (first|(with_reducible first|exact HI0.out|apply IsS77.alloc|apply IsS77.drewN|apply IsS77.drew|apply IsS77.set_1|apply IsS77.set_2)|exact HI0.out));(case side2=>repeat (first|(with_reducible first|exact HB.out|apply aZ|apply nZ|apply dZ|refine sZ ?_ (IsS77.ge HI0.out))|exact HB.out));rintro e w7 ⟨rfl,hi,hb,hk⟩;refine⟨_,rfl,?_⟩;replace HK:=mk0 (KeepBut.trans (by repeat (first|(with_reducible first|exact HK.out|apply KeepBut.set_|apply keep_drewN|apply keep_drew|apply keep_alloc)|exact HK.out)) hk (.inl rfl));replace HB:=mk0 (hb);replace HI0:=mk0 (hi);(try clear hb);(try clear hk);(try clear hi))|((with_reducible refine gate_callee (f:=25) rfl ?_);refine goesL_ (some 9) rfl rfl Try.func25 (by kernel_rfl) rfl #[.pointer (some ⟨g,0,none⟩),.int .i64 256] rfl (by (try simp only [mA,mC,mN]);first|done|rfl|(simp only [List.length_drop,List.length_take];done)|(simp only [List.length_drop,List.length_take];rfl)) ?_;(with_reducible refine (spec_l01Cur_pick.calls g s0_0 t108 t109 256 t110 t111 t112 w0 _ ?side1 ?side2 A4.out).mono ?_);(case side1=>repeat (first|(with_reducible first|exact HI0.out|apply IsS77.alloc|apply IsS77.drewN|apply IsS77.drew|apply IsS77.set_1|apply IsS77.set_2)|exact HI0.out));(case side2=>repeat (first|(with_reducible first|exact HB.out|apply aZ|apply nZ|apply dZ|refine sZ ?_ (IsS77.ge HI0.out))|exact HB.out));rintro e w8 ⟨rfl,hi,hb,hk⟩;refine⟨_,rfl,?_⟩;replace HK:=mk0 (KeepBut.trans (by repeat (first|(with_reducible first|exact HK.out|apply KeepBut.set_|apply keep_drewN|apply keep_drew|apply keep_alloc)|exact HK.out)) hk (.inl rfl));replace HB:=mk0 (hb);replace HI0:=mk0 (hi);(try clear hb);(try clear hk);(try clear hi))|((with_reducible refine gate_callee (f:=25) rfl ?_);refine goesL_ (some 13) rfl rfl Try.func25 (by kernel_rfl) rfl #[.pointer (some ⟨g,0,none⟩),.int .i64 256] rfl (by (try simp only [mA,mC,mN]);first|done|rfl|(simp only [List.length_drop,List.length_take];done)|(simp only [List.length_drop,List.length_take];rfl)) ?_;(with_reducible refine (spec_l01Cur_pick.calls g s0_0 t111 t112 256 t113 t114 t115 w0 _ ?side1 ?side2 A5.out).mono ?_);(case side1=>repeat (first|(with_reducible first|exact HI0.out|apply IsS77.alloc|apply IsS77.drewN|apply IsS77.drew|apply IsS77.set_1|apply IsS77.set_2)|exact HI0.out));(case side2=>repeat (first|(with_reducible first|exact HB.out|apply aZ|apply nZ|apply dZ|refine sZ ?_ (IsS77.ge HI0.out))|exact HB.out));rintro e w9 ⟨rfl,hi,hb,hk⟩;refine⟨_,rfl,?_⟩;replace HK:=mk0 (KeepBut.trans (by repeat (first|(with_reducible first|exact HK.out|apply KeepBut.set_|apply keep_drewN|apply keep_drew|apply keep_alloc)|exact HK.out)) hk (.inl rfl));replace HB:=mk0 (hb);replace HI0:=mk0 (hi);(try clear hb);(try clear hk);(try clear hi)))
  go_ret
  exact⟨by first|rfl|(simp [errW_none,errW_some] <;> rfl)|(simp [*,errW_none,errW_some] <;> rfl),by repeat (first|(with_reducible first|exact HI0.out|apply IsS77.alloc|apply IsS77.drewN|apply IsS77.drew|apply IsS77.set_1|apply IsS77.set_2)|exact HI0.out),by repeat (first|(with_reducible first|exact HB.out|apply aZ|apply nZ|apply dZ|refine sZ ?_ (IsS77.ge HI0.out))|exact HB.out),by repeat (first|(with_reducible first|exact HK.out|apply KeepBut.set_|apply keep_drewN|apply keep_drew|apply keep_alloc)|exact HK.out)⟩

/-! ### spec_l01Cur_rising: function 24 -/
def spec_l01Cur_rising.l0 : Nat → List Int → Int → Int → Int → List Int → Int → Int → Option (List Int × Int × Int × Int)
 | 0, _, _, _, _, _, _, _ => none
 | k + 1, x4, x5, x6, x7, x1000, x1001, x1002 => if x7 > 0 then (if x4.length < 17592186044416 then ((spec_l01Cur_wide.f x1000 x1001 x1002 (wrap64 (x6 + 1))).bind fun bt135 => (spec_l01Cur_rising.l0 k (x4 ++ [x5]) (wrap64 (x5 + bt135.1)) x6 (wrap64 (x7 - 1)) x1000 bt135.2.1 bt135.2.2)) else (none)) else ((spec_l01Cur_pick.f x1000 x1001 x1002 9).bind fun bt138 => (some (x4, wrap64 ((wrap64 (x5 + 1)) + bt138.1), bt138.2.1, bt138.2.2)))
def spec_l01Cur_rising.f (k : Nat) (s0_0 : List Int) (s0_1 : Int) (s0_2 : Int) : Option (List Int × Int × Int × Int) := (spec_l01Cur_pick.f s0_0 s0_1 s0_2 4).bind fun bt119 => ((some (([1, 3, 40, 3000] : List Int) : List Int)).bind fun y122 => ((spec_l01Cur_pick.f s0_0 bt119.2.1 bt119.2.2 4).bind fun bt125 => (if 0 ≤ bt125.1 then (if bt125.1 < (y122.length : Int) then ((spec_l01Cur_size.f s0_0 bt125.2.1 bt125.2.2 20).bind fun bt129 => (spec_l01Cur_rising.l0 k (([] : List Int)) bt119.1 (rd y122 bt125.1) bt129.1 s0_0 bt129.2.1 bt129.2.2)) else (none)) else (none))))
theorem spec_l01Cur_rising.mono_l : ∀ k, (∀ y0 y1 y2 y3 y4 y5 y6, LeO (spec_l01Cur_rising.l0 k y0 y1 y2 y3 y4 y5 y6) (spec_l01Cur_rising.l0 (k + 1) y0 y1 y2 y3 y4 y5 y6))
 | 0 => fun _ _ _ _ _ _ _ r h => by simp [spec_l01Cur_rising.l0] at h
 | k + 1 => by
  have ih0 := spec_l01Cur_rising.mono_l k
  ·intro y0 y1 y2 y3 y4 y5 y6
   unfold spec_l01Cur_rising.l0
   repeat' first|(with_reducible first|exact ih0 _ _ _ _ _ _ _|exact LeO.refl _|exact LeO.none _|refine LeO.ite ?_ ?_|refine LeO.bind ?_ (fun _ => ?_))|exact LeO.none _|refine LeO.ite ?_ ?_|refine LeO.bind ?_ (fun _ => ?_)
theorem spec_l01Cur_rising.mono : ∀ a0 a1 a2 k, LeO (spec_l01Cur_rising.f k a0 a1 a2) (spec_l01Cur_rising.f (k + 1) a0 a1 a2) := by
 intro a0 a1 a2 k
 have ih0 := spec_l01Cur_rising.mono_l k
 unfold spec_l01Cur_rising.f
 repeat' first|(with_reducible first|exact ih0 _ _ _ _ _ _ _|exact LeO.refl _|exact LeO.none _|refine LeO.ite ?_ ?_|refine LeO.bind ?_ (fun _ => ?_))|exact LeO.none _|refine LeO.ite ?_ ?_|refine LeO.bind ?_ (fun _ => ?_)
set_option maxHeartbeats 8000000 in
set_option maxRecDepth 100000 in
theorem spec_l01Cur_rising.calls (k : Nat) (g : Nat) (s0_0 : List Int) (s0_1 : Int) (s0_2 : Int) (r1 : List Int) (r2 : Int) (r3 : Int) (r4 : Int) (w0 w : World) (hI : IsS77 w0 w g s0_0 s0_1 s0_2) (hB : Below w0.heap.size w0 w) (h : spec_l01Cur_rising.f k s0_0 s0_1 s0_2 = some (r1, r2, r3, r4)) :
  Calls Try.prog 24 #[.pointer (some ⟨g, 0, none⟩)] w fun e w' => ∃ v0_ : Value, e = .returned (.tuple #[v0_, .int .i64 r2]) ∧ Kd.R (Kd.int .i64) 3 w' w.heap.size (fun _ => True) v0_ r1 ∧ IsS77 w0 w' g s0_0 r3 r4 ∧ Below w0.heap.size w0 w' ∧ KeepBut w w' g none := by
 have HI0:=mk0 hI
 have HK:=mk0 (KeepBut.refl w g none)
 have HL:=mk0 hB.size
 clear hI
 have HW0:=mk0 hB.size
 have HB:=mk0 hB
 clear hB
 have H:((spec_l01Cur_pick.f s0_0 s0_1 s0_2 4).bind fun bt119=>((some (([1,3,40,3000]:List Int):List Int)).bind fun y122=>((spec_l01Cur_pick.f s0_0 bt119.2.1 bt119.2.2 4).bind fun bt125=>(if 0 ≤ bt125.1 then (if bt125.1 < (y122.length:Int) then ((spec_l01Cur_size.f s0_0 bt125.2.1 bt125.2.2 20).bind fun bt129=>(spec_l01Cur_rising.l0 k (([]:List Int)) bt119.1 (rd y122 bt125.1) bt129.1 s0_0 bt129.2.1 bt129.2.2)) else (none)) else (none))))) = some (r1,r2,r3,r4):=h
 clear h
 obtain⟨y116,hy116⟩:∃ y_:List Int,y_ = (([]:List Int)):=⟨_,rfl⟩
 replace H:((spec_l01Cur_pick.f s0_0 s0_1 s0_2 4).bind fun bt119=>((some (([1,3,40,3000]:List Int):List Int)).bind fun y122=>((spec_l01Cur_pick.f s0_0 bt119.2.1 bt119.2.2 4).bind fun bt125=>(if 0 ≤ bt125.1 then (if bt125.1 < (y122.length:Int) then ((spec_l01Cur_size.f s0_0 bt125.2.1 bt125.2.2 20).bind fun bt129=>(spec_l01Cur_rising.l0 k y116 bt119.1 (rd y122 bt125.1) bt129.1 s0_0 bt129.2.1 bt129.2.2)) else (none)) else (none))))) = some (r1,r2,r3,r4):=by first|(rw [hy116];with_reducible exact H)|(have H2_:=(Option.bind_some _ _).symm.trans H;rw [hy116];with_reducible exact H2_)|(have H2_:=(Option.bind_some _ _).symm.trans H;with_reducible exact H2_)|with_reducible exact H|(rw [hy116];exact H)|exact H
 have Ny116:=mk0 hy116
 clear hy116
 replace H:=Option.bind_eq_some_iff.mp H
 obtain⟨⟨t119,t120,t121⟩,A20,H⟩:=H
 replace H:((some (([1,3,40,3000]:List Int):List Int)).bind fun y122=>((spec_l01Cur_pick.f s0_0 t120 t121 4).bind fun bt125=>(if 0 ≤ bt125.1 then (if bt125.1 < (y122.length:Int) then ((spec_l01Cur_size.f s0_0 bt125.2.1 bt125.2.2 20).bind fun bt129=>(spec_l01Cur_rising.l0 k y116 t119 (rd y122 bt125.1) bt129.1 s0_0 bt129.2.1 bt129.2.2)) else (none)) else (none)))) = some (r1,r2,r3,r4):=H
 have A2:=mk0 A20
 clear A20
 obtain⟨y122,hy122⟩:∃ y_:List Int,y_ = (([1,3,40,3000]:List Int)):=⟨_,rfl⟩
 replace H:((spec_l01Cur_pick.f s0_0 t120 t121 4).bind fun bt125=>(if 0 ≤ bt125.1 then (if bt125.1 < (y122.length:Int) then ((spec_l01Cur_size.f s0_0 bt125.2.1 bt125.2.2 20).bind fun bt129=>(spec_l01Cur_rising.l0 k y116 t119 (rd y122 bt125.1) bt129.1 s0_0 bt129.2.1 bt129.2.2)) else (none)) else (none))) = some (r1,r2,r3,r4):=by first|(rw [hy122];with_reducible exact H)|(have H2_:=(Option.bind_some _ _).symm.trans H;rw [hy122];with_reducible exact H2_)|(have H2_:=(Option.bind_some _ _).symm.trans H;with_reducible exact H2_)|with_reducible exact H|(rw [hy122];exact H)|exact H
 have Ny122:=mk0 hy122
 clear hy122
 replace H:=Option.bind_eq_some_iff.mp H
 obtain⟨⟨t125,t126,t127⟩,A30,H⟩:=H
 replace H:(if 0 ≤ t125 then (if t125 < (y122.length:Int) then ((spec_l01Cur_size.f s0_0 t126 t127 20).bind fun bt129=>(spec_l01Cur_rising.l0 k y116 t119 (rd y122 t125) bt129.1 s0_0 bt129.2.1 bt129.2.2)) else (none)) else (none)) = some (r1,r2,r3,r4):=H
 have A3:=mk0 A30
 clear A30
 by_cases c4:0 ≤ t125
 rotate_left
 ·rw [if_neg c4] at H
  exact absurd H (by simp)

 rw [if_pos c4] at H
 have c4b0:decide (0 ≤ t125) = true:=decide_eq_true c4
 clear c4
 by_cases c5:t125 < (y122.length:Int)
 rotate_left
 ·rw [if_neg c5] at H
  exact absurd H (by simp)
 rw [if_pos c5] at H
 have c5b0:decide (t125 < (y122.length:Int)) = true:=decide_eq_true c5
 clear c5
 replace H:=Option.bind_eq_some_iff.mp H
 obtain⟨⟨t129,t130,t131⟩,A60,H⟩:=H
 replace H:(spec_l01Cur_rising.l0 k y116 t119 (rd y122 t125) t129 s0_0 t130 t131) = some (r1,r2,r3,r4):=H
 have A6:=mk0 A60
 clear A60
 have H':=mk0 H
 clear H
 go_enter Try.func24,Try.ntmps24
 go_wp2_with (first|((with_reducible refine gate_dst (N:=8) rfl ?_);refine Kd.R_lit (Kd.int .i64) _ 3 ?hg (N:=8) ?hd (xs:=([]:List Int)) (inner:=[]) (ok:=fun _=>True) (okp:=fun _=>True) ?hr ?hp (fun _ hk=>hk) trivial (Below.refl _ _) (Nat.le_refl _) (by simp) ?_;(case hd=>rfl);(case hg=>rfl);(case hr=>first|(go_simp;done)|(go_simp;rfl));(case hp=>exact (Reps.none _ _));intro v117 w7 ho8 hb hg_ hnew_;clear hg_ hnew_;(first|rw [← Ny116.out] at ho8|(simp only [Int.reduceToNat] at ho8;rw [← Ny116.out] at ho8));have HO118:=mk0 (Kd.R_lower ho8 (keep_size (w:=w) (g:=g) (row:=none) (by repeat (first|(with_reducible first|exact HK.out|apply KeepBut.set_|apply keep_drewN|apply keep_drew|apply keep_alloc)|exact HK.out))));replace HK:=mk0 (KeepBut.trans (by repeat (first|(with_reducible first|exact HK.out|apply KeepBut.set_|apply keep_drewN|apply keep_drew|apply keep_alloc)|exact HK.out)) (KeepBut.of_below hb g none) (.inl rfl));replace HB:=mk0 (below_step (by repeat (first|(with_reducible first|exact HB.out|apply aZ|apply nZ|apply dZ|refine sZ ?_ (IsS77.ge HI0.out))|exact HB.out)) hb);replace HI0:=mk0 (IsS77.below (by repeat (first|(with_reducible first|exact HI0.out|apply IsS77.alloc|apply IsS77.drewN|apply IsS77.drew|apply IsS77.set_1|apply IsS77.set_2)|exact HI0.out)) hb);clear hb ho8)|((with_reducible refine gate_callee (f:=25) rfl ?_);refine goesL_ (some 10) rfl rfl Try.func25 (by kernel_rfl) rfl #[.pointer (some ⟨g,0,none⟩),.int .i64 4] rfl (by (try simp only [mA,mC,mN]);first|done|rfl|(simp only [List.length_drop,List.length_take];done)|(simp only [List.length_drop,List.length_take];rfl)) ?_;(with_reducible refine (spec_l01Cur_pick.calls g s0_0 s0_1 s0_2 4 t119 t120 t121 w0 _ ?side1 ?side2 A2.out).mono ?_);(case side1=>repeat (first|(with_reducible first|exact HI0.out|apply IsS77.alloc|apply IsS77.drewN|apply IsS77.drew|apply IsS77.set_1|apply IsS77.set_2)|exact HI0.out));(case side2=>repeat (first|(with_reducible first|exact HB.out|apply aZ|apply nZ|apply dZ|refine sZ ?_ (IsS77.ge HI0.out))|exact HB.out));rintro e w9 ⟨rfl,hi,hb,hk⟩;refine⟨_,rfl,?_⟩;replace HO118:=mk0 (Kd.R_mono (Kd.R_keep (IsS77.apart (show IsS77 w0 _ g s0_0 s0_1 s0_2 from by repeat (first|(with_reducible first|exact HI0.out|apply IsS77.alloc|apply IsS77.drewN|apply IsS77.drew|apply IsS77.set_1|apply IsS77.set_2)|exact HI0.out)) (rR HO118.out) (by decide)) hk (fun _ h=>h.2)) (fun _ h=>h.1));replace HK:=mk0 (KeepBut.trans (by repeat (first|(with_reducible first|exact HK.out|apply KeepBut.set_|apply keep_drewN|apply keep_drew|apply keep_alloc)|exact HK.out)) hk (.inl rfl));replace HB:=mk0 (hb);replace HI0:=mk0 (hi);(try clear hb);(try clear hk);(try clear hi))|((with_reducible refine gate_dst (N:=11) rfl ?_);refine Kd.R_lit (Kd.int .i64) _ 3 ?hg (N:=11) ?hd (xs:=([1,3,40,3000]:List Int)) (inner:=[.int .i64 1,.int .i64 3,.int .i64 40,.int .i64 3000]) (ok:=fun _=>True) (okp:=fun _=>True) ?hr ?hp (fun _ hk=>hk) trivial (Below.refl _ _) (Nat.le_refl _) (by simp) ?_;(case hd=>rfl);(case hg=>rfl);(case hr=>first|(go_simp;done)|(go_simp;rfl));(case hp=>exact (Reps.one (show Kd.M (Kd.int .i64) _ _ _ 1 [.int .i64 1] from rfl) (Reps.one (show Kd.M (Kd.int .i64) _ _ _ 3 [.int .i64 3] from rfl) (Reps.one (show Kd.M (Kd.int .i64) _ _ _ 40 [.int .i64 40] from rfl) (Reps.one (show Kd.M (Kd.int .i64) _ _ _ 3000 [.int .i64 3000] from rfl) (Reps.none _ _))))));intro v123 w10 ho11 hb hg_ hnew_;clear hg_ hnew_;(first|rw [← Ny122.out] at ho11|(simp only [Int.reduceToNat] at ho11;rw [← Ny122.out] at ho11));have HO124:=mk0 (Kd.R_lower (Kd.R_new' ho11 (Kd.R_lt (rR HO118.out))) (keep_size (w:=w) (g:=g) (row:=none) (by repeat (first|(with_reducible first|exact HK.out|apply KeepBut.set_|apply keep_drewN|apply keep_drew|apply keep_alloc)|exact HK.out))));replace HO118:=mk0 (Kd.R_elder' (rR HO118.out) (Kd.R_base ho11) hb);replace HK:=mk0 (KeepBut.trans (by repeat (first|(with_reducible first|exact HK.out|apply KeepBut.set_|apply keep_drewN|apply keep_drew|apply keep_alloc)|exact HK.out)) (KeepBut.of_below hb g none) (.inl rfl));replace HB:=mk0 (below_step (by repeat (first|(with_reducible first|exact HB.out|apply aZ|apply nZ|apply dZ|refine sZ ?_ (IsS77.ge HI0.out))|exact HB.out)) hb);replace HI0:=mk0 (IsS77.below (by repeat (first|(with_reducible first|exact HI0.out|apply IsS77.alloc|apply IsS77.drewN|apply IsS77.drew|apply IsS77.set_1|apply IsS77.set_2)|exact HI0.out)) hb);clear hb ho11)|((with_reducible refine gate_callee (f:=25) rfl ?_);refine goesL_ (some 13) rfl rfl Try.func25 (by kernel_rfl) rfl #[.pointer (some ⟨g,0,none⟩),.int .i64 4] rfl (by (try simp only [mA,mC,mN]);first|done|rfl|(simp only [List.length_drop,List.length_take];done)|(simp only [List.length_drop,List.length_take];rfl)) ?_;(with_reducible refine (spec_l01Cur_pick.calls g s0_0 t120 t121 4 t125 t126 t127 w0 _ ?side1 ?side2 A3.out).mono ?_);(case side1=>repeat (first|(with_reducible first|exact HI0.out|apply IsS77.alloc|apply IsS77.drewN|apply IsS77.drew|apply IsS77.set_1|apply IsS77.set_2)|exact HI0.out));(case side2=>repeat (first|(with_reducible first|exact HB.out|apply aZ|apply nZ|apply dZ|refine sZ ?_ (IsS77.ge HI0.out))|exact HB.out));rintro e w12 ⟨rfl,hi,hb,hk⟩;refine⟨_,rfl,?_⟩;replace HO118:=mk0 (Kd.R_mono (Kd.R_keep (IsS77.apart (show IsS77 w0 _ g s0_0 t120 t121 from by repeat (first|(with_reducible first|exact HI0.out|apply IsS77.alloc|apply IsS77.drewN|apply IsS77.drew|apply IsS77.set_1|apply IsS77.set_2)|exact HI0.out)) (rR HO118.out) (by decide)) hk (fun _ h=>h.2)) (fun _ h=>h.1));replace HO124:=mk0 (Kd.R_mono (Kd.R_keep (IsS77.apart (show IsS77 w0 _ g s0_0 t120 t121 from by repeat (first|(with_reducible first|exact HI0.out|apply IsS77.alloc|apply IsS77.drewN|apply IsS77.drew|apply IsS77.set_1|apply IsS77.set_2)|exact HI0.out)) (rR HO124.out) (by decide)) hk (fun _ h=>h.2)) (fun _ h=>h.1));replace HK:=mk0 (KeepBut.trans (by repeat (first|(with_reducible first|exact HK.out|apply KeepBut.set_|apply keep_drewN|apply keep_drew|apply keep_alloc)|exact HK.out)) hk (.inl rfl));replace HB:=mk0 (hb);replace HI0:=mk0 (hi);(try clear hb);(try clear hk);(try clear hi);obtain⟨Ao13,co13,eo13⟩:=Kd.R_slice HO124.out;subst eo13;have p128:0 ≤ (t125:Int):=of_decide_eq_true (by first|(with_reducible assumption)|assumption);have q128:t125 < (y122.length:Int):=of_decide_eq_true (by first|(with_reducible assumption)|assumption);obtain⟨ad128,e128,hx128_0⟩:=Kd.at_int (Kd.R_reads' HO124.out).2.2 t125 p128 q128;cases e128;replace p128:=eq_true p128;replace q128:=eq_true q128)|((with_reducible refine gate_callee (f:=50) rfl ?_);refine goesL_ (some 17) rfl rfl Try.func50 (by kernel_rfl) rfl #[.pointer (some ⟨g,0,none⟩),.int .i64 20] rfl (by (try simp only [mA,mC,mN]);first|done|rfl|(simp only [List.length_drop,List.length_take];done)|(simp only [List.length_drop,List.length_take];rfl)) ?_;(with_reducible refine (spec_l01Cur_size.calls g s0_0 t126 t127 20 t129 t130 t131 w0 _ ?side1 ?side2 A6.out).mono ?_);(case side1=>repeat (first|(with_reducible first|exact HI0.out|apply IsS77.alloc|apply IsS77.drewN|apply IsS77.drew|apply IsS77.set_1|apply IsS77.set_2)|exact HI0.out));(case side2=>repeat (first|(with_reducible first|exact HB.out|apply aZ|apply nZ|apply dZ|refine sZ ?_ (IsS77.ge HI0.out))|exact HB.out));rintro e w14 ⟨rfl,hi,hb,hk⟩;refine⟨_,rfl,?_⟩;replace HO118:=mk0 (Kd.R_mono (Kd.R_keep (IsS77.apart (show IsS77 w0 _ g s0_0 t126 t127 from by repeat (first|(with_reducible first|exact HI0.out|apply IsS77.alloc|apply IsS77.drewN|apply IsS77.drew|apply IsS77.set_1|apply IsS77.set_2)|exact HI0.out)) (rR HO118.out) (by decide)) hk (fun _ h=>h.2)) (fun _ h=>h.1));replace HO124:=mk0 (Kd.R_mono (Kd.R_keep (IsS77.apart (show IsS77 w0 _ g s0_0 t126 t127 from by repeat (first|(with_reducible first|exact HI0.out|apply IsS77.alloc|apply IsS77.drewN|apply IsS77.drew|apply IsS77.set_1|apply IsS77.set_2)|exact HI0.out)) (rR HO124.out) (by decide)) hk (fun _ h=>h.2)) (fun _ h=>h.1));replace HK:=mk0 (KeepBut.trans (by repeat (first|(with_reducible first|exact HK.out|apply KeepBut.set_|apply keep_drewN|apply keep_drew|apply keep_alloc)|exact HK.out)) hk (.inl rfl));replace HB:=mk0 (hb);replace HI0:=mk0 (hi);(try clear hb);(try clear hk);(try clear hi)))
 go_loopg [4,5,7] k (fun kq v4 v5 v7 w'=>∃ (x4_1:List Int) (x5_1:Int) (x7_1:Int) (x1001_1:Int) (x1002_1:Int),v5 = .int .i64 x5_1 ∧ v7 = .int .i64 x7_1 ∧ Aside0 (spec_l01Cur_rising.l0 kq x4_1 x5_1 (rd y122 t125) x7_1 s0_0 x1001_1 x1002_1 = some (r1,r2,r3,r4)) ∧ Aside0 (kq ≤ k) ∧ Aside0 (Kd.R (Kd.int .i64) 3 w' w.heap.size (fun _=>True) v4 x4_1) ∧ Aside0 (IsS77 w0 w' g s0_0 x1001_1 x1002_1) ∧ Aside0 (KeepBut w w' g none) ∧ Aside0 (Below w0.heap.size w0 w'))
 case atStart=>exact⟨(y116),(t119),(t129),(t130),(t131),(by first|rfl|(simp;done)|(simp [*];done)),(by first|rfl|(simp;done)|(simp [*];done)),H',⟨Nat.le_refl _⟩,⟨rR (Kd.R_mono HO118.out (fun _ hk=>trivial))⟩,⟨by repeat (first|(with_reducible first|exact HI0.out|apply IsS77.alloc|apply IsS77.drewN|apply IsS77.drew|apply IsS77.set_1|apply IsS77.set_2)|exact HI0.out)⟩,⟨by repeat (first|(with_reducible first|exact HK.out|apply KeepBut.set_|apply keep_drewN|apply keep_drew|apply keep_alloc)|exact HK.out)⟩,⟨by repeat (first|(with_reducible first|exact HB.out|apply aZ|apply nZ|apply dZ|refine sZ ?_ (IsS77.ge HI0.out))|exact HB.out)⟩⟩
 case round =>
  clear H'
  try clear p1
  try clear q1
  try clear hx1
  try clear c2
  try clear p2
  try clear c4
  try clear c4b0
  try clear c5
  try clear c5b0
  try clear p12
  try clear q12
  try clear hx12
  try clear hx128_0
  try clear p128
  try clear q128
  obtain⟨x4_1,x5_1,x7_1,x1001_1,x1002_1,rfl,rfl,HA,HK1,HO_4,HI0,HK,HB⟩:=hrel
  cases gk with
  | zero=>exact absurd HA.out (by simp [spec_l01Cur_rising.l0])
  | succ k1 =>
   have H:=HA.out
   clear HA
   simp only [spec_l01Cur_rising.l0] at H
   by_cases c15:x7_1 > 0
   rotate_left
   ·rw [if_neg c15] at H
    have c15b0:decide (0 < x7_1) = false:=decide_eq_false c15
    clear c15
    replace H:=Option.bind_eq_some_iff.mp H
    obtain⟨⟨t138,t139,t140⟩,A200,H⟩:=H
    replace H:(some (x4_1,wrap64 ((wrap64 (x5_1 + 1)) + t138),t139,t140)) = some (r1,r2,r3,r4):=H
    have A20:=mk0 A200
    clear A200
    simp only [Option.some.injEq,Prod.mk.injEq] at H
    obtain⟨rfl,rfl,rfl,rfl⟩:=H
    go_wp2_with (first|((with_reducible refine gate_callee (f:=25) rfl ?_);refine goesL_ (some 36) rfl rfl Try.func25 (by kernel_rfl) rfl #[.pointer (some ⟨g,0,none⟩),.int .i64 9] rfl (by (try simp only [mA,mC,mN]);first|done|rfl|(simp only [List.length_drop,List.length_take];done)|(simp only [List.length_drop,List.length_take];rfl)) ?_;(with_reducible refine (spec_l01Cur_pick.calls g s0_0 x1001_1 x1002_1 9 t138 t139 t140 w0 _ ?side1 ?side2 A20.out).mono ?_);(case side1=>repeat (first|(with_reducible first|exact HI0.out|apply IsS77.alloc|apply IsS77.drewN|apply IsS77.drew|apply IsS77.set_1|apply IsS77.set_2)|exact HI0.out));(case side2=>repeat (first|(with_reducible first|exact HB.out|apply aZ|apply nZ|apply dZ|refine sZ ?_ (IsS77.ge HI0.out))|exact HB.out));rintro e w21 ⟨rfl,hi,hb,hk⟩;refine⟨_,rfl,?_⟩;replace HO_4:=mk0 (Kd.R_mono (Kd.R_keep (IsS77.apart (show IsS77 w0 _ g s0_0 x1001_1 x1002_1 from by repeat (first|(with_reducible first|exact HI0.out|apply IsS77.alloc|apply IsS77.drewN|apply IsS77.drew|apply IsS77.set_1|apply IsS77.set_2)|exact HI0.out)) (rR HO_4.out) (by decide)) hk (fun _ h=>h.2)) (fun _ h=>h.1));replace HK:=mk0 (KeepBut.trans (by repeat (first|(with_reducible first|exact HK.out|apply KeepBut.set_|apply keep_drewN|apply keep_drew|apply keep_alloc)|exact HK.out)) hk (.inl rfl));replace HB:=mk0 (hb);replace HI0:=mk0 (hi);(try clear hb);(try clear hk);(try clear hi)))
    go_ret2
    exact⟨_,by first|rfl|(simp [errW_none,errW_some] <;> rfl)|(simp [*,errW_none,errW_some] <;> rfl),rR HO_4.out,by repeat (first|(with_reducible first|exact HI0.out|apply IsS77.alloc|apply IsS77.drewN|apply IsS77.drew|apply IsS77.set_1|apply IsS77.set_2)|exact HI0.out),by repeat (first|(with_reducible first|exact HB.out|apply aZ|apply nZ|apply dZ|refine sZ ?_ (IsS77.ge HI0.out))|exact HB.out),by repeat (first|(with_reducible first|exact HK.out|apply KeepBut.set_|apply keep_drewN|apply keep_drew|apply keep_alloc)|exact HK.out)⟩
   rw [if_pos c15] at H
   have c15b0:decide (0 < x7_1) = true:=decide_eq_true c15
   clear c15
   by_cases c16:x4_1.length < 17592186044416
   rotate_left
   ·rw [if_neg c16] at H
    exact absurd H (by simp)
   rw [if_pos c16] at H
   have LMc16:=mk0 c16
   clear c16
   obtain⟨y132,hy132⟩:∃ y_:List Int,y_ = (x4_1 ++ [x5_1]):=⟨_,rfl⟩
   replace H:((spec_l01Cur_wide.f s0_0 x1001_1 x1002_1 (wrap64 ((rd y122 t125) + 1))).bind fun bt135=>(spec_l01Cur_rising.l0 k1 y132 (wrap64 (x5_1 + bt135.1)) (rd y122 t125) (wrap64 (x7_1 - 1)) s0_0 bt135.2.1 bt135.2.2)) = some (r1,r2,r3,r4):=by first|(rw [hy132];with_reducible exact H)|(have H2_:=(Option.bind_some _ _).symm.trans H;rw [hy132];with_reducible exact H2_)|(have H2_:=(Option.bind_some _ _).symm.trans H;with_reducible exact H2_)|with_reducible exact H|(rw [hy132];exact H)|exact H
   have Ny132:=mk0 hy132
   clear hy132
   replace H:=Option.bind_eq_some_iff.mp H
   obtain⟨⟨t135,t136,t137⟩,A170,H⟩:=H
   replace H:(spec_l01Cur_rising.l0 k1 y132 (wrap64 (x5_1 + t135)) (rd y122 t125) (wrap64 (x7_1 - 1)) s0_0 t136 t137) = some (r1,r2,r3,r4):=H
   have A17:=mk0 A170
   clear A170
   have H':=mk0 H
   clear H
   go_wp2_with (first|((with_reducible refine gate_builtin (b:=.append) (xs:=#[.tmp 22,.tmp 24]) rfl ?_);at_builtin;refine Kd.R_append (Kd.int .i64) w.heap.size rfl (.tmp 22) (.tmp 24) 24 3 (.int .i64 0) 8 rfl Try.underlying24 info3 rfl (by decide) (by omega) u4 x4_1 x5_1 [.int .i64 x5_1] (fun _=>True) (fun _=>False) rfl rfl ?aP (fun _ hk=>hk.elim) ?aF ?aO (Below.refl _ _) ?aS ?aL ?_;(case aP=>exact rfl);(case aF=>exact (fun _ _=>trivial));(case aO=>exact (rR HO_4.out));(case aS=>exact (keep_size (w:=w) (g:=g) (row:=none) (by repeat (first|(with_reducible first|exact HK.out|apply KeepBut.set_|apply keep_drewN|apply keep_drew|apply keep_alloc)|exact HK.out))));(case aL=>have:=LMc16.out;omega);intro v133 w18 ho hb hg hat;rw [← Ny132.out] at ho;replace HB:=mk0 (below_weaken (by repeat (first|(with_reducible first|exact HB.out|apply aZ|apply nZ|apply dZ|refine sZ ?_ (IsS77.ge HI0.out))|exact HB.out)) HL.out hb);replace HI0:=mk0 (IsS77.grown (by repeat (first|(with_reducible first|exact HI0.out|apply IsS77.alloc|apply IsS77.drewN|apply IsS77.drew|apply IsS77.set_1|apply IsS77.set_2)|exact HI0.out)) hg (IsS77.own_ne HI0.out HO_4.out (by decide)));replace HK:=mk0 (KeepBut.trans (by repeat (first|(with_reducible first|exact HK.out|apply KeepBut.set_|apply keep_drewN|apply keep_drew|apply keep_alloc)|exact HK.out)) (KeepBut.of_grown hg g) (Kd.R_base2 HO_4.out));have HO134:=mk0 (ho);clear HO_4 ho hb hg hat)|((with_reducible refine gate_callee (f:=51) rfl ?_);refine goesL_ (some 30) rfl rfl Try.func51 (by kernel_rfl) rfl #[.pointer (some ⟨g,0,none⟩),.int .i64 (wrap64 ((rd y122 t125) + 1))] rfl (by (try simp only [mA,mC,mN]);first|done|rfl|(simp only [List.length_drop,List.length_take];done)|(simp only [List.length_drop,List.length_take];rfl)) ?_;(with_reducible refine (spec_l01Cur_wide.calls g s0_0 x1001_1 x1002_1 (wrap64 ((rd y122 t125) + 1)) t135 t136 t137 w0 _ ?side1 ?side2 A17.out).mono ?_);(case side1=>repeat (first|(with_reducible first|exact HI0.out|apply IsS77.alloc|apply IsS77.drewN|apply IsS77.drew|apply IsS77.set_1|apply IsS77.set_2)|exact HI0.out));(case side2=>repeat (first|(with_reducible first|exact HB.out|apply aZ|apply nZ|apply dZ|refine sZ ?_ (IsS77.ge HI0.out))|exact HB.out));rintro e w19 ⟨rfl,hi,hb,hk⟩;refine⟨_,rfl,?_⟩;replace HO134:=mk0 (Kd.R_mono (Kd.R_keep (IsS77.apart (show IsS77 w0 _ g s0_0 x1001_1 x1002_1 from by repeat (first|(with_reducible first|exact HI0.out|apply IsS77.alloc|apply IsS77.drewN|apply IsS77.drew|apply IsS77.set_1|apply IsS77.set_2)|exact HI0.out)) (rR HO134.out) (by decide)) hk (fun _ h=>h.2)) (fun _ h=>h.1));replace HK:=mk0 (KeepBut.trans (by repeat (first|(with_reducible first|exact HK.out|apply KeepBut.set_|apply keep_drewN|apply keep_drew|apply keep_alloc)|exact HK.out)) hk (.inl rfl));replace HB:=mk0 (hb);replace HI0:=mk0 (hi);(try clear hb);(try clear hk);(try clear hi)))
   go_roundg k1
   case measure=>have:=HK1.out;omega
   case rel=>exact⟨(y132),(wrap64 (x5_1 + t135)),(wrap64 (x7_1 - 1)),(t136),(t137),(by first|rfl|(simp;done)|(simp [*];done)),(by first|rfl|(simp;done)|(simp [*];done)),H',⟨by have:=HK1.out;omega⟩,⟨rR HO134.out⟩,⟨by repeat (first|(with_reducible first|exact HI0.out|apply IsS77.alloc|apply IsS77.drewN|apply IsS77.drew|apply IsS77.set_1|apply IsS77.set_2)|exact HI0.out)⟩,⟨by repeat (first|(with_reducible first|exact HK.out|apply KeepBut.set_|apply keep_drewN|apply keep_drew|apply keep_alloc)|exact HK.out)⟩,⟨by repeat (first|(with_reducible first|exact HB.out|apply aZ|apply nZ|apply dZ|refine sZ ?_ (IsS77.ge HI0.out))|exact HB.out)⟩⟩
/-! ### spec_l01Cur_raw: function 26 -/
def spec_l01Cur_raw.f (s0_0 : List Int) (s0_1 : Int) (s0_2 : Int) : Option (Int × Int × Int) := (spec_l01Cur_pick.f s0_0 s0_1 s0_2 8).bind fun bt141 => (if bt141.1 = 0 then ((spec_l01Cur_pick.f s0_0 bt141.2.1 bt141.2.2 256).bind fun bt144 => (some (wrap64 (bt144.1 - 128), bt144.2.1, bt144.2.2))) else (if bt141.1 = 1 then ((some (([9223372036854775807, (-9223372036854775808), 4611686018427387904, 4294967295, 4294967296, (-1000), 1000, 257] : List Int) : List Int)).bind fun y147 => ((spec_l01Cur_pick.f s0_0 bt141.2.1 bt141.2.2 8).bind fun bt150 => (if 0 ≤ bt150.1 then (if bt150.1 < (y147.length : Int) then (some (rd y147 bt150.1, bt150.2.1, bt150.2.2)) else (none)) else (none)))) else ((spec_l01Cur_pick.f s0_0 bt141.2.1 bt141.2.2 14).bind fun bt154 => (some (wrap64 (bt154.1 - 3), bt154.2.1, bt154.2.2)))))
set_option maxHeartbeats 8000000 in
set_option maxRecDepth 100000 in
theorem spec_l01Cur_raw.calls (g : Nat) (s0_0 : List Int) (s0_1 : Int) (s0_2 : Int) (r1 : Int) (r2 : Int) (r3 : Int) (w0 w : World) (hI : IsS77 w0 w g s0_0 s0_1 s0_2) (hB : Below w0.heap.size w0 w) (h : spec_l01Cur_raw.f s0_0 s0_1 s0_2 = some (r1, r2, r3)) :
  Calls Try.prog 26 #[.pointer (some ⟨g, 0, none⟩)] w fun e w' => e = .returned (.int .i64 r1) ∧ IsS77 w0 w' g s0_0 r2 r3 ∧ Below w0.heap.size w0 w' ∧ KeepBut w w' g none := by
 have HI0:=mk0 hI
 have HK:=mk0 (KeepBut.refl w g none)
 have HL:=mk0 hB.size
 clear hI
 have HW0:=mk0 hB.size
 have HB:=mk0 hB
 clear hB
 have H:((spec_l01Cur_pick.f s0_0 s0_1 s0_2 8).bind fun bt141=>(if bt141.1 = 0 then ((spec_l01Cur_pick.f s0_0 bt141.2.1 bt141.2.2 256).bind fun bt144=>(some (wrap64 (bt144.1 - 128),bt144.2.1,bt144.2.2))) else (if bt141.1 = 1 then ((some (([9223372036854775807,(-9223372036854775808),4611686018427387904,4294967295,4294967296,(-1000),1000,257]:List Int):List Int)).bind fun y147=>((spec_l01Cur_pick.f s0_0 bt141.2.1 bt141.2.2 8).bind fun bt150=>(if 0 ≤ bt150.1 then (if bt150.1 < (y147.length:Int) then (some (rd y147 bt150.1,bt150.2.1,bt150.2.2)) else (none)) else (none)))) else ((spec_l01Cur_pick.f s0_0 bt141.2.1 bt141.2.2 14).bind fun bt154=>(some (wrap64 (bt154.1 - 3),bt154.2.1,bt154.2.2)))))) = some (r1,r2,r3):=h
 clear h
 replace H:=Option.bind_eq_some_iff.mp H
 obtain⟨⟨t141,t142,t143⟩,A20,H⟩:=H
 replace H:(if t141 = 0 then ((spec_l01Cur_pick.f s0_0 t142 t143 256).bind fun bt144=>(some (wrap64 (bt144.1 - 128),bt144.2.1,bt144.2.2))) else (if t141 = 1 then ((some (([9223372036854775807,(-9223372036854775808),4611686018427387904,4294967295,4294967296,(-1000),1000,257]:List Int):List Int)).bind fun y147=>((spec_l01Cur_pick.f s0_0 t142 t143 8).bind fun bt150=>(if 0 ≤ bt150.1 then (if bt150.1 < (y147.length:Int) then (some (rd y147 bt150.1,bt150.2.1,bt150.2.2)) else (none)) else (none)))) else ((spec_l01Cur_pick.f s0_0 t142 t143 14).bind fun bt154=>(some (wrap64 (bt154.1 - 3),bt154.2.1,bt154.2.2))))) = some (r1,r2,r3):=H
 have A2:=mk0 A20
 clear A20
 by_cases c3:t141 = 0
 ·rw [if_pos c3] at H
  have c3b0:(t141 == 0) = true:=beq_iff_eq.mpr c3
  have c3b1:(t141 != 0) = false:=bne_eq_false_iff_eq.mpr c3
  clear c3
  replace H:=Option.bind_eq_some_iff.mp H
  obtain⟨⟨t144,t145,t146⟩,A40,H⟩:=H
  replace H:(some (wrap64 (t144 - 128),t145,t146)) = some (r1,r2,r3):=H
  have A4:=mk0 A40
  clear A40
  simp only [Option.some.injEq,Prod.mk.injEq] at H
  obtain⟨rfl,rfl,rfl⟩:=H
  go_enter Try.func26,Try.ntmps26
  go_wp2_with (first|((with_reducible refine gate_callee (f:=25) rfl ?_);refine goesL_ (some 4) rfl rfl Try.func25 (by kernel_rfl) rfl #[.pointer (some ⟨g,0,none⟩),.int .i64 8] rfl (by (try simp only [mA,mC,mN]);first|done|rfl|(simp only [List.length_drop,List.length_take];done)|(simp only [List.length_drop,List.length_take];rfl)) ?_;(with_reducible refine (spec_l01Cur_pick.calls g s0_0 s0_1 s0_2 8 t141 t142 t143 w0 _ ?side1 ?side2 A2.out).mono ?_);(case side1=>repeat (first|(with_reducible first|exact HI0.out|apply IsS77.alloc|apply IsS77.drewN|apply IsS77.drew|apply IsS77.set_1|apply IsS77.set_2)|exact HI0.out));(case side2=>repeat (first|(with_reducible first|exact HB.out|apply aZ|apply nZ|apply dZ|refine sZ ?_ (IsS77.ge HI0.out))|exact HB.out));rintro e w5 ⟨rfl,hi,hb,hk⟩;refine⟨_,rfl,?_⟩;replace HK:=mk0 (KeepBut.trans (by repeat (first|(with_reducible first|exact HK.out|apply KeepBut.set_|apply keep_drewN|apply keep_drew|apply keep_alloc)|exact HK.out)) hk (.inl rfl));replace HB:=mk0 (hb);replace HI0:=mk0 (hi);(try clear hb);(try clear hk);(try clear hi))|((with_reducible refine gate_callee (f:=25) rfl ?_);refine goesL_ (some 8) rfl rfl Try.func25 (by kernel_rfl) rfl #[.pointer (some ⟨g,0,none⟩),.int .i64 256] rfl (by (try simp only [mA,mC,mN]);first|done|rfl|(simp only [List.length_drop,List.length_take];done)|(simp only [List.length_drop,List.length_take];rfl)) ?_;(with_reducible refine (spec_l01Cur_pick.calls g s0_0 t142 t143 256 t144 t145 t146 w0 _ ?side1 ?side2 A4.out).mono ?_);(case side1=>repeat (first|(with_reducible first|exact HI0.out|apply IsS77.alloc|apply IsS77.drewN|apply IsS77.drew|apply IsS77.set_1|apply IsS77.set_2)|exact HI0.out));(case side2=>repeat (first|(with_reducible first|exact HB.out|apply aZ|apply nZ|apply dZ|refine sZ ?_ (IsS77.ge HI0.out))|exact HB.out));rintro e w6 ⟨rfl,hi,hb,hk⟩;refine⟨_,rfl,?_⟩;replace HK:=mk0 (KeepBut.trans (by repeat (first|(with_reducible first|exact HK.out|apply KeepBut.set_|apply keep_drewN|apply keep_drew|apply keep_alloc)|exact HK.out)) hk (.inl rfl));replace HB:=mk0 (hb);replace HI0:=mk0 (hi);(try clear hb);(try clear hk);(try clear hi)))
  go_ret
  exact⟨by first|rfl|(simp [errW_none,errW_some] <;> rfl)|(simp [*,errW_none,errW_some] <;> rfl),by repeat (first|(with_reducible first|exact HI0.out|apply IsS77.alloc|apply IsS77.drewN|apply IsS77.drew|apply IsS77.set_1|apply IsS77.set_2)|exact HI0.out),by repeat (first|(with_reducible first|exact HB.out|apply aZ|apply nZ|apply dZ|refine sZ ?_ (IsS77.ge HI0.out))|exact HB.out),by repeat (first|(with_reducible first|exact HK.out|apply KeepBut.set_|apply keep_drewN|apply keep_drew|apply keep_alloc)|exact HK.out)⟩
 ·rw [if_neg c3] at H
  have c3b0:(t141 == 0) = false:=beq_eq_false_iff_ne.mpr c3
  have c3b1:(t141 != 0) = true:=bne_iff_ne.mpr c3
  by_cases c7:t141 = 1
  ·rw [if_pos c7] at H
   have c7b0:(t141 == 1) = true:=beq_iff_eq.mpr c7
   have c7b1:(t141 != 1) = false:=bne_eq_false_iff_eq.mpr c7
   clear c7
   obtain⟨y147,hy147⟩:∃ y_:List Int,y_ = (([9223372036854775807,(-9223372036854775808),4611686018427387904,4294967295,4294967296,(-1000),1000,257]:List Int)):=⟨_,rfl⟩
   replace H:((spec_l01Cur_pick.f s0_0 t142 t143 8).bind fun bt150=>(if 0 ≤ bt150.1 then (if bt150.1 < (y147.length:Int) then (some (rd y147 bt150.1,bt150.2.1,bt150.2.2)) else (none)) else (none))) = some (r1,r2,r3):=by first|(rw [hy147];with_reducible exact H)|(have H2_:=(Option.bind_some _ _).symm.trans H;rw [hy147];with_reducible exact H2_)|(have H2_:=(Option.bind_some _ _).symm.trans H;with_reducible exact H2_)|with_reducible exact H|(rw [hy147];exact H)|exact H
   have Ny147:=mk0 hy147
   clear hy147
   replace H:=Option.bind_eq_some_iff.mp H
   obtain⟨⟨t150,t151,t152⟩,A80,H⟩:=H
   replace H:(if 0 ≤ t150 then (if t150 < (y147.length:Int) then (some (rd y147 t150,t151,t152)) else (none)) else (none)) = some (r1,r2,r3):=H
   have A8:=mk0 A80
   clear A80
   by_cases c9:0 ≤ t150
   ·rw [if_pos c9] at H
    have c9b0:decide (0 ≤ t150) = true:=decide_eq_true c9
    clear c9
    by_cases c10:t150 < (y147.length:Int)
    ·rw [if_pos c10] at H
     have c10b0:decide (t150 < (y147.length:Int)) = true:=decide_eq_true c10
     clear c10
     simp only [Option.some.injEq,Prod.mk.injEq] at H
     obtain⟨rfl,rfl,rfl⟩:=H
     go_enter Try.func26,Try.ntmps26
     go_wp2_with (first|((with_reducible refine gate_callee (f:=25) rfl ?_);refine goesL_ (some 4) rfl rfl Try.func25 (by kernel_rfl) rfl #[.pointer (some ⟨g,0,none⟩),.int .i64 8] rfl (by (try simp only [mA,mC,mN]);first|done|rfl|(simp only [List.length_drop,List.length_take];done)|(simp only [List.length_drop,List.length_take];rfl)) ?_;(with_reducible refine (spec_l01Cur_pick.calls g s0_0 s0_1 s0_2 8 t141 t142 t143 w0 _ ?side1 ?side2 A2.out).mono ?_);(case side1=>repeat (first|(with_reducible first|exact HI0.out|apply IsS77.alloc|apply IsS77.drewN|apply IsS77.drew|apply IsS77.set_1|apply IsS77.set_2)|exact HI0.out));(case side2=>repeat (first|(with_reducible first|exact HB.out|apply aZ|apply nZ|apply dZ|refine sZ ?_ (IsS77.ge HI0.out))|exact HB.out));rintro e w11 ⟨rfl,hi,hb,hk⟩;refine⟨_,rfl,?_⟩;replace HK:=mk0 (KeepBut.trans (by repeat (first|(with_reducible first|exact HK.out|apply KeepBut.set_|apply keep_drewN|apply keep_drew|apply keep_alloc)|exact HK.out)) hk (.inl rfl));replace HB:=mk0 (hb);replace HI0:=mk0 (hi);(try clear hb);(try clear hk);(try clear hi))|((with_reducible refine gate_dst (N:=12) rfl ?_);refine Kd.R_lit (Kd.int .i64) _ 3 ?hg (N:=12) ?hd (xs:=([9223372036854775807,(-9223372036854775808),4611686018427387904,4294967295,4294967296,(-1000),1000,257]:List Int)) (inner:=[.int .i64 9223372036854775807,.int .i64 (-9223372036854775808),.int .i64 4611686018427387904,.int .i64 4294967295,.int .i64 4294967296,.int .i64 (-1000),.int .i64 1000,.int .i64 257]) (ok:=fun _=>True) (okp:=fun _=>True) ?hr ?hp (fun _ hk=>hk) trivial (Below.refl _ _) (Nat.le_refl _) (by simp) ?_;(case hd=>rfl);(case hg=>rfl);(case hr=>first|(go_simp;done)|(go_simp;rfl));(case hp=>exact (Reps.one (show Kd.M (Kd.int .i64) _ _ _ 9223372036854775807 [.int .i64 9223372036854775807] from rfl) (Reps.one (show Kd.M (Kd.int .i64) _ _ _ (-9223372036854775808) [.int .i64 (-9223372036854775808)] from rfl) (Reps.one (show Kd.M (Kd.int .i64) _ _ _ 4611686018427387904 [.int .i64 4611686018427387904] from rfl) (Reps.one (show Kd.M (Kd.int .i64) _ _ _ 4294967295 [.int .i64 4294967295] from rfl) (Reps.one (show Kd.M (Kd.int .i64) _ _ _ 4294967296 [.int .i64 4294967296] from rfl) (Reps.one (show Kd.M (Kd.int .i64) _ _ _ (-1000) [.int .i64 (-1000)] from rfl) (Reps.one (show Kd.M (Kd.int .i64) _ _ _ 1000 [.int .i64 1000] from rfl) (Reps.one (show Kd.M (Kd.int .i64) _ _ _ 257 [.int .i64 257] from rfl) (Reps.none _ _))))))))));intro v148 w12 ho13 hb hg_ hnew_;clear hg_ hnew_;(first|rw [← Ny147.out] at ho13|(simp only [Int.reduceToNat] at ho13;rw [← Ny147.out] at ho13));have HO149:=mk0 (Kd.R_lower ho13 (keep_size (w:=w) (g:=g) (row:=none) (by repeat (first|(with_reducible first|exact HK.out|apply KeepBut.set_|apply keep_drewN|apply keep_drew|apply keep_alloc)|exact HK.out))));replace HK:=mk0 (KeepBut.trans (by repeat (first|(with_reducible first|exact HK.out|apply KeepBut.set_|apply keep_drewN|apply keep_drew|apply keep_alloc)|exact HK.out)) (KeepBut.of_below hb g none) (.inl rfl));replace HB:=mk0 (below_step (by repeat (first|(with_reducible first|exact HB.out|apply aZ|apply nZ|apply dZ|refine sZ ?_ (IsS77.ge HI0.out))|exact HB.out)) hb);replace HI0:=mk0 (IsS77.below (by repeat (first|(with_reducible first|exact HI0.out|apply IsS77.alloc|apply IsS77.drewN|apply IsS77.drew|apply IsS77.set_1|apply IsS77.set_2)|exact HI0.out)) hb);clear hb ho13)|((with_reducible refine gate_callee (f:=25) rfl ?_);refine goesL_ (some 14) rfl rfl Try.func25 (by kernel_rfl) rfl #[.pointer (some ⟨g,0,none⟩),.int .i64 8] rfl (by (try simp only [mA,mC,mN]);first|done|rfl|(simp only [List.length_drop,List.length_take];done)|(simp only [List.length_drop,List.length_take];rfl)) ?_;(with_reducible refine (spec_l01Cur_pick.calls g s0_0 t142 t143 8 t150 t151 t152 w0 _ ?side1 ?side2 A8.out).mono ?_);(case side1=>repeat (first|(with_reducible first|exact HI0.out|apply IsS77.alloc|apply IsS77.drewN|apply IsS77.drew|apply IsS77.set_1|apply IsS77.set_2)|exact HI0.out));(case side2=>repeat (first|(with_reducible first|exact HB.out|apply aZ|apply nZ|apply dZ|refine sZ ?_ (IsS77.ge HI0.out))|exact HB.out));rintro e w14 ⟨rfl,hi,hb,hk⟩;refine⟨_,rfl,?_⟩;replace HO149:=mk0 (Kd.R_mono (Kd.R_keep (IsS77.apart (show IsS77 w0 _ g s0_0 t142 t143 from by repeat (first|(with_reducible first|exact HI0.out|apply IsS77.alloc|apply IsS77.drewN|apply IsS77.drew|apply IsS77.set_1|apply IsS77.set_2)|exact HI0.out)) (rR HO149.out) (by decide)) hk (fun _ h=>h.2)) (fun _ h=>h.1));replace HK:=mk0 (KeepBut.trans (by repeat (first|(with_reducible first|exact HK.out|apply KeepBut.set_|apply keep_drewN|apply keep_drew|apply keep_alloc)|exact HK.out)) hk (.inl rfl));replace HB:=mk0 (hb);replace HI0:=mk0 (hi);(try clear hb);(try clear hk);(try clear hi);obtain⟨Ao15,co15,eo15⟩:=Kd.R_slice HO149.out;subst eo15;have p153:0 ≤ (t150:Int):=of_decide_eq_true (by first|(with_reducible assumption)|assumption);have q153:t150 < (y147.length:Int):=of_decide_eq_true (by first|(with_reducible assumption)|assumption);obtain⟨ad153,e153,hx153_0⟩:=Kd.at_int (Kd.R_reads' HO149.out).2.2 t150 p153 q153;cases e153;replace p153:=eq_true p153;replace q153:=eq_true q153))
     go_ret
     exact⟨by first|rfl|(simp [errW_none,errW_some] <;> rfl)|(simp [*,errW_none,errW_some] <;> rfl),by repeat (first|(with_reducible first|exact HI0.out|apply IsS77.alloc|apply IsS77.drewN|apply IsS77.drew|apply IsS77.set_1|apply IsS77.set_2)|exact HI0.out),by repeat (first|(with_reducible first|exact HB.out|apply aZ|apply nZ|apply dZ|refine sZ ?_ (IsS77.ge HI0.out))|exact HB.out),by repeat (first|(with_reducible first|exact HK.out|apply KeepBut.set_|apply keep_drewN|apply keep_drew|apply keep_alloc)|exact HK.out)⟩
    ·rw [if_neg c10] at H
     exact absurd H (by simp)
   ·rw [if_neg c9] at H
    exact absurd H (by simp)
  ·rw [if_neg c7] at H
   have c7b0:(t141 == 1) = false:=beq_eq_false_iff_ne.mpr c7
   have c7b1:(t141 != 1) = true:=bne_iff_ne.mpr c7
   replace H:=Option.bind_eq_some_iff.mp H
   obtain⟨⟨t154,t155,t156⟩,A160,H⟩:=H
   replace H:(some (wrap64 (t154 - 3),t155,t156)) = some (r1,r2,r3):=H
   have A16:=mk0 A160
   clear A160
   simp only [Option.some.injEq,Prod.mk.injEq] at H
   obtain⟨rfl,rfl,rfl⟩:=H
   go_enter Try.func26,Try.ntmps26
   go_wp2_with (first|((with_reducible refine gate_callee (f:=25) rfl ?_);refine goesL_ (some 4) rfl rfl Try.func25 (by kernel_rfl) rfl #[.pointer (some ⟨g,0,none⟩),.int .i64 8] rfl (by (try simp only [mA,mC,mN]);first|done|rfl|(simp only [List.length_drop,List.length_take];done)|(simp only [List.length_drop,List.length_take];rfl)) ?_;(with_reducible refine (spec_l01Cur_pick.calls g s0_0 s0_1 s0_2 8 t141 t142 t143 w0 _ ?side1 ?side2 A2.out).mono ?_);(case side1=>repeat (first|(with_reducible first|exact HI0.out|apply IsS77.alloc|apply IsS77.drewN|apply IsS77.drew|apply IsS77.set_1|apply IsS77.set_2)|exact HI0.out));(case side2=>repeat (first|(with_reducible first|exact HB.out|apply aZ|apply nZ|apply dZ|refine sZ ?_ (IsS77.ge HI0.out))|exact HB.out));rintro e w17 ⟨rfl,hi,hb,hk⟩;refine⟨_,rfl,?_⟩;replace HK:=mk0 (KeepBut.trans (by repeat (first|(with_reducible first|exact HK.out|apply KeepBut.set_|apply keep_drewN|apply keep_drew|apply keep_alloc)|exact HK.out)) hk (.inl rfl));replace HB:=mk0 (hb);replace HI0:=mk0 (hi);(try clear hb);(try clear hk);(try clear hi))|((with_reducible refine gate_callee (f:=25) rfl ?_);refine goesL_ (some 18) rfl rfl Try.func25 (by kernel_rfl) rfl #[.pointer (some ⟨g,0,none⟩),.int .i64 14] rfl (by (try simp only [mA,mC,mN]);first|done|rfl|(simp only [List.length_drop,List.length_take];done)|(simp only [List.length_drop,List.length_take];rfl)) ?_;(with_reducible refine (spec_l01Cur_pick.calls g s0_0 t142 t143 14 t154 t155 t156 w0 _ ?side1 ?side2 A16.out).mono ?_);(case side1=>repeat (first|(with_reducible first|exact HI0.out|apply IsS77.alloc|apply IsS77.drewN|apply IsS77.drew|apply IsS77.set_1|apply IsS77.set_2)|exact HI0.out));(case side2=>repeat (first|(with_reducible first|exact HB.out|apply aZ|apply nZ|apply dZ|refine sZ ?_ (IsS77.ge HI0.out))|exact HB.out));rintro e w18 ⟨rfl,hi,hb,hk⟩;refine⟨_,rfl,?_⟩;replace HK:=mk0 (KeepBut.trans (by repeat (first|(with_reducible first|exact HK.out|apply KeepBut.set_|apply keep_drewN|apply keep_drew|apply keep_alloc)|exact HK.out)) hk (.inl rfl));replace HB:=mk0 (hb);replace HI0:=mk0 (hi);(try clear hb);(try clear hk);(try clear hi)))
   go_ret
   exact⟨by first|rfl|(simp [errW_none,errW_some] <;> rfl)|(simp [*,errW_none,errW_some] <;> rfl),by repeat (first|(with_reducible first|exact HI0.out|apply IsS77.alloc|apply IsS77.drewN|apply IsS77.drew|apply IsS77.set_1|apply IsS77.set_2)|exact HI0.out),by repeat (first|(with_reducible first|exact HB.out|apply aZ|apply nZ|apply dZ|refine sZ ?_ (IsS77.ge HI0.out))|exact HB.out),by repeat (first|(with_reducible first|exact HK.out|apply KeepBut.set_|apply keep_drewN|apply keep_drew|apply keep_alloc)|exact HK.out)⟩

/-! ### spec_DrawSparseOf: function 8 -/
def spec_DrawSparseOf.f (k : Nat) (l0 : List Int) : Option (List Int × Int) := (spec_l01Open.f l0).bind fun bt157 => ((spec_l01Cur_rising.f k bt157.1 bt157.2.1 bt157.2.2).bind fun bt161 => ((spec_l01Cur_pick.f bt157.1 bt161.2.2.1 bt161.2.2.2 9).bind fun bt167 => (if bt167.1 = 0 then ((spec_l01Cur_raw.f bt157.1 bt167.2.1 bt167.2.2).bind fun bt170 => ((some (([bt170.1, 1000000, 1000001] : List Int) : List Int)).bind fun y173 => ((spec_l01Cur_pick.f bt157.1 bt170.2.1 bt170.2.2 3).bind fun bt176 => (if 0 ≤ bt176.1 then (if bt176.1 < (y173.length : Int) then (some (bt161.1, rd y173 bt176.1)) else (none)) else (none))))) else (if bt167.1 = 1 then ((spec_l01Cur_raw.f bt157.1 bt167.2.1 bt167.2.2).bind fun bt180 => (if bt161.1.length < 17592186044416 then (some ((bt161.1 ++ [bt180.1]), bt161.2.1)) else (none))) else (some (bt161.1, bt161.2.1))))))
theorem spec_DrawSparseOf.mono : ∀ a0 k, LeO (spec_DrawSparseOf.f k a0) (spec_DrawSparseOf.f (k + 1) a0) := by
 intro a0 k
 unfold spec_DrawSparseOf.f
 repeat' first|(with_reducible first|exact spec_l01Cur_rising.mono _ _ _ _|exact LeO.refl _|exact LeO.none _|refine LeO.ite ?_ ?_|refine LeO.bind ?_ (fun _ => ?_))|exact LeO.none _|refine LeO.ite ?_ ?_|refine LeO.bind ?_ (fun _ => ?_)
set_option maxHeartbeats 8000000 in
set_option maxRecDepth 100000 in
theorem spec_DrawSparseOf.calls (k : Nat) (A0 : Option Addr) (c0 : Nat) (l0 : List Int) (r1 : List Int) (r2 : Int) (w : World) (hr0 : Kd.C (Kd.int .u8) w A0 l0.length l0) (hc0 : l0.length ≤ c0) (h : spec_DrawSparseOf.f k l0 = some (r1, r2)) :
  Calls Try.prog 8 #[.slice A0 l0.length c0] w fun e w' => ∃ v0_ : Value, e = .returned (.tuple #[v0_, .int .i64 r2]) ∧ Kd.R (Kd.int .i64) 3 w' w.heap.size (fun _ => True) v0_ r1 ∧ Below w.heap.size w w' := by
 have HR0:=mk0 hr0
 have HC0:=mk0 hc0
 clear hr0 hc0
 have HB:=mk0 (Below.refl w.heap.size w)
 have H:((spec_l01Open.f l0).bind fun bt157=>((spec_l01Cur_rising.f k bt157.1 bt157.2.1 bt157.2.2).bind fun bt161=>((spec_l01Cur_pick.f bt157.1 bt161.2.2.1 bt161.2.2.2 9).bind fun bt167=>(if bt167.1 = 0 then ((spec_l01Cur_raw.f bt157.1 bt167.2.1 bt167.2.2).bind fun bt170=>((some (([bt170.1,1000000,1000001]:List Int):List Int)).bind fun y173=>((spec_l01Cur_pick.f bt157.1 bt170.2.1 bt170.2.2 3).bind fun bt176=>(if 0 ≤ bt176.1 then (if bt176.1 < (y173.length:Int) then (some (bt161.1,rd y173 bt176.1)) else (none)) else (none))))) else (if bt167.1 = 1 then ((spec_l01Cur_raw.f bt157.1 bt167.2.1 bt167.2.2).bind fun bt180=>(if bt161.1.length < 17592186044416 then (some ((bt161.1 ++ [bt180.1]),bt161.2.1)) else (none))) else (some (bt161.1,bt161.2.1))))))) = some (r1,r2):=h
 clear h
 replace H:=Option.bind_eq_some_iff.mp H
 obtain⟨⟨t157,t158,t159⟩,A20,H⟩:=H
 replace H:((spec_l01Cur_rising.f k t157 t158 t159).bind fun bt161=>((spec_l01Cur_pick.f t157 bt161.2.2.1 bt161.2.2.2 9).bind fun bt167=>(if bt167.1 = 0 then ((spec_l01Cur_raw.f t157 bt167.2.1 bt167.2.2).bind fun bt170=>((some (([bt170.1,1000000,1000001]:List Int):List Int)).bind fun y173=>((spec_l01Cur_pick.f t157 bt170.2.1 bt170.2.2 3).bind fun bt176=>(if 0 ≤ bt176.1 then (if bt176.1 < (y173.length:Int) then (some (bt161.1,rd y173 bt176.1)) else (none)) else (none))))) else (if bt167.1 = 1 then ((spec_l01Cur_raw.f t157 bt167.2.1 bt167.2.2).bind fun bt180=>(if bt161.1.length < 17592186044416 then (some ((bt161.1 ++ [bt180.1]),bt161.2.1)) else (none))) else (some (bt161.1,bt161.2.1)))))) = some (r1,r2):=H
 have A2:=mk0 A20
 clear A20
 replace H:=Option.bind_eq_some_iff.mp H
 obtain⟨⟨t161,t164,t165,t166⟩,A30,H⟩:=H
 replace H:((spec_l01Cur_pick.f t157 t165 t166 9).bind fun bt167=>(if bt167.1 = 0 then ((spec_l01Cur_raw.f t157 bt167.2.1 bt167.2.2).bind fun bt170=>((some (([bt170.1,1000000,1000001]:List Int):List Int)).bind fun y173=>((spec_l01Cur_pick.f t157 bt170.2.1 bt170.2.2 3).bind fun bt176=>(if 0 ≤ bt176.1 then (if bt176.1 < (y173.length:Int) then (some (t161,rd y173 bt176.1)) else (none)) else (none))))) else (if bt167.1 = 1 then ((spec_l01Cur_raw.f t157 bt167.2.1 bt167.2.2).bind fun bt180=>(if t161.length < 17592186044416 then (some ((t161 ++ [bt180.1]),t164)) else (none))) else (some (t161,t164))))) = some (r1,r2):=H
 have A3:=mk0 A30
 clear A30
 replace H:=Option.bind_eq_some_iff.mp H
 obtain⟨⟨t167,t168,t169⟩,A40,H⟩:=H
 replace H:(if t167 = 0 then ((spec_l01Cur_raw.f t157 t168 t169).bind fun bt170=>((some (([bt170.1,1000000,1000001]:List Int):List Int)).bind fun y173=>((spec_l01Cur_pick.f t157 bt170.2.1 bt170.2.2 3).bind fun bt176=>(if 0 ≤ bt176.1 then (if bt176.1 < (y173.length:Int) then (some (t161,rd y173 bt176.1)) else (none)) else (none))))) else (if t167 = 1 then ((spec_l01Cur_raw.f t157 t168 t169).bind fun bt180=>(if t161.length < 17592186044416 then (some ((t161 ++ [bt180.1]),t164)) else (none))) else (some (t161,t164)))) = some (r1,r2):=H
 have A4:=mk0 A40
 clear A40
 by_cases c5:t167 = 0
 ·rw [if_pos c5] at H
  have c5b0:(t167 == 0) = true:=beq_iff_eq.mpr c5
  have c5b1:(t167 != 0) = false:=bne_eq_false_iff_eq.mpr c5
  clear c5
  replace H:=Option.bind_eq_some_iff.mp H
  obtain⟨⟨t170,t171,t172⟩,A60,H⟩:=H
  replace H:((some (([t170,1000000,1000001]:List Int):List Int)).bind fun y173=>((spec_l01Cur_pick.f t157 t171 t172 3).bind fun bt176=>(if 0 ≤ bt176.1 then (if bt176.1 < (y173.length:Int) then (some (t161,rd y173 bt176.1)) else (none)) else (none)))) = some (r1,r2):=H
  have A6:=mk0 A60
  clear A60
  obtain⟨y173,hy173⟩:∃ y_:List Int,y_ = (([t170,1000000,1000001]:List Int)):=⟨_,rfl⟩
  replace H:((spec_l01Cur_pick.f t157 t171 t172 3).bind fun bt176=>(if 0 ≤ bt176.1 then (if bt176.1 < (y173.length:Int) then (some (t161,rd y173 bt176.1)) else (none)) else (none))) = some (r1,r2):=by first|(rw [hy173];with_reducible exact H)|(have H2_:=(Option.bind_some _ _).symm.trans H;rw [hy173];with_reducible exact H2_)|(have H2_:=(Option.bind_some _ _).symm.trans H;with_reducible exact H2_)|with_reducible exact H|(rw [hy173];exact H)|exact H
  have Ny173:=mk0 hy173
  clear hy173
  replace H:=Option.bind_eq_some_iff.mp H
  obtain⟨⟨t176,t177,t178⟩,A70,H⟩:=H
  replace H:(if 0 ≤ t176 then (if t176 < (y173.length:Int) then (some (t161,rd y173 t176)) else (none)) else (none)) = some (r1,r2):=H
  have A7:=mk0 A70
  clear A70
  by_cases c8:0 ≤ t176
  rotate_left
  ·rw [if_neg c8] at H
   exact absurd H (by simp)
  rw [if_pos c8] at H
  have c8b0:decide (0 ≤ t176) = true:=decide_eq_true c8
  clear c8
  by_cases c9:t176 < (y173.length:Int)
  rotate_left
  ·rw [if_neg c9] at H
   exact absurd H (by simp)
  rw [if_pos c9] at H
  have c9b0:decide (t176 < (y173.length:Int)) = true:=decide_eq_true c9
  clear c9
  simp only [Option.some.injEq,Prod.mk.injEq] at H
  obtain⟨rfl,rfl⟩:=H
  go_enter Try.func8,Try.ntmps8
  go_wp2_with (first|((with_reducible refine gate_callee (f:=23) rfl ?_);refine goesL_ (some 8) rfl rfl Try.func23 (by kernel_rfl) rfl #[.slice A0 l0.length c0] rfl (by (try simp only [mA,mC,mN]);first|done|rfl|(simp only [List.length_drop,List.length_take];done)|(simp only [List.length_drop,List.length_take];rfl)) ?_;(with_reducible refine (spec_l01Open.calls _ _ l0 t157 t158 t159 w _ ?side1 ?side2 ?side3 A2.out).mono ?_);(case side1=>repeat (first|(with_reducible first|exact HB.out|apply aZ|apply nZ|apply dZ)|exact HB.out));(case side2=>exact HR0.out);(case side3=>exact HC0.out);rintro e w10 ⟨g160,rfl,hi,hb,hb2⟩;refine⟨_,rfl,?_⟩;replace HB:=mk0 (hb);have HI160:=mk0 (hi);(try clear hb);(try clear hb2);(try clear hi))|((with_reducible refine gate_callee (f:=24) rfl ?_);refine goesL_ (some 11) rfl rfl Try.func24 (by kernel_rfl) rfl #[.pointer (some ⟨g160,0,none⟩)] rfl (by (try simp only [mA,mC,mN]);first|done|rfl|(simp only [List.length_drop,List.length_take];done)|(simp only [List.length_drop,List.length_take];rfl)) ?_;(with_reducible refine (spec_l01Cur_rising.calls k g160 t157 t158 t159 t161 t164 t165 t166 w _ ?side1 ?side2 A3.out).mono ?_);(case side1=>repeat (first|(with_reducible first|exact HI160.out|apply IsS77.alloc|apply IsS77.drewN|apply IsS77.drew|apply IsS77.set_1|apply IsS77.set_2)|exact HI160.out));(case side2=>repeat (first|(with_reducible first|exact HB.out|apply aZ|apply nZ|apply dZ|refine sZ ?_ (IsS77.ge HI160.out))|exact HB.out));rintro e w11 ⟨v162,rfl,ho0,hi,hb,hk⟩;refine⟨_,rfl,?_⟩;have HO163:=mk0 (Kd.R_lower ho0 (below_size (by repeat (first|(with_reducible first|exact HB.out|apply aZ|apply nZ|apply dZ|refine sZ ?_ (IsS77.ge HI160.out))|exact HB.out))));replace HB:=mk0 (hb);replace HI160:=mk0 (hi);(try clear hb);(try clear hk);(try clear hi);(try clear ho0))|((with_reducible refine gate_callee (f:=25) rfl ?_);refine goesL_ (some 15) rfl rfl Try.func25 (by kernel_rfl) rfl #[.pointer (some ⟨g160,0,none⟩),.int .i64 9] rfl (by (try simp only [mA,mC,mN]);first|done|rfl|(simp only [List.length_drop,List.length_take];done)|(simp only [List.length_drop,List.length_take];rfl)) ?_;(with_reducible refine (spec_l01Cur_pick.calls g160 t157 t165 t166 9 t167 t168 t169 w _ ?side1 ?side2 A4.out).mono ?_);(case side1=>repeat (first|(with_reducible first|exact HI160.out|apply IsS77.alloc|apply IsS77.drewN|apply IsS77.drew|apply IsS77.set_1|apply IsS77.set_2)|exact HI160.out));(case side2=>repeat (first|(with_reducible first|exact HB.out|apply aZ|apply nZ|apply dZ|refine sZ ?_ (IsS77.ge HI160.out))|exact HB.out));rintro e w12 ⟨rfl,hi,hb,hk⟩;refine⟨_,rfl,?_⟩;replace HO163:=mk0 (Kd.R_mono (Kd.R_keep (IsS77.apart (show IsS77 w _ g160 t157 t165 t166 from by repeat (first|(with_reducible first|exact HI160.out|apply IsS77.alloc|apply IsS77.drewN|apply IsS77.drew|apply IsS77.set_1|apply IsS77.set_2)|exact HI160.out)) (rR HO163.out) (by decide)) hk (fun _ h=>h.2)) (fun _ h=>h.1));replace HB:=mk0 (hb);replace HI160:=mk0 (hi);(try clear hb);(try clear hk);(try clear hi))|((with_reducible refine gate_callee (f:=26) rfl ?_);refine goesL_ (some 19) rfl rfl Try.func26 (by kernel_rfl) rfl #[.pointer (some ⟨g160,0,none⟩)] rfl (by (try simp only [mA,mC,mN]);first|done|rfl|(simp only [List.length_drop,List.length_take];done)|(simp only [List.length_drop,List.length_take];rfl)) ?_;(with_reducible refine (spec_l01Cur_raw.calls g160 t157 t168 t169 t170 t171 t172 w _ ?side1 ?side2 A6.out).mono ?_);(case side1=>repeat (first|(with_reducible first|exact HI160.out|apply IsS77.alloc|apply IsS77.drewN|apply IsS77.drew|apply IsS77.set_1|apply IsS77.set_2)|exact HI160.out));(case side2=>repeat (first|(with_reducible first|exact HB.out|apply aZ|apply nZ|apply dZ|refine sZ ?_ (IsS77.ge HI160.out))|exact HB.out));rintro e w13 ⟨rfl,hi,hb,hk⟩;refine⟨_,rfl,?_⟩;replace HO163:=mk0 (Kd.R_mono (Kd.R_keep (IsS77.apart (show IsS77 w _ g160 t157 t168 t169 from by repeat (first|(with_reducible first|exact HI160.out|apply IsS77.alloc|apply IsS77.drewN|apply IsS77.drew|apply IsS77.set_1|apply IsS77.set_2)|exact HI160.out)) (rR HO163.out) (by decide)) hk (fun _ h=>h.2)) (fun _ h=>h.1));replace HB:=mk0 (hb);replace HI160:=mk0 (hi);(try clear hb);(try clear hk);(try clear hi))|((with_reducible refine gate_dst (N:=20) rfl ?_);refine Kd.R_lit (Kd.int .i64) _ 3 ?hg (N:=20) ?hd (xs:=([t170,1000000,1000001]:List Int)) (inner:=[.int .i64 t170,.int .i64 1000000,.int .i64 1000001]) (ok:=fun _=>True) (okp:=fun _=>True) ?hr ?hp (fun _ hk=>hk) trivial (Below.refl _ _) (Nat.le_refl _) (by simp) ?_;(case hd=>rfl);(case hg=>rfl);(case hr=>first|(go_simp;done)|(go_simp;rfl));(case hp=>exact (Reps.one (show Kd.M (Kd.int .i64) _ _ _ t170 [.int .i64 t170] from rfl) (Reps.one (show Kd.M (Kd.int .i64) _ _ _ 1000000 [.int .i64 1000000] from rfl) (Reps.one (show Kd.M (Kd.int .i64) _ _ _ 1000001 [.int .i64 1000001] from rfl) (Reps.none _ _)))));intro v174 w14 ho15 hb hg_ hnew_;clear hg_ hnew_;(first|rw [← Ny173.out] at ho15|(simp only [Int.reduceToNat] at ho15;rw [← Ny173.out] at ho15));have HO175:=mk0 (Kd.R_lower (Kd.R_new' ho15 (Kd.R_lt (rR HO163.out))) (below_size (by repeat (first|(with_reducible first|exact HB.out|apply aZ|apply nZ|apply dZ|refine sZ ?_ (IsS77.ge HI160.out))|exact HB.out))));replace HO163:=mk0 (Kd.R_elder' (rR HO163.out) (Kd.R_base ho15) hb);replace HB:=mk0 (below_step (by repeat (first|(with_reducible first|exact HB.out|apply aZ|apply nZ|apply dZ|refine sZ ?_ (IsS77.ge HI160.out))|exact HB.out)) hb);replace HI160:=mk0 (IsS77.below (by repeat (first|(with_reducible first|exact HI160.out|apply IsS77.alloc|apply IsS77.drewN|apply IsS77.drew|apply IsS77.set_1|apply IsS77.set_2)|exact HI160.out)) hb);clear hb ho15)|((with_reducible refine gate_callee (f:=25) rfl ?_);refine goesL_ (some 22) rfl rfl Try.func25 (by kernel_rfl) rfl #[.pointer (some ⟨g160,0,none⟩),.int .i64 3] rfl (by (try simp only [mA,mC,mN]);first|done|rfl|(simp only [List.length_drop,List.length_take];done)|(simp only [List.length_drop,List.length_take];rfl)) ?_;(with_reducible refine (spec_l01Cur_pick.calls g160 t157 t171 t172 3 t176 t177 t178 w _ ?side1 ?side2 A7.out).mono ?_);(case side1=>repeat (first|(with_reducible first|exact HI160.out|apply IsS77.alloc|apply IsS77.drewN|apply IsS77.drew|apply IsS77.set_1|apply IsS77.set_2)|exact HI160.out));(case side2=>repeat (first|(with_reducible first|exact HB.out|apply aZ|apply nZ|apply dZ|refine sZ ?_ (IsS77.ge HI160.out))|exact HB.out));rintro e w16 ⟨rfl,hi,hb,hk⟩;refine⟨_,rfl,?_⟩;replace HO163:=mk0 (Kd.R_mono (Kd.R_keep (IsS77.apart (show IsS77 w _ g160 t157 t171 t172 from by repeat (first|(with_reducible first|exact HI160.out|apply IsS77.alloc|apply IsS77.drewN|apply IsS77.drew|apply IsS77.set_1|apply IsS77.set_2)|exact HI160.out)) (rR HO163.out) (by decide)) hk (fun _ h=>h.2)) (fun _ h=>h.1));replace HO175:=mk0 (Kd.R_mono (Kd.R_keep (IsS77.apart (show IsS77 w _ g160 t157 t171 t172 from by repeat (first|(with_reducible first|exact HI160.out|apply IsS77.alloc|apply IsS77.drewN|apply IsS77.drew|apply IsS77.set_1|apply IsS77.set_2)|exact HI160.out)) (rR HO175.out) (by decide)) hk (fun _ h=>h.2)) (fun _ h=>h.1));replace HB:=mk0 (hb);replace HI160:=mk0 (hi);(try clear hb);(try clear hk);(try clear hi);obtain⟨Ao17,co17,eo17⟩:=Kd.R_slice HO175.out;subst eo17;have p179:0 ≤ (t176:Int):=of_decide_eq_true (by first|(with_reducible assumption)|assumption);have q179:t176 < (y173.length:Int):=of_decide_eq_true (by first|(with_reducible assumption)|assumption);obtain⟨ad179,e179,hx179_0⟩:=Kd.at_int (Kd.R_reads' HO175.out).2.2 t176 p179 q179;cases e179;replace p179:=eq_true p179;replace q179:=eq_true q179))
  go_ret2
  exact⟨_,by first|rfl|(simp [errW_none,errW_some] <;> rfl)|(simp [*,errW_none,errW_some] <;> rfl),rR (Kd.R_mono HO163.out (fun _ hk=>trivial)),by repeat (first|(with_reducible first|exact HB.out|apply aZ|apply nZ|apply dZ|refine sZ ?_ (IsS77.ge HI160.out))|exact HB.out)⟩
 rw [if_neg c5] at H
 have c5b0:(t167 == 0) = false:=beq_eq_false_iff_ne.mpr c5
 have c5b1:(t167 != 0) = true:=bne_iff_ne.mpr c5
 by_cases c18:t167 = 1
 rotate_left
 ·rw [if_neg c18] at H
  have c18b0:(t167 == 1) = false:=beq_eq_false_iff_ne.mpr c18
  have c18b1:(t167 != 1) = true:=bne_iff_ne.mpr c18
  simp only [Option.some.injEq,Prod.mk.injEq] at H
  obtain⟨rfl,rfl⟩:=H
  go_enter Try.func8,Try.ntmps8
  go_wp2_with (first|((with_reducible refine gate_callee (f:=23) rfl ?_);refine goesL_ (some 8) rfl rfl Try.func23 (by kernel_rfl) rfl #[.slice A0 l0.length c0] rfl (by (try simp only [mA,mC,mN]);first|done|rfl|(simp only [List.length_drop,List.length_take];done)|(simp only [List.length_drop,List.length_take];rfl)) ?_;(with_reducible refine (spec_l01Open.calls _ _ l0 t157 t158 t159 w _ ?side1 ?side2 ?side3 A2.out).mono ?_);(case side1=>repeat (first|(with_reducible first|exact HB.out|apply aZ|apply nZ|apply dZ)|exact HB.out));(case side2=>exact HR0.out);(case side3=>exact HC0.out);rintro e w26 ⟨g160,rfl,hi,hb,hb2⟩;refine⟨_,rfl,?_⟩;replace HB:=mk0 (hb);have HI160:=mk0 (hi);(try clear hb);(try clear hb2);(try clear hi))|((with_reducible refine gate_callee (f:=24) rfl ?_);refine goesL_ (some 11) rfl rfl Try.func24 (by kernel_rfl) rfl #[.pointer (some ⟨g160,0,none⟩)] rfl (by (try simp only [mA,mC,mN]);first|done|rfl|(simp only [List.length_drop,List.length_take];done)|(simp only [List.length_drop,List.length_take];rfl)) ?_;(with_reducible refine (spec_l01Cur_rising.calls k g160 t157 t158 t159 t161 t164 t165 t166 w _ ?side1 ?side2 A3.out).mono ?_);(case side1=>repeat (first|(with_reducible first|exact HI160.out|apply IsS77.alloc|apply IsS77.drewN|apply IsS77.drew|apply IsS77.set_1|apply IsS77.set_2)|exact HI160.out));(case side2=>repeat (first|(with_reducible first|exact HB.out|apply aZ|apply nZ|apply dZ|refine sZ ?_ (IsS77.ge HI160.out))|exact HB.out));rintro e w27 ⟨v162,rfl,ho0,hi,hb,hk⟩;refine⟨_,rfl,?_⟩;have HO163:=mk0 (Kd.R_lower ho0 (below_size (by repeat (first|(with_reducible first|exact HB.out|apply aZ|apply nZ|apply dZ|refine sZ ?_ (IsS77.ge HI160.out))|exact HB.out))));replace HB:=mk0 (hb);replace HI160:=mk0 (hi);(try clear hb);(try clear hk);(try clear hi);(try clear ho0))|((with_reducible refine gate_callee (f:=25) rfl ?_);refine goesL_ (some 15) rfl rfl Try.func25 (by kernel_rfl) rfl #[.pointer (some ⟨g160,0,none⟩),.int .i64 9] rfl (by (try simp only [mA,mC,mN]);first|done|rfl|(simp only [List.length_drop,List.length_take];done)|(simp only [List.length_drop,List.length_take];rfl)) ?_;(with_reducible refine (spec_l01Cur_pick.calls g160 t157 t165 t166 9 t167 t168 t169 w _ ?side1 ?side2 A4.out).mono ?_);(case side1=>repeat (first|(with_reducible first|exact HI160.out|apply IsS77.alloc|apply IsS77.drewN|apply IsS77.drew|apply IsS77.set_1|apply IsS77.set_2)|exact HI160.out));(case side2=>repeat (first|(with_reducible first|exact HB.out|apply aZ|apply nZ|apply dZ|refine sZ ?_ (IsS77.ge HI160.out))|exact HB.out));rintro e w28 ⟨rfl,hi,hb,hk⟩;refine⟨_,rfl,?_⟩;replace HO163:=mk0 (Kd.R_mono (Kd.R_keep (IsS77.apart (show IsS77 w _ g160 t157 t165 t166 from by repeat (first|(with_reducible first|exact HI160.out|apply IsS77.alloc|apply IsS77.drewN|apply IsS77.drew|apply IsS77.set_1|apply IsS77.set_2)|exact HI160.out)) (rR HO163.out) (by decide)) hk (fun _ h=>h.2)) (fun _ h=>h.1));replace HB:=mk0 (hb);replace HI160:=mk0 (hi);(try clear hb);(try clear hk);(try clear hi)))
  go_ret2
  exact⟨_,by first|rfl|(simp [errW_none,errW_some] <;> rfl)|(simp [*,errW_none,errW_some] <;> rfl),rR HO163.out,by repeat (first|(with_reducible first|exact HB.out|apply aZ|apply nZ|apply dZ|refine sZ ?_ (IsS77.ge HI160.out))|exact HB.out)⟩

 rw [if_pos c18] at H
 have c18b0:(t167 == 1) = true:=beq_iff_eq.mpr c18
 have c18b1:(t167 != 1) = false:=bne_eq_false_iff_eq.mpr c18
 clear c18
 replace H:=Option.bind_eq_some_iff.mp H
 obtain⟨⟨t180,t181,t182⟩,A190,H⟩:=H
 replace H:(if t161.length < 17592186044416 then (some ((t161 ++ [t180]),t164)) else (none)) = some (r1,r2):=H
 have A19:=mk0 A190
 clear A190
 by_cases c20:t161.length < 17592186044416
 rotate_left
 ·rw [if_neg c20] at H
  exact absurd H (by simp)
 rw [if_pos c20] at H
 have LMc20:=mk0 c20
 clear c20
 obtain⟨y183,hy183⟩:∃ y_:List Int,y_ = (t161 ++ [t180]):=⟨_,rfl⟩
 replace H:(some (y183,t164)) = some (r1,r2):=by first|(rw [hy183];with_reducible exact H)|(have H2_:=(Option.bind_some _ _).symm.trans H;rw [hy183];with_reducible exact H2_)|(have H2_:=(Option.bind_some _ _).symm.trans H;with_reducible exact H2_)|with_reducible exact H|(rw [hy183];exact H)|exact H
 have Ny183:=mk0 hy183
 clear hy183
 simp only [Option.some.injEq,Prod.mk.injEq] at H
 obtain⟨rfl,rfl⟩:=H
 go_enter Try.func8,Try.ntmps8
 go_wp2_with (first|((with_reducible refine gate_callee (f:=23) rfl ?_);refine goesL_ (some 8) rfl rfl Try.func23 (by kernel_rfl) rfl #[.slice A0 l0.length c0] rfl (by (try simp only [mA,mC,mN]);first|done|rfl|(simp only [List.length_drop,List.length_take];done)|(simp only [List.length_drop,List.length_take];rfl)) ?_;(with_reducible refine (spec_l01Open.calls _ _ l0 t157 t158 t159 w _ ?side1 ?side2 ?side3 A2.out).mono ?_);(case side1=>repeat (first|(with_reducible first|exact HB.out|apply aZ|apply nZ|apply dZ)|exact HB.out));(case side2=>exact HR0.out);(case side3=>exact HC0.out);rintro e w21 ⟨g160,rfl,hi,hb,hb2⟩;refine⟨_,rfl,?_⟩;replace HB:=mk0 (hb);have HI160:=mk0 (hi);(try clear hb);(try clear hb2);(try clear hi))|((with_reducible refine gate_callee (f:=24) rfl ?_);refine goesL_ (some 11) rfl rfl Try.func24 (by kernel_rfl) rfl #[.pointer (some ⟨g160,0,none⟩)] rfl (by (try simp only [mA,mC,mN]);first|done|rfl|(simp only [List.length_drop,List.length_take];done)|(simp only [List.length_drop,List.length_take];rfl)) ?_;(with_reducible refine (spec_l01Cur_rising.calls k g160 t157 t158 t159 t161 t164 t165 t166 w _ ?side1 ?side2 A3.out).mono ?_);(case side1=>repeat (first|(with_reducible first|exact HI160.out|apply IsS77.alloc|apply IsS77.drewN|apply IsS77.drew|apply IsS77.set_1|apply IsS77.set_2)|exact HI160.out));(case side2=>repeat (first|(with_reducible first|exact HB.out|apply aZ|apply nZ|apply dZ|refine sZ ?_ (IsS77.ge HI160.out))|exact HB.out));rintro e w22 ⟨v162,rfl,ho0,hi,hb,hk⟩;refine⟨_,rfl,?_⟩;have HO163:=mk0 (Kd.R_lower ho0 (below_size (by repeat (first|(with_reducible first|exact HB.out|apply aZ|apply nZ|apply dZ|refine sZ ?_ (IsS77.ge HI160.out))|exact HB.out))));replace HB:=mk0 (hb);replace HI160:=mk0 (hi);(try clear hb);(try clear hk);(try clear hi);(try clear ho0))|((with_reducible refine gate_callee (f:=25) rfl ?_);refine goesL_ (some 15) rfl rfl Try.func25 (by kernel_rfl) rfl #[.pointer (some ⟨g160,0,none⟩),.int .i64 9] rfl (by (try simp only [mA,mC,mN]);first|done|rfl|(simp only [List.length_drop,List.length_take];done)|(simp only [List.length_drop,List.length_take];rfl)) ?_;(with_reducible refine (spec_l01Cur_pick.calls g160 t157 t165 t166 9 t167 t168 t169 w _ ?side1 ?side2 A4.out).mono ?_);(case side1=>repeat (first|(with_reducible first|exact HI160.out|apply IsS77.alloc|apply IsS77.drewN|apply IsS77.drew|apply IsS77.set_1|apply IsS77.set_2)|exact HI160.out));(case side2=>repeat (first|(with_reducible first|exact HB.out|apply aZ|apply nZ|apply dZ|refine sZ ?_ (IsS77.ge HI160.out))|exact HB.out));rintro e w23 ⟨rfl,hi,hb,hk⟩;refine⟨_,rfl,?_⟩;replace HO163:=mk0 (Kd.R_mono (Kd.R_keep (IsS77.apart (show IsS77 w _ g160 t157 t165 t166 from by repeat (first|(with_reducible first|exact HI160.out|apply IsS77.alloc|apply IsS77.drewN|apply IsS77.drew|apply IsS77.set_1|apply IsS77.set_2)|exact HI160.out)) (rR HO163.out) (by decide)) hk (fun _ h=>h.2)) (fun _ h=>h.1));replace HB:=mk0 (hb);replace HI160:=mk0 (hi);(try clear hb);(try clear hk);(try clear hi))|((with_reducible refine gate_callee (f:=26) rfl ?_);refine goesL_ (some 29) rfl rfl Try.func26 (by kernel_rfl) rfl #[.pointer (some ⟨g160,0,none⟩)] rfl (by (try simp only [mA,mC,mN]);first|done|rfl|(simp only [List.length_drop,List.length_take];done)|(simp only [List.length_drop,List.length_take];rfl)) ?_;(with_reducible refine (spec_l01Cur_raw.calls g160 t157 t168 t169 t180 t181 t182 w _ ?side1 ?side2 A19.out).mono ?_);(case side1=>repeat (first|(with_reducible first|exact HI160.out|apply IsS77.alloc|apply IsS77.drewN|apply IsS77.drew|apply IsS77.set_1|apply IsS77.set_2)|exact HI160.out));(case side2=>repeat (first|(with_reducible first|exact HB.out|apply aZ|apply nZ|apply dZ|refine sZ ?_ (IsS77.ge HI160.out))|exact HB.out));rintro e w24 ⟨rfl,hi,hb,hk⟩;refine⟨_,rfl,?_⟩;replace HO163:=mk0 (Kd.R_mono (Kd.R_keep (IsS77.apart (show IsS77 w _ g160 t157 t168 t169 from by repeat (first|(with_reducible first|exact HI160.out|apply IsS77.alloc|apply IsS77.drewN|apply IsS77.drew|apply IsS77.set_1|apply IsS77.set_2)|exact HI160.out)) (rR HO163.out) (by decide)) hk (fun _ h=>h.2)) (fun _ h=>h.1));replace HB:=mk0 (hb);replace HI160:=mk0 (hi);(try clear hb);(try clear hk);(try clear hi))|((with_reducible refine gate_builtin (b:=.append) (xs:=#[.tmp 27,.tmp 30]) rfl ?_);at_builtin;refine Kd.R_append (Kd.int .i64) (w0:=w) w.heap.size rfl (.tmp 27) (.tmp 30) 24 3 (.int .i64 0) 8 rfl Try.underlying24 info3 rfl (by decide) (by omega) v162 t161 t180 [.int .i64 t180] (fun _=>True) (fun _=>False) rfl rfl ?aP (fun _ hk=>hk.elim) ?aF ?aO ?aB ?aS ?aL ?_;(case aP=>exact rfl);(case aB=>exact (by repeat (first|(with_reducible first|exact HB.out|apply aZ|apply nZ|apply dZ|refine sZ ?_ (IsS77.ge HI160.out))|exact HB.out)));(case aF=>exact (fun _ _=>trivial));(case aO=>exact (rR HO163.out));(case aS=>exact (below_size (by repeat (first|(with_reducible first|exact HB.out|apply aZ|apply nZ|apply dZ|refine sZ ?_ (IsS77.ge HI160.out))|exact HB.out))));(case aL=>have:=LMc20.out;omega);intro v184 w25 ho hb hg hat;rw [← Ny183.out] at ho;replace HI160:=mk0 (IsS77.grown (by repeat (first|(with_reducible first|exact HI160.out|apply IsS77.alloc|apply IsS77.drewN|apply IsS77.drew|apply IsS77.set_1|apply IsS77.set_2)|exact HI160.out)) hg (IsS77.own_ne HI160.out HO163.out (by decide)));replace HB:=mk0 (hb);have HO185:=mk0 (ho);clear HO163 ho hb hg hat))
 go_ret2
 exact⟨_,by first|rfl|(simp [errW_none,errW_some] <;> rfl)|(simp [*,errW_none,errW_some] <;> rfl),rR HO185.out,by repeat (first|(with_reducible first|exact HB.out|apply aZ|apply nZ|apply dZ|refine sZ ?_ (IsS77.ge HI160.out))|exact HB.out)⟩
/-! ### spec_l02Pow: function 27 -/
def spec_l02Pow.l0 : Nat → Int → Int → Option (Int)
 | 0, _, _ => none
 | k + 1, x0, x3 => if x0 > 0 then (spec_l02Pow.l0 k (wrap64 (x0 - 1)) (wrap64 (2 * x3))) else (some x3)
def spec_l02Pow.f (k : Nat) (a0 : Int) : Option (Int) := spec_l02Pow.l0 k a0 1
theorem spec_l02Pow.mono_l : ∀ k, (∀ y0 y1, LeO (spec_l02Pow.l0 k y0 y1) (spec_l02Pow.l0 (k + 1) y0 y1))
 | 0 => fun _ _ r h => by simp [spec_l02Pow.l0] at h
 | k + 1 => by
  have ih0 := spec_l02Pow.mono_l k
  ·intro y0 y1
   unfold spec_l02Pow.l0
   repeat' first|(with_reducible first|exact ih0 _ _|exact LeO.refl _|exact LeO.none _|refine LeO.ite ?_ ?_|refine LeO.bind ?_ (fun _ => ?_))|exact LeO.none _|refine LeO.ite ?_ ?_|refine LeO.bind ?_ (fun _ => ?_)
theorem spec_l02Pow.mono : ∀ a0 k, LeO (spec_l02Pow.f k a0) (spec_l02Pow.f (k + 1) a0) := by
 intro a0 k
 have ih0 := spec_l02Pow.mono_l k
 unfold spec_l02Pow.f
 repeat' first|(with_reducible first|exact ih0 _ _|exact LeO.refl _|exact LeO.none _|refine LeO.ite ?_ ?_|refine LeO.bind ?_ (fun _ => ?_))|exact LeO.none _|refine LeO.ite ?_ ?_|refine LeO.bind ?_ (fun _ => ?_)
set_option maxHeartbeats 8000000 in
set_option maxRecDepth 100000 in
theorem spec_l02Pow.calls (k : Nat) (a0 : Int) (r : Int) (w : World) (h : spec_l02Pow.f k a0 = some r) :
  Calls Try.prog 27 #[.int .i64 a0] w fun e w' => e = .returned (.int .i64 r) ∧ Drawn0 w w' := by
 have H:(spec_l02Pow.l0 k a0 1) = some r:=h
 clear h
 have H':=mk0 H
 clear H
 go_enter Try.func27,Try.ntmps27
 go_wp2
 go_loopg [0,3] k (fun kq v0 v3 w'=>∃ (x0_1:Int) (x3_1:Int),v0 = .int .i64 x0_1 ∧ v3 = .int .i64 x3_1 ∧ Aside0 (spec_l02Pow.l0 kq x0_1 x3_1 = some r) ∧ Aside0 (kq ≤ k) ∧ Drawn0 w w')
 case atStart=>exact⟨(a0),(1),(by first|rfl|(simp;done)|(simp [*];done)),(by first|rfl|(simp;done)|(simp [*];done)),H',⟨Nat.le_refl _⟩,by repeat (first|exact Drawn0.refl _|apply Drawn0.step)⟩
 case round =>
  clear H'
  obtain⟨x0_1,x3_1,rfl,rfl,HA,HK1,⟨m1,rfl⟩⟩:=hrel
  cases gk with
  | zero=>exact absurd HA.out (by simp [spec_l02Pow.l0])
  | succ k1 =>
   have H:=HA.out
   clear HA
   simp only [spec_l02Pow.l0] at H
   by_cases c2:x0_1 > 0
   ·rw [if_pos c2] at H
    have c2b0:decide (0 < x0_1) = true:=decide_eq_true c2
    clear c2
    have H':=mk0 H
    clear H
    go_wp2
    go_roundg k1
    case measure=>have:=HK1.out;omega
    case rel=>exact⟨(wrap64 (x0_1 - 1)),(wrap64 (2 * x3_1)),(by first|rfl|(simp;done)|(simp [*];done)),(by first|rfl|(simp;done)|(simp [*];done)),H',⟨by have:=HK1.out;omega⟩,by repeat (first|exact Drawn0.refl _|apply Drawn0.step)⟩
   ·rw [if_neg c2] at H
    have c2b0:decide (0 < x0_1) = false:=decide_eq_false c2
    clear c2
    obtain rfl:=Option.some.inj H
    go_wp2
    go_ret
    exact⟨by first|rfl|(simp;done)|(simp [*];done),by repeat (first|exact Drawn0.refl _|apply Drawn0.step)⟩

/-! ### spec_WidthOf: function 52 -/
def spec_WidthOf.l0 : Nat → Int → Int → Option (Int)
 | 0, _, _ => none
 | k + 1, x0, x3 => if x0 > 0 then (spec_WidthOf.l0 k (wrap64 (Int.tdiv x0 2)) (wrap64 (x3 + 1))) else (some x3)
def spec_WidthOf.f (k : Nat) (a0 : Int) : Option (Int) := if a0 < 0 then (some (-1)) else (spec_WidthOf.l0 k a0 0)
theorem spec_WidthOf.mono_l : ∀ k, (∀ y0 y1, LeO (spec_WidthOf.l0 k y0 y1) (spec_WidthOf.l0 (k + 1) y0 y1))
 | 0 => fun _ _ r h => by simp [spec_WidthOf.l0] at h
 | k + 1 => by
  have ih0 := spec_WidthOf.mono_l k
  ·intro y0 y1
   unfold spec_WidthOf.l0
   repeat' first|(with_reducible first|exact ih0 _ _|exact LeO.refl _|exact LeO.none _|refine LeO.ite ?_ ?_|refine LeO.bind ?_ (fun _ => ?_))|exact LeO.none _|refine LeO.ite ?_ ?_|refine LeO.bind ?_ (fun _ => ?_)
theorem spec_WidthOf.mono : ∀ a0 k, LeO (spec_WidthOf.f k a0) (spec_WidthOf.f (k + 1) a0) := by
 intro a0 k
 have ih0 := spec_WidthOf.mono_l k
 unfold spec_WidthOf.f
 repeat' first|(with_reducible first|exact ih0 _ _|exact LeO.refl _|exact LeO.none _|refine LeO.ite ?_ ?_|refine LeO.bind ?_ (fun _ => ?_))|exact LeO.none _|refine LeO.ite ?_ ?_|refine LeO.bind ?_ (fun _ => ?_)
set_option maxHeartbeats 8000000 in
set_option maxRecDepth 100000 in
theorem spec_WidthOf.calls (k : Nat) (a0 : Int) (r : Int) (w : World) (h : spec_WidthOf.f k a0 = some r) :
  Calls Try.prog 52 #[.int .i64 a0] w fun e w' => e = .returned (.int .i64 r) ∧ Drawn0 w w' := by
 have H:(if a0 < 0 then (some (-1)) else (spec_WidthOf.l0 k a0 0)) = some r:=h
 clear h
 by_cases c2:a0 < 0
 ·rw [if_pos c2] at H
  have c2b0:decide (a0 < 0) = true:=decide_eq_true c2
  clear c2
  obtain rfl:=Option.some.inj H
  go_enter Try.func52,Try.ntmps52
  go_wp2
  go_ret
  exact⟨by first|rfl|(simp;done)|(simp [*];done),by repeat (first|exact Drawn0.refl _|apply Drawn0.step)⟩
 ·rw [if_neg c2] at H
  have c2b0:decide (a0 < 0) = false:=decide_eq_false c2
  clear c2
  have H':=mk0 H
  clear H
  go_enter Try.func52,Try.ntmps52
  go_wp2
  go_loopg [0,3] k (fun kq v0 v3 w'=>∃ (x0_1:Int) (x3_1:Int),v0 = .int .i64 x0_1 ∧ v3 = .int .i64 x3_1 ∧ Aside0 (spec_WidthOf.l0 kq x0_1 x3_1 = some r) ∧ Aside0 (kq ≤ k) ∧ Drawn0 w w')
  case atStart=>exact⟨(a0),(0),(by first|rfl|(simp;done)|(simp [*];done)),(by first|rfl|(simp;done)|(simp [*];done)),H',⟨Nat.le_refl _⟩,by repeat (first|exact Drawn0.refl _|apply Drawn0.step)⟩
  case round =>
   clear H'
   try clear c2
   try clear c2b0
   try clear p2
   obtain⟨x0_1,x3_1,rfl,rfl,HA,HK1,⟨m1,rfl⟩⟩:=hrel
   cases gk with
   | zero=>exact absurd HA.out (by simp [spec_WidthOf.l0])
   | succ k1 =>
    have H:=HA.out
    clear HA
    simp only [spec_WidthOf.l0] at H
    by_cases c3:x0_1 > 0
    ·rw [if_pos c3] at H
     have c3b0:decide (0 < x0_1) = true:=decide_eq_true c3
     clear c3
     have H':=mk0 H
     clear H
     go_wp2
     go_roundg k1
     case measure=>have:=HK1.out;omega
     case rel=>exact⟨(wrap64 (Int.tdiv x0_1 2)),(wrap64 (x3_1 + 1)),(by first|rfl|(simp;done)|(simp [*];done)),(by first|rfl|(simp;done)|(simp [*];done)),H',⟨by have:=HK1.out;omega⟩,by repeat (first|exact Drawn0.refl _|apply Drawn0.step)⟩
    ·rw [if_neg c3] at H
     have c3b0:decide (0 < x0_1) = false:=decide_eq_false c3
     clear c3
     obtain rfl:=Option.some.inj H
     go_wp2
     go_ret
     exact⟨by first|rfl|(simp;done)|(simp [*];done),by repeat (first|exact Drawn0.refl _|apply Drawn0.step)⟩

/-! ### spec_l03Width: function 28 -/
def spec_l03Width.f (k : Nat) (a0 : Int) (a1 : Int) : Option (Int) := if a0 = 0 then (some 0) else ((spec_WidthOf.f k (wrap64 (Int.tdiv a1 a0))).bind fun t186 => (some (mx 0 (wrap64 (t186 - 1)))))
theorem spec_l03Width.mono : ∀ a0 a1 k, LeO (spec_l03Width.f k a0 a1) (spec_l03Width.f (k + 1) a0 a1) := by
 intro a0 a1 k
 unfold spec_l03Width.f
 repeat' first|(with_reducible first|exact spec_WidthOf.mono _ _|exact LeO.refl _|exact LeO.none _|refine LeO.ite ?_ ?_|refine LeO.bind ?_ (fun _ => ?_))|exact LeO.none _|refine LeO.ite ?_ ?_|refine LeO.bind ?_ (fun _ => ?_)
set_option maxHeartbeats 8000000 in
set_option maxRecDepth 100000 in
theorem spec_l03Width.calls (k : Nat) (a0 : Int) (a1 : Int) (r : Int) (w : World) (h : spec_l03Width.f k a0 a1 = some r) :
  Calls Try.prog 28 #[.int .i64 a0, .int .i64 a1] w fun e w' => e = .returned (.int .i64 r) ∧ Below w.heap.size w w' := by
 have HB:=mk0 (Below.refl w.heap.size w)
 have H:(if a0 = 0 then (some 0) else ((spec_WidthOf.f k (wrap64 (Int.tdiv a1 a0))).bind fun t186=>(some (mx 0 (wrap64 (t186 - 1)))))) = some r:=h
 clear h
 by_cases c3:a0 = 0
 ·rw [if_pos c3] at H
  have c3b0:(a0 == 0) = true:=beq_iff_eq.mpr c3
  have c3b1:(a0 != 0) = false:=bne_eq_false_iff_eq.mpr c3
  clear c3
  obtain rfl:=Option.some.inj H
  go_enter Try.func28,Try.ntmps28
  go_wp2
  go_ret
  exact⟨by first|rfl|(simp [errW_none,errW_some] <;> rfl)|(simp [*,errW_none,errW_some] <;> rfl),kB HB.out⟩
 ·rw [if_neg c3] at H
  have c3b0:(a0 == 0) = false:=beq_eq_false_iff_ne.mpr c3
  have c3b1:(a0 != 0) = true:=bne_iff_ne.mpr c3
  replace H:=Option.bind_eq_some_iff.mp H
  obtain⟨t186,A40,H⟩:=H
  replace H:(some (mx 0 (wrap64 (t186 - 1)))) = some r:=H
  have A4:=mk0 A40
  clear A40
  obtain⟨ji5,hji5⟩:∃ j_:Int,(mx 0 (wrap64 (t186 - 1))) = j_:=⟨_,rfl⟩
  replace H:(some ji5) = some r:=by first|(rw [hji5] at H;exact H)|(simp only [hji5] at H ⊢;exact H)
  (try rw [hji5] at A4)
  (try (have hji5l:0 ≤ ji5:=by (rw [← hji5];unfold mx;(repeat' split) <;> omega)))
  (try (have hji5m:0 ≤ ji5:=by omega))
  have hji5_:(if 0 < (wrap64 (t186 - 1)) then (wrap64 (t186 - 1)) else 0) = ji5:=hji5
  obtain rfl:=Option.some.inj H
  go_enter Try.func28,Try.ntmps28
  go_wp2_with (first|((with_reducible refine gate_callee (f:=52) rfl ?_);refine goesL_ (some 10) rfl rfl Try.func52 (by kernel_rfl) rfl #[.int .i64 (wrap64 (Int.tdiv a1 a0))] rfl (by (try simp only [mA,mC,mN]);first|done|rfl|(simp only [List.length_drop,List.length_take];done)|(simp only [List.length_drop,List.length_take];rfl)) ?_;(with_reducible refine (spec_WidthOf.calls k (wrap64 (Int.tdiv a1 a0)) t186 _ A4.out).mono ?_);rintro e w' ⟨rfl,⟨nd,rfl⟩⟩;refine⟨_,rfl,?_⟩))
  go_ret
  exact⟨by first|rfl|(simp [errW_none,errW_some] <;> rfl)|(simp only [← hji5];first|rfl|(simp [errW_none,errW_some] <;> rfl))|(simp [*,errW_none,errW_some] <;> rfl),kB HB.out⟩

/-! ### spec_l01Power: function 53 -/
def spec_l01Power.l0 : Nat → Int → Int → Option (Int)
 | 0, _, _ => none
 | k + 1, x0, x3 => if x0 > 0 then (spec_l01Power.l0 k (wrap64 (x0 - 1)) (IntKind.u64.wrap (2 * x3))) else (some x3)
def spec_l01Power.f (k : Nat) (a0 : Int) : Option (Int) := spec_l01Power.l0 k a0 1
theorem spec_l01Power.mono_l : ∀ k, (∀ y0 y1, LeO (spec_l01Power.l0 k y0 y1) (spec_l01Power.l0 (k + 1) y0 y1))
 | 0 => fun _ _ r h => by simp [spec_l01Power.l0] at h
 | k + 1 => by
  have ih0 := spec_l01Power.mono_l k
  ·intro y0 y1
   unfold spec_l01Power.l0
   repeat' first|(with_reducible first|exact ih0 _ _|exact LeO.refl _|exact LeO.none _|refine LeO.ite ?_ ?_|refine LeO.bind ?_ (fun _ => ?_))|exact LeO.none _|refine LeO.ite ?_ ?_|refine LeO.bind ?_ (fun _ => ?_)
theorem spec_l01Power.mono : ∀ a0 k, LeO (spec_l01Power.f k a0) (spec_l01Power.f (k + 1) a0) := by
 intro a0 k
 have ih0 := spec_l01Power.mono_l k
 unfold spec_l01Power.f
 repeat' first|(with_reducible first|exact ih0 _ _|exact LeO.refl _|exact LeO.none _|refine LeO.ite ?_ ?_|refine LeO.bind ?_ (fun _ => ?_))|exact LeO.none _|refine LeO.ite ?_ ?_|refine LeO.bind ?_ (fun _ => ?_)
set_option maxHeartbeats 8000000 in
set_option maxRecDepth 100000 in
theorem spec_l01Power.calls (k : Nat) (a0 : Int) (r : Int) (w : World) (h : spec_l01Power.f k a0 = some r) :
  Calls Try.prog 53 #[.int .i64 a0] w fun e w' => e = .returned (.int .u64 r) ∧ Drawn0 w w' := by
 have H:(spec_l01Power.l0 k a0 1) = some r:=h
 clear h
 have H':=mk0 H
 clear H
 go_enter Try.func53,Try.ntmps53
 go_wp2
 go_loopg [0,3] k (fun kq v0 v3 w'=>∃ (x0_1:Int) (x3_1:Int),v0 = .int .i64 x0_1 ∧ v3 = .int .u64 x3_1 ∧ Aside0 (spec_l01Power.l0 kq x0_1 x3_1 = some r) ∧ Aside0 (kq ≤ k) ∧ Drawn0 w w')
 case atStart=>exact⟨(a0),(1),(by first|rfl|(simp;done)|(simp [*];done)),(by first|rfl|(simp;done)|(simp [*];done)),H',⟨Nat.le_refl _⟩,by repeat (first|exact Drawn0.refl _|apply Drawn0.step)⟩
 case round =>
  clear H'
  obtain⟨x0_1,x3_1,rfl,rfl,HA,HK1,⟨m1,rfl⟩⟩:=hrel
  cases gk with
  | zero=>exact absurd HA.out (by simp [spec_l01Power.l0])
  | succ k1 =>
   have H:=HA.out
   clear HA
   simp only [spec_l01Power.l0] at H
   by_cases c2:x0_1 > 0
   ·rw [if_pos c2] at H
    have c2b0:decide (0 < x0_1) = true:=decide_eq_true c2
    clear c2
    have H':=mk0 H
    clear H
    go_wp2
    go_roundg k1
    case measure=>have:=HK1.out;omega
    case rel=>exact⟨(wrap64 (x0_1 - 1)),(IntKind.u64.wrap (2 * x3_1)),(by first|rfl|(simp;done)|(simp [*];done)),(by first|rfl|(simp;done)|(simp [*];done)),H',⟨by have:=HK1.out;omega⟩,by repeat (first|exact Drawn0.refl _|apply Drawn0.step)⟩
   ·rw [if_neg c2] at H
    have c2b0:decide (0 < x0_1) = false:=decide_eq_false c2
    clear c2
    obtain rfl:=Option.some.inj H
    go_wp2
    go_ret
    exact⟨by first|rfl|(simp;done)|(simp [*];done),by repeat (first|exact Drawn0.refl _|apply Drawn0.step)⟩

end Go.Proofs.Ytmohfjfgpeapfaa.QFnSparse
