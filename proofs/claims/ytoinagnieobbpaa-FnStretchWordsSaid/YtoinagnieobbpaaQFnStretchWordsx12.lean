-- A walk, made by walk.py, a program of this session's.
import Derived.Test.YtoinagnieobbpaaQFnStretchWordsx0
import Derived.Test.YtoinagnieobbpaaQFnStretchWordsx7
import Derived.Test.YtoinagnieobbpaaQFnStretchWordsx11
namespace Go.Proofs.Ytoinagnieobbpaa.QFnStretchWords
open Go.RowKit Go.Proofs.YtoinagnieobbpaaW.PrintWords Go.Proofs.YtoinagnieobbpaaW.PrintLast Go.Proofs.YtoinagnieobbpaaW.PrintMore
attribute [local go_sem] max2_int min2_int max_two min_two max_three min_three max_four min_four   -- for this text's walks alone
set_option linter.unusedVariables false
set_option linter.unusedSimpArgs false


/-! ### impl_StretchKids: function 33 (by hand) -/
def impl_StretchKids.p (k : Nat) (all : List S27) (s x : Int × Int × Int) : Bool := match impl_up.f k all x.1 x.2.1 x.2.2 with
  | some u => !u.2.2.2 || !decide ((u.1, u.2.1, u.2.2.1) = s)
  | none => true
def impl_StretchKids.f (k : Nat) (l0 : List Int) (a1_0 : Int) (a1_1 : Int) (a1_2 : Int) : Option (List S27) := (impl_StretchOk.f k l0 a1_0 a1_1 a1_2).bind fun t1 => if t1 = true then ((impl_stretches.f k l0).bind fun t2 => if (decide (t2.length < 5864062014805) && t2.all fun x => (impl_up.f k t2 x.f0 x.f1 x.f2).isSome) = true then some (((t2.map fun x : S27 => (x.f0, x.f1, x.f2)).filter fun x => !impl_StretchKids.p k t2 (a1_0, a1_1, a1_2) x).map fun t : Int × Int × Int => (⟨t.1, t.2.1, t.2.2⟩ : S27)) else none) else some []
theorem impl_StretchKids.mono : ∀ a0 a1 a2 a3 k, LeO (impl_StretchKids.f k a0 a1 a2 a3) (impl_StretchKids.f (k + 1) a0 a1 a2 a3) := by
  intro a0 a1 a2 a3 k r h
  unfold impl_StretchKids.f at h ⊢
  obtain ⟨t1, h1, h⟩ := Option.bind_eq_some_iff.mp h
  rw [impl_StretchOk.mono _ _ _ _ _ _ h1, Option.bind_some]
  cases t1 with
  | false =>
    rw [if_neg (by decide)] at h ⊢
    exact h
  | true =>
    rw [if_pos rfl] at h ⊢
    obtain ⟨t2, h2, h⟩ := Option.bind_eq_some_iff.mp h
    rw [impl_stretches.mono _ _ _ h2, Option.bind_some]
    split at h
    · rename_i hc
      rw [Bool.and_eq_true, List.all_eq_true] at hc
      have hu : ∀ x ∈ t2, ∃ u, impl_up.f k t2 x.f0 x.f1 x.f2 = some u ∧ impl_up.f (k + 1) t2 x.f0 x.f1 x.f2 = some u := fun x hx => by
        obtain ⟨u, hu⟩ := Option.isSome_iff_exists.1 (hc.2 x hx)
        exact ⟨u, hu, impl_up.mono _ _ _ _ _ _ hu⟩
      rw [if_pos (by rw [Bool.and_eq_true, List.all_eq_true]; exact ⟨hc.1, fun x hx => by obtain ⟨u, _, e⟩ := hu x hx; rw [e]; rfl⟩)]
      have hf : ((t2.map fun x : S27 => (x.f0, x.f1, x.f2)).filter fun x => !impl_StretchKids.p (k + 1) t2 (a1, a2, a3) x) = ((t2.map fun x : S27 => (x.f0, x.f1, x.f2)).filter fun x => !impl_StretchKids.p k t2 (a1, a2, a3) x) := by
        refine List.filter_congr fun x hx => ?_
        obtain ⟨y, hy, rfl⟩ := List.mem_map.1 hx
        obtain ⟨u, e1, e2⟩ := hu y hy
        unfold impl_StretchKids.p
        rw [e1, e2]
      rw [hf]
      exact h
    · cases h
theorem impl_StretchKids.tells (k : Nat) (t2 : List S27) (s : Int × Int × Int) (A : Option Addr) (c base : Nat) (ok : Nat → Prop) (w5 w6 : World) (gS : Nat) (hc : ∀ x ∈ t2, (impl_up.f k t2 x.f0 x.f1 x.f2).isSome = true) (ho : Kd.R k27 27 w5 base ok (.slice A t2.length c) t2)
    (hb6 : Below (w5.alloc (.cells #[.slice A t2.length c] 39)).heap.size (w5.alloc (.cells #[.slice A t2.length c] 39)) w6) (h5 : w5.heap[gS]? = some (.cells #[.int .i64 s.1, .int .i64 s.2.1, .int .i64 s.2.2] 27 (0, 0))) (b : Nat) (hb : (w5.alloc (.cells #[.slice A t2.length c] 39)).heap.size ≤ b) :
    Str.Tells3 58 #[.pointer (some ⟨w5.heap.size, 0, none⟩), .pointer (some ⟨gS, 0, none⟩)] (impl_StretchKids.p k t2 s) (t2.map fun x : S27 => (x.f0, x.f1, x.f2)) w6 b := by
  intro W x hx hgr
  obtain ⟨y, hy, rfl⟩ := List.mem_map.1 hx
  obtain ⟨u, hu⟩ := Option.isSome_iff_exists.1 (hc y hy)
  have hV : (w5.alloc (.cells #[.slice A t2.length c] 39)).heap.size = w5.heap.size + 1 := by show (w5.heap.push _).size = _; simp
  have hsz := hb6.size
  have hlS : gS < w5.heap.size := (Array.getElem?_eq_some_iff.1 h5).1
  have st : ∀ j, j < w5.heap.size → W.heap[j]? = w5.heap[j]? := fun j hj =>
    (hgr.block j (by omega) (fun e => by injection e with e; omega)).trans ((hb6.block j (by omega)).trans (Below.heap_alloc w5 _ j hj))
  have eA : W.heap[w5.heap.size]? = some (.cells #[.slice A t2.length c] 39 (0, 0)) := (hgr.block _ (by omega) (fun e => by injection e with e; omega)).trans (Str.after_new hb6)
  have eS := (st gS hlS).trans h5
  have hszW := hgr.size
  have e := Str.kidCl w5.heap.size gS A t2.length c s (y.f0, y.f1, y.f2) (u.1, u.2.1, u.2.2.1) u.2.2.2 W eA eS (fun W' hb' => impl_up.calls k A c t2 y.f0 y.f1 y.f2 u.1 u.2.1 u.2.2.1 u.2.2.2 W'
    (Str.c_block k27 (fun x : S27 => (x.f0, x.f1, x.f2)) rfl (fun _ _ _ _ _ h => k27_openM h) (fun w b ok x => k27_mkM w b ok x) ho (fun j hj => by
      have hlt := Kd.R_lt ho j hj
      exact (hb'.block j (by omega)).trans (st j hlt))) (Kd.R_reads' ho).2.1 hu)
  have ep : impl_StretchKids.p k t2 s (y.f0, y.f1, y.f2) = (!u.2.2.2 || !decide ((u.1, u.2.1, u.2.2.1) = s)) := by
    unfold impl_StretchKids.p
    rw [hu]
  rw [ep]
  exact e
set_option maxHeartbeats 8000000 in
set_option maxRecDepth 1000000 in
theorem impl_StretchKids.calls (k : Nat) (A0 : Option Addr) (c0 : Nat) (l0 : List Int) (a1_0 : Int) (a1_1 : Int) (a1_2 : Int) (r : List S27) (w : World) (hr0 : Kd.C (Kd.int .u8) w A0 l0.length l0) (hc0 : l0.length ≤ c0) (h : impl_StretchKids.f k l0 a1_0 a1_1 a1_2 = some r) :
    Calls Try.prog 33 #[.slice A0 l0.length c0, .agg #[.int .i64 a1_0, .int .i64 a1_1, .int .i64 a1_2]] w fun e w' => ∃ v0_ : Value, e = .returned (v0_) ∧ Kd.R k27 27 w' w.heap.size (fun _ => True) v0_ r ∧ Below w.heap.size w w' := by
  have hu27 := Try.underlying27
  unfold impl_StretchKids.f at h
  obtain ⟨t1, h1, h⟩ := Option.bind_eq_some_iff.mp h
  have HR0 := Aside0.mk hr0
  have HC0 := Aside0.mk hc0
  have A1 := Aside0.mk h1
  clear hr0 hc0 h1
  cases t1 with
  | false =>
    obtain rfl := Option.some.inj h
    clear h
    go_enter Try.func33, Try.ntmps33
    go_wp2_with (go_at_call 14; refine (impl_StretchOk.calls k A0 c0 l0 a1_0 a1_1 a1_2 false _ (Kd.C_alloc HR0.out _) HC0.out A1.out).mono ?_; rintro e w4 ⟨rfl, hb⟩; have HB := Aside0.mk (Str.below_next ((Below.refl _ _).alloc (Nat.le_refl _) _) hb); clear hb)
    go_ret
    exact ⟨_, rfl, Kd.R_nil _ _ _ _ _, HB.out⟩
  | true =>
    rw [if_pos rfl] at h
    obtain ⟨t2, h2, h⟩ := Option.bind_eq_some_iff.mp h
    split at h
    case isFalse => cases h
    rename_i hc
    rw [Bool.and_eq_true, List.all_eq_true, decide_eq_true_eq] at hc
    obtain rfl := Option.some.inj h
    clear h
    have A2 := Aside0.mk h2
    have HC := Aside0.mk hc
    clear h2 hc
    have HCL := Aside0.mk (show impl_Stretch_57.f t2 = some t2 by unfold impl_Stretch_57.f; rw [if_pos HC.out.1])
    go_enter Try.func33, Try.ntmps33
    go_wp2_with (first
      | (go_at_call 14; refine (impl_StretchOk.calls k A0 c0 l0 a1_0 a1_1 a1_2 true _ (Kd.C_alloc HR0.out _) HC0.out A1.out).mono ?_; rintro e w4 ⟨rfl, hb⟩; have HB := Aside0.mk (Str.below_next ((Below.refl _ _).alloc (Nat.le_refl _) _) hb); have S4 := Aside0.mk (Str.after_new hb); clear hb)
      | (go_at_call 53; refine (impl_stretches.calls k A0 c0 l0 t2 _ (Kd.C_below HR0.out HB.out) HC0.out A2.out).mono ?_; rintro e w5 ⟨v5, rfl, ho5, hb⟩; have HB5 := Aside0.mk (Str.below_next HB.out hb); have S5 := Aside0.mk ((hb.block _ (Array.getElem?_eq_some_iff.1 S4.out).1).trans S4.out); obtain ⟨Aall, call, rfl⟩ := Kd.R_slice ho5; have HO5 := Aside0.mk ho5; clear hb ho5)
      | (go_at_call 57; refine (impl_Stretch_57.calls Aall call t2 t2 _ (Kd.R_reads' (Kd.R_alloc HO5.out _)).2.2 (Kd.R_reads' HO5.out).2.1 HCL.out).mono ?_; rintro e w6 ⟨v6, rfl, ho6, hb⟩; have HB6 := Aside0.mk hb; have HO6 := Aside0.mk ho6; clear hb ho6)
      | (go_at_call 56; refine (Str.deleteStr k27 (fun x : S27 => (x.f0, x.f1, x.f2)) (fun t => ⟨t.1, t.2.1, t.2.2⟩) (fun _ => rfl) rfl (fun _ _ _ _ _ h => k27_openM h) (fun w b ok x => k27_mkM w b ok x) 58 _ (impl_StretchKids.p k t2 (a1_0, a1_1, a1_2)) (enters_of Try.func58 (by kernel_rfl) rfl) (fun k_ => (w5.alloc (.cells #[.slice Aall t2.length call] 39)).heap.size ≤ k_) v6 t2 _ _ HB6.out (Kd.R_mono (Kd.R_bound HO6.out) (fun k_ hk => hk.2.1)) (by have := HC.out.1; omega) (fun b hb _ => impl_StretchKids.tells k t2 (a1_0, a1_1, a1_2) Aall call _ _ w5 w6 w.heap.size HC.out.2 HO5.out HB6.out S5.out b hb)).mono ?_; rintro e w7 ⟨v7, rfl, ho7, hb7, _⟩; have HB7 := Aside0.mk hb7; have HO7 := Aside0.mk ho7; clear hb7 ho7))
    go_ret
    have hBV : Below w.heap.size w (w5.alloc (.cells #[.slice Aall t2.length call] 39)) := HB5.out.alloc HB5.out.size _
    exact ⟨_, rfl, Kd.R_mono (Kd.R_lower HO7.out hBV.size) (fun _ _ => trivial), Str.below_next hBV HB7.out⟩

/-! ### laws_big: function 34 -/
def laws_big.f (l0 : List Int) : Option (Bool) := some (decide ((l0.length : Int) > 1048576))
set_option maxHeartbeats 8000000 in
set_option maxRecDepth 100000 in
theorem laws_big.calls (A0 : Option Addr) (c0 : Nat) (l0 : List Int) (r : Bool) (w : World) (hr0 : Kd.C (Kd.int .u8) w A0 l0.length l0) (hc0 : l0.length ≤ c0) (h : laws_big.f l0 = some r) :
  Calls Try.prog 34 #[.slice A0 l0.length c0] w fun e w' => e = .returned (.bool r) ∧ Drawn0 w w' := by
 have HR0:=mk0 hr0
 have HC0:=mk0 hc0
 clear hr0 hc0
 have H:(some (decide ((l0.length:Int) > 1048576))) = some r:=h
 clear h
 obtain rfl:=Option.some.inj H
 go_enter Try.func34,Try.ntmps34
 go_wp2
 go_ret
 exact⟨by first|rfl|(simp;done)|(simp [*];done),by repeat (first|exact Drawn0.refl _|apply Drawn0.step)⟩

/-- A state of type 71 at block g of W; what its slices lead to came in by w0. -/
def IsS71 (w0 W : World) (g : Nat) (f0 : List Int) (f1 : Int) (f2 : Int) : Prop := ∃ A0 c0, W.heap[g]? = some (.cells #[.slice A0 f0.length c0, .int .i64 f1, .int .i64 f2] 71 (0, 0)) ∧ w0.heap.size ≤ g ∧ Kd.C (Kd.int .u8) w0 A0 f0.length f0
theorem IsS71.grown {w0 W : World} {g : Nat} {f0 : List Int} {f1 : Int} {f2 : Int} {W1 : World} {row : Option Nat} (h : IsS71 w0 W g f0 f1 f2) (hw : W.grownBy W1 row) (hne : some g ≠ row) : IsS71 w0 W1 g f0 f1 f2 := by
 obtain ⟨A0, c0, hb, hg, hr0⟩ := h
 exact ⟨A0, c0, blk_grown hb hw hne, hg, hr0⟩
theorem IsS71.own_neN {w0 W : World} {g : Nat} {f0 : List Int} {f1 : Int} {f2 : Int} {α : Type} {d : Kd α} {e : Nat} {base : Nat} {ok : Nat → Prop} {v : Value} {xs : List α} (h : IsS71 w0 W g f0 f1 f2) (ho : Kd.N d e W base ok v xs) (ht : e ≠ 71) : some g ≠ v.ownBlock := by
 obtain ⟨A0, c0, hb, hg, hr0⟩ := h
 exact Kd.N_ne ho hb ht
theorem IsS71.fresh {w0 W : World} {g : Nat} {f0 : List Int} {f1 : Int} {f2 : Int} (h : IsS71 w0 W g f0 f1 f2) : ∀ k, W.heap.size ≤ k → k ≠ g := by
 obtain ⟨A0, c0, hb, hg, hr0⟩ := h
 exact Kd.freshB hb
theorem IsS71.kept {w0 W : World} {g : Nat} {f0 : List Int} {f1 : Int} {f2 : Int} {W1 : World} {S : Nat → Prop} (h : IsS71 w0 W g f0 f1 f2) (hk : Kept W W1 S) (hne : ¬ S g) : IsS71 w0 W1 g f0 f1 f2 := by
 obtain ⟨A0, c0, hb, hg, hr0⟩ := h
 exact ⟨A0, c0, blk_kept hb hk hne, hg, hr0⟩
theorem IsS71.below {w0 W : World} {g : Nat} {f0 : List Int} {f1 : Int} {f2 : Int} {W1 : World} (h : IsS71 w0 W g f0 f1 f2) (hw : Below W.heap.size W W1) : IsS71 w0 W1 g f0 f1 f2 := h.grown (grown_of_below hw none) (by simp)
theorem IsS71.alloc {w0 W : World} {g : Nat} {f0 : List Int} {f1 : Int} {f2 : Int} (h : IsS71 w0 W g f0 f1 f2) (o : Obj) : IsS71 w0 (W.alloc o) g f0 f1 f2 := h.below (below_alloc (Below.refl _ _) o)
theorem IsS71.drewN {w0 W : World} {g : Nat} {f0 : List Int} {f1 : Int} {f2 : Int} (h : IsS71 w0 W g f0 f1 f2) (m : Nat) : IsS71 w0 (W.drewN m) g f0 f1 f2 := h
theorem IsS71.drew {w0 W : World} {g : Nat} {f0 : List Int} {f1 : Int} {f2 : Int} (h : IsS71 w0 W g f0 f1 f2) : IsS71 w0 W.drew g f0 f1 f2 := h
theorem IsS71.at_ {w0 W : World} {g : Nat} {f0 : List Int} {f1 : Int} {f2 : Int} {w' : World} {m : Nat} (hq : W.drewN m = w') (h : IsS71 w0 W g f0 f1 f2) : IsS71 w0 w' g f0 f1 f2 := by subst hq; exact IsS71.drewN h m
theorem IsS71.apart {w0 W : World} {g : Nat} {f0 : List Int} {f1 : Int} {f2 : Int} {α : Type} {d : Kd α} {e : Nat} {base : Nat} {ok : Nat → Prop} {v : Value} {xs : List α} (h : IsS71 w0 W g f0 f1 f2) (ho : d.R e W base ok v xs) (ht : ∀ q, q ∈ e :: d.E → q ≠ 71) : d.R e W base (fun k => ok k ∧ k ≠ g) v xs := by
 obtain ⟨A0, c0, hb, hg, hr0⟩ := h
 exact Kd.R_types ho hb ht
theorem IsS71.own_ne {w0 W : World} {g : Nat} {f0 : List Int} {f1 : Int} {f2 : Int} {α : Type} {d : Kd α} {e : Nat} {base : Nat} {ok : Nat → Prop} {v : Value} {xs : List α} (h : IsS71 w0 W g f0 f1 f2) (ho : d.R e W base ok v xs) (ht : e ≠ 71) : some g ≠ v.ownBlock := by
 obtain ⟨A0, c0, hb, hg, hr0⟩ := h
 exact Kd.R_ne ho hb ht
theorem IsS71.apartQ {w0 W : World} {g : Nat} {f0 : List Int} {f1 : Int} {f2 : Int} {α : Type} {d : Kd α} {e : Nat} {base : Nat} {ok : Nat → Prop} {v : Value} {xs : List α} (h : IsS71 w0 W g f0 f1 f2) (ho : d.Q e W base ok v xs) (ht : ∀ q, q ∈ e :: d.E → q ≠ 71) : d.Q e W base (fun k => ok k ∧ k ≠ g) v xs := by
 obtain ⟨A0, c0, hb, hg, hr0⟩ := h
 exact Kd.Q_types ho hb ht
theorem IsS71.own_neQ {w0 W : World} {g : Nat} {f0 : List Int} {f1 : Int} {f2 : Int} {α : Type} {d : Kd α} {e : Nat} {base : Nat} {ok : Nat → Prop} {v : Value} {xs : List α} (h : IsS71 w0 W g f0 f1 f2) (ho : d.Q e W base ok v xs) (ht : e ≠ 71) : some g ≠ v.ownBlock := by
 obtain ⟨A0, c0, hb, hg, hr0⟩ := h
 exact Kd.Q_ne ho hb ht
theorem IsS71.apartS {w0 W : World} {g : Nat} {f0 : List Int} {f1 : Int} {f2 : Int} {α : Type} {d : Kd α} {e : Nat} {base : Nat} {ok : Nat → Prop} {v : Value} {xs : List α} (h : IsS71 w0 W g f0 f1 f2) (ho : d.S e W base ok v xs) (ht : ∀ q, q ∈ e :: d.E → q ≠ 71) : d.S e W base (fun k => ok k ∧ k ≠ g) v xs := by
 obtain ⟨A0, c0, hb, hg, hr0⟩ := h
 exact Kd.S_types ho hb ht
theorem IsS71.own_neS {w0 W : World} {g : Nat} {f0 : List Int} {f1 : Int} {f2 : Int} {α : Type} {d : Kd α} {e : Nat} {base : Nat} {ok : Nat → Prop} {v : Value} {xs : List α} (h : IsS71 w0 W g f0 f1 f2) (ho : d.S e W base ok v xs) (ht : e ≠ 71) : some g ≠ v.ownBlock := by
 obtain ⟨A0, c0, hb, hg, hr0⟩ := h
 exact Kd.S_ne ho hb ht
theorem IsS71.lt {w0 W : World} {g : Nat} {f0 : List Int} {f1 : Int} {f2 : Int} (h : IsS71 w0 W g f0 f1 f2) : g < W.heap.size := by
 obtain ⟨A0, c0, hb, hg, hr0⟩ := h
 exact blk_lt hb
theorem IsS71.ge {w0 W : World} {g : Nat} {f0 : List Int} {f1 : Int} {f2 : Int} (h : IsS71 w0 W g f0 f1 f2) : w0.heap.size ≤ g := by
 obtain ⟨A0, c0, hb, hg, hr0⟩ := h
 exact hg
theorem IsS71.ne_blk {w0 W : World} {g : Nat} {f0 : List Int} {f1 : Int} {f2 : Int} {a : Nat} {cs : Array Value} {t : TypeId} {fr : Nat × Nat} (h : IsS71 w0 W g f0 f1 f2) (hb2 : W.heap[a]? = some (.cells cs t fr)) (ht : t ≠ 71) : g ≠ a := by
 obtain ⟨A0, c0, hb, hg, hr0⟩ := h
 rintro rfl
 rw [hb] at hb2
 injection hb2 with hb2
 injection hb2 with _ ht2
 exact ht ht2.symm
theorem IsS71.far {w0 W : World} {g : Nat} {f0 : List Int} {f1 : Int} {f2 : Int} {p : Addr} (h : IsS71 w0 W g f0 f1 f2) (hne : g ≠ p.block) (u : Value) : IsS71 w0 (W.setCell p u) g f0 f1 f2 := by
 obtain ⟨A0, c0, hb, hg, hr0⟩ := h
 exact ⟨A0, c0, blk_far hb hne u, hg, hr0⟩
theorem cellS71_0 {W : World} {g : Nat} {A0 : Option Addr} {c0 : Nat} {f0 : List Int} {f1 : Int} {f2 : Int} (h : W.heap[g]? = some (.cells #[.slice A0 f0.length c0, .int .i64 f1, .int .i64 f2] 71 (0, 0))) : W.cell? ⟨g, 0, none⟩ = some (.slice A0 f0.length c0) := (blk_cell h 0).trans rfl
theorem cellS71_1 {W : World} {g : Nat} {A0 : Option Addr} {c0 : Nat} {f0 : List Int} {f1 : Int} {f2 : Int} (h : W.heap[g]? = some (.cells #[.slice A0 f0.length c0, .int .i64 f1, .int .i64 f2] 71 (0, 0))) : W.cell? ⟨g, 1, none⟩ = some (.int .i64 f1) := (blk_cell h 1).trans rfl
theorem IsS71.set_1 {w0 W : World} {g : Nat} {f0 : List Int} {f1 : Int} {f2 : Int} (h : IsS71 w0 W g f0 f1 f2) (x : Int) : IsS71 w0 (W.setCell ⟨g, 1, none⟩ (.int .i64 x)) g f0 x f2 := by
 obtain ⟨A0, c0, hb, hg, hr0⟩ := h
 exact ⟨A0, c0, by simpa using blk_set hb 1 (.int .i64 x), hg, hr0⟩
theorem cellS71_2 {W : World} {g : Nat} {A0 : Option Addr} {c0 : Nat} {f0 : List Int} {f1 : Int} {f2 : Int} (h : W.heap[g]? = some (.cells #[.slice A0 f0.length c0, .int .i64 f1, .int .i64 f2] 71 (0, 0))) : W.cell? ⟨g, 2, none⟩ = some (.int .i64 f2) := (blk_cell h 2).trans rfl
theorem IsS71.set_2 {w0 W : World} {g : Nat} {f0 : List Int} {f1 : Int} {f2 : Int} (h : IsS71 w0 W g f0 f1 f2) (x : Int) : IsS71 w0 (W.setCell ⟨g, 2, none⟩ (.int .i64 x)) g f0 f1 x := by
 obtain ⟨A0, c0, hb, hg, hr0⟩ := h
 exact ⟨A0, c0, by simpa using blk_set hb 2 (.int .i64 x), hg, hr0⟩
theorem IsS71.new (w0 W : World) (A0 : Option Addr) (c0 : Nat) (f0 : List Int) (f1 : Int) (f2 : Int) (hB : Below w0.heap.size w0 W) (hr0 : Kd.C (Kd.int .u8) w0 A0 f0.length f0) : IsS71 w0 (W.alloc (.cells #[.slice A0 f0.length c0, .int .i64 f1, .int .i64 f2] 71)) W.heap.size f0 f1 f2 := ⟨A0, c0, by simpa using heap_alloc_new W _, hB.size, hr0⟩

/-! ### spec_l01Open: function 59 -/
def spec_l01Open.f (l0 : List Int) : Option (List Int × Int × Int) := some (l0, 0, 89 + ((l0.length : Int) % 1000))
set_option maxHeartbeats 8000000 in
set_option maxRecDepth 100000 in
theorem spec_l01Open.calls (A0 : Option Addr) (c0 : Nat) (l0 : List Int) (r1 : List Int) (r2 : Int) (r3 : Int) (w0 w : World) (hB : Below w0.heap.size w0 w) (hr0 : Kd.C (Kd.int .u8) w0 A0 l0.length l0) (hc0 : l0.length ≤ c0) (h : spec_l01Open.f l0 = some (r1, r2, r3)) :
  Calls Try.prog 59 #[.slice A0 l0.length c0] w fun e w' => ∃ g_ : Nat, e = .returned (.pointer (some ⟨g_, 0, none⟩)) ∧ IsS71 w0 w' g_ r1 r2 r3 ∧ Below w0.heap.size w0 w' ∧ Below w.heap.size w w' := by
 have hu71:=Try.underlying71
 have HR0:=mk0 hr0
 have HC0:=mk0 hc0
 clear hr0 hc0
 have HBW:=mk0 (Below.refl w.heap.size w)
 have HW0:=mk0 hB.size
 have HB:=mk0 hB
 clear hB
 have H:(some (l0,0,89 + ((l0.length:Int) % 1000))) = some (r1,r2,r3):=h
 clear h
 simp only [Option.some.injEq,Prod.mk.injEq] at H
 obtain⟨rfl,rfl,rfl⟩:=H
 go_enter Try.func59,Try.ntmps59
 go_wp2_with (first|((with_reducible refine gate_dst (N:=9) rfl ?_);refine box_event ?hg (N:=9) ?hd (cs:=#[.slice A0 l0.length c0,.int .i64 0,.int .i64 (89 + ((l0.length:Int) % 1000))]) (t:=71) ?hr ?_;(case hd=>rfl);(case hg=>rfl);(case hr=>first|(go_simp;done)|(go_simp;rfl));intro gb314 hg w2 hbox hb;replace HB:=mk0 (kS HB.out hb);have BK314:=mk0 (hbox);have GW314:=mk0 ((by rw [hg];exact (kZ HBW.out):w.heap.size ≤ gb314));have GE314:=mk0 ((Nat.le_trans HW0.out (by rw [hg];exact (kZ HBW.out):w.heap.size ≤ gb314):w0.heap.size ≤ gb314));replace HBW:=mk0 (below_step HBW.out hb);clear hb hbox hg))
 go_ret
 exact⟨_,rfl,(show IsS71 w0 _ gb314 l0 0 (89 + ((l0.length:Int) % 1000)) from ⟨_,_,kN BK314.out,GE314.out,HR0.out⟩),kB HB.out,kB HBW.out⟩

/-! ### spec_l01Cur_pick: function 75 -/
def spec_l01Cur_pick.f (s0_0 : List Int) (s0_1 : Int) (s0_2 : Int) (a1 : Int) : Option (Int × Int × Int) := if a1 < 2 then (some (0, s0_1, s0_2)) else (if s0_1 < (s0_0.length : Int) then (if 0 ≤ s0_1 then (if a1 = 0 then (none) else (some (Int.tmod (wrap64 (rd s0_0 s0_1)) a1, wrap64 (s0_1 + 1), s0_2))) else (none)) else (if (s0_0.length : Int) > 0 then (if (s0_0.length : Int) = 0 then (none) else (if 0 ≤ (Int.tmod s0_1 (s0_0.length : Int)) then (if (Int.tmod s0_1 (s0_0.length : Int)) < (s0_0.length : Int) then (if a1 = 0 then (none) else (some (Int.tmod (wrap64 ((wrap64 (Int.tdiv (Int.tmod (wrap64 ((wrap64 (s0_2 * 1103)) + 12345)) 65521) 7)) + (wrap64 (rd s0_0 (Int.tmod s0_1 (s0_0.length : Int)))))) a1, wrap64 (s0_1 + 1), Int.tmod (wrap64 ((wrap64 (s0_2 * 1103)) + 12345)) 65521))) else (none)) else (none))) else (if a1 = 0 then (none) else (some ((0 : Int) % a1, wrap64 (s0_1 + 1), Int.tmod (wrap64 ((wrap64 (s0_2 * 1103)) + 12345)) 65521)))))
set_option maxHeartbeats 8000000 in
set_option maxRecDepth 100000 in
theorem spec_l01Cur_pick.calls (g : Nat) (s0_0 : List Int) (s0_1 : Int) (s0_2 : Int) (a1 : Int) (r1 : Int) (r2 : Int) (r3 : Int) (w0 w : World) (hI : IsS71 w0 w g s0_0 s0_1 s0_2) (hB : Below w0.heap.size w0 w) (h : spec_l01Cur_pick.f s0_0 s0_1 s0_2 a1 = some (r1, r2, r3)) :
  Calls Try.prog 75 #[.pointer (some ⟨g, 0, none⟩), .int .i64 a1] w fun e w' => e = .returned (.int .i64 r1) ∧ IsS71 w0 w' g s0_0 r2 r3 ∧ Below w0.heap.size w0 w' ∧ KeepBut w w' g none := by
 have HI0:=mk0 hI
 have HK:=mk0 (KeepBut.refl w g none)
 have HL:=mk0 hB.size
 clear hI
 have HW0:=mk0 hB.size
 have HB:=mk0 hB
 clear hB
 have H:(if a1 < 2 then (some (0,s0_1,s0_2)) else (if s0_1 < (s0_0.length:Int) then (if 0 ≤ s0_1 then (if a1 = 0 then (none) else (some (Int.tmod (wrap64 (rd s0_0 s0_1)) a1,wrap64 (s0_1 + 1),s0_2))) else (none)) else (if (s0_0.length:Int) > 0 then (if (s0_0.length:Int) = 0 then (none) else (if 0 ≤ (Int.tmod s0_1 (s0_0.length:Int)) then (if (Int.tmod s0_1 (s0_0.length:Int)) < (s0_0.length:Int) then (if a1 = 0 then (none) else (some (Int.tmod (wrap64 ((wrap64 (Int.tdiv (Int.tmod (wrap64 ((wrap64 (s0_2 * 1103)) + 12345)) 65521) 7)) + (wrap64 (rd s0_0 (Int.tmod s0_1 (s0_0.length:Int)))))) a1,wrap64 (s0_1 + 1),Int.tmod (wrap64 ((wrap64 (s0_2 * 1103)) + 12345)) 65521))) else (none)) else (none))) else (if a1 = 0 then (none) else (some ((0:Int) % a1,wrap64 (s0_1 + 1),Int.tmod (wrap64 ((wrap64 (s0_2 * 1103)) + 12345)) 65521)))))) = some (r1,r2,r3):=h
 clear h
 by_cases c3:a1 < 2
 ·rw [if_pos c3] at H
  have c3b0:decide (a1 < 2) = true:=decide_eq_true c3
  clear c3
  simp only [Option.some.injEq,Prod.mk.injEq] at H
  obtain⟨rfl,rfl,rfl⟩:=H
  go_enter Try.func75,Try.ntmps75
  go_wp2
  repeat (go_quiet (fail);try go_wp2)
  go_ret
  exact⟨by first|rfl|(simp [errW_none,errW_some] <;> rfl)|(simp [*,errW_none,errW_some] <;> rfl),by repeat (first|(with_reducible first|exact HI0.out|apply IsS71.alloc|apply IsS71.drewN|apply IsS71.drew|apply IsS71.set_1|apply IsS71.set_2)|exact HI0.out),by repeat (first|(with_reducible first|exact HB.out|apply aZ|apply nZ|apply dZ|refine sZ ?_ (IsS71.ge HI0.out))|exact HB.out),by repeat (first|(with_reducible first|exact HK.out|apply KeepBut.set_|apply keep_drewN|apply keep_drew|apply keep_alloc)|exact HK.out)⟩
 ·rw [if_neg c3] at H
  have c3b0:decide (a1 < 2) = false:=decide_eq_false c3
  clear c3
  by_cases c4:s0_1 < (s0_0.length:Int)
  ·rw [if_pos c4] at H
   have c4b0:decide (s0_1 < (s0_0.length:Int)) = true:=decide_eq_true c4
   clear c4
   by_cases c5:0 ≤ s0_1
   ·rw [if_pos c5] at H
    have c5b0:decide (0 ≤ s0_1) = true:=decide_eq_true c5
    clear c5
    by_cases c6:a1 = 0
    ·rw [if_pos c6] at H
     exact absurd H (by simp)
    ·rw [if_neg c6] at H
     have c6b0:(a1 == 0) = false:=beq_eq_false_iff_ne.mpr c6
     have c6b1:(a1 != 0) = true:=bne_iff_ne.mpr c6
     simp only [Option.some.injEq,Prod.mk.injEq] at H
     obtain⟨rfl,rfl,rfl⟩:=H
     obtain⟨ASz7_0,cSz7_0,HGz7,hgz7,HSz7_0⟩:=HI0.out
     have hcz7_0:=cellS71_0 HGz7
     have hcz7_1:=cellS71_1 HGz7
     have hcz7_2:=cellS71_2 HGz7
     have hfz7_1:=blk_frozen HGz7 1
     have hfz7_2:=blk_frozen HGz7 2
     clear HGz7 hgz7
     have p315:0 ≤ (s0_1:Int):=of_decide_eq_true (by first|(with_reducible assumption)|assumption)
     have q315:s0_1 < (s0_0.length:Int):=of_decide_eq_true (by first|(with_reducible assumption)|assumption)
     obtain⟨ad315,e315,hx315_0⟩:=Kd.at_int HSz7_0 s0_1 p315 q315
     cases e315
     replace hx315_0:=pw_cell_below HB.out hx315_0
     replace p315:=eq_true p315
     replace q315:=eq_true q315
     go_enter Try.func75,Try.ntmps75
     go_wp2
     repeat (go_quiet (fail);try go_wp2)
     go_ret
     exact⟨by first|rfl|(simp [errW_none,errW_some] <;> rfl)|(simp [*,errW_none,errW_some] <;> rfl),by repeat (first|(with_reducible first|exact HI0.out|apply IsS71.alloc|apply IsS71.drewN|apply IsS71.drew|apply IsS71.set_1|apply IsS71.set_2)|exact HI0.out),by repeat (first|(with_reducible first|exact HB.out|apply aZ|apply nZ|apply dZ|refine sZ ?_ (IsS71.ge HI0.out))|exact HB.out),by repeat (first|(with_reducible first|exact HK.out|apply KeepBut.set_|apply keep_drewN|apply keep_drew|apply keep_alloc)|exact HK.out)⟩
   ·rw [if_neg c5] at H
    exact absurd H (by simp)
  ·rw [if_neg c4] at H
   have c4b0:decide (s0_1 < (s0_0.length:Int)) = false:=decide_eq_false c4
   clear c4
   by_cases c8:(s0_0.length:Int) > 0
   ·rw [if_pos c8] at H
    have c8b0:decide (0 < (s0_0.length:Int)) = true:=decide_eq_true c8
    have c8b1:decide (0 < s0_0.length) = true:=decide_eq_true (by omega)
    clear c8
    by_cases c9:(s0_0.length:Int) = 0
    ·rw [if_pos c9] at H
     exact absurd H (by simp)
    ·rw [if_neg c9] at H
     have c9b0:((s0_0.length:Int) == 0) = false:=beq_eq_false_iff_ne.mpr c9
     have c9b1:((s0_0.length:Int) != 0) = true:=bne_iff_ne.mpr c9
     have c9b2:¬ (s0_0 = []):=fun h_=>c9 (by rw [h_];rfl)
     obtain⟨ji10,hji10⟩:∃ j_:Int,(Int.tmod s0_1 (s0_0.length:Int)) = j_:=⟨_,rfl⟩
     replace H:(if 0 ≤ (ji10) then (if (ji10) < (s0_0.length:Int) then (if a1 = 0 then (none) else (some (Int.tmod (wrap64 ((wrap64 (Int.tdiv (Int.tmod (wrap64 ((wrap64 (s0_2 * 1103)) + 12345)) 65521) 7)) + (wrap64 (rd s0_0 (ji10))))) a1,wrap64 (s0_1 + 1),Int.tmod (wrap64 ((wrap64 (s0_2 * 1103)) + 12345)) 65521))) else (none)) else (none)) = some (r1,r2,r3):=by first|(rw [hji10] at H;exact H)|(simp only [hji10] at H ⊢;exact H)
     by_cases c11:0 ≤ (ji10)
     ·rw [if_pos c11] at H
      have c11b0:decide (0 ≤ (ji10)) = true:=decide_eq_true c11
      clear c11
      by_cases c12:(ji10) < (s0_0.length:Int)
      ·rw [if_pos c12] at H
       have c12b0:decide ((ji10) < (s0_0.length:Int)) = true:=decide_eq_true c12
       clear c12
       by_cases c13:a1 = 0
       ·rw [if_pos c13] at H
        exact absurd H (by simp)
       ·rw [if_neg c13] at H
        have c13b0:(a1 == 0) = false:=beq_eq_false_iff_ne.mpr c13
        have c13b1:(a1 != 0) = true:=bne_iff_ne.mpr c13
        simp only [Option.some.injEq,Prod.mk.injEq] at H
        obtain⟨rfl,rfl,rfl⟩:=H
        obtain⟨ASz14_0,cSz14_0,HGz14,hgz14,HSz14_0⟩:=HI0.out
        have hcz14_0:=cellS71_0 HGz14
        have hcz14_1:=cellS71_1 HGz14
        have hcz14_2:=cellS71_2 HGz14
        have hfz14_1:=blk_frozen HGz14 1
        have hfz14_2:=blk_frozen HGz14 2
        clear HGz14 hgz14
        have p316:0 ≤ ((ji10):Int):=of_decide_eq_true (by first|(with_reducible assumption)|assumption)
        have q316:(ji10) < (s0_0.length:Int):=of_decide_eq_true (by first|(with_reducible assumption)|assumption)
        obtain⟨ad316,e316,hx316_0⟩:=Kd.at_int HSz14_0 (ji10) p316 q316
        cases e316
        have hn316_0:ad316.block ≠ g:=Nat.ne_of_lt (Nat.lt_of_lt_of_le (by have:=World.block_lt_of_cell? _ _ hx316_0;first|rwa [add_block] at this|exact this) (IsS71.ge HI0.out))
        replace hx316_0:=pw_cell_below HB.out hx316_0
        replace hx316_0:=(cell_far (p:=⟨g,2,none⟩) (by first|(rw [add_block];exact hn316_0)|(show (Addr.add _ _).block ≠ _;rw [add_block];exact hn316_0)|exact hn316_0) (.int .i64 (Int.tmod (wrap64 ((wrap64 (s0_2 * 1103)) + 12345)) 65521))).trans hx316_0
        (try have hy316_0:=fun (n_:Nat)=>(show (((w.drewN n_).setCell ⟨g,2,none⟩ (.int .i64 (Int.tmod (wrap64 ((wrap64 (s0_2 * 1103)) + 12345)) 65521)))).cell? _ = some _ from hx316_0))
        clear hn316_0
        replace p316:=eq_true p316
        replace q316:=eq_true q316
        go_enter Try.func75,Try.ntmps75
        go_wp2
        repeat (go_quiet (fail);try go_wp2)
        go_ret
        exact⟨by first|rfl|(simp [errW_none,errW_some] <;> rfl)|(simp only [← hji10];first|rfl|(simp [errW_none,errW_some] <;> rfl))|(simp [*,errW_none,errW_some] <;> rfl),by repeat (first|(with_reducible first|exact HI0.out|apply IsS71.alloc|apply IsS71.drewN|apply IsS71.drew|apply IsS71.set_1|apply IsS71.set_2)|exact HI0.out),by repeat (first|(with_reducible first|exact HB.out|apply aZ|apply nZ|apply dZ|refine sZ ?_ (IsS71.ge HI0.out))|exact HB.out),by repeat (first|(with_reducible first|exact HK.out|apply KeepBut.set_|apply keep_drewN|apply keep_drew|apply keep_alloc)|exact HK.out)⟩
      ·rw [if_neg c12] at H
       exact absurd H (by simp)
     ·rw [if_neg c11] at H
      exact absurd H (by simp)
   ·rw [if_neg c8] at H
    have c8b0:decide (0 < (s0_0.length:Int)) = false:=decide_eq_false c8
    have c8b1:decide (0 < s0_0.length) = false:=decide_eq_false (by omega)
    clear c8
    by_cases c15:a1 = 0
    ·rw [if_pos c15] at H
     exact absurd H (by simp)
    ·rw [if_neg c15] at H
     have c15b0:(a1 == 0) = false:=beq_eq_false_iff_ne.mpr c15
     have c15b1:(a1 != 0) = true:=bne_iff_ne.mpr c15
     simp only [Option.some.injEq,Prod.mk.injEq] at H
     obtain⟨rfl,rfl,rfl⟩:=H
     obtain⟨ASz16_0,cSz16_0,HGz16,hgz16,HSz16_0⟩:=HI0.out
     have hcz16_0:=cellS71_0 HGz16
     have hcz16_1:=cellS71_1 HGz16
     have hcz16_2:=cellS71_2 HGz16
     have hfz16_1:=blk_frozen HGz16 1
     have hfz16_2:=blk_frozen HGz16 2
     clear HGz16 hgz16
     go_enter Try.func75,Try.ntmps75
     go_wp2
     repeat (go_quiet (fail);try go_wp2)
     go_ret
     exact⟨by first|rfl|(simp [errW_none,errW_some] <;> rfl)|(simp [*,errW_none,errW_some] <;> rfl),by repeat (first|(with_reducible first|exact HI0.out|apply IsS71.alloc|apply IsS71.drewN|apply IsS71.drew|apply IsS71.set_1|apply IsS71.set_2)|exact HI0.out),by repeat (first|(with_reducible first|exact HB.out|apply aZ|apply nZ|apply dZ|refine sZ ?_ (IsS71.ge HI0.out))|exact HB.out),by repeat (first|(with_reducible first|exact HK.out|apply KeepBut.set_|apply keep_drewN|apply keep_drew|apply keep_alloc)|exact HK.out)⟩

/-! ### spec_l01Cur_size: function 76 -/
def spec_l01Cur_size.f (s0_0 : List Int) (s0_1 : Int) (s0_2 : Int) (a1 : Int) : Option (Int × Int × Int) := (spec_l01Cur_pick.f s0_0 s0_1 s0_2 (wrap64 ((mn a1 (wrap64 (1 + (wrap64 ((s0_0.length : Int) / 8))))) + 1))).bind fun bt317 => (some (bt317.1, bt317.2.1, bt317.2.2))
set_option maxHeartbeats 8000000 in
set_option maxRecDepth 100000 in
theorem spec_l01Cur_size.calls (g : Nat) (s0_0 : List Int) (s0_1 : Int) (s0_2 : Int) (a1 : Int) (r1 : Int) (r2 : Int) (r3 : Int) (w0 w : World) (hI : IsS71 w0 w g s0_0 s0_1 s0_2) (hB : Below w0.heap.size w0 w) (h : spec_l01Cur_size.f s0_0 s0_1 s0_2 a1 = some (r1, r2, r3)) :
  Calls Try.prog 76 #[.pointer (some ⟨g, 0, none⟩), .int .i64 a1] w fun e w' => e = .returned (.int .i64 r1) ∧ IsS71 w0 w' g s0_0 r2 r3 ∧ Below w0.heap.size w0 w' ∧ KeepBut w w' g none := by
 have HI0:=mk0 hI
 have HK:=mk0 (KeepBut.refl w g none)
 have HL:=mk0 hB.size
 clear hI
 have HW0:=mk0 hB.size
 have HB:=mk0 hB
 clear hB
 have H:((spec_l01Cur_pick.f s0_0 s0_1 s0_2 (wrap64 ((mn a1 (wrap64 (1 + (wrap64 ((s0_0.length:Int) / 8))))) + 1))).bind fun bt317=>(some (bt317.1,bt317.2.1,bt317.2.2))) = some (r1,r2,r3):=h
 clear h
 obtain⟨ji3,hji3⟩:∃ j_:Int,(mn a1 (wrap64 (1 + (wrap64 ((s0_0.length:Int) / 8))))) = j_:=⟨_,rfl⟩
 replace H:((spec_l01Cur_pick.f s0_0 s0_1 s0_2 (wrap64 ((ji3) + 1))).bind fun bt317=>(some (bt317.1,bt317.2.1,bt317.2.2))) = some (r1,r2,r3):=by first|(rw [hji3] at H;exact H)|(simp only [hji3] at H ⊢;exact H)
 have hji3_:(if (wrap64 (1 + (wrap64 ((s0_0.length:Int) / 8)))) < a1 then (wrap64 (1 + (wrap64 ((s0_0.length:Int) / 8)))) else a1) = ji3:=hji3
 replace H:=Option.bind_eq_some_iff.mp H
 obtain⟨⟨t317,t318,t319⟩,A40,H⟩:=H
 replace H:(some (t317,t318,t319)) = some (r1,r2,r3):=H
 have A4:=mk0 A40
 clear A40
 simp only [Option.some.injEq,Prod.mk.injEq] at H
 obtain⟨rfl,rfl,rfl⟩:=H
 obtain⟨ASz5_0,cSz5_0,HGz5,hgz5,HSz5_0⟩:=HI0.out
 have hcz5_0:=cellS71_0 HGz5
 have hcz5_1:=cellS71_1 HGz5
 have hcz5_2:=cellS71_2 HGz5
 have hfz5_1:=blk_frozen HGz5 1
 have hfz5_2:=blk_frozen HGz5 2
 clear HGz5 hgz5
 go_enter Try.func76,Try.ntmps76
 go_wp2_with (first|((with_reducible refine gate_callee (f:=75) rfl ?_);refine goesL_ (some 16) rfl rfl Try.func75 (by kernel_rfl) rfl #[.pointer (some ⟨g,0,none⟩),.int .i64 (wrap64 ((ji3) + 1))] rfl (by (try simp only [mA,mC,mN]);first|done|(simp only [hji3];rfl)|rfl|(simp only [lD,lT];done)|(simp only [lD,lT];rfl)) ?_;(with_reducible refine (spec_l01Cur_pick.calls g s0_0 s0_1 s0_2 (wrap64 ((ji3) + 1)) t317 t318 t319 w0 _ ?side1 ?side2 A4.out).mono ?_);(case side1=>repeat (first|(with_reducible first|exact HI0.out|apply IsS71.alloc|apply IsS71.drewN|apply IsS71.drew|apply IsS71.set_1|apply IsS71.set_2)|exact HI0.out));(case side2=>repeat (first|(with_reducible first|exact HB.out|apply aZ|apply nZ|apply dZ|refine sZ ?_ (IsS71.ge HI0.out))|exact HB.out));rintro e w6 ⟨rfl,hi,hb,hk⟩;refine⟨_,rfl,?_⟩;replace HK:=mk0 (KeepBut.trans (by repeat (first|(with_reducible first|exact HK.out|apply KeepBut.set_|apply keep_drewN|apply keep_drew|apply keep_alloc)|exact HK.out)) hk (.inl rfl));replace HB:=mk0 (hb);replace HI0:=mk0 (hi);(try clear hb);(try clear hk);(try clear hi)))
 go_ret
 exact⟨by first|rfl|(simp [errW_none,errW_some] <;> rfl)|(simp only [← hji3];first|rfl|(simp [errW_none,errW_some] <;> rfl))|(simp [*,errW_none,errW_some] <;> rfl),by repeat (first|(with_reducible first|exact HI0.out|apply IsS71.alloc|apply IsS71.drewN|apply IsS71.drew|apply IsS71.set_1|apply IsS71.set_2)|exact HI0.out),by repeat (first|(with_reducible first|exact HB.out|apply aZ|apply nZ|apply dZ|refine sZ ?_ (IsS71.ge HI0.out))|exact HB.out),by repeat (first|(with_reducible first|exact HK.out|apply KeepBut.set_|apply keep_drewN|apply keep_drew|apply keep_alloc)|exact HK.out)⟩

/-! ### spec_l01Cur_once: function 77 -/
def spec_l01Cur_once.f (s0_0 : List Int) (s0_1 : Int) (s0_2 : Int) (a1 : Int) : Option (Bool × Int × Int) := (spec_l01Cur_pick.f s0_0 s0_1 s0_2 a1).bind fun bt320 => (some ((bt320.1 == (wrap64 (a1 - 1))), bt320.2.1, bt320.2.2))
set_option maxHeartbeats 8000000 in
set_option maxRecDepth 100000 in
theorem spec_l01Cur_once.calls (g : Nat) (s0_0 : List Int) (s0_1 : Int) (s0_2 : Int) (a1 : Int) (r1 : Bool) (r2 : Int) (r3 : Int) (w0 w : World) (hI : IsS71 w0 w g s0_0 s0_1 s0_2) (hB : Below w0.heap.size w0 w) (h : spec_l01Cur_once.f s0_0 s0_1 s0_2 a1 = some (r1, r2, r3)) :
  Calls Try.prog 77 #[.pointer (some ⟨g, 0, none⟩), .int .i64 a1] w fun e w' => e = .returned (.bool r1) ∧ IsS71 w0 w' g s0_0 r2 r3 ∧ Below w0.heap.size w0 w' ∧ KeepBut w w' g none := by
 have HI0:=mk0 hI
 have HK:=mk0 (KeepBut.refl w g none)
 have HL:=mk0 hB.size
 clear hI
 have HW0:=mk0 hB.size
 have HB:=mk0 hB
 clear hB
 have H:((spec_l01Cur_pick.f s0_0 s0_1 s0_2 a1).bind fun bt320=>(some ((bt320.1 == (wrap64 (a1 - 1))),bt320.2.1,bt320.2.2))) = some (r1,r2,r3):=h
 clear h
 replace H:=Option.bind_eq_some_iff.mp H
 obtain⟨⟨t320,t321,t322⟩,A30,H⟩:=H
 replace H:(some ((t320 == (wrap64 (a1 - 1))),t321,t322)) = some (r1,r2,r3):=H
 have A3:=mk0 A30
 clear A30
 simp only [Option.some.injEq,Prod.mk.injEq] at H
 obtain⟨rfl,rfl,rfl⟩:=H
 go_enter Try.func77,Try.ntmps77
 go_wp2_with (first|((with_reducible refine gate_callee (f:=75) rfl ?_);refine goesL_ (some 7) rfl rfl Try.func75 (by kernel_rfl) rfl #[.pointer (some ⟨g,0,none⟩),.int .i64 a1] rfl (by (try simp only [mA,mC,mN]);first|done|rfl|(simp only [lD,lT];done)|(simp only [lD,lT];rfl)) ?_;(with_reducible refine (spec_l01Cur_pick.calls g s0_0 s0_1 s0_2 a1 t320 t321 t322 w0 _ ?side1 ?side2 A3.out).mono ?_);(case side1=>repeat (first|(with_reducible first|exact HI0.out|apply IsS71.alloc|apply IsS71.drewN|apply IsS71.drew|apply IsS71.set_1|apply IsS71.set_2)|exact HI0.out));(case side2=>repeat (first|(with_reducible first|exact HB.out|apply aZ|apply nZ|apply dZ|refine sZ ?_ (IsS71.ge HI0.out))|exact HB.out));rintro e w4 ⟨rfl,hi,hb,hk⟩;refine⟨_,rfl,?_⟩;replace HK:=mk0 (KeepBut.trans (by repeat (first|(with_reducible first|exact HK.out|apply KeepBut.set_|apply keep_drewN|apply keep_drew|apply keep_alloc)|exact HK.out)) hk (.inl rfl));replace HB:=mk0 (hb);replace HI0:=mk0 (hi);(try clear hb);(try clear hk);(try clear hi)))
 go_ret
 exact⟨by first|rfl|(simp [errW_none,errW_some] <;> rfl)|(simp [*,errW_none,errW_some] <;> rfl),by repeat (first|(with_reducible first|exact HI0.out|apply IsS71.alloc|apply IsS71.drewN|apply IsS71.drew|apply IsS71.set_1|apply IsS71.set_2)|exact HI0.out),by repeat (first|(with_reducible first|exact HB.out|apply aZ|apply nZ|apply dZ|refine sZ ?_ (IsS71.ge HI0.out))|exact HB.out),by repeat (first|(with_reducible first|exact HK.out|apply KeepBut.set_|apply keep_drewN|apply keep_drew|apply keep_alloc)|exact HK.out)⟩

/-! ### spec_l01Cur_textOf: function 60 -/
mutual
def spec_l01Cur_textOf.l0 : Nat → Int → List Int → ByteArray → Int → List Int → Int → Int → Option (List Int × Int × Int)
 | 0, _, _, _, _, _, _, _ => none
 | k + 1, x1, x5, x6, x7, x1000, x1001, x1002 => if x7 > 0 then (if (x5.length : Int) > 3 then ((spec_l01Cur_once.f x1000 x1001 x1002 6).bind fun bt336 => (spec_l01Cur_textOf.j1 k x1 x5 x6 x7 bt336.1 x1000 bt336.2.1 bt336.2.2)) else (spec_l01Cur_textOf.j1 k x1 x5 x6 x7 false x1000 x1001 x1002)) else (if (x5.length : Int) > x1 then (if 0 ≤ x1 then (if x1 ≤ (x5.length : Int) then (some ((x5.take (x1 : Int).toNat), x1001, x1002)) else (none)) else (none)) else (some (x5, x1001, x1002)))
def spec_l01Cur_textOf.j1 : Nat → Int → List Int → ByteArray → Int → Bool → List Int → Int → Int → Option (List Int × Int × Int)
 | 0, _, _, _, _, _, _, _, _ => none
 | k + 1, x1, x5, x6, x7, x28, x1000, x1001, x1002 => if x28 = true then ((spec_l01Cur_pick.f x1000 x1001 x1002 (x5.length : Int)).bind fun bt339 => ((spec_l01Cur_pick.f x1000 bt339.2.1 bt339.2.2 6).bind fun bt342 => (if 0 ≤ bt339.1 then (if bt339.1 ≤ (mn (x5.length : Int) (wrap64 ((wrap64 (bt339.1 + 1)) + bt342.1))) then (if (mn (x5.length : Int) (wrap64 ((wrap64 (bt339.1 + 1)) + bt342.1))) ≤ (x5.length : Int) then ((some ((x5.take ((mn (x5.length : Int) (wrap64 ((wrap64 (bt339.1 + 1)) + bt342.1))) : Int).toNat).drop (bt339.1 : Int).toNat : List Int)).bind fun y345 => (if x5.length + y345.length < 140737488355328 then (spec_l01Cur_textOf.l0 k x1 (x5 ++ y345) x6 (wrap64 (x7 - 1)) x1000 bt342.2.1 bt342.2.2) else (none))) else (none)) else (none)) else (none)))) else ((spec_l01Cur_pick.f x1000 x1001 x1002 (x6.size : Int)).bind fun bt352 => (if 0 ≤ bt352.1 then (if bt352.1 < (x6.size : Int) then (if x5.length < 140737488355328 then (spec_l01Cur_textOf.l0 k x1 (x5 ++ [bt x6 bt352.1]) x6 (wrap64 (x7 - 1)) x1000 bt352.2.1 bt352.2.2) else (none)) else (none)) else (none)))
end
def spec_l01Cur_textOf.f (k : Nat) (s0_0 : List Int) (s0_1 : Int) (s0_2 : Int) (a1 : Int) : Option (List Int × Int × Int) := (some (([(⟨#[97]⟩ : ByteArray), (⟨#[97, 98]⟩ : ByteArray), (⟨#[97, 98, 99]⟩ : ByteArray), (⟨#[97, 99, 103, 116]⟩ : ByteArray), (⟨#[0, 255]⟩ : ByteArray)] : List ByteArray) : List ByteArray)).bind fun y326 => ((spec_l01Cur_pick.f s0_0 s0_1 s0_2 5).bind fun bt329 => (if 0 ≤ bt329.1 then (if bt329.1 < (y326.length : Int) then ((spec_l01Cur_size.f s0_0 bt329.2.1 bt329.2.2 a1).bind fun bt333 => (spec_l01Cur_textOf.l0 k a1 (([] : List Int)) (rdOf ByteArray.empty y326 bt329.1) bt333.1 s0_0 bt333.2.1 bt333.2.2)) else (none)) else (none)))
theorem spec_l01Cur_textOf.mono_l : ∀ k, (∀ y0 y1 y2 y3 y4 y5 y6, LeO (spec_l01Cur_textOf.l0 k y0 y1 y2 y3 y4 y5 y6) (spec_l01Cur_textOf.l0 (k + 1) y0 y1 y2 y3 y4 y5 y6)) ∧ (∀ y0 y1 y2 y3 y4 y5 y6 y7, LeO (spec_l01Cur_textOf.j1 k y0 y1 y2 y3 y4 y5 y6 y7) (spec_l01Cur_textOf.j1 (k + 1) y0 y1 y2 y3 y4 y5 y6 y7))
 | 0 => ⟨fun _ _ _ _ _ _ _ r h => by simp [spec_l01Cur_textOf.l0] at h, fun _ _ _ _ _ _ _ _ r h => by simp [spec_l01Cur_textOf.j1] at h⟩
 | k + 1 => by
  obtain ⟨ih0, ih1⟩ := spec_l01Cur_textOf.mono_l k
  refine ⟨?_, ?_⟩
  ·intro y0 y1 y2 y3 y4 y5 y6
   unfold spec_l01Cur_textOf.l0
   repeat' first|(with_reducible first|exact ih0 _ _ _ _ _ _ _|exact ih1 _ _ _ _ _ _ _ _|exact LeO.refl _|exact LeO.none _|refine LeO.ite ?_ ?_|refine LeO.bind ?_ (fun _ => ?_))|exact LeO.none _|refine LeO.ite ?_ ?_|refine LeO.bind ?_ (fun _ => ?_)
  ·intro y0 y1 y2 y3 y4 y5 y6 y7
   unfold spec_l01Cur_textOf.j1
   repeat' first|(with_reducible first|exact ih0 _ _ _ _ _ _ _|exact ih1 _ _ _ _ _ _ _ _|exact LeO.refl _|exact LeO.none _|refine LeO.ite ?_ ?_|refine LeO.bind ?_ (fun _ => ?_))|exact LeO.none _|refine LeO.ite ?_ ?_|refine LeO.bind ?_ (fun _ => ?_)
theorem spec_l01Cur_textOf.mono : ∀ a0 a1 a2 a3 k, LeO (spec_l01Cur_textOf.f k a0 a1 a2 a3) (spec_l01Cur_textOf.f (k + 1) a0 a1 a2 a3) := by
 intro a0 a1 a2 a3 k
 obtain ⟨ih0, ih1⟩ := spec_l01Cur_textOf.mono_l k
 unfold spec_l01Cur_textOf.f
 repeat' first|(with_reducible first|exact ih0 _ _ _ _ _ _ _|exact ih1 _ _ _ _ _ _ _ _|exact LeO.refl _|exact LeO.none _|refine LeO.ite ?_ ?_|refine LeO.bind ?_ (fun _ => ?_))|exact LeO.none _|refine LeO.ite ?_ ?_|refine LeO.bind ?_ (fun _ => ?_)
set_option maxHeartbeats 8000000 in
set_option maxRecDepth 100000 in
theorem spec_l01Cur_textOf.calls (k : Nat) (g : Nat) (s0_0 : List Int) (s0_1 : Int) (s0_2 : Int) (a1 : Int) (r1 : List Int) (r2 : Int) (r3 : Int) (w0 w : World) (hI : IsS71 w0 w g s0_0 s0_1 s0_2) (hB : Below w0.heap.size w0 w) (h : spec_l01Cur_textOf.f k s0_0 s0_1 s0_2 a1 = some (r1, r2, r3)) :
  Calls Try.prog 60 #[.pointer (some ⟨g, 0, none⟩), .int .i64 a1] w fun e w' => ∃ v0_ : Value, e = .returned (v0_) ∧ Kd.R (Kd.int .u8) 5 w' w.heap.size (fun _ => True) v0_ r1 ∧ IsS71 w0 w' g s0_0 r2 r3 ∧ Below w0.heap.size w0 w' ∧ KeepBut w w' g none := by
 have HI0:=mk0 hI
 have HK:=mk0 (KeepBut.refl w g none)
 have HL:=mk0 hB.size
 clear hI
 have HW0:=mk0 hB.size
 have HB:=mk0 hB
 clear hB
 have H:((some (([(⟨#[97]⟩:ByteArray),(⟨#[97,98]⟩:ByteArray),(⟨#[97,98,99]⟩:ByteArray),(⟨#[97,99,103,116]⟩:ByteArray),(⟨#[0,255]⟩:ByteArray)]:List ByteArray):List ByteArray)).bind fun y326=>((spec_l01Cur_pick.f s0_0 s0_1 s0_2 5).bind fun bt329=>(if 0 ≤ bt329.1 then (if bt329.1 < (y326.length:Int) then ((spec_l01Cur_size.f s0_0 bt329.2.1 bt329.2.2 a1).bind fun bt333=>(spec_l01Cur_textOf.l0 k a1 (([]:List Int)) (rdOf ByteArray.empty y326 bt329.1) bt333.1 s0_0 bt333.2.1 bt333.2.2)) else (none)) else (none)))) = some (r1,r2,r3):=h
 clear h
 obtain⟨y323,hy323⟩:∃ y_:List Int,y_ = (([]:List Int)):=⟨_,rfl⟩
 replace H:((some (([(⟨#[97]⟩:ByteArray),(⟨#[97,98]⟩:ByteArray),(⟨#[97,98,99]⟩:ByteArray),(⟨#[97,99,103,116]⟩:ByteArray),(⟨#[0,255]⟩:ByteArray)]:List ByteArray):List ByteArray)).bind fun y326=>((spec_l01Cur_pick.f s0_0 s0_1 s0_2 5).bind fun bt329=>(if 0 ≤ bt329.1 then (if bt329.1 < (y326.length:Int) then ((spec_l01Cur_size.f s0_0 bt329.2.1 bt329.2.2 a1).bind fun bt333=>(spec_l01Cur_textOf.l0 k a1 y323 (rdOf ByteArray.empty y326 bt329.1) bt333.1 s0_0 bt333.2.1 bt333.2.2)) else (none)) else (none)))) = some (r1,r2,r3):=by first|(rw [hy323];with_reducible exact H)|(have H2_:=(Option.bind_some _ _).symm.trans H;rw [hy323];with_reducible exact H2_)|(have H2_:=(Option.bind_some _ _).symm.trans H;with_reducible exact H2_)|with_reducible exact H|(rw [hy323];exact H)|exact H
 have Ny323:=mk0 hy323
 clear hy323
 obtain⟨y326,hy326⟩:∃ y_:List ByteArray,y_ = (([(⟨#[97]⟩:ByteArray),(⟨#[97,98]⟩:ByteArray),(⟨#[97,98,99]⟩:ByteArray),(⟨#[97,99,103,116]⟩:ByteArray),(⟨#[0,255]⟩:ByteArray)]:List ByteArray)):=⟨_,rfl⟩
 replace H:((spec_l01Cur_pick.f s0_0 s0_1 s0_2 5).bind fun bt329=>(if 0 ≤ bt329.1 then (if bt329.1 < (y326.length:Int) then ((spec_l01Cur_size.f s0_0 bt329.2.1 bt329.2.2 a1).bind fun bt333=>(spec_l01Cur_textOf.l0 k a1 y323 (rdOf ByteArray.empty y326 bt329.1) bt333.1 s0_0 bt333.2.1 bt333.2.2)) else (none)) else (none))) = some (r1,r2,r3):=by first|(rw [hy326];with_reducible exact H)|(have H2_:=(Option.bind_some _ _).symm.trans H;rw [hy326];with_reducible exact H2_)|(have H2_:=(Option.bind_some _ _).symm.trans H;with_reducible exact H2_)|with_reducible exact H|(rw [hy326];exact H)|exact H
 have Ny326:=mk0 hy326
 clear hy326
 replace H:=Option.bind_eq_some_iff.mp H
 obtain⟨⟨t329,t330,t331⟩,A30,H⟩:=H
 replace H:(if 0 ≤ t329 then (if t329 < (y326.length:Int) then ((spec_l01Cur_size.f s0_0 t330 t331 a1).bind fun bt333=>(spec_l01Cur_textOf.l0 k a1 y323 (rdOf ByteArray.empty y326 t329) bt333.1 s0_0 bt333.2.1 bt333.2.2)) else (none)) else (none)) = some (r1,r2,r3):=H
 have A3:=mk0 A30
 clear A30
 by_cases c4:0 ≤ t329
 rotate_left
 ·rw [if_neg c4] at H
  exact absurd H (by simp)

 rw [if_pos c4] at H
 have c4b0:decide (0 ≤ t329) = true:=decide_eq_true c4
 clear c4
 by_cases c5:t329 < (y326.length:Int)
 rotate_left
 ·rw [if_neg c5] at H
  exact absurd H (by simp)
 rw [if_pos c5] at H
 have c5b0:decide (t329 < (y326.length:Int)) = true:=decide_eq_true c5
 clear c5
 replace H:=Option.bind_eq_some_iff.mp H
 obtain⟨⟨t333,t334,t335⟩,A60,H⟩:=H
 replace H:(spec_l01Cur_textOf.l0 k a1 y323 (rdOf ByteArray.empty y326 t329) t333 s0_0 t334 t335) = some (r1,r2,r3):=H
 have A6:=mk0 A60
 clear A60
 have H':=mk0 H
 clear H
 go_enter Try.func60,Try.ntmps60
 go_wp2_with (first|((with_reducible refine gate_dst (N:=9) rfl ?_);refine Kd.R_lit (Kd.int .u8) _ 5 ?hg (N:=9) ?hd (xs:=([]:List Int)) (inner:=[]) (ok:=fun _=>True) (okp:=fun _=>True) ?hr ?hp (fun _ hk=>hk) trivial (Below.refl _ _) (Nat.le_refl _) (by simp) ?_;(case hd=>rfl);(case hg=>rfl);(case hr=>first|(go_simp;done)|(go_simp;rfl));(case hp=>exact (Reps.none _ _));intro v324 w7 ho8 hb hg_ hnew_;clear hg_ hnew_;(first|rw [← Ny323.out] at ho8|(simp only [Int.reduceToNat] at ho8;rw [← Ny323.out] at ho8));have HO325:=mk0 (Kd.R_lower ho8 (keep_size (w:=w) (g:=g) (row:=none) (by repeat (first|(with_reducible first|exact HK.out|apply KeepBut.set_|apply keep_drewN|apply keep_drew|apply keep_alloc)|exact HK.out))));replace HK:=mk0 (KeepBut.trans (by repeat (first|(with_reducible first|exact HK.out|apply KeepBut.set_|apply keep_drewN|apply keep_drew|apply keep_alloc)|exact HK.out)) (KeepBut.of_below hb g none) (.inl rfl));replace HB:=mk0 (below_step (by repeat (first|(with_reducible first|exact HB.out|apply aZ|apply nZ|apply dZ|refine sZ ?_ (IsS71.ge HI0.out))|exact HB.out)) hb);replace HI0:=mk0 (IsS71.below (by repeat (first|(with_reducible first|exact HI0.out|apply IsS71.alloc|apply IsS71.drewN|apply IsS71.drew|apply IsS71.set_1|apply IsS71.set_2)|exact HI0.out)) hb);clear hb ho8)|((with_reducible refine gate_dst (N:=10) rfl ?_);refine Kd.R_lit Kd.string _ 9 ?hg (N:=10) ?hd (xs:=([(⟨#[97]⟩:ByteArray),(⟨#[97,98]⟩:ByteArray),(⟨#[97,98,99]⟩:ByteArray),(⟨#[97,99,103,116]⟩:ByteArray),(⟨#[0,255]⟩:ByteArray)]:List ByteArray)) (inner:=[.string (⟨#[97]⟩:ByteArray),.string (⟨#[97,98]⟩:ByteArray),.string (⟨#[97,98,99]⟩:ByteArray),.string (⟨#[97,99,103,116]⟩:ByteArray),.string (⟨#[0,255]⟩:ByteArray)]) (ok:=fun _=>True) (okp:=fun _=>True) ?hr ?hp (fun _ hk=>hk) trivial (Below.refl _ _) (Nat.le_refl _) (by simp) ?_;(case hd=>rfl);(case hg=>rfl);(case hr=>first|(go_simp;done)|(go_simp;rfl));(case hp=>exact (Reps.one (show Kd.M Kd.string _ _ _ (⟨#[97]⟩:ByteArray) [.string (⟨#[97]⟩:ByteArray)] from rfl) (Reps.one (show Kd.M Kd.string _ _ _ (⟨#[97,98]⟩:ByteArray) [.string (⟨#[97,98]⟩:ByteArray)] from rfl) (Reps.one (show Kd.M Kd.string _ _ _ (⟨#[97,98,99]⟩:ByteArray) [.string (⟨#[97,98,99]⟩:ByteArray)] from rfl) (Reps.one (show Kd.M Kd.string _ _ _ (⟨#[97,99,103,116]⟩:ByteArray) [.string (⟨#[97,99,103,116]⟩:ByteArray)] from rfl) (Reps.one (show Kd.M Kd.string _ _ _ (⟨#[0,255]⟩:ByteArray) [.string (⟨#[0,255]⟩:ByteArray)] from rfl) (Reps.none _ _)))))));intro v327 w9 ho10 hb hg_ hnew_;clear hg_ hnew_;(first|rw [← Ny326.out] at ho10|(simp only [Int.reduceToNat] at ho10;rw [← Ny326.out] at ho10));replace HO325:=mk0 (bR HO325.out hb);have HO328:=mk0 (Kd.R_lower ho10 (keep_size (w:=w) (g:=g) (row:=none) (by repeat (first|(with_reducible first|exact HK.out|apply KeepBut.set_|apply keep_drewN|apply keep_drew|apply keep_alloc)|exact HK.out))));replace HK:=mk0 (KeepBut.trans (by repeat (first|(with_reducible first|exact HK.out|apply KeepBut.set_|apply keep_drewN|apply keep_drew|apply keep_alloc)|exact HK.out)) (KeepBut.of_below hb g none) (.inl rfl));replace HB:=mk0 (below_step (by repeat (first|(with_reducible first|exact HB.out|apply aZ|apply nZ|apply dZ|refine sZ ?_ (IsS71.ge HI0.out))|exact HB.out)) hb);replace HI0:=mk0 (IsS71.below (by repeat (first|(with_reducible first|exact HI0.out|apply IsS71.alloc|apply IsS71.drewN|apply IsS71.drew|apply IsS71.set_1|apply IsS71.set_2)|exact HI0.out)) hb);clear hb ho10)|((with_reducible refine gate_callee (f:=75) rfl ?_);refine goesL_ (some 12) rfl rfl Try.func75 (by kernel_rfl) rfl #[.pointer (some ⟨g,0,none⟩),.int .i64 5] rfl (by (try simp only [mA,mC,mN]);first|done|rfl|(simp only [lD,lT];done)|(simp only [lD,lT];rfl)) ?_;(with_reducible refine (spec_l01Cur_pick.calls g s0_0 s0_1 s0_2 5 t329 t330 t331 w0 _ ?side1 ?side2 A3.out).mono ?_);(case side1=>repeat (first|(with_reducible first|exact HI0.out|apply IsS71.alloc|apply IsS71.drewN|apply IsS71.drew|apply IsS71.set_1|apply IsS71.set_2)|exact HI0.out));(case side2=>repeat (first|(with_reducible first|exact HB.out|apply aZ|apply nZ|apply dZ|refine sZ ?_ (IsS71.ge HI0.out))|exact HB.out));rintro e w11 ⟨rfl,hi,hb,hk⟩;refine⟨_,rfl,?_⟩;replace HO325:=mk0 (Kd.R_mono (Kd.R_keep (IsS71.apart (show IsS71 w0 _ g s0_0 s0_1 s0_2 from by repeat (first|(with_reducible first|exact HI0.out|apply IsS71.alloc|apply IsS71.drewN|apply IsS71.drew|apply IsS71.set_1|apply IsS71.set_2)|exact HI0.out)) (rR HO325.out) (by decide)) hk (fun _ h=>h.2)) (fun _ h=>h.1));replace HO328:=mk0 (Kd.R_mono (Kd.R_keep (IsS71.apart (show IsS71 w0 _ g s0_0 s0_1 s0_2 from by repeat (first|(with_reducible first|exact HI0.out|apply IsS71.alloc|apply IsS71.drewN|apply IsS71.drew|apply IsS71.set_1|apply IsS71.set_2)|exact HI0.out)) (rR HO328.out) (by decide)) hk (fun _ h=>h.2)) (fun _ h=>h.1));replace HK:=mk0 (KeepBut.trans (by repeat (first|(with_reducible first|exact HK.out|apply KeepBut.set_|apply keep_drewN|apply keep_drew|apply keep_alloc)|exact HK.out)) hk (.inl rfl));replace HB:=mk0 (hb);replace HI0:=mk0 (hi);(try clear hb);(try clear hk);(try clear hi);obtain⟨Ao12,co12,eo12⟩:=Kd.R_slice HO328.out;subst eo12;have p332:0 ≤ (t329:Int):=of_decide_eq_true (by first|(with_reducible assumption)|assumption);have q332:t329 < (y326.length:Int):=of_decide_eq_true (by first|(with_reducible assumption)|assumption);obtain⟨ad332,e332,hx332_0⟩:=Kd.at_string (Kd.R_reads' HO328.out).2.2 t329 p332 q332;cases e332;replace p332:=eq_true p332;replace q332:=eq_true q332)|((with_reducible refine gate_callee (f:=76) rfl ?_);refine goesL_ (some 17) rfl rfl Try.func76 (by kernel_rfl) rfl #[.pointer (some ⟨g,0,none⟩),.int .i64 a1] rfl (by (try simp only [mA,mC,mN]);first|done|rfl|(simp only [lD,lT];done)|(simp only [lD,lT];rfl)) ?_;(with_reducible refine (spec_l01Cur_size.calls g s0_0 t330 t331 a1 t333 t334 t335 w0 _ ?side1 ?side2 A6.out).mono ?_);(case side1=>repeat (first|(with_reducible first|exact HI0.out|apply IsS71.alloc|apply IsS71.drewN|apply IsS71.drew|apply IsS71.set_1|apply IsS71.set_2)|exact HI0.out));(case side2=>repeat (first|(with_reducible first|exact HB.out|apply aZ|apply nZ|apply dZ|refine sZ ?_ (IsS71.ge HI0.out))|exact HB.out));rintro e w13 ⟨rfl,hi,hb,hk⟩;refine⟨_,rfl,?_⟩;replace HO325:=mk0 (Kd.R_mono (Kd.R_keep (IsS71.apart (show IsS71 w0 _ g s0_0 t330 t331 from by repeat (first|(with_reducible first|exact HI0.out|apply IsS71.alloc|apply IsS71.drewN|apply IsS71.drew|apply IsS71.set_1|apply IsS71.set_2)|exact HI0.out)) (rR HO325.out) (by decide)) hk (fun _ h=>h.2)) (fun _ h=>h.1));replace HO328:=mk0 (Kd.R_mono (Kd.R_keep (IsS71.apart (show IsS71 w0 _ g s0_0 t330 t331 from by repeat (first|(with_reducible first|exact HI0.out|apply IsS71.alloc|apply IsS71.drewN|apply IsS71.drew|apply IsS71.set_1|apply IsS71.set_2)|exact HI0.out)) (rR HO328.out) (by decide)) hk (fun _ h=>h.2)) (fun _ h=>h.1));replace HK:=mk0 (KeepBut.trans (by repeat (first|(with_reducible first|exact HK.out|apply KeepBut.set_|apply keep_drewN|apply keep_drew|apply keep_alloc)|exact HK.out)) hk (.inl rfl));replace HB:=mk0 (hb);replace HI0:=mk0 (hi);(try clear hb);(try clear hk);(try clear hi)))
 go_loopg [5,7] k (fun kq v5 v7 w'=>∃ (x5_1:List Int) (x7_1:Int) (x1001_1:Int) (x1002_1:Int),v7 = .int .i64 x7_1 ∧ Aside0 (spec_l01Cur_textOf.l0 kq a1 x5_1 (rdOf ByteArray.empty y326 t329) x7_1 s0_0 x1001_1 x1002_1 = some (r1,r2,r3)) ∧ Aside0 (kq ≤ k) ∧ Aside0 (Kd.R (Kd.int .u8) 5 w' w.heap.size (fun _=>True) v5 x5_1) ∧ Aside0 (IsS71 w0 w' g s0_0 x1001_1 x1002_1) ∧ Aside0 (KeepBut w w' g none) ∧ Aside0 (Below w0.heap.size w0 w'))
 case atStart=>exact⟨(y323),(t333),(t334),(t335),(by first|rfl|(simp;done)|(simp [*];done)),H',⟨Nat.le_refl _⟩,⟨rR HO325.out⟩,⟨by repeat (first|(with_reducible first|exact HI0.out|apply IsS71.alloc|apply IsS71.drewN|apply IsS71.drew|apply IsS71.set_1|apply IsS71.set_2)|exact HI0.out)⟩,⟨by repeat (first|(with_reducible first|exact HK.out|apply KeepBut.set_|apply keep_drewN|apply keep_drew|apply keep_alloc)|exact HK.out)⟩,⟨by repeat (first|(with_reducible first|exact HB.out|apply aZ|apply nZ|apply dZ|refine sZ ?_ (IsS71.ge HI0.out))|exact HB.out)⟩⟩
 case round =>
  clear H'
  try clear p2
  try clear p3
  try clear q3
  try clear hx3
  try clear c4
  try clear c4b0
  try clear c5
  try clear c5b0
  try clear c6
  try clear c7
  try clear hx332_0
  try clear p332
  try clear q332
  obtain⟨x5_1,x7_1,x1001_1,x1002_1,rfl,HA,HK1,HO_5,HI0,HK,HB⟩:=hrel
  cases gk with
  | zero=>exact absurd HA.out (by simp [spec_l01Cur_textOf.l0])
  | succ k1 =>
   have H:=HA.out
   clear HA
   simp only [spec_l01Cur_textOf.l0] at H
   by_cases c14:x7_1 > 0
   rotate_left
   ·rw [if_neg c14] at H
    have c14b0:decide (0 < x7_1) = false:=decide_eq_false c14
    clear c14
    by_cases c41:(x5_1.length:Int) > a1
    rotate_left
    ·rw [if_neg c41] at H
     have c41b0:decide (a1 < (x5_1.length:Int)) = false:=decide_eq_false c41
     clear c41
     simp only [Option.some.injEq,Prod.mk.injEq] at H
     obtain⟨rfl,rfl,rfl⟩:=H
     obtain⟨Ao46,co46,eo46⟩:=Kd.R_slice HO_5.out
     subst eo46
     go_wp2
     go_ret
     exact⟨_,by first|rfl|(simp [errW_none,errW_some] <;> rfl)|(simp [*,errW_none,errW_some] <;> rfl),rR HO_5.out,by repeat (first|(with_reducible first|exact HI0.out|apply IsS71.alloc|apply IsS71.drewN|apply IsS71.drew|apply IsS71.set_1|apply IsS71.set_2)|exact HI0.out),by repeat (first|(with_reducible first|exact HB.out|apply aZ|apply nZ|apply dZ|refine sZ ?_ (IsS71.ge HI0.out))|exact HB.out),by repeat (first|(with_reducible first|exact HK.out|apply KeepBut.set_|apply keep_drewN|apply keep_drew|apply keep_alloc)|exact HK.out)⟩
    rw [if_pos c41] at H
    have c41b0:decide (a1 < (x5_1.length:Int)) = true:=decide_eq_true c41
    clear c41
    by_cases c42:0 ≤ a1
    rotate_left
    ·rw [if_neg c42] at H
     exact absurd H (by simp)
    rw [if_pos c42] at H
    have c42b0:=eq_true c42
    have c42b1:decide (0 ≤ a1) = true:=decide_eq_true c42
    clear c42
    by_cases c43:a1 ≤ (x5_1.length:Int)
    rotate_left
    ·rw [if_neg c43] at H
     exact absurd H (by simp)
    rw [if_pos c43] at H
    have c43b0:=eq_true c43
    have c43b1:decide (a1 ≤ (x5_1.length:Int)) = true:=decide_eq_true c43
    clear c43
    obtain⟨y358,hy358⟩:∃ y_:List Int,y_ = (x5_1.take (a1:Int).toNat):=⟨_,rfl⟩
    replace H:(some (y358,x1001_1,x1002_1)) = some (r1,r2,r3):=by first|(rw [hy358];with_reducible exact H)|(have H2_:=(Option.bind_some _ _).symm.trans H;rw [hy358];with_reducible exact H2_)|(have H2_:=(Option.bind_some _ _).symm.trans H;with_reducible exact H2_)|with_reducible exact H|(rw [hy358];exact H)|exact H
    have Ny358:=mk0 hy358
    clear hy358
    simp only [Option.some.injEq,Prod.mk.injEq] at H
    obtain⟨rfl,rfl,rfl⟩:=H
    obtain⟨Ao44,co44,eo44⟩:=Kd.R_slice HO_5.out
    subst eo44
    have q45:(a1:Int) ≤ ((x5_1.length:Int):Int):=of_decide_eq_true (by first|(with_reducible assumption)|assumption)
    obtain⟨i045,hi045,_,hsz45,_⟩:=info_parts info5
    have hcut45:=cut_to (P:=Try.prog) 22 5 .i64 Try.underlying22 hi045 Ao44 x5_1.length co44 a1 (of_decide_eq_true (by first|(with_reducible assumption)|assumption)) q45 (Kd.R_reads' HO_5.out).2.1
    have hr45:=Kd.R_take (m:=(a1:Int).toNat) HO_5.out (by omega)
    have hy45:y358.length = (a1:Int).toNat:=(by rw [Ny358.out,List.length_take];omega)
    rw [← Ny358.out] at hr45
    rw [← hy45] at hr45 hcut45
    clear hy45 hi045 hsz45 HO_5
    have HO360:=mk0 hr45
    clear hr45
    replace q45:=eq_true q45
    go_wp2
    go_ret
    exact⟨_,by first|rfl|(simp [errW_none,errW_some] <;> rfl)|(simp [*,errW_none,errW_some] <;> rfl),rR HO360.out,by repeat (first|(with_reducible first|exact HI0.out|apply IsS71.alloc|apply IsS71.drewN|apply IsS71.drew|apply IsS71.set_1|apply IsS71.set_2)|exact HI0.out),by repeat (first|(with_reducible first|exact HB.out|apply aZ|apply nZ|apply dZ|refine sZ ?_ (IsS71.ge HI0.out))|exact HB.out),by repeat (first|(with_reducible first|exact HK.out|apply KeepBut.set_|apply keep_drewN|apply keep_drew|apply keep_alloc)|exact HK.out)⟩
   rw [if_pos c14] at H
   have c14b0:decide (0 < x7_1) = true:=decide_eq_true c14
   clear c14
   have HC15:=mk0 H
   clear H
   go_upto_region 6 with (fail)
   go_cut [28] (fun v28 wc=>∃ (kq:Nat) (x28_14:Bool) (x1001_14:Int) (x1002_14:Int),v28 = .bool x28_14 ∧ Aside0 (spec_l01Cur_textOf.j1 kq a1 x5_1 (rdOf ByteArray.empty y326 t329) x7_1 x28_14 s0_0 x1001_14 x1002_14 = some (r1,r2,r3)) ∧ Aside0 (kq ≤ k1) ∧ Aside0 (Kd.R (Kd.int .u8) 5 wc w.heap.size (fun _=>True) u5 x5_1) ∧ Aside0 (IsS71 w0 wc g s0_0 x1001_14 x1002_14) ∧ Aside0 (KeepBut w wc g none) ∧ Aside0 (Below w0.heap.size w0 wc))
   case first =>
    have H:=HC15.out
    clear HC15
    by_cases c16:(x5_1.length:Int) > 3
    rotate_left
    ·rw [if_neg c16] at H
     have c16b0:decide (3 < (x5_1.length:Int)) = false:=decide_eq_false c16
     have c16b1:decide (3 < x5_1.length) = false:=decide_eq_false (by omega)
     clear c16
     (first|rw [c16b0]|(simp only [i64_w,i32_w];rw [c16b0])|skip)
     have H':=mk0 H
     clear H
     obtain⟨Ao20,co20,eo20⟩:=Kd.R_slice HO_5.out
     subst eo20
     go_wp2
     go_meet
     case rel=>exact⟨_,(false),(x1001_1),(x1002_1),(by first|rfl|(simp;done)|(simp [*];done)),H',⟨by have:=HK1.out;first|omega|exact Nat.le_refl _⟩,⟨rR HO_5.out⟩,⟨by repeat (first|(with_reducible first|exact HI0.out|apply IsS71.alloc|apply IsS71.drewN|apply IsS71.drew|apply IsS71.set_1|apply IsS71.set_2)|exact HI0.out)⟩,⟨by repeat (first|(with_reducible first|exact HK.out|apply KeepBut.set_|apply keep_drewN|apply keep_drew|apply keep_alloc)|exact HK.out)⟩,⟨by repeat (first|(with_reducible first|exact HB.out|apply aZ|apply nZ|apply dZ|refine sZ ?_ (IsS71.ge HI0.out))|exact HB.out)⟩⟩
    rw [if_pos c16] at H
    have c16b0:decide (3 < (x5_1.length:Int)) = true:=decide_eq_true c16
    have c16b1:decide (3 < x5_1.length) = true:=decide_eq_true (by omega)
    clear c16
    (first|rw [c16b0]|(simp only [i64_w,i32_w];rw [c16b0])|skip)
    replace H:=Option.bind_eq_some_iff.mp H
    obtain⟨⟨t336,t337,t338⟩,A170,H⟩:=H
    replace H:(spec_l01Cur_textOf.j1 k1 a1 x5_1 (rdOf ByteArray.empty y326 t329) x7_1 t336 s0_0 t337 t338) = some (r1,r2,r3):=H
    have A17:=mk0 A170
    clear A170
    have H':=mk0 H
    clear H
    obtain⟨Ao18,co18,eo18⟩:=Kd.R_slice HO_5.out
    subst eo18
    go_wp2_with (first|(go_at_call 77;(with_reducible refine (spec_l01Cur_once.calls g s0_0 x1001_1 x1002_1 6 t336 t337 t338 w0 _ ?side1 ?side2 A17.out).mono ?_);(case side1=>repeat (first|(with_reducible first|exact HI0.out|apply IsS71.alloc|apply IsS71.drewN|apply IsS71.drew|apply IsS71.set_1|apply IsS71.set_2)|exact HI0.out));(case side2=>repeat (first|(with_reducible first|exact HB.out|apply aZ|apply nZ|apply dZ|refine sZ ?_ (IsS71.ge HI0.out))|exact HB.out));rintro e w19 ⟨rfl,hi,hb,hk⟩;replace HO_5:=mk0 (Kd.R_mono (Kd.R_keep (IsS71.apart (show IsS71 w0 _ g s0_0 x1001_1 x1002_1 from by repeat (first|(with_reducible first|exact HI0.out|apply IsS71.alloc|apply IsS71.drewN|apply IsS71.drew|apply IsS71.set_1|apply IsS71.set_2)|exact HI0.out)) (rR HO_5.out) (by decide)) hk (fun _ h=>h.2)) (fun _ h=>h.1));replace HK:=mk0 (KeepBut.trans (by repeat (first|(with_reducible first|exact HK.out|apply KeepBut.set_|apply keep_drewN|apply keep_drew|apply keep_alloc)|exact HK.out)) hk (.inl rfl));replace HB:=mk0 (hb);replace HI0:=mk0 (hi);(try clear hb);(try clear hk);(try clear hi)))
    go_meet
    case rel=>exact⟨_,(t336),(t337),(t338),(by first|rfl|(simp;done)|(simp [*];done)),H',⟨by have:=HK1.out;first|omega|exact Nat.le_refl _⟩,⟨rR HO_5.out⟩,⟨by repeat (first|(with_reducible first|exact HI0.out|apply IsS71.alloc|apply IsS71.drewN|apply IsS71.drew|apply IsS71.set_1|apply IsS71.set_2)|exact HI0.out)⟩,⟨by repeat (first|(with_reducible first|exact HK.out|apply KeepBut.set_|apply keep_drewN|apply keep_drew|apply keep_alloc)|exact HK.out)⟩,⟨by repeat (first|(with_reducible first|exact HB.out|apply aZ|apply nZ|apply dZ|refine sZ ?_ (IsS71.ge HI0.out))|exact HB.out)⟩⟩
   case rest =>
    clear HC15
    try clear c1
    try clear p2
    try clear p3
    try clear q3
    try clear hx3
    try clear c4
    try clear c4b0
    try clear c5
    try clear c5b0
    try clear c6
    try clear c7
    try clear c14
    try clear c14b0
    try clear c16
    try clear c16b0
    try clear c16b1
    try clear hx332_0
    try clear p2
    try clear p3
    try clear p332
    try clear q3
    try clear q332
    obtain⟨kq,x28_14,x1001_14,x1002_14,rfl,HA,HJ14,HO_5,HI0,HK,HB⟩:=hcut
    cases kq with
    | zero=>exact absurd HA.out (by simp [spec_l01Cur_textOf.j1])
    | succ kj14 =>
     have H:=HA.out
     clear HA
     simp only [spec_l01Cur_textOf.j1] at H
     by_cases c21:x28_14 = true
     rotate_left
     ·replace c21:=Bool.eq_false_iff.mpr c21
      subst c21
      have H1:((spec_l01Cur_pick.f s0_0 x1001_14 x1002_14 ((rdOf ByteArray.empty y326 t329).size:Int)).bind fun bt352=>(if 0 ≤ bt352.1 then (if bt352.1 < ((rdOf ByteArray.empty y326 t329).size:Int) then (if x5_1.length < 140737488355328 then (spec_l01Cur_textOf.l0 kj14 a1 (x5_1 ++ [bt (rdOf ByteArray.empty y326 t329) bt352.1]) (rdOf ByteArray.empty y326 t329) (wrap64 (x7_1 - 1)) s0_0 bt352.2.1 bt352.2.2) else (none)) else (none)) else (none))) = some (r1,r2,r3):=by rw [if_neg (show ¬ (false = true) by decide)] at H;exact H
      clear H
      have H:=H1
      clear H1
      replace H:=Option.bind_eq_some_iff.mp H
      obtain⟨⟨t352,t353,t354⟩,A340,H⟩:=H
      replace H:(if 0 ≤ t352 then (if t352 < ((rdOf ByteArray.empty y326 t329).size:Int) then (if x5_1.length < 140737488355328 then (spec_l01Cur_textOf.l0 kj14 a1 (x5_1 ++ [bt (rdOf ByteArray.empty y326 t329) t352]) (rdOf ByteArray.empty y326 t329) (wrap64 (x7_1 - 1)) s0_0 t353 t354) else (none)) else (none)) else (none)) = some (r1,r2,r3):=H
      have A34:=mk0 A340
      clear A340
      by_cases c35:0 ≤ t352
      rotate_left
      ·rw [if_neg c35] at H
       exact absurd H (by simp)
      rw [if_pos c35] at H
      have c35b0:decide (0 ≤ t352) = true:=decide_eq_true c35
      clear c35
      by_cases c36:t352 < ((rdOf ByteArray.empty y326 t329).size:Int)
      rotate_left
      ·rw [if_neg c36] at H
       exact absurd H (by simp)
      rw [if_pos c36] at H
      have c36b0:decide (t352 < ((rdOf ByteArray.empty y326 t329).size:Int)) = true:=decide_eq_true c36
      clear c36
      by_cases c38:x5_1.length < 140737488355328
      rotate_left
      ·rw [if_neg c38] at H
       exact absurd H (by simp)
      rw [if_pos c38] at H
      have LMc38:=mk0 c38
      clear c38
      obtain⟨y355,hy355⟩:∃ y_:List Int,y_ = (x5_1 ++ [bt (rdOf ByteArray.empty y326 t329) t352]):=⟨_,rfl⟩
      replace H:(spec_l01Cur_textOf.l0 kj14 a1 y355 (rdOf ByteArray.empty y326 t329) (wrap64 (x7_1 - 1)) s0_0 t353 t354) = some (r1,r2,r3):=by first|(rw [hy355];with_reducible exact H)|(have H2_:=(Option.bind_some _ _).symm.trans H;rw [hy355];with_reducible exact H2_)|(have H2_:=(Option.bind_some _ _).symm.trans H;with_reducible exact H2_)|with_reducible exact H|(rw [hy355];exact H)|exact H
      have Ny355:=mk0 hy355
      clear hy355
      have H':=mk0 H
      clear H
      go_wp2_with (first|((with_reducible refine gate_callee (f:=75) rfl ?_);refine goesL_ (some 51) rfl rfl Try.func75 (by kernel_rfl) rfl #[.pointer (some ⟨g,0,none⟩),.int .i64 ((rdOf ByteArray.empty y326 t329).size:Int)] rfl (by (try simp only [mA,mC,mN]);first|done|rfl|(simp only [lD,lT];done)|(simp only [lD,lT];rfl)) ?_;(with_reducible refine (spec_l01Cur_pick.calls g s0_0 x1001_14 x1002_14 ((rdOf ByteArray.empty y326 t329).size:Int) t352 t353 t354 w0 _ ?side1 ?side2 A34.out).mono ?_);(case side1=>repeat (first|(with_reducible first|exact HI0.out|apply IsS71.alloc|apply IsS71.drewN|apply IsS71.drew|apply IsS71.set_1|apply IsS71.set_2)|exact HI0.out));(case side2=>repeat (first|(with_reducible first|exact HB.out|apply aZ|apply nZ|apply dZ|refine sZ ?_ (IsS71.ge HI0.out))|exact HB.out));rintro e w39 ⟨rfl,hi,hb,hk⟩;refine⟨_,rfl,?_⟩;replace HO_5:=mk0 (Kd.R_mono (Kd.R_keep (IsS71.apart (show IsS71 w0 _ g s0_0 x1001_14 x1002_14 from by repeat (first|(with_reducible first|exact HI0.out|apply IsS71.alloc|apply IsS71.drewN|apply IsS71.drew|apply IsS71.set_1|apply IsS71.set_2)|exact HI0.out)) (rR HO_5.out) (by decide)) hk (fun _ h=>h.2)) (fun _ h=>h.1));replace HK:=mk0 (KeepBut.trans (by repeat (first|(with_reducible first|exact HK.out|apply KeepBut.set_|apply keep_drewN|apply keep_drew|apply keep_alloc)|exact HK.out)) hk (.inl rfl));replace HB:=mk0 (hb);replace HI0:=mk0 (hi);(try clear hb);(try clear hk);(try clear hi);have p37:0 ≤ (t352:Int):=of_decide_eq_true (by first|(with_reducible assumption)|assumption);have q37:t352 < ((rdOf ByteArray.empty y326 t329).size:Int):=of_decide_eq_true (by first|(with_reducible assumption)|assumption);have hx37:=bt_at (rdOf ByteArray.empty y326 t329) t352;replace p37:=eq_true p37;replace q37:=eq_true q37)|((with_reducible refine gate_builtin (b:=.append) (xs:=#[.tmp 46,.tmp 53]) rfl ?_);at_builtin;refine Kd.R_append (Kd.int .u8) w.heap.size rfl (.tmp 46) (.tmp 53) 22 5 (.int .u8 0) 1 rfl Try.underlying22 info5 rfl (by decide) (by omega) u5 x5_1 (bt (rdOf ByteArray.empty y326 t329) t352) [.int .u8 (bt (rdOf ByteArray.empty y326 t329) t352)] (fun _=>True) (fun _=>False) rfl rfl ?aP (fun _ hk=>hk.elim) ?aF ?aO (Below.refl _ _) ?aS ?aL ?_;(case aP=>exact rfl);(case aF=>exact (fun _ _=>trivial));(case aO=>exact (rR HO_5.out));(case aS=>exact (keep_size (w:=w) (g:=g) (row:=none) (by repeat (first|(with_reducible first|exact HK.out|apply KeepBut.set_|apply keep_drewN|apply keep_drew|apply keep_alloc)|exact HK.out))));(case aL=>have:=LMc38.out;omega);intro v356 w40 ho hb hg hat;rw [← Ny355.out] at ho;replace HB:=mk0 (below_weaken (by repeat (first|(with_reducible first|exact HB.out|apply aZ|apply nZ|apply dZ|refine sZ ?_ (IsS71.ge HI0.out))|exact HB.out)) HL.out hb);replace HI0:=mk0 (IsS71.grown (by repeat (first|(with_reducible first|exact HI0.out|apply IsS71.alloc|apply IsS71.drewN|apply IsS71.drew|apply IsS71.set_1|apply IsS71.set_2)|exact HI0.out)) hg (IsS71.own_ne HI0.out HO_5.out (by decide)));replace HK:=mk0 (KeepBut.trans (by repeat (first|(with_reducible first|exact HK.out|apply KeepBut.set_|apply keep_drewN|apply keep_drew|apply keep_alloc)|exact HK.out)) (KeepBut.of_grown hg g) (Kd.R_base2 HO_5.out));have HO357:=mk0 (ho);clear HO_5 ho hb hg hat))
      go_roundg kj14
      case measure=>have:=HK1.out;have:=HJ14.out;omega
      case rel=>exact⟨(y355),(wrap64 (x7_1 - 1)),(t353),(t354),(by first|rfl|(simp;done)|(simp [*];done)),H',⟨by have:=HK1.out;have:=HJ14.out;omega⟩,⟨rR HO357.out⟩,⟨by repeat (first|(with_reducible first|exact HI0.out|apply IsS71.alloc|apply IsS71.drewN|apply IsS71.drew|apply IsS71.set_1|apply IsS71.set_2)|exact HI0.out)⟩,⟨by repeat (first|(with_reducible first|exact HK.out|apply KeepBut.set_|apply keep_drewN|apply keep_drew|apply keep_alloc)|exact HK.out)⟩,⟨by repeat (first|(with_reducible first|exact HB.out|apply aZ|apply nZ|apply dZ|refine sZ ?_ (IsS71.ge HI0.out))|exact HB.out)⟩⟩
     subst c21
     have H1:((spec_l01Cur_pick.f s0_0 x1001_14 x1002_14 (x5_1.length:Int)).bind fun bt339=>((spec_l01Cur_pick.f s0_0 bt339.2.1 bt339.2.2 6).bind fun bt342=>(if 0 ≤ bt339.1 then (if bt339.1 ≤ (mn (x5_1.length:Int) (wrap64 ((wrap64 (bt339.1 + 1)) + bt342.1))) then (if (mn (x5_1.length:Int) (wrap64 ((wrap64 (bt339.1 + 1)) + bt342.1))) ≤ (x5_1.length:Int) then ((some ((x5_1.take ((mn (x5_1.length:Int) (wrap64 ((wrap64 (bt339.1 + 1)) + bt342.1))):Int).toNat).drop (bt339.1:Int).toNat:List Int)).bind fun y345=>(if x5_1.length + y345.length < 140737488355328 then (spec_l01Cur_textOf.l0 kj14 a1 (x5_1 ++ y345) (rdOf ByteArray.empty y326 t329) (wrap64 (x7_1 - 1)) s0_0 bt342.2.1 bt342.2.2) else (none))) else (none)) else (none)) else (none)))) = some (r1,r2,r3):=by rw [if_pos rfl] at H;exact H
     clear H
     have H:=H1
     clear H1
     replace H:=Option.bind_eq_some_iff.mp H
     obtain⟨⟨t339,t340,t341⟩,A220,H⟩:=H
     replace H:((spec_l01Cur_pick.f s0_0 t340 t341 6).bind fun bt342=>(if 0 ≤ t339 then (if t339 ≤ (mn (x5_1.length:Int) (wrap64 ((wrap64 (t339 + 1)) + bt342.1))) then (if (mn (x5_1.length:Int) (wrap64 ((wrap64 (t339 + 1)) + bt342.1))) ≤ (x5_1.length:Int) then ((some ((x5_1.take ((mn (x5_1.length:Int) (wrap64 ((wrap64 (t339 + 1)) + bt342.1))):Int).toNat).drop (t339:Int).toNat:List Int)).bind fun y345=>(if x5_1.length + y345.length < 140737488355328 then (spec_l01Cur_textOf.l0 kj14 a1 (x5_1 ++ y345) (rdOf ByteArray.empty y326 t329) (wrap64 (x7_1 - 1)) s0_0 bt342.2.1 bt342.2.2) else (none))) else (none)) else (none)) else (none))) = some (r1,r2,r3):=H
     have A22:=mk0 A220
     clear A220
     replace H:=Option.bind_eq_some_iff.mp H
     obtain⟨⟨t342,t343,t344⟩,A230,H⟩:=H
     replace H:(if 0 ≤ t339 then (if t339 ≤ (mn (x5_1.length:Int) (wrap64 ((wrap64 (t339 + 1)) + t342))) then (if (mn (x5_1.length:Int) (wrap64 ((wrap64 (t339 + 1)) + t342))) ≤ (x5_1.length:Int) then ((some ((x5_1.take ((mn (x5_1.length:Int) (wrap64 ((wrap64 (t339 + 1)) + t342))):Int).toNat).drop (t339:Int).toNat:List Int)).bind fun y345=>(if x5_1.length + y345.length < 140737488355328 then (spec_l01Cur_textOf.l0 kj14 a1 (x5_1 ++ y345) (rdOf ByteArray.empty y326 t329) (wrap64 (x7_1 - 1)) s0_0 t343 t344) else (none))) else (none)) else (none)) else (none)) = some (r1,r2,r3):=H
     have A23:=mk0 A230
     clear A230
     obtain⟨ji24,hji24⟩:∃ j_:Int,(mn (x5_1.length:Int) (wrap64 ((wrap64 (t339 + 1)) + t342))) = j_:=⟨_,rfl⟩
     replace H:(if 0 ≤ t339 then (if t339 ≤ (ji24) then (if (ji24) ≤ (x5_1.length:Int) then ((some ((x5_1.take ((ji24):Int).toNat).drop (t339:Int).toNat:List Int)).bind fun y345=>(if x5_1.length + y345.length < 140737488355328 then (spec_l01Cur_textOf.l0 kj14 a1 (x5_1 ++ y345) (rdOf ByteArray.empty y326 t329) (wrap64 (x7_1 - 1)) s0_0 t343 t344) else (none))) else (none)) else (none)) else (none)) = some (r1,r2,r3):=by first|(rw [hji24] at H;exact H)|(simp only [hji24] at H ⊢;exact H)
     (try rw [hji24] at A22)
     (try rw [hji24] at A23)
     have hji24_:(if (wrap64 ((wrap64 (t339 + 1)) + t342)) < (x5_1.length:Int) then (wrap64 ((wrap64 (t339 + 1)) + t342)) else (x5_1.length:Int)) = ji24:=hji24
     by_cases c25:0 ≤ t339
     rotate_left
     ·rw [if_neg c25] at H
      exact absurd H (by simp)
     rw [if_pos c25] at H
     have c25b0:=eq_true c25
     have c25b1:decide (0 ≤ t339) = true:=decide_eq_true c25
     clear c25
     by_cases c26:t339 ≤ (ji24)
     rotate_left
     ·rw [if_neg c26] at H
      exact absurd H (by simp)
     rw [if_pos c26] at H
     have c26b0:=eq_true c26
     have c26b1:decide (t339 ≤ (ji24)) = true:=decide_eq_true c26
     clear c26
     by_cases c27:(ji24) ≤ (x5_1.length:Int)
     rotate_left
     ·rw [if_neg c27] at H
      exact absurd H (by simp)
     rw [if_pos c27] at H
     have c27b0:=eq_true c27
     have c27b1:decide ((ji24) ≤ (x5_1.length:Int)) = true:=decide_eq_true c27
     clear c27
     obtain⟨y345,hy345⟩:∃ y_:List Int,y_ = ((x5_1.take ((ji24):Int).toNat).drop (t339:Int).toNat):=⟨_,rfl⟩
     replace H:(if x5_1.length + y345.length < 140737488355328 then (spec_l01Cur_textOf.l0 kj14 a1 (x5_1 ++ y345) (rdOf ByteArray.empty y326 t329) (wrap64 (x7_1 - 1)) s0_0 t343 t344) else (none)) = some (r1,r2,r3):=by first|(rw [hy345];with_reducible exact H)|(have H2_:=(Option.bind_some _ _).symm.trans H;rw [hy345];with_reducible exact H2_)|(have H2_:=(Option.bind_some _ _).symm.trans H;with_reducible exact H2_)|with_reducible exact H|(rw [hy345];exact H)|exact H
     have Ny345:=mk0 hy345
     clear hy345
     by_cases c28:x5_1.length + y345.length < 140737488355328
     rotate_left
     ·rw [if_neg c28] at H
      exact absurd H (by simp)
     rw [if_pos c28] at H
     have LMc28:=mk0 c28
     clear c28
     obtain⟨y349,hy349⟩:∃ y_:List Int,y_ = (x5_1 ++ y345):=⟨_,rfl⟩
     replace H:(spec_l01Cur_textOf.l0 kj14 a1 y349 (rdOf ByteArray.empty y326 t329) (wrap64 (x7_1 - 1)) s0_0 t343 t344) = some (r1,r2,r3):=by first|(rw [hy349];with_reducible exact H)|(have H2_:=(Option.bind_some _ _).symm.trans H;rw [hy349];with_reducible exact H2_)|(have H2_:=(Option.bind_some _ _).symm.trans H;with_reducible exact H2_)|with_reducible exact H|(rw [hy349];exact H)|exact H
     have Ny349:=mk0 hy349
     clear hy349
     have H':=mk0 H
     clear H
     obtain⟨Ao29,co29,eo29⟩:=Kd.R_slice HO_5.out
     subst eo29
     go_wp2_with (first|((with_reducible refine gate_callee (f:=75) rfl ?_);refine goesL_ (some 32) rfl rfl Try.func75 (by kernel_rfl) rfl #[.pointer (some ⟨g,0,none⟩),.int .i64 (x5_1.length:Int)] rfl (by (try simp only [mA,mC,mN]);first|done|rfl|(simp only [lD,lT];done)|(simp only [lD,lT];rfl)) ?_;(with_reducible refine (spec_l01Cur_pick.calls g s0_0 x1001_14 x1002_14 (x5_1.length:Int) t339 t340 t341 w0 _ ?side1 ?side2 A22.out).mono ?_);(case side1=>repeat (first|(with_reducible first|exact HI0.out|apply IsS71.alloc|apply IsS71.drewN|apply IsS71.drew|apply IsS71.set_1|apply IsS71.set_2)|exact HI0.out));(case side2=>repeat (first|(with_reducible first|exact HB.out|apply aZ|apply nZ|apply dZ|refine sZ ?_ (IsS71.ge HI0.out))|exact HB.out));rintro e w30 ⟨rfl,hi,hb,hk⟩;refine⟨_,rfl,?_⟩;replace HO_5:=mk0 (Kd.R_mono (Kd.R_keep (IsS71.apart (show IsS71 w0 _ g s0_0 x1001_14 x1002_14 from by repeat (first|(with_reducible first|exact HI0.out|apply IsS71.alloc|apply IsS71.drewN|apply IsS71.drew|apply IsS71.set_1|apply IsS71.set_2)|exact HI0.out)) (rR HO_5.out) (by decide)) hk (fun _ h=>h.2)) (fun _ h=>h.1));replace HK:=mk0 (KeepBut.trans (by repeat (first|(with_reducible first|exact HK.out|apply KeepBut.set_|apply keep_drewN|apply keep_drew|apply keep_alloc)|exact HK.out)) hk (.inl rfl));replace HB:=mk0 (hb);replace HI0:=mk0 (hi);(try clear hb);(try clear hk);(try clear hi))|((with_reducible refine gate_callee (f:=75) rfl ?_);refine goesL_ (some 41) rfl rfl Try.func75 (by kernel_rfl) rfl #[.pointer (some ⟨g,0,none⟩),.int .i64 6] rfl (by (try simp only [mA,mC,mN]);first|done|rfl|(simp only [lD,lT];done)|(simp only [lD,lT];rfl)) ?_;(with_reducible refine (spec_l01Cur_pick.calls g s0_0 t340 t341 6 t342 t343 t344 w0 _ ?side1 ?side2 A23.out).mono ?_);(case side1=>repeat (first|(with_reducible first|exact HI0.out|apply IsS71.alloc|apply IsS71.drewN|apply IsS71.drew|apply IsS71.set_1|apply IsS71.set_2)|exact HI0.out));(case side2=>repeat (first|(with_reducible first|exact HB.out|apply aZ|apply nZ|apply dZ|refine sZ ?_ (IsS71.ge HI0.out))|exact HB.out));rintro e w31 ⟨rfl,hi,hb,hk⟩;refine⟨_,rfl,?_⟩;replace HO_5:=mk0 (Kd.R_mono (Kd.R_keep (IsS71.apart (show IsS71 w0 _ g s0_0 t340 t341 from by repeat (first|(with_reducible first|exact HI0.out|apply IsS71.alloc|apply IsS71.drewN|apply IsS71.drew|apply IsS71.set_1|apply IsS71.set_2)|exact HI0.out)) (rR HO_5.out) (by decide)) hk (fun _ h=>h.2)) (fun _ h=>h.1));replace HK:=mk0 (KeepBut.trans (by repeat (first|(with_reducible first|exact HK.out|apply KeepBut.set_|apply keep_drewN|apply keep_drew|apply keep_alloc)|exact HK.out)) hk (.inl rfl));replace HB:=mk0 (hb);replace HI0:=mk0 (hi);(try clear hb);(try clear hk);(try clear hi);have q32:((ji24):Int) ≤ ((x5_1.length:Int):Int):=of_decide_eq_true (by first|(with_reducible assumption)|assumption);obtain⟨i032,hi032,_,hsz32,_⟩:=info_parts info5;have hroom32:x5_1.length ≤ co29:=(Kd.R_reads' HO_5.out).2.1;have hC32:Kd.C (Kd.int .u8) _ Ao29 x5_1.length x5_1:=(Kd.R_reads' HO_5.out).2.2;have ql32:(t339:Int) ≤ ((ji24):Int):=of_decide_eq_true (by first|(with_reducible assumption)|assumption);have q032:(0:Int) ≤ (t339:Int):=of_decide_eq_true (by first|(with_reducible assumption)|assumption);have hcut32:=cut_mid (P:=Try.prog) 22 5 .i64 .i64 Try.underlying22 hi032 1 hsz32 Ao29 x5_1.length co29 t339 (ji24) q032 ql32 q32 hroom32;have hr32:=Kd.C_mid (lo:=(t339:Int).toNat) (hi:=((ji24):Int).toNat) (c:=co29) hC32 (by omega) (by omega) hroom32;obtain⟨A32,hA32⟩:∃ A1,A1 = (if co29 = (t339:Int).toNat then Ao29 else (Ao29:Option Addr).map (·.add ((t339:Int).toNat * 1))):=⟨_,rfl⟩;obtain⟨c32,hc32⟩:∃ c1,c1 = co29 - (t339:Int).toNat:=⟨_,rfl⟩;have hy32:y345.length = ((ji24):Int).toNat - (t339:Int).toNat:=(by rw [Ny345.out,List.length_drop,List.length_take] <;> omega);rw [show ((x5_1).take ((ji24):Int).toNat).drop (t339:Int).toNat = y345 from Ny345.out.symm] at hr32;replace hr32:Kd.C (Kd.int .u8) _ A32 y345.length y345:=(by rw [hA32];exact hr32);rw [← hy32, ← hA32, ← hc32] at hcut32;have HR348:=mk0 hr32;have HC348:=mk0 (show y345.length ≤ c32 from by rw [hy32,hc32];exact Nat.sub_le_sub_right (Nat.le_trans (by omega) hroom32) _);clear hr32 hC32 hroom32 hi032 hsz32 hc32;have KY32:=mk0 hy32;have KA32:=mk0 hA32;clear hy32 hA32;have KL32:=mk0 (show ((ji24):Int).toNat ≤ x5_1.length from by omega);have KM32:=mk0 (show (t339:Int).toNat ≤ ((ji24):Int).toNat from by omega);replace q32:=eq_true q32)|((with_reducible refine gate_builtin (b:=.append) (xs:=#[.tmp 33,.tmp 44]) rfl ?_);at_builtin;refine Kd.R_append_rows (Kd.int .u8) w.heap.size rfl (.tmp 33) (.tmp 44) 22 5 (.int .u8 0) 1 rfl Try.underlying22 info5 rfl (by decide) (by omega) (.slice Ao29 x5_1.length co29) x5_1 y345 _ _ _ (fun _=>True) (fun _=>False) rfl rfl ?aO ?aR (fun _ _ h=>h) (fun _ h=>h.elim) ?aF (Below.refl _ _) ?aS ?aL ?_;(case aR=>repeat (first|exact (by repeat (first|(with_reducible exact HR348.out)|(with_reducible first|apply aC|apply nC|apply dC)|exact HR348.out))|(with_reducible first|apply aC|apply nC|apply dC)));(case aF=>exact (fun _ _=>trivial));(case aO=>exact (rR HO_5.out));(case aS=>exact (keep_size (w:=w) (g:=g) (row:=none) (by repeat (first|(with_reducible first|exact HK.out|apply KeepBut.set_|apply keep_drewN|apply keep_drew|apply keep_alloc)|exact HK.out))));(case aL=>have:=LMc28.out;omega);intro v350 w33 ho hb hg hat;rw [← Ny349.out] at ho;replace HB:=mk0 (below_weaken (by repeat (first|(with_reducible first|exact HB.out|apply aZ|apply nZ|apply dZ|refine sZ ?_ (IsS71.ge HI0.out))|exact HB.out)) HL.out hb);replace HI0:=mk0 (IsS71.grown (by repeat (first|(with_reducible first|exact HI0.out|apply IsS71.alloc|apply IsS71.drewN|apply IsS71.drew|apply IsS71.set_1|apply IsS71.set_2)|exact HI0.out)) hg (IsS71.own_ne HI0.out HO_5.out (by decide)));replace HK:=mk0 (KeepBut.trans (by repeat (first|(with_reducible first|exact HK.out|apply KeepBut.set_|apply keep_drewN|apply keep_drew|apply keep_alloc)|exact HK.out)) (KeepBut.of_grown hg g) (Kd.R_base2 HO_5.out));have HO351:=mk0 (ho);clear HO_5 ho hb hg hat))
     go_roundg kj14
     case measure=>have:=HK1.out;have:=HJ14.out;omega
     case rel=>exact⟨(y349),(wrap64 (x7_1 - 1)),(t343),(t344),(by first|rfl|(simp;done)|(simp [*];done)),H',⟨by have:=HK1.out;have:=HJ14.out;omega⟩,⟨rR HO351.out⟩,⟨by repeat (first|(with_reducible first|exact HI0.out|apply IsS71.alloc|apply IsS71.drewN|apply IsS71.drew|apply IsS71.set_1|apply IsS71.set_2)|exact HI0.out)⟩,⟨by repeat (first|(with_reducible first|exact HK.out|apply KeepBut.set_|apply keep_drewN|apply keep_drew|apply keep_alloc)|exact HK.out)⟩,⟨by repeat (first|(with_reducible first|exact HB.out|apply aZ|apply nZ|apply dZ|refine sZ ?_ (IsS71.ge HI0.out))|exact HB.out)⟩⟩
/-! ### spec_l01Cur_raw: function 78 -/
def spec_l01Cur_raw.f (s0_0 : List Int) (s0_1 : Int) (s0_2 : Int) : Option (Int × Int × Int) := (spec_l01Cur_pick.f s0_0 s0_1 s0_2 8).bind fun bt361 => (if bt361.1 = 0 then ((spec_l01Cur_pick.f s0_0 bt361.2.1 bt361.2.2 256).bind fun bt364 => (some (wrap64 (bt364.1 - 128), bt364.2.1, bt364.2.2))) else (if bt361.1 = 1 then ((some (([9223372036854775807, (-9223372036854775808), 4611686018427387904, 4294967295, 4294967296, (-1000), 1000, 257] : List Int) : List Int)).bind fun y367 => ((spec_l01Cur_pick.f s0_0 bt361.2.1 bt361.2.2 8).bind fun bt370 => (if 0 ≤ bt370.1 then (if bt370.1 < (y367.length : Int) then (some (rd y367 bt370.1, bt370.2.1, bt370.2.2)) else (none)) else (none)))) else ((spec_l01Cur_pick.f s0_0 bt361.2.1 bt361.2.2 14).bind fun bt374 => (some (wrap64 (bt374.1 - 3), bt374.2.1, bt374.2.2)))))
set_option maxHeartbeats 8000000 in
set_option maxRecDepth 100000 in
theorem spec_l01Cur_raw.calls (g : Nat) (s0_0 : List Int) (s0_1 : Int) (s0_2 : Int) (r1 : Int) (r2 : Int) (r3 : Int) (w0 w : World) (hI : IsS71 w0 w g s0_0 s0_1 s0_2) (hB : Below w0.heap.size w0 w) (h : spec_l01Cur_raw.f s0_0 s0_1 s0_2 = some (r1, r2, r3)) :
  Calls Try.prog 78 #[.pointer (some ⟨g, 0, none⟩)] w fun e w' => e = .returned (.int .i64 r1) ∧ IsS71 w0 w' g s0_0 r2 r3 ∧ Below w0.heap.size w0 w' ∧ KeepBut w w' g none := by
 have HI0:=mk0 hI
 have HK:=mk0 (KeepBut.refl w g none)
 have HL:=mk0 hB.size
 clear hI
 have HW0:=mk0 hB.size
 have HB:=mk0 hB
 clear hB
 have H:((spec_l01Cur_pick.f s0_0 s0_1 s0_2 8).bind fun bt361=>(if bt361.1 = 0 then ((spec_l01Cur_pick.f s0_0 bt361.2.1 bt361.2.2 256).bind fun bt364=>(some (wrap64 (bt364.1 - 128),bt364.2.1,bt364.2.2))) else (if bt361.1 = 1 then ((some (([9223372036854775807,(-9223372036854775808),4611686018427387904,4294967295,4294967296,(-1000),1000,257]:List Int):List Int)).bind fun y367=>((spec_l01Cur_pick.f s0_0 bt361.2.1 bt361.2.2 8).bind fun bt370=>(if 0 ≤ bt370.1 then (if bt370.1 < (y367.length:Int) then (some (rd y367 bt370.1,bt370.2.1,bt370.2.2)) else (none)) else (none)))) else ((spec_l01Cur_pick.f s0_0 bt361.2.1 bt361.2.2 14).bind fun bt374=>(some (wrap64 (bt374.1 - 3),bt374.2.1,bt374.2.2)))))) = some (r1,r2,r3):=h
 clear h
 replace H:=Option.bind_eq_some_iff.mp H
 obtain⟨⟨t361,t362,t363⟩,A20,H⟩:=H
 replace H:(if t361 = 0 then ((spec_l01Cur_pick.f s0_0 t362 t363 256).bind fun bt364=>(some (wrap64 (bt364.1 - 128),bt364.2.1,bt364.2.2))) else (if t361 = 1 then ((some (([9223372036854775807,(-9223372036854775808),4611686018427387904,4294967295,4294967296,(-1000),1000,257]:List Int):List Int)).bind fun y367=>((spec_l01Cur_pick.f s0_0 t362 t363 8).bind fun bt370=>(if 0 ≤ bt370.1 then (if bt370.1 < (y367.length:Int) then (some (rd y367 bt370.1,bt370.2.1,bt370.2.2)) else (none)) else (none)))) else ((spec_l01Cur_pick.f s0_0 t362 t363 14).bind fun bt374=>(some (wrap64 (bt374.1 - 3),bt374.2.1,bt374.2.2))))) = some (r1,r2,r3):=H
 have A2:=mk0 A20
 clear A20
 by_cases c3:t361 = 0
 ·rw [if_pos c3] at H
  have c3b0:(t361 == 0) = true:=beq_iff_eq.mpr c3
  have c3b1:(t361 != 0) = false:=bne_eq_false_iff_eq.mpr c3
  clear c3
  replace H:=Option.bind_eq_some_iff.mp H
  obtain⟨⟨t364,t365,t366⟩,A40,H⟩:=H
  replace H:(some (wrap64 (t364 - 128),t365,t366)) = some (r1,r2,r3):=H
  have A4:=mk0 A40
  clear A40
  simp only [Option.some.injEq,Prod.mk.injEq] at H
  obtain⟨rfl,rfl,rfl⟩:=H
  go_enter Try.func78,Try.ntmps78
  go_wp2_with (first|((with_reducible refine gate_callee (f:=75) rfl ?_);refine goesL_ (some 4) rfl rfl Try.func75 (by kernel_rfl) rfl #[.pointer (some ⟨g,0,none⟩),.int .i64 8] rfl (by (try simp only [mA,mC,mN]);first|done|rfl|(simp only [lD,lT];done)|(simp only [lD,lT];rfl)) ?_;(with_reducible refine (spec_l01Cur_pick.calls g s0_0 s0_1 s0_2 8 t361 t362 t363 w0 _ ?side1 ?side2 A2.out).mono ?_);(case side1=>repeat (first|(with_reducible first|exact HI0.out|apply IsS71.alloc|apply IsS71.drewN|apply IsS71.drew|apply IsS71.set_1|apply IsS71.set_2)|exact HI0.out));(case side2=>repeat (first|(with_reducible first|exact HB.out|apply aZ|apply nZ|apply dZ|refine sZ ?_ (IsS71.ge HI0.out))|exact HB.out));rintro e w5 ⟨rfl,hi,hb,hk⟩;refine⟨_,rfl,?_⟩;replace HK:=mk0 (KeepBut.trans (by repeat (first|(with_reducible first|exact HK.out|apply KeepBut.set_|apply keep_drewN|apply keep_drew|apply keep_alloc)|exact HK.out)) hk (.inl rfl));replace HB:=mk0 (hb);replace HI0:=mk0 (hi);(try clear hb);(try clear hk);(try clear hi))|((with_reducible refine gate_callee (f:=75) rfl ?_);refine goesL_ (some 8) rfl rfl Try.func75 (by kernel_rfl) rfl #[.pointer (some ⟨g,0,none⟩),.int .i64 256] rfl (by (try simp only [mA,mC,mN]);first|done|rfl|(simp only [lD,lT];done)|(simp only [lD,lT];rfl)) ?_;(with_reducible refine (spec_l01Cur_pick.calls g s0_0 t362 t363 256 t364 t365 t366 w0 _ ?side1 ?side2 A4.out).mono ?_);(case side1=>repeat (first|(with_reducible first|exact HI0.out|apply IsS71.alloc|apply IsS71.drewN|apply IsS71.drew|apply IsS71.set_1|apply IsS71.set_2)|exact HI0.out));(case side2=>repeat (first|(with_reducible first|exact HB.out|apply aZ|apply nZ|apply dZ|refine sZ ?_ (IsS71.ge HI0.out))|exact HB.out));rintro e w6 ⟨rfl,hi,hb,hk⟩;refine⟨_,rfl,?_⟩;replace HK:=mk0 (KeepBut.trans (by repeat (first|(with_reducible first|exact HK.out|apply KeepBut.set_|apply keep_drewN|apply keep_drew|apply keep_alloc)|exact HK.out)) hk (.inl rfl));replace HB:=mk0 (hb);replace HI0:=mk0 (hi);(try clear hb);(try clear hk);(try clear hi)))
  go_ret
  exact⟨by first|rfl|(simp [errW_none,errW_some] <;> rfl)|(simp [*,errW_none,errW_some] <;> rfl),by repeat (first|(with_reducible first|exact HI0.out|apply IsS71.alloc|apply IsS71.drewN|apply IsS71.drew|apply IsS71.set_1|apply IsS71.set_2)|exact HI0.out),by repeat (first|(with_reducible first|exact HB.out|apply aZ|apply nZ|apply dZ|refine sZ ?_ (IsS71.ge HI0.out))|exact HB.out),by repeat (first|(with_reducible first|exact HK.out|apply KeepBut.set_|apply keep_drewN|apply keep_drew|apply keep_alloc)|exact HK.out)⟩
 ·rw [if_neg c3] at H
  have c3b0:(t361 == 0) = false:=beq_eq_false_iff_ne.mpr c3
  have c3b1:(t361 != 0) = true:=bne_iff_ne.mpr c3
  by_cases c7:t361 = 1
  ·rw [if_pos c7] at H
   have c7b0:(t361 == 1) = true:=beq_iff_eq.mpr c7
   have c7b1:(t361 != 1) = false:=bne_eq_false_iff_eq.mpr c7
   clear c7
   obtain⟨y367,hy367⟩:∃ y_:List Int,y_ = (([9223372036854775807,(-9223372036854775808),4611686018427387904,4294967295,4294967296,(-1000),1000,257]:List Int)):=⟨_,rfl⟩
   replace H:((spec_l01Cur_pick.f s0_0 t362 t363 8).bind fun bt370=>(if 0 ≤ bt370.1 then (if bt370.1 < (y367.length:Int) then (some (rd y367 bt370.1,bt370.2.1,bt370.2.2)) else (none)) else (none))) = some (r1,r2,r3):=by first|(rw [hy367];with_reducible exact H)|(have H2_:=(Option.bind_some _ _).symm.trans H;rw [hy367];with_reducible exact H2_)|(have H2_:=(Option.bind_some _ _).symm.trans H;with_reducible exact H2_)|with_reducible exact H|(rw [hy367];exact H)|exact H
   have Ny367:=mk0 hy367
   clear hy367
   replace H:=Option.bind_eq_some_iff.mp H
   obtain⟨⟨t370,t371,t372⟩,A80,H⟩:=H
   replace H:(if 0 ≤ t370 then (if t370 < (y367.length:Int) then (some (rd y367 t370,t371,t372)) else (none)) else (none)) = some (r1,r2,r3):=H
   have A8:=mk0 A80
   clear A80
   by_cases c9:0 ≤ t370
   ·rw [if_pos c9] at H
    have c9b0:decide (0 ≤ t370) = true:=decide_eq_true c9
    clear c9
    by_cases c10:t370 < (y367.length:Int)
    ·rw [if_pos c10] at H
     have c10b0:decide (t370 < (y367.length:Int)) = true:=decide_eq_true c10
     clear c10
     simp only [Option.some.injEq,Prod.mk.injEq] at H
     obtain⟨rfl,rfl,rfl⟩:=H
     go_enter Try.func78,Try.ntmps78
     go_wp2_with (first|((with_reducible refine gate_callee (f:=75) rfl ?_);refine goesL_ (some 4) rfl rfl Try.func75 (by kernel_rfl) rfl #[.pointer (some ⟨g,0,none⟩),.int .i64 8] rfl (by (try simp only [mA,mC,mN]);first|done|rfl|(simp only [lD,lT];done)|(simp only [lD,lT];rfl)) ?_;(with_reducible refine (spec_l01Cur_pick.calls g s0_0 s0_1 s0_2 8 t361 t362 t363 w0 _ ?side1 ?side2 A2.out).mono ?_);(case side1=>repeat (first|(with_reducible first|exact HI0.out|apply IsS71.alloc|apply IsS71.drewN|apply IsS71.drew|apply IsS71.set_1|apply IsS71.set_2)|exact HI0.out));(case side2=>repeat (first|(with_reducible first|exact HB.out|apply aZ|apply nZ|apply dZ|refine sZ ?_ (IsS71.ge HI0.out))|exact HB.out));rintro e w11 ⟨rfl,hi,hb,hk⟩;refine⟨_,rfl,?_⟩;replace HK:=mk0 (KeepBut.trans (by repeat (first|(with_reducible first|exact HK.out|apply KeepBut.set_|apply keep_drewN|apply keep_drew|apply keep_alloc)|exact HK.out)) hk (.inl rfl));replace HB:=mk0 (hb);replace HI0:=mk0 (hi);(try clear hb);(try clear hk);(try clear hi))|((with_reducible refine gate_dst (N:=12) rfl ?_);refine Kd.R_lit (Kd.int .i64) _ 3 ?hg (N:=12) ?hd (xs:=([9223372036854775807,(-9223372036854775808),4611686018427387904,4294967295,4294967296,(-1000),1000,257]:List Int)) (inner:=[.int .i64 9223372036854775807,.int .i64 (-9223372036854775808),.int .i64 4611686018427387904,.int .i64 4294967295,.int .i64 4294967296,.int .i64 (-1000),.int .i64 1000,.int .i64 257]) (ok:=fun _=>True) (okp:=fun _=>True) ?hr ?hp (fun _ hk=>hk) trivial (Below.refl _ _) (Nat.le_refl _) (by simp) ?_;(case hd=>rfl);(case hg=>rfl);(case hr=>first|(go_simp;done)|(go_simp;rfl));(case hp=>exact (Reps.one (show Kd.M (Kd.int .i64) _ _ _ 9223372036854775807 [.int .i64 9223372036854775807] from rfl) (Reps.one (show Kd.M (Kd.int .i64) _ _ _ (-9223372036854775808) [.int .i64 (-9223372036854775808)] from rfl) (Reps.one (show Kd.M (Kd.int .i64) _ _ _ 4611686018427387904 [.int .i64 4611686018427387904] from rfl) (Reps.one (show Kd.M (Kd.int .i64) _ _ _ 4294967295 [.int .i64 4294967295] from rfl) (Reps.one (show Kd.M (Kd.int .i64) _ _ _ 4294967296 [.int .i64 4294967296] from rfl) (Reps.one (show Kd.M (Kd.int .i64) _ _ _ (-1000) [.int .i64 (-1000)] from rfl) (Reps.one (show Kd.M (Kd.int .i64) _ _ _ 1000 [.int .i64 1000] from rfl) (Reps.one (show Kd.M (Kd.int .i64) _ _ _ 257 [.int .i64 257] from rfl) (Reps.none _ _))))))))));intro v368 w12 ho13 hb hg_ hnew_;clear hg_ hnew_;(first|rw [← Ny367.out] at ho13|(simp only [Int.reduceToNat] at ho13;rw [← Ny367.out] at ho13));have HO369:=mk0 (Kd.R_lower ho13 (keep_size (w:=w) (g:=g) (row:=none) (by repeat (first|(with_reducible first|exact HK.out|apply KeepBut.set_|apply keep_drewN|apply keep_drew|apply keep_alloc)|exact HK.out))));replace HK:=mk0 (KeepBut.trans (by repeat (first|(with_reducible first|exact HK.out|apply KeepBut.set_|apply keep_drewN|apply keep_drew|apply keep_alloc)|exact HK.out)) (KeepBut.of_below hb g none) (.inl rfl));replace HB:=mk0 (below_step (by repeat (first|(with_reducible first|exact HB.out|apply aZ|apply nZ|apply dZ|refine sZ ?_ (IsS71.ge HI0.out))|exact HB.out)) hb);replace HI0:=mk0 (IsS71.below (by repeat (first|(with_reducible first|exact HI0.out|apply IsS71.alloc|apply IsS71.drewN|apply IsS71.drew|apply IsS71.set_1|apply IsS71.set_2)|exact HI0.out)) hb);clear hb ho13)|((with_reducible refine gate_callee (f:=75) rfl ?_);refine goesL_ (some 14) rfl rfl Try.func75 (by kernel_rfl) rfl #[.pointer (some ⟨g,0,none⟩),.int .i64 8] rfl (by (try simp only [mA,mC,mN]);first|done|rfl|(simp only [lD,lT];done)|(simp only [lD,lT];rfl)) ?_;(with_reducible refine (spec_l01Cur_pick.calls g s0_0 t362 t363 8 t370 t371 t372 w0 _ ?side1 ?side2 A8.out).mono ?_);(case side1=>repeat (first|(with_reducible first|exact HI0.out|apply IsS71.alloc|apply IsS71.drewN|apply IsS71.drew|apply IsS71.set_1|apply IsS71.set_2)|exact HI0.out));(case side2=>repeat (first|(with_reducible first|exact HB.out|apply aZ|apply nZ|apply dZ|refine sZ ?_ (IsS71.ge HI0.out))|exact HB.out));rintro e w14 ⟨rfl,hi,hb,hk⟩;refine⟨_,rfl,?_⟩;replace HO369:=mk0 (Kd.R_mono (Kd.R_keep (IsS71.apart (show IsS71 w0 _ g s0_0 t362 t363 from by repeat (first|(with_reducible first|exact HI0.out|apply IsS71.alloc|apply IsS71.drewN|apply IsS71.drew|apply IsS71.set_1|apply IsS71.set_2)|exact HI0.out)) (rR HO369.out) (by decide)) hk (fun _ h=>h.2)) (fun _ h=>h.1));replace HK:=mk0 (KeepBut.trans (by repeat (first|(with_reducible first|exact HK.out|apply KeepBut.set_|apply keep_drewN|apply keep_drew|apply keep_alloc)|exact HK.out)) hk (.inl rfl));replace HB:=mk0 (hb);replace HI0:=mk0 (hi);(try clear hb);(try clear hk);(try clear hi);obtain⟨Ao15,co15,eo15⟩:=Kd.R_slice HO369.out;subst eo15;have p373:0 ≤ (t370:Int):=of_decide_eq_true (by first|(with_reducible assumption)|assumption);have q373:t370 < (y367.length:Int):=of_decide_eq_true (by first|(with_reducible assumption)|assumption);obtain⟨ad373,e373,hx373_0⟩:=Kd.at_int (Kd.R_reads' HO369.out).2.2 t370 p373 q373;cases e373;replace p373:=eq_true p373;replace q373:=eq_true q373))
     go_ret
     exact⟨by first|rfl|(simp [errW_none,errW_some] <;> rfl)|(simp [*,errW_none,errW_some] <;> rfl),by repeat (first|(with_reducible first|exact HI0.out|apply IsS71.alloc|apply IsS71.drewN|apply IsS71.drew|apply IsS71.set_1|apply IsS71.set_2)|exact HI0.out),by repeat (first|(with_reducible first|exact HB.out|apply aZ|apply nZ|apply dZ|refine sZ ?_ (IsS71.ge HI0.out))|exact HB.out),by repeat (first|(with_reducible first|exact HK.out|apply KeepBut.set_|apply keep_drewN|apply keep_drew|apply keep_alloc)|exact HK.out)⟩
    ·rw [if_neg c10] at H
     exact absurd H (by simp)
   ·rw [if_neg c9] at H
    exact absurd H (by simp)
  ·rw [if_neg c7] at H
   have c7b0:(t361 == 1) = false:=beq_eq_false_iff_ne.mpr c7
   have c7b1:(t361 != 1) = true:=bne_iff_ne.mpr c7
   replace H:=Option.bind_eq_some_iff.mp H
   obtain⟨⟨t374,t375,t376⟩,A160,H⟩:=H
   replace H:(some (wrap64 (t374 - 3),t375,t376)) = some (r1,r2,r3):=H
   have A16:=mk0 A160
   clear A160
   simp only [Option.some.injEq,Prod.mk.injEq] at H
   obtain⟨rfl,rfl,rfl⟩:=H
   go_enter Try.func78,Try.ntmps78
   go_wp2_with (first|((with_reducible refine gate_callee (f:=75) rfl ?_);refine goesL_ (some 4) rfl rfl Try.func75 (by kernel_rfl) rfl #[.pointer (some ⟨g,0,none⟩),.int .i64 8] rfl (by (try simp only [mA,mC,mN]);first|done|rfl|(simp only [lD,lT];done)|(simp only [lD,lT];rfl)) ?_;(with_reducible refine (spec_l01Cur_pick.calls g s0_0 s0_1 s0_2 8 t361 t362 t363 w0 _ ?side1 ?side2 A2.out).mono ?_);(case side1=>repeat (first|(with_reducible first|exact HI0.out|apply IsS71.alloc|apply IsS71.drewN|apply IsS71.drew|apply IsS71.set_1|apply IsS71.set_2)|exact HI0.out));(case side2=>repeat (first|(with_reducible first|exact HB.out|apply aZ|apply nZ|apply dZ|refine sZ ?_ (IsS71.ge HI0.out))|exact HB.out));rintro e w17 ⟨rfl,hi,hb,hk⟩;refine⟨_,rfl,?_⟩;replace HK:=mk0 (KeepBut.trans (by repeat (first|(with_reducible first|exact HK.out|apply KeepBut.set_|apply keep_drewN|apply keep_drew|apply keep_alloc)|exact HK.out)) hk (.inl rfl));replace HB:=mk0 (hb);replace HI0:=mk0 (hi);(try clear hb);(try clear hk);(try clear hi))|((with_reducible refine gate_callee (f:=75) rfl ?_);refine goesL_ (some 18) rfl rfl Try.func75 (by kernel_rfl) rfl #[.pointer (some ⟨g,0,none⟩),.int .i64 14] rfl (by (try simp only [mA,mC,mN]);first|done|rfl|(simp only [lD,lT];done)|(simp only [lD,lT];rfl)) ?_;(with_reducible refine (spec_l01Cur_pick.calls g s0_0 t362 t363 14 t374 t375 t376 w0 _ ?side1 ?side2 A16.out).mono ?_);(case side1=>repeat (first|(with_reducible first|exact HI0.out|apply IsS71.alloc|apply IsS71.drewN|apply IsS71.drew|apply IsS71.set_1|apply IsS71.set_2)|exact HI0.out));(case side2=>repeat (first|(with_reducible first|exact HB.out|apply aZ|apply nZ|apply dZ|refine sZ ?_ (IsS71.ge HI0.out))|exact HB.out));rintro e w18 ⟨rfl,hi,hb,hk⟩;refine⟨_,rfl,?_⟩;replace HK:=mk0 (KeepBut.trans (by repeat (first|(with_reducible first|exact HK.out|apply KeepBut.set_|apply keep_drewN|apply keep_drew|apply keep_alloc)|exact HK.out)) hk (.inl rfl));replace HB:=mk0 (hb);replace HI0:=mk0 (hi);(try clear hb);(try clear hk);(try clear hi)))
   go_ret
   exact⟨by first|rfl|(simp [errW_none,errW_some] <;> rfl)|(simp [*,errW_none,errW_some] <;> rfl),by repeat (first|(with_reducible first|exact HI0.out|apply IsS71.alloc|apply IsS71.drewN|apply IsS71.drew|apply IsS71.set_1|apply IsS71.set_2)|exact HI0.out),by repeat (first|(with_reducible first|exact HB.out|apply aZ|apply nZ|apply dZ|refine sZ ?_ (IsS71.ge HI0.out))|exact HB.out),by repeat (first|(with_reducible first|exact HK.out|apply KeepBut.set_|apply keep_drewN|apply keep_drew|apply keep_alloc)|exact HK.out)⟩

end Go.Proofs.Ytoinagnieobbpaa.QFnStretchWords
