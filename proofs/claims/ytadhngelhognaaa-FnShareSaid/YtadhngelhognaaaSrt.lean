/- Words that the walks use. -/
import Derived.Test.YtadhngelhognaaaProg
import Derived.Below
import Derived.Deep.Draws
import Derived.Deep.AppendLies
import Derived.Maps.AppendAt
import Derived.OwnWalk
import Derived.Laws.BytesArg
import Derived.Laws.MakeOwn
import Derived.Laws.OwnMore
import Derived.Deep.OwnRows
import Derived.Tactics
import Derived.Lib.ConvBytes
import Derived.Laws.Slices
import Derived.WalkKit
import Derived.KernelRfl
import Derived.RowKit3
import Derived.Deep.LoopGhost
import Derived.Deep.QuietTactic
import Derived.BigQuiet
import Derived.WideLaws
import Derived.Deep.DeepCutAuto
import Derived.Deep.CutBlock
import Derived.Deep.RegionHeld3
import Derived.Laws.Rows
import Derived.Lib.AppendStr
import Derived.ArgAppend
import Derived.Laws.IdiomCopy
import Derived.OrdersHeld
import Derived.Laws.BitsLemmas
import Derived.RowKit
import Derived.Shelf.SlIter.Sorted
import Derived.Shelf.SortM.Plain
import Derived.Shelf.SortM.SortNone
import Derived.Shelf.Slices.CompactS
import Derived.Sort.OwnSorted
import Derived.RangeFuncBox
import Derived.RangeFuncLeaves
import Derived.OwnWalkIn
import Derived.TacticsInMore
import Derived.LoopNIn
import Derived.LoopIn
import Derived.Shelf.Abstract
import Derived.DataElems
import Derived.Test.YtadhngelhognaaaWWords
import Derived.Test.YtadhngelhognaaaWLast
import Derived.Test.YtadhngelhognaaaWTab
import Derived.Test.YtadhngelhognaaaWFour
import Derived.Test.YtadhngelhognaaaWQPut
import Derived.Test.YtadhngelhognaaaWApart
import Derived.Test.YtadhngelhognaaaWArr
import Derived.Test.YtadhngelhognaaaWZeros
import Derived.Test.YtadhngelhognaaaWFoot
import Derived.Test.YtadhngelhognaaaWKept
import Derived.Test.YtadhngelhognaaaWShare
import Derived.Test.YtadhngelhognaaaWN
import Derived.Test.YtadhngelhognaaaWFootNe
import Derived.Test.YtadhngelhognaaaWAt
import Derived.Test.YtadhngelhognaaaWEqStruct
import Derived.Test.YtadhngelhognaaaWRepsOne
import Derived.Test.YtadhngelhognaaaWInv
import Derived.Test.YtadhngelhognaaaWInvWords
import Derived.Test.YtadhngelhognaaaWGuard
import Derived.Test.YtadhngelhognaaaWNEv
import Derived.Test.YtadhngelhognaaaWMore
import Derived.Test.YtadhngelhognaaaSq
import Derived.Test.YtadhngelhognaaaLayr
import Derived.Test.YtadhngelhognaaaSuf
namespace Go.Proofs.Ytadhngelhognaaa.Srt
open Go.RowKit Go.Maps Go.Sort Go.Shelf Go.Proofs.YtadhngelhognaaaW.PrintWords
set_option linter.unusedVariables false
set_option linter.unusedSimpArgs false
section
variable {P : Program} {ρ : Ren}
def SeqB (F : Fence) (n : Nat) (P : Program) (g : Nat) (lb : Array Value) (S : List (List UInt8) → Prop) (N : Nat) (w : World) : Prop :=
  ∀ (l : Nat) (J : List (List UInt8) → World → Prop) (W : World), Below w.heap.size w W → AbidesFrom W.heap.size J → (∀ s W1, J s W1 → Below w.heap.size w W1) →
    (∀ pre x W1, J pre W1 → pre.length < N → YieldAt F (n - 1) P l #[encStr x] W1 fun e W' => e = .returned (.bool true) ∧ J (pre ++ [x]) W' ∧ KeepsWalks W1 W') →
    J [] W → CallsIn F n P g (#[.func (.yield l) #[] #[]] ++ lb) W fun e W' => (∃ v, e = .returned v) ∧ ∃ xs, S xs ∧ J xs W'
set_option maxRecDepth 100000 in
set_option maxHeartbeats 4000000 in
theorem appendB (L : SlLaysZ.n11 P ρ) (F : Fence) (n : Nat) (h11 : F.fn (ρ.f 11)) (hro : F.round = none) (hn : 2 ≤ n) (g : Nat) (lb : Array Value) (hFg : F.fn g) (eg : ∀ args w, (callFunc g args).run P w = .ok (.enter g args) w)
    (S : List (List UInt8) → Prop) (N : Nat) (hN : N ≤ maxLen) (hNb : N * 16 ≤ 140737488355328) (w : World) (hseq : SeqB F (n - 1) P g lb S N w) :
    CallsIn F n P (ρ.f 11) #[.slice none 0 0, .func (.func g) #[] lb] w fun e w' => ∃ (v : Value) (ss : List (List UInt8)), e = .returned v ∧ S ss ∧ w'.ownsRow w.heap.size (ρ.t 26) 1 v ss.length (ss.map encStr) ∧ (v = .slice none 0 0 ↔ ss = []) ∧ Below w.heap.size w w' := by
  have h1 : 1 ≤ n := by omega
  have mixed := L.mixed; have t0 := L.t0; have a0 := L.a0; have z0 := L.z0; have v0 := L.v0; have t24 := L.t24; have a24 := L.a24; have z24 := L.z24; have v24 := L.v24; have t26 := L.t26; have a26 := L.a26; have z26 := L.z26; have v26 := L.v26; have t28 := L.t28; have a28 := L.a28; have z28 := L.z28; have v28 := L.v28
  have hne : ρ.t 24 ≠ ρ.t 26 := fun e => by have h := L.t24; rw [e, L.t26] at h; cases h
  have u0 := run_underlying L.t0; have u24 := run_underlying L.t24; have u26 := run_underlying L.t26; have u28 := run_underlying L.t28
  obtain ⟨_, _, FG⟩ := L.f11
  refine callsIn_of_wp_marks FG rfl h11 ?_ hro
  simp only [SlBodyZ.n11_ntmps ρ, List.size_toArray, List.length_cons, List.length_nil, Nat.reduceAdd, Nat.reduceSub, Array.replicate_succ, Array.replicate_zero, List.push_toArray, List.append_toArray, List.nil_append, List.cons_append]
  gi_wp2
  refine wpIn_rangeFunc ?_
  intro fn hfn
  rw [hro]
  obtain ⟨W0, hW0⟩ : ∃ W0, w.alloc (.cells #[.slice none 0 0] (ρ.t 24)) = W0 := ⟨_, rfl⟩
  have hs0 : W0.heap.size = w.heap.size + 1 := by rw [← hW0]; simp
  have hv0 : W0.heap[w.heap.size]? = some (.cells #[.slice none 0 0] (ρ.t 24) (0, 0)) := by rw [← hW0]; exact World.alloc_heap_new w _
  have hb0 : Below w.heap.size w W0 := by rw [← hW0]; exact (Below.refl _ w).alloc (Nat.le_refl _) _
  rw [hW0]
  obtain ⟨W1, hW1⟩ : ∃ W1, (W0.alloc (.deferred (some []))).alloc (.loop (AnyZ.apRec ρ fn (.func (.func g) #[] lb) w.heap.size W0.heap.size .ready none)) = W1 := ⟨_, rfl⟩
  have hold : ∀ k, k < W0.heap.size → W1.heap[k]? = W0.heap[k]? := fun k hk => by
    rw [← hW1]; exact (Below.heap_alloc _ _ k (by simp; omega)).trans (Below.heap_alloc _ _ k hk)
  have hb1 : Below w.heap.size w W1 := by rw [← hW1]; exact (hb0.alloc hb0.size _).alloc (by have := hb0.size; simp; omega) _
  have hs1 : W1.heap.size = W0.heap.size + 2 := by rw [← hW1]; simp
  have hM : AnyZ.ApAt ρ w fn (.func (.func g) #[] lb) w.heap.size (W0.heap.size + 1) W0.heap.size [] W1 :=
    ⟨⟨_, (hold w.heap.size (by omega)).trans hv0, ⟨rfl, .inl ⟨rfl, rfl⟩⟩, by simp⟩,
     by rw [← hW1]; have := World.alloc_heap_new (W0.alloc (.deferred (some []))) (.loop (AnyZ.apRec ρ fn (.func (.func g) #[] lb) w.heap.size W0.heap.size .ready none)); rwa [World.size_alloc] at this,
     by rw [← hW1]; exact (Below.heap_alloc _ _ _ (by simp)).trans (World.alloc_heap_new W0 _), hb1⟩
  refine ⟨W0.heap.size + 1, [{ target := .collected W0.heap.size, args := #[] }], W1, { target := .fn (.func g) lb, args := #[.func (.yield (W0.heap.size + 1)) #[] #[]] }, W1, g,
    #[.func (.yield (W0.heap.size + 1)) #[] #[]] ++ lb, W1, ?_, ?_, ?_, ?_, fun _ => h1, ?_⟩
  · rw [← hW1]; exact run_enterLoop_outer _ _ _ _ _
  · simp [resolve, go_sem]
  · intro f' hf'; simp [Target.leads] at hf'; subst hf'; exact hFg
  · simp [invoke, go_sem, eg]
  · refine (hseq (W0.heap.size + 1) (AnyZ.ApAt ρ w fn (.func (.func g) #[] lb) w.heap.size (W0.heap.size + 1) W0.heap.size) W1 hb1 (AnyZ.ap_abides ρ _ _ _ _ _ _ _ hb1.size) (fun s W1 h => h.below)
      (fun pre x W hJ hl => AnyZ.apYield { L with } F (n - 1 - 1) w fn hfn _ w.heap.size (W0.heap.size + 1) W0.heap.size (by omega) (by omega) (by omega) (Nat.le_refl _) (by omega) N hN hNb pre x W hJ hl) hM).mono ?_
    rintro e W2 ⟨⟨v0, rfl⟩, ss, hS, h2⟩
    obtain ⟨v, hv, hrow, hnil⟩ := h2.box
    have hend := run_endLoop (P := P) h2.L (by simp [AnyZ.apRec])
    obtain ⟨W3, hW3⟩ : ∃ W3, W2.putObj (W0.heap.size + 1) (.loop { AnyZ.apRec ρ fn (.func (.func g) #[] lb) w.heap.size W0.heap.size .ready none with state := .exhausted }) = W3 := ⟨_, rfl⟩
    rw [hW3] at hend
    have hg3 : W2.grownBy W3 (some (W0.heap.size + 1)) := by rw [← hW3]; exact grownBy_putObj_a _ _ _
    have hv3 : W3.heap[w.heap.size]? = some (.cells #[v] (ρ.t 24) (0, 0)) := by rw [← hW3]; exact (World.putObj_heap_other (by omega)).trans hv
    have hK3 : W3.heap[W0.heap.size]? = some (.deferred (some [])) := by rw [← hW3]; exact (World.putObj_heap_other (by omega)).trans h2.K
    have hrow3 := hrow.kept hg3 (ownsRow_ne_a hrow h2.L (fun cur e => by first | cases e | exact hne (Obj.cells.inj e).2.1))
    have hb3 : Below w.heap.size w W3 := h2.below.grown hg3 h2.below.size (fun k e => by cases e; omega)
    obtain ⟨hc3, hf3⟩ := cell_of_box_a hv3
    clear hW3
    refine ⟨none, W3, hend, ?_⟩
    gi_wp2
    rw [← hs0]
    refine ⟨by simp, .inl ⟨_, _, rfl, run_takeDeferred hK3, ?_⟩⟩
    exact ⟨_, results_tmp rfl _ _ _, v, ss, rfl, hS, hrow3.kept (grownBy_putObj_a _ _ _) (ownsRow_ne_a hrow3 hK3 (fun cur e => by first | cases e | exact hne (Obj.cells.inj e).2.1)), hnil, hb3.grown (grownBy_putObj_a _ _ _) hb3.size (fun k e => by cases e; omega)⟩
set_option maxRecDepth 100000 in
set_option maxHeartbeats 4000000 in
theorem collectB (L : SlLaysZ.n8 P ρ) (F : Fence) (n : Nat) (h8 : F.fn (ρ.f 8)) (h11 : F.fn (ρ.f 11)) (hro : F.round = none) (hn : 3 ≤ n) (g : Nat) (lb : Array Value) (hFg : F.fn g) (eg : ∀ args w, (callFunc g args).run P w = .ok (.enter g args) w)
    (S : List (List UInt8) → Prop) (N : Nat) (hN : N ≤ maxLen) (hNb : N * 16 ≤ 140737488355328) (w : World) (hseq : SeqB F (n - 1 - 1) P g lb S N w) :
    CallsIn F n P (ρ.f 8) #[.func (.func g) #[] lb] w fun e w' => ∃ (v : Value) (ss : List (List UInt8)), e = .returned v ∧ S ss ∧ w'.ownsRow w.heap.size (ρ.t 26) 1 v ss.length (ss.map encStr) ∧ (v = .slice none 0 0 ↔ ss = []) ∧ Below w.heap.size w w' := by
  have h1 : 1 ≤ n := by omega
  have e11 : ∀ args w, (callFunc (ρ.f 11) args).run P w = .ok (.enter (ρ.f 11) args) w := L.f11.enters rfl
  have mixed := L.mixed; have t0 := L.t0; have a0 := L.a0; have z0 := L.z0; have v0 := L.v0; have t24 := L.t24; have a24 := L.a24; have z24 := L.z24; have v24 := L.v24; have t26 := L.t26; have a26 := L.a26; have z26 := L.z26; have v26 := L.v26; have t28 := L.t28; have a28 := L.a28; have z28 := L.z28; have v28 := L.v28
  have u0 := run_underlying L.t0; have u24 := run_underlying L.t24; have u26 := run_underlying L.t26; have u28 := run_underlying L.t28
  obtain ⟨_, _, FG⟩ := L.f8
  refine callsIn_of_wp FG rfl h8 ?_ hro
  simp only [SlBodyZ.n8_ntmps ρ, List.size_toArray, List.length_cons, List.length_nil, Nat.reduceAdd, Nat.reduceSub, Array.replicate_succ, Array.replicate_zero, List.push_toArray, List.append_toArray, List.nil_append, List.cons_append]
  gi_wp2_with (gi_at_fn (ρ.f 11); refine (appendB { L with } F (n - 1) h11 hro (by omega) g lb hFg eg S N hN hNb _ hseq).mono ?_; rintro e w' ⟨v, ss, rfl, hS, hrow, hnil, hb⟩)
  go_ret
  exact ⟨v, ss, rfl, hS, hrow, hnil, hb⟩
set_option maxRecDepth 100000 in
set_option maxHeartbeats 4000000 in
theorem sortedB (L : SlLaysZ.n6 P ρ) (F : Fence) (n : Nat) (h6 : F.fn (ρ.f 6)) (h8 : F.fn (ρ.f 8)) (h9 : F.fn (ρ.f 9)) (h11 : F.fn (ρ.f 11)) (hro : F.round = none) (hn : 4 ≤ n) (hsort : AnyZ.SortsIn P ρ F (n - 1)) (e9 : ∀ args w, (callFunc (ρ.f 9) args).run P w = .ok (.enter (ρ.f 9) args) w) (g : Nat) (lb : Array Value) (hFg : F.fn g) (eg : ∀ args w, (callFunc g args).run P w = .ok (.enter g args) w)
    (S : List (List UInt8) → Prop) (N : Nat) (hN : N ≤ maxLen) (hNb : N * 16 ≤ 140737488355328) (w : World) (hseq : SeqB F (n - 1 - 1 - 1) P g lb S N w) (hlen0 : ∀ ss, S ss → ss.length ≤ N) :
    CallsIn F n P (ρ.f 6) #[.func (.func g) #[] lb] w fun e w' => ∃ (v : Value) (ss : List (List UInt8)), e = .returned v ∧ S ss ∧
      w'.ownsRow w.heap.size (ρ.t 26) 1 v ss.length ((ss.mergeSort (fun x y => decide (x ≤ y))).map encStr) ∧ (v = .slice none 0 0 ↔ ss = []) ∧ Below w.heap.size w w' := by
  have h1 : 1 ≤ n := by omega
  have e8 : ∀ args w, (callFunc (ρ.f 8) args).run P w = .ok (.enter (ρ.f 8) args) w := L.f8.enters rfl
  have mixed := L.mixed; have t0 := L.t0; have a0 := L.a0; have z0 := L.z0; have v0 := L.v0; have t24 := L.t24; have a24 := L.a24; have z24 := L.z24; have v24 := L.v24; have t26 := L.t26; have a26 := L.a26; have z26 := L.z26; have v26 := L.v26; have t28 := L.t28; have a28 := L.a28; have z28 := L.z28; have v28 := L.v28
  have u0 := run_underlying L.t0; have u24 := run_underlying L.t24; have u26 := run_underlying L.t26; have u28 := run_underlying L.t28
  obtain ⟨_, _, FG⟩ := L.f6
  refine callsIn_of_wp FG rfl h6 ?_ hro
  simp only [SlBodyZ.n6_ntmps ρ, List.size_toArray, List.length_cons, List.length_nil, Nat.reduceAdd, Nat.reduceSub, Array.replicate_succ, Array.replicate_zero, List.push_toArray, List.append_toArray, List.nil_append, List.cons_append]
  gi_wp2_with (gi_at_fn (ρ.f 8); refine (collectB { L with } F (n - 1) h8 h11 hro (by omega) g lb hFg eg S N hN hNb _ hseq).mono ?_; rintro e W ⟨v, ss, rfl, hS, hrow, hnil, hb⟩; have hlen := hlen0 ss hS)
  rcases hrow.2 with ⟨rfl, hz⟩ | ⟨gb, cap, cur, rfl, hbase, hgb, r1, r2, r3, r4⟩
  · -- nothing came: the nil slice is sorted and handed back
    have hss : ss = [] := List.eq_nil_of_length_eq_zero hz
    subst hss
    gi_wp2_with (gi_at_fn (ρ.f 9); refine (hsort.2 none 0 W).mono ?_; rintro e w' ⟨rfl, rfl⟩)
    go_ret
    exact ⟨.slice none 0 0, [], rfl, hS, by simpa using hrow, by simp, hb⟩
  · have hH : Holds encStr W gb 0 ss.toArray := holds_of_block hgb (by simpa using r4)
    have hgl : gb < W.heap.size := (Array.getElem?_eq_some_iff.1 hgb).1
    have hsz : ss.length < 4611686018427387904 := by omega
    have cS := hsort.1 gb 0 cap ss W hH hgl hsz
    gi_wp2_with (gi_at_fn (ρ.f 9); refine cS.mono ?_; rintro e w' ⟨rfl, nn, os, rfl⟩)
    go_ret
    exact ⟨_, ss, rfl, hS, ownsRow_sorted (by simp) hbase hgb r1 r2 r3, hnil, hb.grown (grownBy_sorted _) hb.size (fun j hj => by cases hj; exact hbase)⟩
end
def upto (f : Nat → List UInt8) (k : Nat) : List (List UInt8) := (List.range k).map f
theorem upto_succ (f : Nat → List UInt8) (k : Nat) : upto f (k + 1) = upto f k ++ [f k] := by simp [upto, List.range_succ]
theorem upto_length (f : Nat → List UInt8) (k : Nat) : (upto f k).length = k := by simp [upto]
theorem upto_all (zs : List (List UInt8)) : upto (fun j => zs[j]?.getD []) zs.length = zs := by
  apply List.ext_getElem
  · simp [upto]
  · intro i h1 h2
    simp [upto, h2]
attribute [local go_sem] Oper.semAt_some
set_option maxRecDepth 100000 in
set_option maxHeartbeats 4000000 in
theorem values1 (F : Fence) (n : Nat) (h7 : F.fn 85) (hro : F.round = none) (hn : 1 ≤ n) (l Bs b off len cap : Nat) (zs : List (List UInt8)) (hlen : len ≤ 1048576) (w0 : World) (hb : b < w0.heap.size) (J : List (List UInt8) → World → Prop) (hJb : ∀ s W1, J s W1 → Below w0.heap.size w0 W1)
    (hY : ∀ pre x W, J pre W → pre.length < len → YieldAt F (n - 1) Try.prog l #[encStr x] W fun e W' => e = .returned (.bool true) ∧ J (pre ++ [x]) W' ∧ KeepsWalks W W')
    (W : World) (hBs : W.cell? ⟨Bs, 0, none⟩ = some (.slice (some ⟨b, off, none⟩) len cap)) (hc : ∀ j, j < len → w0.cell? ⟨b, off + j, none⟩ = some (encStr (zs[j]?.getD []))) (h0 : J [] W) :
    CallsIn F n Try.prog 85 #[.func (.yield l) #[] #[], .pointer (some ⟨Bs, 0, none⟩)] W fun e W' => (∃ v, e = .returned v) ∧ J (upto (fun j => zs[j]?.getD []) len) W' := by
  refine callsIn_of_wp Try.func85 rfl h7 ?_ hro
  simp only [Try.ntmps85, List.size_toArray, List.length_cons, List.length_nil, Nat.reduceAdd, Nat.reduceSub, Array.replicate_succ, Array.replicate_zero, List.push_toArray, List.append_toArray, List.nil_append, List.cons_append]
  gi_wp2
  gi_loopw [7] (fun i wr => ∃ k : Nat, k ≤ len ∧ i = .int .i64 k ∧ J (upto (fun j => zs[j]?.getD []) k) wr)
    (fun i _ => len - (intOf i).toNat)
  case atStart => exact ⟨0, Nat.zero_le _, rfl, h0⟩
  case round =>
    obtain ⟨k, hk, rfl, hJs⟩ := hrel
    have hcx : k < len → wr.cell? ⟨b, off + k, none⟩ = some (encStr (zs[k]?.getD [])) := fun h => ((hJb _ _ hJs).cell (p := ⟨b, off + k, none⟩) hb).trans (hc k h)
    by_cases hlt : k < len
    · obtain ⟨fn, tmps, assign, body, hy, hR⟩ := hY _ (zs[k]?.getD []) wr hJs (by rw [upto_length]; exact hlt)
      have hcx' := hcx hlt
      gi_wp2
      refine hR.mono ?_
      rintro e W3 ⟨rfl, hJ3, hk3⟩
      gi_wp2
      go_roundw
      case rel => exact ⟨k + 1, by omega, by simp, by rw [upto_succ]; exact hJ3⟩
      case measure => simp [intOf]; omega
    · obtain rfl : k = len := by omega
      gi_wp2
      go_end0
      exact ⟨⟨_, rfl⟩, hJs⟩
set_option maxRecDepth 100000 in
set_option maxHeartbeats 4000000 in
theorem values0 (F : Fence) (n : Nat) (h7 : F.fn 85) (hro : F.round = none) (l Bs cap : Nat) (A : Option Addr) (J : List (List UInt8) → World → Prop) (W : World) (hBs : W.cell? ⟨Bs, 0, none⟩ = some (.slice A 0 cap)) (h0 : J [] W) :
    CallsIn F n Try.prog 85 #[.func (.yield l) #[] #[], .pointer (some ⟨Bs, 0, none⟩)] W fun e W' => (∃ v, e = .returned v) ∧ J [] W' := by
  refine callsIn_of_wp Try.func85 rfl h7 ?_ hro
  simp only [Try.ntmps85, List.size_toArray, List.length_cons, List.length_nil, Nat.reduceAdd, Nat.reduceSub, Array.replicate_succ, Array.replicate_zero, List.push_toArray, List.append_toArray, List.nil_append, List.cons_append]
  gi_wp2
  gi_loopw [7] (fun i wr => i = .int .i64 0 ∧ J [] wr) (fun _ _ => 0)
  case atStart => exact ⟨rfl, h0⟩
  case round =>
    obtain ⟨rfl, hJs⟩ := hrel
    gi_wp2
    go_end0
    exact ⟨⟨_, rfl⟩, hJs⟩
def toL (s : ByteArray) : List UInt8 := s.data.toList
def ofL (l : List UInt8) : ByteArray := ⟨l.toArray⟩
theorem of_to (s : ByteArray) : ofL (toL s) = s := by cases s; simp [ofL, toL]
theorem enc_to (s : ByteArray) : encStr (toL s) = .string s := by cases s; simp [encStr, toL]
theorem map_enc (xs : List ByteArray) : (xs.map toL).map encStr = encs Value.string xs := by
  rw [List.map_map]
  exact List.map_congr_left fun x _ => enc_to x
theorem map_enc' (ss : List (List UInt8)) : ss.map encStr = encs Value.string (ss.map ofL) := by
  unfold encs
  rw [List.map_map]
  rfl
def sortedS (xs : List ByteArray) : List ByteArray := ((xs.map toL).mergeSort fun x y => decide (x ≤ y)).map ofL
def wordsOf (xs : List ByteArray) : List ByteArray := (Lib.compact ((xs.map toL).mergeSort fun x y => decide (x ≤ y))).map ofL
theorem to_of (l : List UInt8) : toL (ofL l) = l := by simp [ofL, toL]
theorem sortedS_len (xs : List ByteArray) : (sortedS xs).length = xs.length := by unfold sortedS; rw [List.length_map, List.length_mergeSort, List.length_map]
theorem words_eq (xs : List ByteArray) : (Lib.compact ((sortedS xs).map toL)).map ofL = wordsOf xs := by
  have e : (sortedS xs).map toL = (xs.map toL).mergeSort fun x y => decide (x ≤ y) := by
    unfold sortedS
    rw [List.map_map]
    exact (List.map_congr_left (fun x _ => to_of x)).trans (List.map_id _)
  rw [e]
  rfl
theorem two_rows {W W' : World} {B g na ca nb cb : Nat} {Aa Ab : Option Addr} {ok ok' : Nat → Prop} {sa sb : List ByteArray} (ha : Kd.string.R 9 W B ok (.slice Aa na ca) sa) (hb : Kd.string.R 9 W B ok' (.slice Ab nb cb) sb) (hW : Below W.heap.size W W') (hx : W'.heap[g]? = some (.cells #[.slice Aa na ca, .slice Ab nb cb] 82 (0, 0))) :
    (Kd.slice 9 Kd.string).C W' (some ⟨g, 0, none⟩) ([sa, sb] : List (List ByteArray)).length [sa, sb] := by
  obtain ⟨rfl, a1, a2⟩ := Kd.R_reads' ha
  obtain ⟨rfl, b1, b2⟩ := Kd.R_reads' hb
  refine ⟨rfl, by simp, fun _ => ⟨⟨g, 0, none⟩, rfl, fun j p hj => ?_⟩⟩
  have c0 := blk_cell hx 0
  have c1 := blk_cell hx 1
  match j with
  | 0 =>
    obtain rfl : sa = p := by simpa using hj
    exact ⟨[.slice Aa sa.length ca], rfl, ⟨Aa, ca, rfl, a1, Kd.C_below a2 hW⟩, fun k u hk => by
      match k with
      | 0 => obtain rfl : _ = u := by simpa using hk
             exact c0
      | k + 1 => simp at hk⟩
  | 1 =>
    obtain rfl : sb = p := by simpa using hj
    exact ⟨[.slice Ab sb.length cb], rfl, ⟨Ab, cb, rfl, b1, Kd.C_below b2 hW⟩, fun k u hk => by
      match k with
      | 0 => obtain rfl : _ = u := by simpa using hk
             exact c1
      | k + 1 => simp at hk⟩
  | j + 2 => simp at hj
theorem compact_mem {zs : List (List UInt8)} {x : List UInt8} (h : x ∈ Lib.compact zs) : x ∈ zs := by
  unfold Lib.compact Lib.compactUpTo at h
  obtain ⟨j, hj, rfl⟩ := List.mem_map.1 h
  have hl : j < zs.length := List.mem_range.1 (List.mem_filter.1 hj).1
  rw [getElem!_pos zs.toArray j (by simpa using hl)]
  exact List.getElem_mem hl
theorem words_mem {xs : List ByteArray} {x : ByteArray} (h : x ∈ wordsOf xs) : x ∈ xs := by
  unfold wordsOf at h
  obtain ⟨l, hl, rfl⟩ := List.mem_map.1 h
  have h2 := (List.mergeSort_perm _ _).mem_iff.1 (compact_mem hl)
  obtain ⟨y, hy, rfl⟩ := List.mem_map.1 h2
  rw [of_to]
  exact hy
theorem grown_cell (W : World) (b i : Nat) (v : Value) : W.grownBy (W.setCell ⟨b, i, none⟩ v) (some b) :=
  ⟨rfl, rfl, rfl, Nat.le_of_eq (by show W.heap.size = (W.heap.modify b _).size; rw [Array.size_modify]), fun k _ hk => Below.heap_setCell _ _ _ k (fun e => hk (by rw [e]))⟩
theorem grown_two {w W W' : World} {b : Nat} (h : w.grownBy W (some b)) (k : W.grownBy W' (some b)) : w.grownBy W' (some b) :=
  ⟨k.os.trans h.os, k.tape.trans h.tape, k.output.trans h.output, Nat.le_trans h.size k.size, fun i hi hn => (k.block i (Nat.lt_of_lt_of_le hi h.size) hn).trans (h.block i hi hn)⟩
structure Rd (wr W : World) (s : ByteArray) (g : Nat) (cs : Array Value) : Prop where
  be : Below wr.heap.size wr W
  by_ : W.heap[wr.heap.size]? = (Lib.bytesWorld wr 5 s).heap[wr.heap.size]?
  bx : W.heap[g]? = some (.cells cs 48 (0, 0))
  lt : wr.heap.size < g
theorem Rd.set {wr W W' : World} {s : ByteArray} {g : Nat} {cs cs' : Array Value} (h : Rd wr W s g cs) (hg : W.grownBy W' (some g)) (hb : W'.heap[g]? = some (.cells cs' 48 (0, 0))) : Rd wr W' s g cs' :=
  ⟨pw_below_grown h.be (some g) h.be.size hg (fun k e => by injection e with e; have := h.lt; omega), (hg.block _ (Nat.lt_trans h.lt (Array.getElem?_eq_some_iff.1 h.bx).1) (fun e => by injection e with e; have := h.lt; omega)).trans h.by_, hb, h.lt⟩
theorem Rd.drew {wr W : World} {s : ByteArray} {g : Nat} {cs : Array Value} (h : Rd wr W s g cs) (n : Nat) : Rd wr (W.drewN n) s g cs := ⟨pw_below_drewN h.be n, h.by_, h.bx, h.lt⟩
theorem sortsA (m : Nat) : AnyZ.SortsIn Try.prog Lay.sortedS_ren Fence.wide m :=
  ⟨fun blk off cap ss W hH hblk hsz => callsIn_wide.2 (AnyM.slices_Sort_string Lay.sortS blk off cap ss W hH hblk hsz),
   fun p cap W => callsIn_wide.2 (AnyM.slices_Sort_string_none Lay.sortS p cap W)⟩
theorem seqOf (v : Value) (Bs base : Nat) (ok : Nat → Prop) (xs : List ByteArray) (hl : xs.length ≤ 1048576) (w : World) (hBs : w.cell? ⟨Bs, 0, none⟩ = some v) (hR : Kd.string.R 9 w base ok v xs) (n : Nat) (hn : 1 ≤ n) :
    SeqB Fence.wide n Try.prog 85 #[.pointer (some ⟨Bs, 0, none⟩)] (fun ss => ss = xs.map toL) xs.length w := fun l J W hW hJ hJb hY h0 => by
  have hBl : Bs < w.heap.size := World.block_lt_of_cell? w _ hBs
  have hBs' := (hW.cell (p := ⟨Bs, 0, none⟩) hBl).trans hBs
  have hown := Kd.own_of_R hR
  rcases hown.2 with ⟨rfl, hz⟩ | ⟨g, cap, cur, rfl, hbb, hh, hnc, hcm, hcs, ht⟩
  · have hx := List.eq_nil_of_length_eq_zero hz
    refine (values0 Fence.wide n trivial rfl l Bs 0 none J W hBs' h0).mono ?_
    rintro e W' ⟨he, hj⟩
    exact ⟨he, _, by rw [hx]; rfl, hj⟩
  · have hg : g < w.heap.size := (Array.getElem?_eq_some_iff.1 hh).1
    have hc : ∀ j, j < xs.length → w.cell? ⟨g, 0 + j, none⟩ = some (encStr ((xs.map toL)[j]?.getD [])) := fun j hj => by
      rw [Nat.zero_add, blk_cell hh j, List.getElem?_map, List.getElem?_eq_getElem hj]
      have h2 : (cur.toList.take (xs.length * 1))[j]? = (encs Value.string xs)[j]? := by rw [ht]
      rw [List.getElem?_take, if_pos (by omega), Array.getElem?_toList] at h2
      rw [h2]
      unfold encs
      rw [List.getElem?_map, List.getElem?_eq_getElem hj]
      show some _ = some (encStr (toL xs[j]))
      rw [enc_to]
    refine (values1 Fence.wide n trivial rfl hn l Bs g 0 xs.length cap (xs.map toL) hl w hg J hJb hY W hBs' hc h0).mono ?_
    rintro e W' ⟨he, hj⟩
    refine ⟨he, _, ?_, hj⟩
    have := upto_all (xs.map toL)
    rwa [List.length_map] at this
set_option maxHeartbeats 1000000 in
theorem valuesOf (v : Value) (A : Option Addr) (n c : Nat) (hv : v = .slice A n c) (w : World) : Calls Try.prog 75 #[v] w fun e w' => e = .returned (.func (.func 85) #[] #[.pointer (some ⟨w.heap.size, 0, none⟩)]) ∧ w' = w.alloc (.cells #[v] 82) := by
  subst hv
  go_enter Try.func75, Try.ntmps75
  go_wp2
  go_ret
  exact ⟨rfl, rfl⟩
set_option maxHeartbeats 1000000 in
theorem sortedOf (v : Value) (Bs base : Nat) (ok : Nat → Prop) (xs : List ByteArray) (hl : xs.length ≤ 1048576) (w : World) (hBs : w.cell? ⟨Bs, 0, none⟩ = some v) (hR : Kd.string.R 9 w base ok v xs) :
    Calls Try.prog 74 #[.func (.func 85) #[] #[.pointer (some ⟨Bs, 0, none⟩)]] w fun e w' => ∃ u : Value, e = .returned u ∧ Kd.string.R 9 w' w.heap.size (fun _ => True) u (sortedS xs) ∧ Below w.heap.size w w' := by
  refine (callsIn_wide (n := 6)).1 ?_
  have h := sortedB (ρ := Lay.sortedS_ren) Lay.sortedS Fence.wide 6 trivial trivial trivial trivial rfl (by omega) (sortsA _) (enters_of Try.func84 (by kernel_rfl) rfl) 85 #[.pointer (some ⟨Bs, 0, none⟩)] trivial (enters_of Try.func85 (by kernel_rfl) rfl) (fun ss => ss = xs.map toL) xs.length (by unfold maxLen; omega) (by omega) w (seqOf v Bs base ok xs hl w hBs hR _ (by omega)) (fun ss h => by rw [h, List.length_map]; exact Nat.le_refl _)
  change CallsIn _ _ Try.prog 74 _ _ _ at h
  refine h.mono ?_
  rintro e w' ⟨u, ss, rfl, rfl, hrow, _, hb⟩
  refine ⟨u, rfl, Kd.R_of_own ?_ (fun _ _ => trivial), hb⟩
  change w'.ownsRow w.heap.size 9 1 u _ _ at hrow
  rw [map_enc'] at hrow
  unfold sortedS
  rw [List.length_map, List.length_mergeSort]
  exact hrow
theorem compact_le (zs : List (List UInt8)) : (Lib.compact zs).length ≤ zs.length := by
  unfold Lib.compact Lib.compactUpTo
  rw [List.length_map]
  refine Nat.le_trans (List.length_filter_le _ _) ?_
  rw [List.length_range]
  exact Nat.le_refl _
set_option maxHeartbeats 1000000 in
theorem compactOf (v : Value) (ok : Nat → Prop) (xs : List ByteArray) (w0 w : World) (hB : Below w0.heap.size w0 w) (hR : Kd.string.R 9 w w0.heap.size ok v xs) (hl : xs.length ≤ 1048576) :
    Calls Try.prog 73 #[v] w fun e w' => ∃ u : Value, e = .returned u ∧ Kd.string.R 9 w' w0.heap.size ok u ((Lib.compact (xs.map toL)).map ofL) ∧ Below w0.heap.size w0 w' ∧ w.grownBy w' v.ownBlock := by
  have hown := Kd.own_of_R hR
  rcases hown.2 with ⟨rfl, hz⟩ | ⟨g, cap, cur, rfl, hbb, hh, hnc, hcm, hcs, ht⟩
  · obtain rfl := List.eq_nil_of_length_eq_zero hz
    refine (Any.slices_Compact_string_empty (ρ := Lay.compactS_ren) Lay.compactS none 0 w).mono ?_
    rintro e w' ⟨rfl, rfl⟩
    exact ⟨_, rfl, hR, hB, World.grownBy.refl _ _⟩
  · have ht' : cur.toList.take (xs.map toL).length = (xs.map toL).map encStr := by
      rw [map_enc, List.length_map, ← ht, Nat.mul_one]
    have hH : Holds encStr w g 0 (xs.map toL).toArray := holds_of_block hh ht'
    have hle : (Lib.compact (xs.map toL)).length ≤ (xs.map toL).length := compact_le _
    have h := Any.slices_Compact_string (ρ := Lay.compactS_ren) Lay.compactS g 0 cap (xs.map toL) w hH (by rw [List.length_map]; omega) (by rw [List.length_map]; exact hnc)
    change Calls Try.prog 73 _ _ _ at h
    rw [List.length_map] at h
    refine h.mono ?_
    rintro e w' ⟨rfl, q, rfl⟩
    rw [List.length_map] at hle
    generalize hC : Lib.compact (xs.map toL) = C at *
    have hgr := grownBy_sorted (w := w) (g := g) (n := q) (os := #[]) (C ++ List.replicate (xs.length - C.length) []).toArray
    have ho := ownsRow_sorted (n := q) (os := #[]) (ss := xs.map toL) (ts := C ++ List.replicate (xs.length - C.length) []) (by rw [List.length_append, List.length_replicate, List.length_map]; omega) hbb hh (by rw [List.length_map]; exact hnc) hcm (by rw [hcs])
    have eg : grow (putRow encStr (Sort.ahead w q) g 0 (C ++ List.replicate (xs.length - C.length) []).toArray) #[] = putRow encStr (Sort.ahead w q) g 0 (C ++ List.replicate (xs.length - C.length) []).toArray := grow_empty _
    rw [eg] at hgr ho
    rw [List.length_map] at ho
    refine ⟨_, rfl, Kd.R_of_own ?_ (fun k hk => hR.1 k (by simpa [Value.ownBlock] using hk)), hB.grown hgr hB.size (fun k e => by injection e with e; omega), by simpa [Value.ownBlock] using hgr⟩
    rcases ho.2 with ⟨he, _⟩ | ⟨g', cap', cur', he, hb', hh', hnc', hcm', hcs', ht''⟩
    · cases he
    injection he with he1 he2 he3
    injection he1 with he1
    injection he1 with he1
    subst he1; subst he3
    refine ⟨by unfold encs; rw [List.length_map, List.length_map, Nat.mul_one], .inr ⟨g, cap, cur', by rw [List.length_map], hb', hh', by rw [List.length_map]; omega, hcm', hcs', ?_⟩⟩
    have h3 := congrArg (List.take (C.length)) ht''
    rw [List.take_take, Nat.mul_one, Nat.min_eq_left hle, List.map_append, List.take_left' (by rw [List.length_map])] at h3
    rw [List.length_map, Nat.mul_one, h3, map_enc']
end Go.Proofs.Ytadhngelhognaaa.Srt
