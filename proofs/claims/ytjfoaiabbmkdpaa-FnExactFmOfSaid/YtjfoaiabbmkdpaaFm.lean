import Derived.Test.YtjfoaiabbmkdpaaProg
import Derived.Below
import Derived.Deep.Draws
import Derived.Deep.AppendLies
import Derived.Maps.AppendAt
import Derived.OwnWalk
import Derived.Laws.BytesArg
import Derived.Laws.MakeOwn
import Derived.Laws.OwnMore
import Derived.Deep.OwnRows
import Derived.Tactics
import Derived.Lib.ConvBytes
import Derived.Laws.Slices
import Derived.WalkKit
import Derived.KernelRfl
import Derived.RowKit3
import Derived.Deep.LoopGhost
import Derived.Deep.QuietTactic
import Derived.BigQuiet
import Derived.WideLaws
import Derived.Deep.DeepCutAuto
import Derived.Deep.CutBlock
import Derived.Deep.RegionHeld3
import Derived.Laws.Rows
import Derived.Lib.AppendStr
import Derived.ArgAppend
import Derived.Laws.IdiomCopy
import Derived.OrdersHeld
import Derived.Laws.BitsLemmas
import Derived.RowKit
import Derived.Shelf.Abstract
import Derived.DataElems
import Derived.Test.YtjfoaiabbmkdpaaWWords
import Derived.Test.YtjfoaiabbmkdpaaWLast
import Derived.Test.YtjfoaiabbmkdpaaWTab
import Derived.Test.YtjfoaiabbmkdpaaWQPut
import Derived.Test.YtjfoaiabbmkdpaaWApart
import Derived.Test.YtjfoaiabbmkdpaaWArr
import Derived.Test.YtjfoaiabbmkdpaaWZeros
import Derived.Test.YtjfoaiabbmkdpaaWFoot
import Derived.Test.YtjfoaiabbmkdpaaWKept
import Derived.Test.YtjfoaiabbmkdpaaWShare
import Derived.Test.YtjfoaiabbmkdpaaWN
import Derived.Test.YtjfoaiabbmkdpaaWEqStruct
import Derived.Test.YtjfoaiabbmkdpaaWRepsOne
import Derived.Test.YtjfoaiabbmkdpaaWGuard
import Derived.Test.YtjfoaiabbmkdpaaWNEv
import Derived.Test.YtjfoaiabbmkdpaaWMore
import Derived.Test.YtjfoaiabbmkdpaaOpen
-- import Open
/- A walk that fills a box b, and hands it on in a box a: one fact of the world. -/
namespace Go.Proofs.Ytjfoaiabbmkdpaa.Fm
open Go.RowKit Go.Proofs.YtjfoaiabbmkdpaaW.PrintWords
set_option linter.unusedVariables false
/-- What is known of rows that are neither block a nor block b. -/
structure W2 (t : Nat) (w W : World) (a b : Nat) (ca cb : Array Value) (P : World → Prop) : Prop where
  be : Below w.heap.size w W
  la : w.heap.size ≤ a
  lb : w.heap.size ≤ b
  ba : W.heap[a]? = some (.cells ca t (0, 0))
  bb : W.heap[b]? = some (.cells cb t (0, 0))
  kp : Foot P W (fun k => k ≠ a ∧ k ≠ b)
section
variable {α : Type} {d : Kd α} {t e base a b : Nat} {w W W1 : World} {ca cb c1 : Array Value} {P Q : World → Prop} {ok : Nat → Prop} {v : Value} {xs : List α}
theorem W2.below (h : W2 t w W a b ca cb P) (hb : Below W.heap.size W W1) : W2 t w W1 a b ca cb P :=
  ⟨below_then h.be h.be.size hb, h.la, h.lb, blk_below h.ba hb, blk_below h.bb hb, h.kp.step (fun k _ hlt => hb.block k hlt)⟩
theorem W2.drew (h : W2 t w W a b ca cb P) (n : Nat) : W2 t w (W.drewN n) a b ca cb P := h.below (pw_below_drewN (Below.refl _ _) n)
theorem W2.setb (h : W2 t w W a b ca cb P) (hab : a ≠ b) (hg : W.grownBy W1 (some b)) (hb : W1.heap[b]? = some (.cells c1 t (0, 0))) : W2 t w W1 a b ca c1 P :=
  ⟨⟨hg.os.trans h.be.os, hg.tape.trans h.be.tape, hg.output.trans h.be.output, Nat.le_trans h.be.size hg.size, fun k hk => (hg.block k (Nat.lt_of_lt_of_le hk h.be.size) (fun e => by injection e with e; have := h.lb; omega)).trans (h.be.block k hk)⟩,
   h.la, h.lb, (hg.block a (blk_lt h.ba) (fun e => hab (by injection e))).trans h.ba, hb, h.kp.step (fun k hk hlt => hg.block k hlt (fun e => hk.2 (by injection e)))⟩
theorem W2.seta (h : W2 t w W a b ca cb P) (hab : a ≠ b) (hg : W.grownBy W1 (some a)) (hb : W1.heap[a]? = some (.cells c1 t (0, 0))) : W2 t w W1 a b c1 cb P :=
  ⟨⟨hg.os.trans h.be.os, hg.tape.trans h.be.tape, hg.output.trans h.be.output, Nat.le_trans h.be.size hg.size, fun k hk => (hg.block k (Nat.lt_of_lt_of_le hk h.be.size) (fun e => by injection e with e; have := h.la; omega)).trans (h.be.block k hk)⟩,
   h.la, h.lb, hb, (hg.block b (blk_lt h.bb) (fun e => hab (by injection e with e; exact e.symm))).trans h.bb, h.kp.step (fun k hk hlt => hg.block k hlt (fun e => hk.1 (by injection e)))⟩
theorem W2.imp (h : W2 t w W a b ca cb P) (hi : ∀ W', P W' → Q W') : W2 t w W a b ca cb Q := ⟨h.be, h.la, h.lb, h.ba, h.bb, h.kp.imp hi⟩
theorem W2.now (h : W2 t w W a b ca cb P) : P W := h.kp.now
theorem W2.and (h : W2 t w W a b ca cb P) (k : Foot Q W (fun k => k ≠ a ∧ k ≠ b)) : W2 t w W a b ca cb (fun W' => P W' ∧ Q W') := ⟨h.be, h.la, h.lb, h.ba, h.bb, fun W' hW => ⟨h.kp W' hW, k W' hW⟩⟩
theorem footR (ha : W.heap[a]? = some (.cells ca t (0, 0))) (hb : W.heap[b]? = some (.cells cb t (0, 0))) (hr : d.R e W base ok v xs) (ht : ∀ q, q ∈ e :: d.E → q ≠ t) : Foot (fun W' => d.R e W' base ok v xs) W (fun k => k ≠ a ∧ k ≠ b) :=
  fun W' hW => Kd.R_mono (Kd.R_step (Kd.R_types (Kd.R_types hr ha ht) hb ht) (fun k hk hlt => hW k ⟨hk.1.2, hk.2⟩ hlt)) (fun _ hk => hk.1.1)
theorem footS (ha : W.heap[a]? = some (.cells ca t (0, 0))) (hb : W.heap[b]? = some (.cells cb t (0, 0))) (hr : Kd.S d e W base ok v xs) (ht : ∀ q, q ∈ e :: d.E → q ≠ t) : Foot (fun W' => Kd.S d e W' base ok v xs) W (fun k => k ≠ a ∧ k ≠ b) :=
  fun W' hW => Kd.S_mono (Kd.S_step (Kd.S_types (Kd.S_types hr ha ht) hb ht) (fun k hk hlt => hW k ⟨hk.1.2, hk.2⟩ hlt)) (fun _ hk => hk.1.1)
theorem W2.addR (h : W2 t w W a b ca cb P) (hr : d.R e W base ok v xs) (ht : ∀ q, q ∈ e :: d.E → q ≠ t) : W2 t w W a b ca cb (fun W' => P W' ∧ d.R e W' base ok v xs) := h.and (footR h.ba h.bb hr ht)
theorem W2.addS (h : W2 t w W a b ca cb P) (hr : Kd.S d e W base ok v xs) (ht : ∀ q, q ∈ e :: d.E → q ≠ t) : W2 t w W a b ca cb (fun W' => P W' ∧ Kd.S d e W' base ok v xs) := h.and (footS h.ba h.bb hr ht)
end
section
variable {α β : Type} {d : Kd α} {d' : Kd β} {t e e' base a b : Nat} {w B W W1 : World} {ca cb : Array Value} {P Q : World → Prop} {ok : Nat → Prop} {v v1 v2 u : Value} {xs : List α} {ys : List β}
/-- The result's box alone. -/
theorem W2.start (hb : Below w.heap.size w W) (ha : w.heap.size ≤ a) (hx : W.heap[a]? = some (.cells ca t (0, 0))) : W2 t w W a a ca ca (fun _ => True) := ⟨hb, ha, ha, hx, hx, fun _ _ => trivial⟩
/-- The box that is filled is made. -/
theorem W2.box (h : W2 t w W a a ca ca P) (hg : b = W.heap.size) (hx : W1.heap[b]? = some (.cells cb t (0, 0))) (hb : Below W.heap.size W W1) : W2 t w W1 a b ca cb P ∧ a ≠ b := by
  have hlt := blk_lt h.ba
  exact ⟨⟨below_then h.be h.be.size hb, h.la, by rw [hg]; exact h.be.size, blk_below h.ba hb, hx,
    ((h.kp.bound).step (fun k _ hlt => hb.block k hlt)).mono (fun k hk => ⟨hk.1.1, fun e => by have := hk.2; omega⟩)⟩, by omega⟩
/-- Two rows that grow side by side; all that B had stays. -/
structure Two (d : Kd α) (d' : Kd β) (e e' : Nat) (B W : World) (v u : Value) (xs : List α) (ys : List β) : Prop where
  be : Below B.heap.size B W
  r : d.R e W B.heap.size (fun _ => True) v xs
  s : d'.R e' W B.heap.size (fun _ => True) u ys
  ne : ∀ k, v.ownBlock = some k → some k ≠ u.ownBlock
theorem Two.app1 (h : Two d d' e e' B W v u xs ys) (hd : d'.E = []) {v1 : Value} {zs : List α} (hr : d.R e W1 B.heap.size (fun _ => True) v1 zs) (hb : Below B.heap.size B W1) (hg : W.grownBy W1 v.ownBlock) (hat : v1.ownBlock = v.ownBlock ∨ ∃ b, v1.ownBlock = some b ∧ W.heap.size ≤ b) : Two d d' e e' B W1 v1 u zs ys :=
  ⟨hb, hr, Kd.R_grown2 h.s hd hg h.ne, fun k hk he => by
    rcases hat with hat | ⟨b, hb, hle⟩
    · exact h.ne k (hat ▸ hk) he
    · have h1 := Kd.R_lt h.s k he.symm
      rw [hb] at hk
      injection hk with hk
      omega⟩
theorem Two.app2 (h : Two d d' e e' B W v u xs ys) (hd : d.E = []) {u1 : Value} {zs : List β} (hr : d'.R e' W1 B.heap.size (fun _ => True) u1 zs) (hb : Below B.heap.size B W1) (hg : W.grownBy W1 u.ownBlock) (hat : u1.ownBlock = u.ownBlock ∨ ∃ b, u1.ownBlock = some b ∧ W.heap.size ≤ b) : Two d d' e e' B W1 v u1 xs zs :=
  ⟨hb, Kd.R_grown2 h.r hd hg (fun k hk he => h.ne k he.symm hk.symm), hr, fun k hk he => by
    rcases hat with hat | ⟨b, hb, hle⟩
    · exact h.ne k hk (hat ▸ he)
    · have h1 := Kd.R_lt h.r k hk
      rw [hb] at he
      injection he with he
      omega⟩
/-- A new row beside another. -/
theorem Two.of (hb : Below B.heap.size B W) (h : d.R e W B.heap.size (fun _ => True) v xs) (hg : W.grownBy W1 none) (hb1 : Below B.heap.size B W1) (hs : d'.R e' W1 B.heap.size (fun _ => True) u ys) (hn : ∃ b, u.ownBlock = some b ∧ W.heap.size ≤ b) : Two d d' e e' B W1 v u xs ys :=
  ⟨hb1, Kd.R_grown h hg (fun _ _ => by simp), hs, fun k hk he => by
    obtain ⟨b, hb, hle⟩ := hn
    have h1 := Kd.R_lt h k hk
    rw [hb] at he
    injection he with he
    omega⟩
theorem Two.nil (B : World) : Two d d' e e' B B (.slice none 0 0) (.slice none 0 0) [] [] := ⟨Below.refl _ _, Kd.R_nil _ _ _ _ _, Kd.R_nil _ _ _ _ _, fun k hk => by simp [Value.ownBlock] at hk⟩
end
theorem gc (W : World) (b i : Nat) (v : Value) : W.grownBy (W.setCell ⟨b, i, none⟩ v) (some b) :=
  ⟨rfl, rfl, rfl, Nat.le_of_eq (by show W.heap.size = (W.heap.modify b _).size; rw [Array.size_modify]), fun k _ hk => Below.heap_setCell _ _ _ k (fun e => hk (by rw [e]))⟩
theorem gg {w W W' : World} {b : Nat} (h : w.grownBy W (some b)) (k : W.grownBy W' (some b)) : w.grownBy W' (some b) :=
  ⟨k.os.trans h.os, k.tape.trans h.tape, k.output.trans h.output, Nat.le_trans h.size k.size, fun i hi hn => (k.block i (Nat.lt_of_lt_of_le hi h.size) hn).trans (h.block i hi hn)⟩
theorem W2.set1 {t a : Nat} {w W W1 : World} {ca c1 : Array Value} {P : World → Prop} (h : W2 t w W a a ca ca P) (hg : W.grownBy W1 (some a)) (hb : W1.heap[a]? = some (.cells c1 t (0, 0))) : W2 t w W1 a a c1 c1 P :=
  ⟨⟨hg.os.trans h.be.os, hg.tape.trans h.be.tape, hg.output.trans h.be.output, Nat.le_trans h.be.size hg.size, fun k hk => (hg.block k (Nat.lt_of_lt_of_le hk h.be.size) (fun e => by injection e with e; have := h.la; omega)).trans (h.be.block k hk)⟩,
   h.la, h.lb, hb, hb, h.kp.step (fun k hk hlt => hg.block k hlt (fun e => hk.1 (by injection e)))⟩
theorem Two.drew {α β : Type} {d : Kd α} {d' : Kd β} {e e' : Nat} {B W : World} {v u : Value} {xs : List α} {ys : List β} (h : Two d d' e e' B W v u xs ys) (n : Nat) : Two d d' e e' B (W.drewN n) v u xs ys :=
  ⟨pw_below_drewN h.be n, Kd.R_drewN h.r n, Kd.R_drewN h.s n, h.ne⟩
/-- What is known of a row, bounded by the world's size. -/
theorem W2.up {α : Type} {d : Kd α} {t e base a b : Nat} {w W : World} {ca cb : Array Value} {P : World → Prop} {ok : Nat → Prop} {v : Value} {xs : List α} (h : W2 t w W a b ca cb P) (hr : d.R e W base ok v xs) (ht : ∀ q, q ∈ e :: d.E → q ≠ t) : W2 t w W a b ca cb (fun W' => P W' ∧ d.R e W' base (fun k => ok k ∧ k < W.heap.size) v xs) :=
  h.addR (Kd.R_mono (Kd.R_bound hr) (fun _ h => ⟨h.1, h.2.2.1⟩)) ht
theorem W2.upS {α : Type} {d : Kd α} {t e base a b : Nat} {w W : World} {ca cb : Array Value} {P : World → Prop} {ok : Nat → Prop} {v : Value} {xs : List α} (h : W2 t w W a b ca cb P) (hr : Kd.S d e W base ok v xs) (ht : ∀ q, q ∈ e :: d.E → q ≠ t) : W2 t w W a b ca cb (fun W' => P W' ∧ Kd.S d e W' base (fun k => ok k ∧ k < W.heap.size) v xs) :=
  h.addS (Kd.S_mono (Kd.S_bound hr) (fun _ h => ⟨h.1, h.2.2.1⟩)) ht
/-- A new row's blocks are behind its world's. -/
theorem lo {α : Type} {d : Kd α} {e base base' : Nat} {W : World} {ok : Nat → Prop} {v : Value} {xs : List α} (hr : d.R e W base ok v xs) (hb : base' ≤ base) : d.R e W base' (fun k => base ≤ k) v xs := Kd.R_lower (Kd.R_mono (Kd.R_bound hr) (fun _ h => h.2.1)) hb
theorem loS {α : Type} {d : Kd α} {e base base' : Nat} {W : World} {ok : Nat → Prop} {v : Value} {xs : List α} (hr : Kd.S d e W base ok v xs) (hb : base' ≤ base) : Kd.S d e W base' (fun k => base ≤ k) v xs := Kd.S_lower (Kd.S_mono (Kd.S_bound hr) (fun _ h => h.2.1)) hb
/-- An index's rows: whose a block is, f tells. -/
structure M6 {α : Type} (d : Kd α) (e : Nat) (f : Nat → Nat) (G W : World) (v3 v4 v5 v7 v11 v15 : Value) (z : List Int) (L : List α) (c m s i : List Int) : Prop where
  r3 : Kd.R (Kd.int .i64) 3 W G.heap.size (fun k => f k = 3) v3 z
  r4 : Kd.S d e W G.heap.size (fun k => f k = 4) v4 L
  r5 : Kd.R (Kd.int .i64) 3 W G.heap.size (fun k => f k = 5) v5 c
  r7 : Kd.R (Kd.int .u64) 67 W G.heap.size (fun k => f k = 7) v7 m
  r11 : Kd.R (Kd.int .u64) 67 W G.heap.size (fun k => f k = 11) v11 s
  r15 : Kd.R (Kd.int .u64) 67 W G.heap.size (fun k => f k = 15) v15 i
section
variable {α : Type} {d : Kd α} {e : Nat} {f : Nat → Nat} {G G0 W W1 : World} {v3 v4 v5 v7 v11 v15 : Value} {z : List Int} {L : List α} {c m s i : List Int}
theorem mvR {β : Type} {d : Kd β} {e base : Nat} {ok : Nat → Prop} {v : Value} {xs : List β} (h : d.R e W base ok v xs) (hm : ∀ k, base ≤ k → k < W.heap.size → W1.heap[k]? = W.heap[k]?) : d.R e W1 base ok v xs :=
  Kd.R_mono (Kd.R_step (Kd.R_bound h) (fun k hk hlt => hm k hk.2.1 hlt)) (fun _ hk => hk.1)
theorem mvS {β : Type} {d : Kd β} {e base : Nat} {ok : Nat → Prop} {v : Value} {xs : List β} (h : Kd.S d e W base ok v xs) (hm : ∀ k, base ≤ k → k < W.heap.size → W1.heap[k]? = W.heap[k]?) : Kd.S d e W1 base ok v xs :=
  Kd.S_mono (Kd.S_step (Kd.S_bound h) (fun k hk hlt => hm k hk.2.1 hlt)) (fun _ hk => hk.1)
theorem M6.move (h : M6 d e f G W v3 v4 v5 v7 v11 v15 z L c m s i) (hm : ∀ k, G.heap.size ≤ k → k < W.heap.size → W1.heap[k]? = W.heap[k]?) : M6 d e f G W1 v3 v4 v5 v7 v11 v15 z L c m s i :=
  ⟨mvR h.r3 hm, mvS h.r4 hm, mvR h.r5 hm, mvR h.r7 hm, mvR h.r11 hm, mvR h.r15 hm⟩
theorem M6.below (h : M6 d e f G W v3 v4 v5 v7 v11 v15 z L c m s i) (hb : Below W.heap.size W W1) : M6 d e f G W1 v3 v4 v5 v7 v11 v15 z L c m s i := h.move (fun k _ hlt => hb.block k hlt)
theorem M6.drew (h : M6 d e f G W v3 v4 v5 v7 v11 v15 z L c m s i) (n : Nat) : M6 d e f G (W.drewN n) v3 v4 v5 v7 v11 v15 z L c m s i := h.below (pw_below_drewN (Below.refl _ _) n)
theorem M6.kept {S : Nat → Prop} (h : M6 d e f G W v3 v4 v5 v7 v11 v15 z L c m s i) (hk : Kept W W1 S) (hs : ∀ k, S k → k < G.heap.size) : M6 d e f G W1 v3 v4 v5 v7 v11 v15 z L c m s i :=
  h.move (fun k hb hlt => hk.2 k hlt (fun hS => by have := hs k hS; omega))
theorem M6.lower (h : M6 d e f G W v3 v4 v5 v7 v11 v15 z L c m s i) (hb : G0.heap.size ≤ G.heap.size) : M6 d e f G0 W v3 v4 v5 v7 v11 v15 z L c m s i :=
  ⟨Kd.R_lower h.r3 hb, Kd.S_lower h.r4 hb, Kd.R_lower h.r5 hb, Kd.R_lower h.r7 hb, Kd.R_lower h.r11 hb, Kd.R_lower h.r15 hb⟩
theorem tyR {β : Type} {d : Kd β} {e base a t : Nat} {ca : Array Value} {ok : Nat → Prop} {v : Value} {xs : List β} (h : d.R e W base ok v xs) (ha : W.heap[a]? = some (.cells ca t (0, 0))) (ht : ∀ q, q ∈ e :: d.E → q ≠ t) (hg : W.grownBy W1 (some a)) : d.R e W1 base ok v xs :=
  Kd.R_mono (Kd.R_step (Kd.R_types h ha ht) (fun k hk hlt => hg.block k hlt (fun e => hk.2 (by injection e)))) (fun _ hk => hk.1)
theorem tyS {β : Type} {d : Kd β} {e base a t : Nat} {ca : Array Value} {ok : Nat → Prop} {v : Value} {xs : List β} (h : Kd.S d e W base ok v xs) (ha : W.heap[a]? = some (.cells ca t (0, 0))) (ht : ∀ q, q ∈ e :: d.E → q ≠ t) (hg : W.grownBy W1 (some a)) : Kd.S d e W1 base ok v xs :=
  Kd.S_mono (Kd.S_step (Kd.S_types h ha ht) (fun k hk hlt => hg.block k hlt (fun e => hk.2 (by injection e)))) (fun _ hk => hk.1)
theorem M6.setbox {a : Nat} {ca : Array Value} (h : M6 d e f G W v3 v4 v5 v7 v11 v15 z L c m s i) (ha : W.heap[a]? = some (.cells ca 33 (0, 0))) (hg : W.grownBy W1 (some a)) (ht : ∀ q, q ∈ e :: d.E → q ≠ 33) : M6 d e f G W1 v3 v4 v5 v7 v11 v15 z L c m s i :=
  ⟨tyR h.r3 ha (by decide) hg, tyS h.r4 ha ht hg, tyR h.r5 ha (by decide) hg, tyR h.r7 ha (by decide) hg, tyR h.r11 ha (by decide) hg, tyR h.r15 ha (by decide) hg⟩
theorem M6.nil (d : Kd α) (e : Nat) (G W : World) : M6 d e (fun _ => 0) G W (.slice none 0 0) (.slice none 0 0) (.slice none 0 0) (.slice none 0 0) (.slice none 0 0) (.slice none 0 0) [] [] [] [] [] [] := ⟨Kd.R_nil _ _ _ _ _, Kd.S_nil _ _ _ _ _, Kd.R_nil _ _ _ _ _, Kd.R_nil _ _ _ _ _, Kd.R_nil _ _ _ _ _, Kd.R_nil _ _ _ _ _⟩
def own6 (v3 v5 v7 v11 v15 : Value) (k : Nat) : Nat := if some k = v3.ownBlock then 3 else if some k = v5.ownBlock then 5 else if some k = v7.ownBlock then 7 else if some k = v11.ownBlock then 11 else if some k = v15.ownBlock then 15 else 4
theorem M6.of {a b c' d' : Nat} (h3 : Kd.R (Kd.int .i64) 3 W G.heap.size (fun k => a ≤ k) v3 z) (h4 : Kd.S d e W G.heap.size (fun k => ((a ≤ k ∧ k < b) ∧ k < c') ∧ k < d') v4 L) (h5 : Kd.R (Kd.int .i64) 3 W G.heap.size (fun k => True ∧ k < a) v5 c)
    (h7 : Kd.R (Kd.int .u64) 67 W G.heap.size (fun k => (b ≤ k ∧ k < c') ∧ k < d') v7 m) (h11 : Kd.R (Kd.int .u64) 67 W G.heap.size (fun k => c' ≤ k ∧ k < d') v11 s) (h15 : Kd.R (Kd.int .u64) 67 W G.heap.size (fun k => d' ≤ k) v15 i) (ht : ∀ q, q ∈ e :: d.E → q ≠ 3) :
    ∃ f, M6 d e f G W v3 v4 v5 v7 v11 v15 z L c m s i := by
  have ty : ∀ {u v : Value} {k : Nat}, (∀ k, u.ownBlock = some k → ∃ cells, W.heap[k]? = some (.cells cells 3 (0, 0))) → (∀ k, v.ownBlock = some k → ∃ cells, W.heap[k]? = some (.cells cells 67 (0, 0))) → some k = u.ownBlock → some k = v.ownBlock → False := by
    intro u v k hu hv h1 h2
    obtain ⟨x, hx⟩ := hu k h1.symm
    obtain ⟨y, hy⟩ := hv k h2.symm
    rw [hx] at hy
    injection hy with hy
    injection hy with _ hy
    exact absurd hy (by decide)
  have t3 := Kd.R_typed h3
  have t5 := Kd.R_typed h5
  have t7 := Kd.R_typed h7
  have t11 := Kd.R_typed h11
  have t15 := Kd.R_typed h15
  refine ⟨own6 v3 v5 v7 v11 v15, Kd.R_mono (Kd.R_tight rfl h3) fun k hk => ?_, Kd.S_mono (Kd.S_bound h4) fun k hk => ?_, Kd.R_mono (Kd.R_tight rfl h5) fun k hk => ?_, Kd.R_mono (Kd.R_tight rfl h7) fun k hk => ?_, Kd.R_mono (Kd.R_tight rfl h11) fun k hk => ?_, Kd.R_mono (Kd.R_tight rfl h15) fun k hk => ?_⟩
  · unfold own6
    rw [if_pos hk]
  · obtain ⟨ok, hb, hl, q, hq, cells, hc⟩ := hk
    have no : ∀ {u : Value}, (∀ k, u.ownBlock = some k → ∃ cells, W.heap[k]? = some (.cells cells 3 (0, 0))) → ¬ some k = u.ownBlock := by
      intro u hu he
      obtain ⟨x, hx⟩ := hu k he.symm
      rw [hx] at hc
      injection hc with hc
      injection hc with _ hc
      exact ht q hq hc.symm
    unfold own6
    rw [if_neg (no t3), if_neg (no t5), if_neg (fun he => by have := h7.1 k he.symm; omega), if_neg (fun he => by have := h11.1 k he.symm; omega), if_neg (fun he => by have := h15.1 k he.symm; omega)]
  · have k5 := h5.1 k hk.symm
    unfold own6
    rw [if_neg (fun he => by have := h3.1 k he.symm; omega), if_pos hk]
  · unfold own6
    rw [if_neg (fun he => ty t3 t7 he hk), if_neg (fun he => ty t5 t7 he hk), if_pos hk]
  · have k11 := h11.1 k hk.symm
    unfold own6
    rw [if_neg (fun he => ty t3 t11 he hk), if_neg (fun he => ty t5 t11 he hk), if_neg (fun he => by have := h7.1 k he.symm; omega), if_pos hk]
  · have k15 := h15.1 k hk.symm
    unfold own6
    rw [if_neg (fun he => ty t3 t15 he hk), if_neg (fun he => ty t5 t15 he hk), if_neg (fun he => by have := h7.1 k he.symm; omega), if_neg (fun he => by have := h11.1 k he.symm; omega), if_pos hk]
end
section
variable {B W W1 : World} {v u q v1 : Value} {xs ys qs zs : List Int}
/-- Two growing rows of numbers, and one more that is apart from the first. -/
structure T3 (B W : World) (v u q : Value) (xs ys qs : List Int) : Prop where
  two : Two (Kd.int .i64) (Kd.int .i64) 3 3 B W v u xs ys
  rq : Kd.R (Kd.int .i64) 3 W B.heap.size (fun _ => True) q qs
  vq : ∀ k, v.ownBlock = some k → some k ≠ q.ownBlock
theorem Two.step (h : Two (Kd.int .i64) (Kd.int .i64) 3 3 B W v u xs ys) (hb : Below W.heap.size W W1) : Two (Kd.int .i64) (Kd.int .i64) 3 3 B W1 v u xs ys := ⟨below_then h.be h.be.size hb, Kd.R_below h.r hb, Kd.R_below h.s hb, h.ne⟩
theorem T3.step (h : T3 B W v u q xs ys qs) (hb : Below W.heap.size W W1) : T3 B W1 v u q xs ys qs := ⟨h.two.step hb, Kd.R_below h.rq hb, h.vq⟩
theorem T3.of (h : Two (Kd.int .i64) (Kd.int .i64) 3 3 B W v u xs ys) (hb : Below W.heap.size W W1) (hq : Kd.R (Kd.int .i64) 3 W1 W.heap.size (fun _ => True) q qs) : T3 B W1 v u q xs ys qs :=
  ⟨h.step hb, Kd.R_lower hq h.be.size, fun k hk he => by have h1 := Kd.R_lt h.r k hk; have h2 := Kd.R_base hq k he.symm; omega⟩
theorem T3.app1 (h : T3 B W v u q xs ys qs) (hr : Kd.R (Kd.int .i64) 3 W1 B.heap.size (fun _ => True) v1 zs) (hb : Below B.heap.size B W1) (hg : W.grownBy W1 v.ownBlock) (hat : v1.ownBlock = v.ownBlock ∨ ∃ b, v1.ownBlock = some b ∧ W.heap.size ≤ b) : T3 B W1 v1 u q zs ys qs :=
  ⟨h.two.app1 rfl hr hb hg hat, Kd.R_grown2 h.rq rfl hg (fun k hk => h.vq k hk), fun k hk he => by
    rcases hat with hat | ⟨b, hb, hle⟩
    · exact h.vq k (hat ▸ hk) he
    · have h1 := Kd.R_lt h.rq k he.symm
      rw [hb] at hk
      injection hk with hk
      omega⟩
end
section
variable {α : Type} {d : Kd α} {e : Nat} {f : Nat → Nat} {X G W W1 : World} {v3 v4 v5 v7 v11 v15 : Value} {z : List Int} {L : List α} {c m s i : List Int} {b : Nat} {cs : Array Value}
/-- What the marks are written into is bounded by the world's size. -/
theorem M6.cap (h : M6 d e f G W v3 v4 v5 v7 v11 v15 z L c m s i) : ∃ f', (∀ k, W.heap.size ≤ k → f' k = 0) ∧ M6 d e f' G W v3 v4 v5 v7 v11 v15 z L c m s i := by
  refine ⟨fun k => if k < W.heap.size then f k else 0, fun k hk => if_neg (by omega), ?_⟩
  have q : ∀ n k, f k = n ∧ k < W.heap.size → (if k < W.heap.size then f k else 0) = n := fun n k hk => by rw [if_pos hk.2]; exact hk.1
  exact ⟨Kd.R_mono (Kd.R_bound h.r3) fun k hk => q _ k ⟨hk.1, hk.2.2.1⟩, Kd.S_mono (Kd.S_bound h.r4) fun k hk => q _ k ⟨hk.1, hk.2.2.1⟩, Kd.R_mono (Kd.R_bound h.r5) fun k hk => q _ k ⟨hk.1, hk.2.2.1⟩, Kd.R_mono (Kd.R_bound h.r7) fun k hk => q _ k ⟨hk.1, hk.2.2.1⟩, Kd.R_mono (Kd.R_bound h.r11) fun k hk => q _ k ⟨hk.1, hk.2.2.1⟩, Kd.R_mono (Kd.R_bound h.r15) fun k hk => q _ k ⟨hk.1, hk.2.2.1⟩⟩
/-- An index's rows. -/
structure R6 {α : Type} (d : Kd α) (e : Nat) (G W : World) (v3 v4 v5 v7 v11 v15 : Value) (z : List Int) (L : List α) (c m s i : List Int) : Prop where
  r3 : Kd.R (Kd.int .i64) 3 W G.heap.size (fun _ => True) v3 z
  r4 : Kd.S d e W G.heap.size (fun _ => True) v4 L
  r5 : Kd.R (Kd.int .i64) 3 W G.heap.size (fun _ => True) v5 c
  r7 : Kd.R (Kd.int .u64) 67 W G.heap.size (fun _ => True) v7 m
  r11 : Kd.R (Kd.int .u64) 67 W G.heap.size (fun _ => True) v11 s
  r15 : Kd.R (Kd.int .u64) 67 W G.heap.size (fun _ => True) v15 i
theorem R6.below (h : R6 d e G W v3 v4 v5 v7 v11 v15 z L c m s i) (hb : Below W.heap.size W W1) : R6 d e G W1 v3 v4 v5 v7 v11 v15 z L c m s i :=
  ⟨Kd.R_below h.r3 hb, Kd.S_below h.r4 hb, Kd.R_below h.r5 hb, Kd.R_below h.r7 hb, Kd.R_below h.r11 hb, Kd.R_below h.r15 hb⟩
theorem R6.nil (d : Kd α) (e : Nat) (G W : World) : R6 d e G W (.slice none 0 0) (.slice none 0 0) (.slice none 0 0) (.slice none 0 0) (.slice none 0 0) (.slice none 0 0) [] [] [] [] [] [] := ⟨Kd.R_nil _ _ _ _ _, Kd.S_nil _ _ _ _ _, Kd.R_nil _ _ _ _ _, Kd.R_nil _ _ _ _ _, Kd.R_nil _ _ _ _ _, Kd.R_nil _ _ _ _ _⟩
/-- The law's world: what was there at X stays, an index's rows, and the box that holds them. -/
structure Lw {α : Type} (d : Kd α) (e : Nat) (f : Nat → Nat) (X G W : World) (b : Nat) (cs : Array Value) (v3 v4 v5 v7 v11 v15 : Value) (z : List Int) (L : List α) (c m s i : List Int) : Prop where
  bx : Below X.heap.size X W
  m : M6 d e f G W v3 v4 v5 v7 v11 v15 z L c m s i
  bk : W.heap[b]? = some (.cells cs 33 (0, 0))
theorem Lw.below (h : Lw d e f X G W b cs v3 v4 v5 v7 v11 v15 z L c m s i) (hb : Below W.heap.size W W1) : Lw d e f X G W1 b cs v3 v4 v5 v7 v11 v15 z L c m s i := ⟨below_then h.bx h.bx.size hb, h.m.below hb, blk_below h.bk hb⟩
theorem Lw.drew (h : Lw d e f X G W b cs v3 v4 v5 v7 v11 v15 z L c m s i) (n : Nat) : Lw d e f X G (W.drewN n) b cs v3 v4 v5 v7 v11 v15 z L c m s i := h.below (pw_below_drewN (Below.refl _ _) n)
theorem Lw.kept {S : Nat → Prop} (h : Lw d e f X G W b cs v3 v4 v5 v7 v11 v15 z L c m s i) (hk : Kept W W1 S) (hs : ∀ k, S k → k < G.heap.size) (hb : Below X.heap.size X W1) (hn : G.heap.size ≤ b) : Lw d e f X G W1 b cs v3 v4 v5 v7 v11 v15 z L c m s i :=
  ⟨hb, h.m.kept hk hs, blk_kept h.bk hk (fun hS => by have := hs b hS; omega)⟩
structure Lv {α : Type} (d : Kd α) (e : Nat) (X W : World) (b : Nat) (cs : Array Value) (v3 v4 v5 v7 v11 v15 : Value) (z : List Int) (L : List α) (c m s i : List Int) : Prop where
  bx : Below X.heap.size X W
  r : R6 d e X W v3 v4 v5 v7 v11 v15 z L c m s i
  bk : W.heap[b]? = some (.cells cs 33 (0, 0))
theorem Lv.below (h : Lv d e X W b cs v3 v4 v5 v7 v11 v15 z L c m s i) (hb : Below W.heap.size W W1) : Lv d e X W1 b cs v3 v4 v5 v7 v11 v15 z L c m s i := ⟨below_then h.bx h.bx.size hb, h.r.below hb, blk_below h.bk hb⟩
end
theorem ck16 {w : World} {g : Nat} {t : TypeId} {a0 a1 a2 a3 a4 a5 a6 a7 a8 a9 a10 a11 a12 a13 a14 a15 : Value} (h : w.heap[g]? = some (.cells #[a0, a1, a2, a3, a4, a5, a6, a7, a8, a9, a10, a11, a12, a13, a14, a15] t (0, 0))) : w.cell? ⟨g, 0, none⟩ = some a0 ∧ w.cell? ⟨g, 1, none⟩ = some a1 ∧ w.cell? ⟨g, 2, none⟩ = some a2 ∧ w.cell? ⟨g, 3, none⟩ = some a3 ∧ w.cell? ⟨g, 4, none⟩ = some a4 ∧ w.cell? ⟨g, 5, none⟩ = some a5 ∧ w.cell? ⟨g, 6, none⟩ = some a6 ∧ w.cell? ⟨g, 7, none⟩ = some a7 ∧ w.cell? ⟨g, 8, none⟩ = some a8 ∧ w.cell? ⟨g, 9, none⟩ = some a9 ∧ w.cell? ⟨g, 10, none⟩ = some a10 ∧ w.cell? ⟨g, 11, none⟩ = some a11 ∧ w.cell? ⟨g, 12, none⟩ = some a12 ∧ w.cell? ⟨g, 13, none⟩ = some a13 ∧ w.cell? ⟨g, 14, none⟩ = some a14 ∧ w.cell? ⟨g, 15, none⟩ = some a15 :=
  ⟨(blk_cell h 0).trans rfl, (blk_cell h 1).trans rfl, (blk_cell h 2).trans rfl, (blk_cell h 3).trans rfl, (blk_cell h 4).trans rfl, (blk_cell h 5).trans rfl, (blk_cell h 6).trans rfl, (blk_cell h 7).trans rfl, (blk_cell h 8).trans rfl, (blk_cell h 9).trans rfl, (blk_cell h 10).trans rfl, (blk_cell h 11).trans rfl, (blk_cell h 12).trans rfl, (blk_cell h 13).trans rfl, (blk_cell h 14).trans rfl, (blk_cell h 15).trans rfl⟩
/-- A box of one's own, and the store that fills it. -/
theorem boxed {w W W1 : World} {b : Nat} (hb : Below w.heap.size w W) (hg : W.grownBy W1 (some b)) (hle : w.heap.size ≤ b) : Below w.heap.size w W1 := hb.grown hg hb.size (fun k hk => by injection hk with hk; omega)
section
variable {P : Program} {ops : Array Oper} {rest : List Oper} {o : Oper} {a : Act} {w : World} {Q : Exit → Act → World → Prop}
/-- A whole record is stored into its box. -/
theorem storeRow (hgd : o.guard = none) {ty p : Nat} {y : Operand} (ho : o.op = .store ty (.tmp p) y) (hN : o.dst = none) (g : Nat) (cells : Array Value) (hx : a.eval (.tmp p) = .pointer (some ⟨g, 0, none⟩)) (hy : a.eval y = .agg cells)
    (t : TypeId) (old : Array Value) (hg : w.heap[g]? = some (.cells old t (0, 0))) (hi : (P.info? ty).map (·.size) = some cells.size) (hold : old.size = cells.size) (h1 : cells.all (·.oneCell') = true)
    (h : ∀ w', w.grownBy w' (some g) → w'.heap[g]? = some (.cells cells t (0, 0)) → wpList P ops Q rest a w') : wpList P ops Q (o :: rest) a w := by
  refine wpList_store_row hgd ty (.tmp p) y ho g cells hx hy t old hg hi hold h1 ?_
  rw [hN]
  refine h _ ⟨rfl, rfl, rfl, Nat.le_of_eq ?_, fun i hi hn => ?_⟩ ?_
  · show w.heap.size = (w.heap.modify g _).size
    rw [Array.size_modify]
  · show (w.heap.modify g _)[i]? = _
    rw [Array.getElem?_modify, if_neg (fun e => hn (by rw [e]))]
  · show (w.heap.modify g _)[g]? = _
    rw [Array.getElem?_modify, if_pos rfl, hg]
    rfl
/-- A whole record is read, where the operation is guarded. -/
theorem loadG (hw : Region.wanted o (yielded ops a.tmps) = true) (ty : TypeId) (x : Operand) (ho : o.op = .load ty x)
    (g : Nat) (hx : a.eval x = .pointer (some ⟨g, 0, none⟩)) (t : TypeId) (cs : Array Value) (fr : Nat × Nat) (d : TypeDesc) (hg : w.heap[g]? = some (.cells cs t fr))
    (hu : P.underlying ty = some d) (hd : (match d with | .struct _ | .array _ _ => true | _ => false) = true) (hi : (P.info? ty).map (·.size) = some cs.size)
    (h : wpList P ops Q rest (a.put o.dst (.agg cs)) w) : wpList P ops Q (o :: rest) a w :=
  wpList_step fun _ hK => by rw [if_pos hw]; exact wp_load_row ty x ho g hx t cs fr d hg hu hd hi (hK _ _ h)
end
end Go.Proofs.Ytjfoaiabbmkdpaa.Fm
