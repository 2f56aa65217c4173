import Derived.Test.YtoinagnieobbpaaProg
import Derived.Below
import Derived.Deep.Draws
import Derived.Deep.AppendLies
import Derived.Maps.AppendAt
import Derived.OwnWalk
import Derived.Laws.BytesArg
import Derived.Laws.MakeOwn
import Derived.Laws.OwnMore
import Derived.Deep.OwnRows
import Derived.Tactics
import Derived.Lib.ConvBytes
import Derived.Laws.Slices
import Derived.WalkKit
import Derived.KernelRfl
import Derived.RowKit3
import Derived.Deep.LoopGhost
import Derived.Deep.QuietTactic
import Derived.BigQuiet
import Derived.WideLaws
import Derived.Deep.DeepCutAuto
import Derived.Deep.CutBlock
import Derived.Deep.RegionHeld3
import Derived.Laws.Rows
import Derived.Lib.AppendStr
import Derived.ArgAppend
import Derived.Laws.IdiomCopy
import Derived.OrdersHeld
import Derived.Laws.BitsLemmas
import Derived.RowKit
import Derived.Lib.SlicesCompact
import Derived.Deep.LoopGhost
import Derived.Lib.SliceRun
import Derived.Shelf.Abstract
import Derived.DataElems
import Derived.Test.YtoinagnieobbpaaWWords
import Derived.Test.YtoinagnieobbpaaWLast
import Derived.Test.YtoinagnieobbpaaWTab
import Derived.Test.YtoinagnieobbpaaWQPut
import Derived.Test.YtoinagnieobbpaaWApart
import Derived.Test.YtoinagnieobbpaaWArr
import Derived.Test.YtoinagnieobbpaaWZeros
import Derived.Test.YtoinagnieobbpaaWFoot
import Derived.Test.YtoinagnieobbpaaWKept
import Derived.Test.YtoinagnieobbpaaWShare
import Derived.Test.YtoinagnieobbpaaWN
import Derived.Test.YtoinagnieobbpaaWEqStruct
import Derived.Test.YtoinagnieobbpaaWRepsOne
import Derived.Test.YtoinagnieobbpaaWGuard
import Derived.Test.YtoinagnieobbpaaWNEv
import Derived.Test.YtoinagnieobbpaaWMore
import Derived.Test.YtoinagnieobbpaaSq
import Derived.Test.YtoinagnieobbpaaLays
import Derived.Test.YtoinagnieobbpaaSuf
import Derived.Test.YtoinagnieobbpaaStr
import Derived.Test.YtoinagnieobbpaaCpt
-- import Sq
-- import Lays
-- import Suf
-- import Str
-- import Cpt
-- module Derived.Lib.SlicesCompact
-- module Derived.Deep.LoopGhost
-- module Derived.Lib.SliceRun
/- slices.IndexFunc and slices.DeleteFunc at stretches. -/
namespace Go.Proofs.Ytoinagnieobbpaa.Str
open Go.RowKit Go.Sort Go.Lib Go.Proofs.YtoinagnieobbpaaW.PrintWords
set_option linter.unusedVariables false
set_option linter.unusedSimpArgs false
/-- What is asked of a function value that tells something of a stretch. -/
def Tells3 (g : Nat) (cb : Array Value) (p : T3 → Bool) (l : List T3) (w : World) (b : Nat) : Prop :=
  ∀ (W : World) (x : T3), x ∈ l → w.grownBy W (some b) → Calls Try.prog g (#[.agg #[.int .i64 x.1, .int .i64 x.2.1, .int .i64 x.2.2]] ++ cb) W fun e W' => e = .returned (.bool (p x)) ∧ Below W.heap.size W W'
theorem grown_below {w W : World} {b : Nat} (h : Below w.heap.size w W) : w.grownBy W (some b) := ⟨h.os, h.tape, h.output, h.size, fun k hk _ => h.block k hk⟩
theorem grown_step {w W W' : World} {b : Nat} (h : w.grownBy W (some b)) (k : Below W.heap.size W W') : w.grownBy W' (some b) :=
  ⟨k.os.trans h.os, k.tape.trans h.tape, k.output.trans h.output, Nat.le_trans h.size k.size, fun i hi hn => (k.block i (Nat.lt_of_lt_of_le hi h.size)).trans (h.block i hi hn)⟩
theorem below_next {w W W' : World} (h : Below w.heap.size w W) (k : Below W.heap.size W W') : Below w.heap.size w W' :=
  ⟨k.os.trans h.os, k.tape.trans h.tape, k.output.trans h.output, Nat.le_trans h.size k.size, fun i hi => (k.block i (Nat.lt_of_lt_of_le hi h.size)).trans (h.block i hi)⟩
theorem mem_get {d : Array T3} {i : Nat} (h : i < d.size) : d[i]! ∈ d.toList := by
  rw [getElem!_pos d i h]
  exact Array.getElem_mem_toList h
theorem holds_next {W W' : World} {b : Nat} {F : Array Value} (h : Holds id W b 0 F) (hb : b < W.heap.size) (k : Below W.heap.size W W') : Holds id W' b 0 F := fun j hj =>
  ⟨(World.cell?_of_block (k.block b hb)).trans (h j hj).1, (World.frozen?_of_block (k.block b hb)).trans (h j hj).2⟩
set_option maxHeartbeats 4000000 in
set_option maxRecDepth 1000000 in
theorem indexStr (g : Nat) (cb : Array Value) (p : T3 → Bool) (eg : ∀ args w, (callFunc g args).run Try.prog w = .ok (.enter g args) w) (b cap : Nat) (d : Array T3) (w : World) (hH : HoldsK enc3 3 w b 0 d) (hb : b < w.heap.size) (hsz : d.size ≤ 4611686018427387904) (hp : Tells3 g cb p d.toList w b) :
    Calls Try.prog 74 #[.slice (some ⟨b, 0, none⟩) d.size cap, .func (.func g) #[] cb] w fun e w' => ∃ i : Int, e = .returned (.int .i64 i) ∧ Below w.heap.size w w' ∧
      ((∃ n : Nat, i = n ∧ n < d.size ∧ p d[n]! = true ∧ ∀ j, j < n → p d[j]! = false) ∨ (i = -1 ∧ ∀ j, j < d.size → p d[j]! = false)) := by
  have HH := Aside0.mk hH
  have HP := Aside0.mk hp
  have HS := Aside0.mk hsz
  have HB0 := Aside0.mk hb
  clear hH hp hsz hb
  go_enter Try.func74, Try.ntmps74
  go_wp2
  go_loopg [8] d.size (fun gg s8 wr => ∃ i : Nat, s8 = .int .i64 i ∧ Aside0 (i ≤ d.size) ∧ Aside0 (d.size - i ≤ gg) ∧ Aside0 (Below w.heap.size w wr) ∧ Aside0 (∀ j, j < i → p d[j]! = false))
  case atStart => exact ⟨0, rfl, ⟨by omega⟩, ⟨by omega⟩, ⟨Below.refl _ _⟩, ⟨fun j hj => by omega⟩⟩
  case round =>
    obtain ⟨i, rfl, I1, I2, HB, A⟩ := hrel
    by_cases hlt : i < d.size
    · obtain ⟨⟨c1, c2, c3⟩, _⟩ := holds3 (holds_next HH.out HB0.out HB.out) hlt
      have hm := mem_get hlt
      generalize hx : d[i]! = x at c1 c2 c3 hm
      have HX := Aside0.mk hx
      clear hx
      have HCALL := Aside0.mk (HP.out _ x hm (grown_below HB.out))
      clear hm
      have HL := Aside0.mk hlt
      have HSI := Aside0.mk (show i < 4611686018427387904 by have := HS.out; omega)
      cases hq : p x with
      | true =>
        have HQ := Aside0.mk hq
        rw [hq] at HCALL
        clear hq
        go_wp2_with (go_at_fn g; refine HCALL.out.mono ?_; rintro e w' ⟨rfl, hb'⟩; have HB' := Aside0.mk (below_next HB.out hb'); clear hb')
        go_ret
        exact ⟨_, rfl, HB'.out, .inl ⟨i, rfl, HL.out, by rw [HX.out]; exact HQ.out, A.out⟩⟩
      | false =>
        have HQ := Aside0.mk hq
        rw [hq] at HCALL
        clear hq
        have hw : wrap64 ((i : Int) + 1) = (i : Int) + 1 := by have := HSI.out; unfold wrap64; omega
        go_wp2_with (go_at_fn g; refine HCALL.out.mono ?_; rintro e w' ⟨rfl, hb'⟩; have HB' := Aside0.mk (below_next HB.out hb'); clear hb')
        go_roundg (d.size - (i + 1))
        case measure => have := HL.out; have := I2.out; omega
        case rel =>
          refine ⟨i + 1, by first | rfl | (rw [hw]; rfl) | go_num, ⟨by have := HL.out; omega⟩, ⟨Nat.le_refl _⟩, HB', ⟨fun j hj => ?_⟩⟩
          by_cases e : j = i
          · rw [e, HX.out]; exact HQ.out
          · exact A.out j (by omega)
    · have HE := Aside0.mk hlt
      go_wp2
      go_ret
      exact ⟨_, rfl, HB.out, .inr ⟨rfl, fun j hj => A.out j (by have := HE.out; have := I1.out; omega)⟩⟩

theorem first_or (p : T3 → Bool) (d : Array T3) : ∀ m, (∃ n : Nat, n < m ∧ p d[n]! = true ∧ ∀ j, j < n → p d[j]! = false) ∨ (∀ j, j < m → p d[j]! = false)
  | 0 => .inr fun j hj => by omega
  | m + 1 => by
    rcases first_or p d m with ⟨n, h1, h2, h3⟩ | h
    · exact .inl ⟨n, by omega, h2, h3⟩
    · cases hq : p d[m]! with
      | true => exact .inl ⟨m, by omega, hq, h⟩
      | false =>
        refine .inr fun j hj => ?_
        by_cases e : j = m
        · rw [e]; exact hq
        · exact h j (by omega)
theorem first_uniq {p : T3 → Bool} {d : Array T3} {n m : Nat} (h1 : p d[n]! = true) (h2 : ∀ j, j < n → p d[j]! = false) (h3 : p d[m]! = true) (h4 : ∀ j, j < m → p d[j]! = false) : n = m := by
  rcases Nat.lt_trichotomy n m with h | h | h
  · rw [h4 n h] at h1; cases h1
  · exact h
  · rw [h2 m h] at h3; cases h3
/-- What stays when those are deleted of which p tells so: up to place m, of d. -/
def keepTo (p : T3 → Bool) (d : Array T3) (m : Nat) : List T3 := ((List.range m).filter fun j => !p d[j]!).map (d[·]!)
theorem keepTo_succ (p : T3 → Bool) (d : Array T3) (m : Nat) : keepTo p d (m + 1) = keepTo p d m ++ (if p d[m]! then [] else [d[m]!]) := by
  unfold keepTo
  rw [List.range_succ, List.filter_append, List.map_append]
  congr 1
  by_cases h : p d[m]! <;> simp [h]
theorem keepTo_none (p : T3 → Bool) (d : Array T3) (m : Nat) (h : ∀ j, j < m → p d[j]! = false) : keepTo p d m = (List.range m).map (d[·]!) := by
  unfold keepTo
  rw [List.filter_eq_self.2 (fun j hj => by rw [h j (List.mem_range.1 hj)]; rfl)]
theorem keepTo_len (p : T3 → Bool) (d : Array T3) (m : Nat) : (keepTo p d m).length ≤ m := by
  unfold keepTo
  rw [List.length_map]
  exact Nat.le_trans (List.length_filter_le _ _) (by rw [List.length_range]; exact Nat.le_refl _)
theorem keepTo_take (p : T3 → Bool) (l : List T3) : ∀ m, m ≤ l.length → keepTo p l.toArray m = (l.take m).filter fun x => !p x
  | 0, _ => rfl
  | m + 1, h => by
    have e : l.toArray[m]! = l[m] := by rw [getElem!_pos l.toArray m (by simp; omega)]; rfl
    rw [keepTo_succ, keepTo_take p l m (by omega), List.take_succ_eq_append_getElem h, List.filter_append, e]
    congr 1
    by_cases q : p l[m] <;> simp [q]
theorem keepTo_all (p : T3 → Bool) (l : List T3) : keepTo p l.toArray l.length = l.filter fun x => !p x := by
  rw [keepTo_take p l l.length (Nat.le_refl _), List.take_length]
structure DInv (p : T3 → Bool) (d : Array T3) (m k : Nat) (dk : Array T3) : Prop where
  size : dk.size = d.size
  len : (keepTo p d m).length = k
  lt : k < m
  low : ∀ j, j < k → (keepTo p d m)[j]? = some dk[j]!
  high : ∀ j, m ≤ j → dk[j]! = d[j]!
theorem DInv.start {p : T3 → Bool} {d : Array T3} {n : Nat} (hall : ∀ j, j < n → p d[j]! = false) (hp : p d[n]! = true) : DInv p d (n + 1) n d where
  size := rfl
  len := by rw [keepTo_succ, if_pos hp, keepTo_none p d n hall]; simp
  lt := Nat.lt_succ_self _
  low := fun j hj => by rw [keepTo_succ, if_pos hp, keepTo_none p d n hall]; simp [hj]
  high := fun _ _ => rfl
theorem DInv.skip {p : T3 → Bool} {d dk : Array T3} {m k : Nat} (h : DInv p d m k dk) (hp : p d[m]! = true) : DInv p d (m + 1) k dk where
  size := h.size
  len := by rw [keepTo_succ, if_pos hp, List.append_nil]; exact h.len
  lt := Nat.lt_succ_of_lt h.lt
  low := fun j hj => by rw [keepTo_succ, if_pos hp, List.append_nil]; exact h.low j hj
  high := fun j hj => h.high j (by omega)
theorem DInv.keep {p : T3 → Bool} {d dk : Array T3} {m k : Nat} (h : DInv p d m k dk) (hm : m < d.size) (hp : p d[m]! = false) : DInv p d (m + 1) (k + 1) (dk.setIfInBounds k d[m]!) where
  size := by simp [h.size]
  len := by rw [keepTo_succ, hp]; simp [h.len]
  lt := by have := h.lt; omega
  low := fun j hj => by
    rw [keepTo_succ, hp]
    by_cases e : j = k
    · subst e
      rw [List.getElem?_append_right (by rw [h.len]; exact Nat.le_refl _), h.len, Nat.sub_self, getElem!_set_same dk j _ (by have := h.lt; have := h.size; omega)]
      rfl
    · rw [List.getElem?_append_left (by rw [h.len]; omega), h.low j (by omega), getElem!_set_other dk k j _ e]
  high := fun j hj => by rw [getElem!_set_other dk k j _ (by have := h.lt; omega), h.high j (by omega)]
/-- A store of one stretch's numbers in its row. -/
theorem holds_put {W : World} {b : Nat} {dk : Array T3} {i : Nat} (h : HoldsK enc3 3 W b 0 dk) (hi : i < dk.size) (x : T3) :
    HoldsK enc3 3 (((W.setCell ⟨b, i * 3, none⟩ (.int .i64 x.1)).setCell ⟨b, i * 3 + 1, none⟩ (.int .i64 x.2.1)).setCell ⟨b, i * 3 + 2, none⟩ (.int .i64 x.2.2)) b 0 (dk.setIfInBounds i x) := by
  have e := put3 (w := W) (n := 0) (wr := W) hi (by rw [show Sort.ahead W 0 = W from rfl]; exact (putRowK_self enc3 3 W b 0 dk h).symm) x
  rw [e]
  exact holdsK_putRowK enc3 3 _ b 0 dk _ (holdsK_ahead enc3 3 W 0 b 0 dk h) (by simp)
theorem holds_flat {w : World} {base e b n c : Nat} {F : Array Value} (hF : F.size = n * 3) (h : w.ownsRow base e 3 (.slice (some ⟨b, 0, none⟩) n c) n F.toList) : Holds id w b 0 F ∧ b < w.heap.size ∧ base ≤ b ∧ n ≤ c := by
  obtain ⟨hl, h⟩ := h
  rcases h with ⟨he, _⟩ | ⟨g', cap, cur, he, hb, hh, hnc, hcm, hcs, ht⟩
  · cases he
  injection he with he1 he2 he3
  injection he1 with he1
  injection he1 with he1
  subst he1; subst he3
  refine ⟨fun j hj => ⟨?_, blk_frozen hh _⟩, (Array.getElem?_eq_some_iff.1 hh).1, hb, hnc⟩
  have ej : F[j]! = F[j] := getElem!_pos F j hj
  rw [Nat.zero_add, ej]
  refine (blk_cell hh j).trans ?_
  have : (cur.toList.take (n * 3))[j]? = F.toList[j]? := by rw [ht]
  rw [List.getElem?_take, if_pos (by omega), Array.getElem?_toList, Array.getElem?_toList, Array.getElem?_eq_getElem hj] at this
  exact this
theorem own_block {w w' : World} {base e b n c : Nat} {xs : List Value} (h : w.ownsRow base e 3 (.slice (some ⟨b, 0, none⟩) n c) n xs) (hb : w'.heap[b]? = w.heap[b]?) : w'.ownsRow base e 3 (.slice (some ⟨b, 0, none⟩) n c) n xs := by
  obtain ⟨hl, h⟩ := h
  rcases h with ⟨he, _⟩ | ⟨g', cap, cur, he, hb', hh, hnc, hcm, hcs, ht⟩
  · cases he
  injection he with he1 he2 he3
  injection he1 with he1
  injection he1 with he1
  subst he1; subst he3
  exact ⟨hl, .inr ⟨b, c, cur, rfl, hb', hb.trans hh, hnc, hcm, hcs, ht⟩⟩
theorem after_block {wr w2 : World} {b : Nat} {o : Obj} (hb : b < wr.heap.size) (h : Below (wr.alloc o).heap.size (wr.alloc o) w2) : w2.heap[b]? = wr.heap[b]? :=
  (h.block b (by show b < (wr.heap.push o).size; simp; omega)).trans (Below.heap_alloc wr o b hb)
theorem after_new {wr w2 : World} {cs : Array Value} {t : TypeId} (h : Below (wr.alloc (.cells cs t)).heap.size (wr.alloc (.cells cs t)) w2) : w2.heap[wr.heap.size]? = some (.cells cs t (0, 0)) :=
  (h.block _ (by show wr.heap.size < (wr.heap.push _).size; simp)).trans (blk_new wr _)
theorem own_store {W : World} {base e b n c : Nat} {dk : Array T3} (hn : dk.size = n) (h : W.ownsRow base e 3 (.slice (some ⟨b, 0, none⟩) n c) n (flatK enc3 3 dk).toList) {i : Nat} (hi : i < n) (x : T3) :
    (((W.setCell ⟨b, i * 3, none⟩ (.int .i64 x.1)).setCell ⟨b, i * 3 + 1, none⟩ (.int .i64 x.2.1)).setCell ⟨b, i * 3 + 2, none⟩ (.int .i64 x.2.2)).ownsRow base e 3 (.slice (some ⟨b, 0, none⟩) n c) n (flatK enc3 3 (dk.setIfInBounds i x)).toList ∧
      W.grownBy (((W.setCell ⟨b, i * 3, none⟩ (.int .i64 x.1)).setCell ⟨b, i * 3 + 1, none⟩ (.int .i64 x.2.1)).setCell ⟨b, i * 3 + 2, none⟩ (.int .i64 x.2.2)) (some b) := by
  have hH := (holds_flat (by rw [size_flatK, hn]) h).1
  have e1 := put3 (w := W) (n := 0) (wr := W) (b := b) (dk := dk) (i := i) (by omega) (by rw [show Sort.ahead W 0 = W from rfl]; exact (putRowK_self enc3 3 W b 0 dk hH).symm) x
  rw [e1]
  have h2 := Fv.own_put h 0 (flatK enc3 3 (dk.setIfInBounds i x)) (by rw [size_flatK, Array.size_setIfInBounds, hn]) #[]
  have eg : ∀ V : World, grow V #[] = V := fun V => grow_empty V
  rw [eg] at h2
  exact h2
theorem grown_trans {w W V : World} {b : Nat} (h : w.grownBy W (some b)) (k : W.grownBy V (some b)) : w.grownBy V (some b) :=
  ⟨k.os.trans h.os, k.tape.trans h.tape, k.output.trans h.output, Nat.le_trans h.size k.size, fun i hi hn => (k.block i (Nat.lt_of_lt_of_le hi h.size) hn).trans (h.block i hi hn)⟩
theorem own_zero {W : World} {base e b n c : Nat} {dk : Array T3} (hn : dk.size = n) (h : W.ownsRow base e 3 (.slice (some ⟨b, 0, none⟩) n c) n (flatK enc3 3 dk).toList) {i : Nat} (hi : i < n) :
    (W.setCells b (i * 3) (List.replicate ((n - i) * 3) (.int .i64 0))).ownsRow base e 3 (.slice (some ⟨b, 0, none⟩) n c) n (setMany (flatK enc3 3 dk) (i * 3) (List.replicate ((n - i) * 3) (.int .i64 0))).toList ∧
      W.grownBy (W.setCells b (i * 3) (List.replicate ((n - i) * 3) (.int .i64 0))) (some b) := by
  have hH : HoldsK enc3 3 W b 0 dk := (holds_flat (by rw [size_flatK, hn]) h).1
  have e1 := setCells_putRow W b 0 (List.replicate ((n - i) * 3) (Value.int .i64 0)) (i * 3) (flatK enc3 3 dk) (by rw [size_flatK, List.length_replicate]; omega)
  rw [Nat.zero_add] at e1
  have e0 : putRow id W b 0 (flatK enc3 3 dk) = W := putRowK_self enc3 3 W b 0 dk hH
  rw [e0] at e1
  rw [e1]
  have h2 := Fv.own_put h 0 (setMany (flatK enc3 3 dk) (i * 3) (List.replicate ((n - i) * 3) (.int .i64 0))) (by rw [size_setMany, size_flatK, hn]) #[]
  have eg : ∀ V : World, grow V #[] = V := fun V => grow_empty V
  rw [eg] at h2
  exact h2
set_option maxHeartbeats 8000000 in
set_option maxRecDepth 1000000 in
theorem deleteWalk (g : Nat) (cb : Array Value) (p : T3 → Bool) (eg : ∀ args w, (callFunc g args).run Try.prog w = .ok (.enter g args) w) (base b cap : Nat) (d : Array T3) (w : World)
    (hown : w.ownsRow base 27 3 (.slice (some ⟨b, 0, none⟩) d.size cap) d.size (flatK enc3 3 d).toList) (hsz : d.size ≤ 4611686018427387904) (hp : Tells3 g cb p d.toList w b) :
    Calls Try.prog 56 #[.slice (some ⟨b, 0, none⟩) d.size cap, .func (.func g) #[] cb] w fun e w' => ∃ m xs, m ≤ d.size ∧ m = (keepTo p d d.size).length ∧ e = .returned (.slice (some ⟨b, 0, none⟩) m cap) ∧ w.grownBy w' (some b) ∧
      w'.ownsRow base 27 3 (.slice (some ⟨b, 0, none⟩) d.size cap) d.size xs ∧ ∀ t, t < m * 3 → xs[t]? = some ((enc3 ((keepTo p d d.size).toArray[t / 3]!))[t % 3]!) := by
  obtain ⟨hH, hb, hbase, hcap⟩ := holds_flat (size_flatK ..) hown
  have HI := Aside0.mk (indexStr g cb p eg b cap d w hH hb hsz hp)
  have HO := Aside0.mk hown
  have HP := Aside0.mk hp
  have HS := Aside0.mk hsz
  have HB0 := Aside0.mk hb
  have HCP := Aside0.mk hcap
  clear hH hp hsz hb hown
  rcases first_or p d d.size with ⟨n, hn, hpn, hall⟩ | hnone
  · have HC := Aside0.mk (HI.out.mono (R' := fun e w' => e = .returned (.int .i64 (n : Int)) ∧ Below w.heap.size w w') (by
      rintro e w' ⟨i, he, hb, hc⟩
      refine ⟨?_, hb⟩
      rcases hc with ⟨m, rfl, h2, h3, h4⟩ | ⟨_, h1⟩
      · rw [first_uniq hpn hall h3 h4]; exact he
      · rw [h1 n hn] at hpn; cases hpn))
    have HN := Aside0.mk hn
    have HST := Aside0.mk (DInv.start hall hpn)
    have hwn : wrap64 ((n : Int) + 1) = (n : Int) + 1 := by have := HS.out; unfold wrap64; omega
    clear hn hpn hall HI
    go_enter Try.func56, Try.ntmps56
    go_wp2_with (go_at_call 74; refine HC.out.mono ?_; rintro e w' ⟨rfl, hbel⟩; have HBL := Aside0.mk hbel; clear hbel)
    have hb1 : ((n : Int) == -1) = false := beq_eq_false_iff_ne.2 (by omega)
    simp only [hb1, hwn]
    go_loopg [5, 6, 7] d.size (fun gg s5 s6 s7 wr => ∃ (i j : Nat) (dk : Array T3), s5 = .int .i64 i ∧ s6 = .int .i64 j ∧ Aside0 (j ≤ d.size) ∧ Aside0 (d.size - j ≤ gg) ∧ Aside0 (w.grownBy wr (some b)) ∧ Aside0 (wr.ownsRow base 27 3 (.slice (some ⟨b, 0, none⟩) d.size cap) d.size (flatK enc3 3 dk).toList) ∧ Aside0 (DInv p d j i dk))
    case atStart => exact ⟨n, n + 1, d, rfl, by first | rfl | (rw [hwn]; rfl) | go_num, ⟨by have := HN.out; omega⟩, ⟨by omega⟩, ⟨grown_below HBL.out⟩, ⟨own_block HO.out (HBL.out.block b HB0.out)⟩, HST⟩
    case round =>
      obtain ⟨i, j, dk, rfl, rfl, J1, J2, HG, HW, HD⟩ := hrel
      by_cases hlt : j < d.size
      · have hHk := (holds_flat (size_flatK ..) (show wr.ownsRow base 27 3 (.slice (some ⟨b, 0, none⟩) dk.size cap) dk.size (flatK enc3 3 dk).toList by rw [HD.out.size]; exact HW.out))
        obtain ⟨⟨c1, c2, c3⟩, _⟩ := holds3 hHk.1 (show j < dk.size by have := HD.out.size; omega)
        have hbw := hHk.2.1
        rw [HD.out.high j (Nat.le_refl _)] at c1 c2 c3
        have hm := mem_get hlt
        generalize hx : d[j]! = x at c1 c2 c3 hm
        have HX := Aside0.mk hx
        clear hx hHk
        have HL := Aside0.mk hlt
        have hw : wrap64 ((j : Int) + 1) = (j : Int) + 1 := by have := HS.out; unfold wrap64; omega
        have HCALL := Aside0.mk (fun W hW => HP.out W x hm hW)
        clear hm
        cases hq : p x with
        | true =>
          rw [hq] at HCALL
          have HQ := Aside0.mk hq
          clear hq
          go_wp2_with (go_at_fn g; refine (HCALL.out _ ?sideG).mono ?_; (case sideG => exact grown_step HG.out ((Below.refl _ _).alloc (Nat.le_refl _) _)); rintro e w2 ⟨rfl, hb'⟩; have HG2 := Aside0.mk (grown_step (grown_step HG.out ((Below.refl _ _).alloc (Nat.le_refl _) _)) hb'); have HW2 := Aside0.mk (own_block HW.out (after_block hbw hb')); clear hb')
          go_roundg (d.size - (j + 1))
          case measure => have := HL.out; have := J2.out; omega
          case rel => exact ⟨i, j + 1, dk, rfl, by first | rfl | (rw [hw]; rfl) | go_num, ⟨by have := HL.out; omega⟩, ⟨Nat.le_refl _⟩, HG2, HW2, ⟨HD.out.skip (by rw [HX.out]; exact HQ.out)⟩⟩
        | false =>
          rw [hq] at HCALL
          have HQ := Aside0.mk hq
          clear hq
          have hil : i < d.size := by have := HD.out.lt; omega
          have hwi : wrap64 ((i : Int) + 1) = (i : Int) + 1 := by have := HS.out; unfold wrap64; omega
          go_wp2_with (go_at_fn g; refine (HCALL.out _ ?sideG).mono ?_; (case sideG => exact grown_step HG.out ((Below.refl _ _).alloc (Nat.le_refl _) _)); rintro e w2 ⟨rfl, hb'⟩; have HG2 := Aside0.mk (grown_step (grown_step HG.out ((Below.refl _ _).alloc (Nat.le_refl _) _)) hb'); have HW2 := Aside0.mk (own_block HW.out (after_block hbw hb')); have hv := after_new hb'; clear hb'; have v1 := (blk_cell hv 0).trans rfl; have v2 := (blk_cell hv 1).trans rfl; have v3 := (blk_cell hv 2).trans rfl; clear hv; obtain ⟨⟨o1, o2, o3⟩, f1, f2, f3⟩ := holds3 (holds_flat (size_flatK ..) (show w2.ownsRow base 27 3 (.slice (some ⟨b, 0, none⟩) dk.size cap) dk.size (flatK enc3 3 dk).toList by rw [HD.out.size]; exact HW2.out)).1 (show i < dk.size by rw [HD.out.size]; exact hil); generalize dk[i]! = old at o1 o2 o3)
          go_roundg (d.size - (j + 1))
          case measure => have := HL.out; have := J2.out; omega
          case rel =>
            have hst := own_store HD.out.size HW2.out hil x
            have hkp := HD.out.keep HL.out (by rw [HX.out]; exact HQ.out)
            rw [HX.out] at hkp
            exact ⟨i + 1, j + 1, dk.setIfInBounds i x, by first | rfl | (rw [hwi]; rfl), by first | rfl | (rw [hw]; rfl), ⟨by have := HL.out; omega⟩, ⟨Nat.le_refl _⟩, ⟨grown_trans HG2.out hst.2⟩, ⟨hst.1⟩, ⟨hkp⟩⟩
      · obtain rfl : j = d.size := by have := J1.out; omega
        have hi := HD.out.lt
        have hHk : Holds id wr b 0 (flatK enc3 3 dk) := (holds_flat (by rw [size_flatK, HD.out.size]) HW.out).1
        have hfs : (flatK enc3 3 dk).size = d.size * 3 := by rw [size_flatK, HD.out.size]
        have hcl : ∀ ty, (Builtin.clear_ #[39] ty #[.slice (some ⟨b, i * 3, none⟩) (d.size - i) (cap - i)]).run Try.prog wr = .ok (.tuple #[]) (wr.setCells b (i * 3) (List.replicate ((d.size - i) * 3) (.int .i64 0))) :=
          fun ty => clear3 wr ty b (i * 3) (d.size - i) (cap - i) (by omega) (fun j hj => by
            have := (hHk (i * 3 + j) (by omega)).1
            rw [Nat.zero_add] at this
            rw [this]; rfl) (fun j hj => by
            have := (hHk (i * 3 + j) (by omega)).2
            rwa [Nat.zero_add] at this)
        have HZ := Aside0.mk (own_zero HD.out.size HW.out hi)
        clear hHk hfs
        go_wp2
        go_ret
        refine ⟨i, _, by omega, HD.out.len.symm, rfl, grown_trans HG.out HZ.out.2, HZ.out.1, fun t ht => ?_⟩
        have hb : t < (setMany (flatK enc3 3 dk) (i * 3) (List.replicate ((d.size - i) * 3) (.int .i64 0))).size := by rw [size_setMany, size_flatK, HD.out.size]; omega
        have hlt3 : t / 3 < (keepTo p d d.size).length := by rw [HD.out.len]; omega
        have hlow := HD.out.low (t / 3) (by omega)
        rw [List.getElem?_eq_getElem hlt3] at hlow
        injection hlow with hlow
        have e2 : (keepTo p d d.size).toArray[t / 3]! = (keepTo p d d.size)[t / 3] := by
          rw [getElem!_pos (keepTo p d d.size).toArray (t / 3) (by simpa using hlt3)]
          rfl
        rw [Array.getElem?_toList, Array.getElem?_eq_getElem hb, ← getElem!_pos (setMany (flatK enc3 3 dk) (i * 3) (List.replicate ((d.size - i) * 3) (.int .i64 0))) t hb, get_setMany _ _ _ _ (by rw [size_flatK, HD.out.size]; omega), if_neg (by omega), get_flatK _ _ _ _ (by rw [HD.out.size]; omega), e2, hlow]
  · have HC := Aside0.mk (HI.out.mono (R' := fun e w' => e = .returned (.int .i64 (-1)) ∧ Below w.heap.size w w') (by
      rintro e w' ⟨i, he, hb, hc⟩
      refine ⟨?_, hb⟩
      rcases hc with ⟨m, _, h2, h3, _⟩ | ⟨rfl, _⟩
      · rw [hnone m h2] at h3; cases h3
      · exact he))
    have HN := Aside0.mk hnone
    clear hnone HI
    go_enter Try.func56, Try.ntmps56
    go_wp2_with (go_at_call 74; refine HC.out.mono ?_; rintro e w' ⟨rfl, hbel⟩; have HBL := Aside0.mk hbel; clear hbel)
    go_ret
    have hk : keepTo p d d.size = d.toList := by
      have := keepTo_all p d.toList
      rw [Array.toArray_toList, Array.length_toList] at this
      rw [this, List.filter_eq_self]
      intro x hx
      obtain ⟨j, hj, rfl⟩ := List.getElem_of_mem hx
      have hj' : j < d.size := by simpa using hj
      have := HN.out j hj'
      rw [getElem!_pos d j hj'] at this
      rw [Array.getElem_toList, this]
      rfl
    refine ⟨d.size, (flatK enc3 3 d).toList, Nat.le_refl _, by rw [hk]; simp, rfl, grown_below HBL.out, own_block HO.out (HBL.out.block b HB0.out), fun t ht => ?_⟩
    have hb : t < (flatK enc3 3 d).size := by rw [size_flatK]; exact ht
    rw [Array.getElem?_toList, Array.getElem?_eq_getElem hb, ← getElem!_pos (flatK enc3 3 d) t hb, get_flatK _ _ _ _ ht, hk, Array.toArray_toList]
theorem indexNil (A : Option Addr) (cap : Nat) (fv : Value) (w : World) : Calls Try.prog 74 #[.slice A 0 cap, fv] w fun e w' => e = .returned (.int .i64 (-1)) ∧ w' = w := by
  go_enter Try.func74, Try.ntmps74
  go_wp2
  refine wp_loop_rounds 1 ?_
  rw [rounds_succ]
  go_wp2
  go_ret
  exact ⟨rfl, rfl⟩
theorem deleteNil (A : Option Addr) (cap : Nat) (fv : Value) (w : World) : Calls Try.prog 56 #[.slice A 0 cap, fv] w fun e w' => e = .returned (.slice A 0 cap) ∧ w' = w := by
  have HI := Aside0.mk (indexNil A cap fv w)
  go_enter Try.func56, Try.ntmps56
  go_wp2_with (go_at_call 74; refine HI.out.mono ?_; rintro e w' ⟨rfl, rfl⟩)
  go_ret
  exact ⟨rfl, rfl⟩
set_option maxHeartbeats 2000000 in
/-- slices.DeleteFunc at stretches of a row of one's own. -/
theorem deleteStr {S : Type} (K : Kd S) (tri : S → T3) (mk : T3 → S) (hg : ∀ t, tri (mk t) = t) (hsz : K.sz = 3) (hM : ∀ w b ok x cs, K.M w b ok x cs → cs = enc3 (tri x)) (hM' : ∀ w b ok x, K.M w b ok x (enc3 (tri x)))
    (gf : Nat) (cb : Array Value) (p : T3 → Bool) (eg : ∀ args w, (callFunc gf args).run Try.prog w = .ok (.enter gf args) w)
    (P0 : Nat → Prop) (u : Value) (l0 : List S) (w0 w : World) (hB : Below w0.heap.size w0 w) (ho : K.R 27 w w0.heap.size P0 u l0) (hs : l0.length ≤ 4611686018427387904) (hp : ∀ b, P0 b → b < w.heap.size → Tells3 gf cb p (l0.map tri) w b) :
    Calls Try.prog 56 #[u, .func (.func gf) #[] cb] w fun e w' => ∃ v : Value, e = .returned v ∧ K.R 27 w' w0.heap.size (fun k => (P0 k ∨ w.heap.size ≤ k)) v (((l0.map tri).filter fun x => !p x).map mk) ∧ Below w0.heap.size w0 w' ∧ Kept w w' (fun k => P0 k) := by
  obtain ⟨hok, inner, hown, hreps⟩ := id ho
  rw [hsz] at hown hreps
  rcases hown.2 with ⟨he, h0⟩ | ⟨b, cap, cur, rfl, hbb, hh, hnc, hcm, hcs, ht⟩
  · obtain rfl := List.eq_nil_of_length_eq_zero h0
    subst he
    refine (deleteNil none 0 _ w).mono ?_
    rintro e w' ⟨rfl, rfl⟩
    exact ⟨_, rfl, Kd.R_mono ho (fun k hk => .inl hk), hB, Kept.refl _ _⟩
  · have hP : P0 b := hok b (by simp [Value.ownBlock])
    have hlt : b < w.heap.size := (Array.getElem?_eq_some_iff.1 hh).1
    have hH := holds_own hM hown hreps
    have hd : (l0.map tri).toArray.size = l0.length := by simp
    have hinner : inner = (flatK enc3 3 (l0.map tri).toArray).toList := by
      apply List.ext_getElem?
      intro t
      by_cases c : t < l0.length * 3
      · have h1 := (hH t (by rw [size_flatK, hd]; exact c)).1
        have hb' : t < (flatK enc3 3 (l0.map tri).toArray).size := by rw [size_flatK, hd]; exact c
        have h0' : (flatK enc3 3 (l0.map tri).toArray).toList[t]? = some (flatK enc3 3 (l0.map tri).toArray)[t]! := by
          rw [Array.getElem?_toList, Array.getElem?_eq_getElem hb', ← getElem!_pos (flatK enc3 3 (l0.map tri).toArray) t hb']
        rw [h0']
        rw [Nat.zero_add] at h1
        have h2 : w.cell? ⟨b, t, none⟩ = inner[t]? := by
          rw [← ht, List.getElem?_take, if_pos c]
          exact (blk_cell hh t).trans (by rw [Array.getElem?_toList])
        rw [← h2, h1]
        rfl
      · rw [List.getElem?_eq_none (by rw [hown.1]; omega), List.getElem?_eq_none (by simp; omega)]
    rw [hinner, ← hd] at hown
    have hW := deleteWalk gf cb p eg w0.heap.size b cap (l0.map tri).toArray w hown (by rw [hd]; exact hs) (hp b hP hlt)
    rw [hd] at hW
    refine hW.mono ?_
    rintro e w' ⟨m, xs, hm, hml, rfl, hgr, ho', hx⟩
    have ek : keepTo p (l0.map tri).toArray l0.length = (l0.map tri).filter fun x => !p x := by
      have := keepTo_all p (l0.map tri)
      rw [List.length_map] at this
      exact this
    rw [ek] at hml hx
    generalize (l0.map tri).filter (fun x => !p x) = C at *
    refine ⟨_, rfl, ⟨fun k hk => .inl (hok k hk), xs.take (m * 3), ?_, ?_⟩, hB.grown hgr hB.size (fun k e => by injection e with e; omega), Fv.kept_of_grown hgr hP⟩
    · rw [hsz, List.length_map, ← hml]
      exact own_cut ho' hm
    · rw [hsz]
      refine reps_of (hM' _ _ _) (by rw [List.length_take, List.length_map, ho'.1, hml]; omega) (fun t q hq => ?_)
      have h3 : t / 3 < C.length := by have := (List.getElem?_eq_some_iff.1 hq).1; simpa using this
      have hq' : mk C[t / 3] = q := by
        rw [List.getElem?_map, List.getElem?_eq_getElem h3] at hq
        injection hq
      have h33 : t % 3 < (enc3 C[t / 3]).length := by simp [enc3]; omega
      have e2 : C.toArray[t / 3]! = C[t / 3] := by
        rw [getElem!_pos C.toArray (t / 3) (by simpa using h3)]
        rfl
      rw [List.getElem?_take, if_pos (by omega), hx t (by omega), e2, ← hq', hg, List.getElem?_eq_getElem h33, getElem!_pos (enc3 C[t / 3]) (t % 3) h33]
set_option maxHeartbeats 4000000 in
set_option maxRecDepth 1000000 in
/-- The literal that StretchKids hands to slices.DeleteFunc. -/
theorem kidCl (gA gS : Nat) (A : Option Addr) (n c : Nat) (s x u : T3) (ok : Bool) (W : World) (hA : W.heap[gA]? = some (.cells #[.slice A n c] 39 (0, 0))) (hS : W.heap[gS]? = some (.cells #[.int .i64 s.1, .int .i64 s.2.1, .int .i64 s.2.2] 27 (0, 0)))
    (hup : ∀ W', Below W.heap.size W W' → Calls Try.prog 55 #[.slice A n c, .agg #[.int .i64 x.1, .int .i64 x.2.1, .int .i64 x.2.2]] W' fun e w' => e = .returned (.tuple #[.agg #[.int .i64 u.1, .int .i64 u.2.1, .int .i64 u.2.2], .bool ok]) ∧ Below W'.heap.size W' w') :
    Calls Try.prog 58 #[.agg #[.int .i64 x.1, .int .i64 x.2.1, .int .i64 x.2.2], .pointer (some ⟨gA, 0, none⟩), .pointer (some ⟨gS, 0, none⟩)] W fun e w' => e = .returned (.bool (!ok || !decide (u = s))) ∧ Below W.heap.size W w' := by
  have hu27 := Try.underlying27
  have hlA : gA < W.heap.size := (Array.getElem?_eq_some_iff.1 hA).1
  have hlS : gS < W.heap.size := (Array.getElem?_eq_some_iff.1 hS).1
  have a1 : W.cell? ⟨gA, 0, none⟩ = some (.slice A n c) := (blk_cell hA 0).trans rfl
  have HS := Aside0.mk hS
  have HLS := Aside0.mk hlS
  have HU := Aside0.mk hup
  have HN := Aside0.mk (ne3 u s)
  clear hA hS hup
  have hneA : (gA = W.heap.size) = False := eq_false (by omega)
  cases ok with
  | false =>
    rw [Bool.not_false, Bool.true_or]
    go_enter Try.func58, Try.ntmps58
    go_wp2_with (go_at_call 55; refine (HU.out _ ((Below.refl _ _).alloc (Nat.le_refl _) _)).mono ?_; rintro e w2 ⟨rfl, hb⟩; have HB := Aside0.mk (below_next ((Below.refl _ _).alloc (Nat.le_refl _) _) hb); clear hb)
    go_ret
    exact ⟨rfl, HB.out.alloc HB.out.size _⟩
  | true =>
    rw [Bool.not_true, Bool.false_or]
    have HN' := HN.out
    generalize (!decide (u = s)) = r at HN' ⊢
    go_enter Try.func58, Try.ntmps58
    go_wp2_with (go_at_call 55; refine (HU.out _ ((Below.refl _ _).alloc (Nat.le_refl _) _)).mono ?_; rintro e w2 ⟨rfl, hb⟩; have HB := Aside0.mk (below_next ((Below.refl _ _).alloc (Nat.le_refl _) _) hb); clear hb; have s1 : ∀ o, (w2.alloc o).cell? ⟨gS, 0, none⟩ = some (.int .i64 s.1) := fun o => (blk_cell ((Below.heap_alloc w2 o gS (Nat.lt_of_lt_of_le HLS.out HB.out.size)).trans ((HB.out.block _ HLS.out).trans HS.out)) 0).trans rfl; have s2 : ∀ o, (w2.alloc o).cell? ⟨gS, 1, none⟩ = some (.int .i64 s.2.1) := fun o => (blk_cell ((Below.heap_alloc w2 o gS (Nat.lt_of_lt_of_le HLS.out HB.out.size)).trans ((HB.out.block _ HLS.out).trans HS.out)) 1).trans rfl; have s3 : ∀ o, (w2.alloc o).cell? ⟨gS, 2, none⟩ = some (.int .i64 s.2.2) := fun o => (blk_cell ((Below.heap_alloc w2 o gS (Nat.lt_of_lt_of_le HLS.out HB.out.size)).trans ((HB.out.block _ HLS.out).trans HS.out)) 2).trans rfl; have hneS : (gS = w2.heap.size) = False := eq_false (by have := HB.out.size; have := HLS.out; omega))
    go_ret
    exact ⟨rfl, HB.out.alloc HB.out.size _⟩
theorem c_block {S : Type} (K : Kd S) (tri : S → T3) (hsz : K.sz = 3) (hM : ∀ w b ok x cs, K.M w b ok x cs → cs = enc3 (tri x)) (hM' : ∀ w b ok x, K.M w b ok x (enc3 (tri x))) {w w' : World} {base : Nat} {ok : Nat → Prop} {A : Option Addr} {c : Nat} {xs : List S}
    (h : K.R 27 w base ok (.slice A xs.length c) xs) (hb : ∀ b, (Value.slice A xs.length c).ownBlock = some b → w'.heap[b]? = w.heap[b]?) : Kd.C K w' A xs.length xs := by
  obtain ⟨hok, inner, hown, hreps⟩ := h
  have hr : K.R 27 w' base ok (.slice A xs.length c) xs := by
    refine ⟨hok, inner, ?_, hreps.imp_ (fun p cs hp => by rw [hM _ _ _ _ _ hp]; exact hM' _ _ _ _)⟩
    rw [hsz] at hown ⊢
    rcases id hown.2 with ⟨he, h0⟩ | ⟨b, cap, cur, he, _⟩
    · exact ⟨hown.1, .inl ⟨he, h0⟩⟩
    · injection he with he1 he2 he3
      subst he1; subst he3
      exact own_block hown (hb b rfl)
  exact (Kd.R_reads' hr).2.2
end Go.Proofs.Ytoinagnieobbpaa.Str
