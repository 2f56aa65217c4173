import Derived.Test.YtgjmmegmkdklbaaProg
import Derived.Below
import Derived.Deep.Draws
import Derived.Deep.AppendLies
import Derived.Maps.AppendAt
import Derived.OwnWalk
import Derived.Laws.BytesArg
import Derived.Laws.MakeOwn
import Derived.Laws.OwnMore
import Derived.Deep.OwnRows
import Derived.Tactics
import Derived.Lib.ConvBytes
import Derived.Laws.Slices
import Derived.WalkKit
import Derived.KernelRfl
import Derived.RowKit3
import Derived.Deep.LoopGhost
import Derived.Deep.QuietTactic
import Derived.BigQuiet
import Derived.WideLaws
import Derived.Deep.DeepCutAuto
import Derived.Deep.CutBlock
import Derived.Deep.RegionHeld3
import Derived.Laws.Rows
import Derived.Lib.AppendStr
import Derived.ArgAppend
import Derived.Laws.IdiomCopy
import Derived.OrdersHeld
import Derived.Laws.BitsLemmas
import Derived.RowKit
import Derived.Deep.RegionLaw
import Derived.Lib.SliceRun
import Derived.Lib.SlicesDelete
import Derived.Shelf.Abstract
import Derived.DataElems
import Derived.Test.YtgjmmegmkdklbaaWWords
import Derived.Test.YtgjmmegmkdklbaaWLast
import Derived.Test.YtgjmmegmkdklbaaWTab
import Derived.Test.YtgjmmegmkdklbaaWQPut
import Derived.Test.YtgjmmegmkdklbaaWApart
import Derived.Test.YtgjmmegmkdklbaaWArr
import Derived.Test.YtgjmmegmkdklbaaWZeros
import Derived.Test.YtgjmmegmkdklbaaWFoot
import Derived.Test.YtgjmmegmkdklbaaWKept
import Derived.Test.YtgjmmegmkdklbaaWShare
import Derived.Test.YtgjmmegmkdklbaaWN
import Derived.Test.YtgjmmegmkdklbaaWRepsOne
import Derived.Test.YtgjmmegmkdklbaaWGuard
import Derived.Test.YtgjmmegmkdklbaaWNEv
import Derived.Test.YtgjmmegmkdklbaaWMore
import Derived.Test.YtgjmmegmkdklbaaSq
-- import Sq
-- module Derived.Deep.RegionLaw
-- module Derived.Lib.SliceRun
-- module Derived.Lib.SlicesDelete
/- slices.Delete of one tree of a row of one's own (impl.lightest), and impl.lightest itself. -/
namespace Go.Proofs.Ytgjmmegmkdklbaa.Tre
open Go.RowKit Go.Lib Go.Proofs.YtgjmmegmkdklbaaW.PrintWords Go.Proofs.YtgjmmegmkdklbaaW.PrintLast
set_option linter.unusedVariables false
theorem clear2 (w : World) (ty : TypeId) (b o c : Nat) (hc : ∀ j, j < 2 → (w.cell? ⟨b, o + j, none⟩).isSome = true) (hf : ∀ j, j < 2 → w.frozen? ⟨b, o + j, none⟩ = false) :
    (Builtin.clear_ #[65] ty #[.slice (some ⟨b, o, none⟩) 1 c]).run Try.prog w = .ok (.tuple #[]) (w.setCells b o [.int .i64 0, .slice none 0 0]) := by
  have hv : ∀ w, (zeroValue 67).run Try.prog w = .ok (.agg #[.int .i64 0, .slice none 0 0]) w := fun w => by kernel_rfl
  have hzc : (Builtin.zeroCells (Value.agg #[.int .i64 0, .slice none 0 0]).cells 1).toList = [.int .i64 0, .slice none 0 0] := by kernel_rfl
  have hst := run_storeCells_cells (P := Try.prog) b o [.int .i64 0, .slice none 0 0] 0 w (by simpa using hc) (by simpa using hf) (by intro v hv'; simp at hv'; rcases hv' with rfl | rfl <;> rfl)
  simp only [Nat.add_zero] at hst
  simp [Builtin.clear_, run_underlying Try.underlying65, hv, hzc, hst]
theorem own_parts {w : World} {base e b n m c : Nat} {xs : List Value} (h : w.ownsRow base e 2 (.slice (some ⟨b, 0, none⟩) m c) n xs) : m = n ∧ ∃ cur, base ≤ b ∧ w.heap[b]? = some (.cells cur e (0, 0)) ∧ n ≤ c ∧ c ≤ maxLen ∧ cur.size = c * 2 ∧ cur.toList.take (n * 2) = xs := by
  obtain ⟨hl, h⟩ := h
  rcases h with ⟨he, _⟩ | ⟨g', cap, cur, he, hb', hh, hnc, hcm, hcs, ht⟩
  · cases he
  injection he with he1 he2 he3
  injection he1 with he1
  injection he1 with he1
  subst he1; subst he3
  exact ⟨he2, cur, hb', hh, hnc, hcm, hcs, ht⟩
theorem own_beyond {w : World} {base e b n c : Nat} {xs : List Value} (h : w.ownsRow base e 2 (.slice (some ⟨b, 0, none⟩) n c) n xs) (i : Nat) (hi : n * 2 ≤ i) (u : Value) : (w.setCell ⟨b, i, none⟩ u).ownsRow base e 2 (.slice (some ⟨b, 0, none⟩) n c) n xs := by
  obtain ⟨_, cur, hb', hh, hnc, hcm, hcs, ht⟩ := own_parts h
  exact ⟨h.1, .inr ⟨b, c, cur.setIfInBounds i u, rfl, hb', blk_set hh i u, hnc, hcm, by simp [hcs], by rw [← ht, Array.toList_setIfInBounds, List.take_set_of_le hi]⟩⟩
theorem grown_trans2 {w W W' : World} {b : Nat} (h : w.grownBy W (some b)) (k : W.grownBy W' (some b)) : w.grownBy W' (some b) :=
  ⟨k.os.trans h.os, k.tape.trans h.tape, k.output.trans h.output, Nat.le_trans h.size k.size, fun i hi hn => (k.block i (Nat.lt_of_lt_of_le hi h.size) hn).trans (h.block i hi hn)⟩
theorem grown_cell (W : World) (b i : Nat) (v : Value) : W.grownBy (W.setCell ⟨b, i, none⟩ v) (some b) := by
  exact ⟨rfl, rfl, rfl, Nat.le_of_eq (by show W.heap.size = (W.heap.modify b _).size; rw [Array.size_modify]), fun k _ hk => Below.heap_setCell _ _ _ k (fun e => hk (by rw [e]))⟩
set_option maxHeartbeats 4000000 in
set_option maxRecDepth 1000000 in
theorem deleteTree (base b cap n i j : Nat) (hj : j = i + 1) (rows : List (List Value)) (ok : Nat → Prop) (w0 w : World) (hB : Below base w0 w) (hbase : base ≤ w.heap.size) (HO : (Kd.raw 2).R 67 w base ok (.slice (some ⟨b, 0, none⟩) n cap) rows) (hi : i < n) (hn : n ≤ 1000000) (hcap : n ≤ cap) :
    Calls Try.prog 74 #[.slice (some ⟨b, 0, none⟩) n cap, .int .i64 i, .int .i64 j] w fun e w' => e = .returned (.slice (some ⟨b, 0, none⟩) (n - 1) cap) ∧ (Kd.raw 2).R 67 w' base ok (.slice (some ⟨b, 0, none⟩) (n - 1) cap) (rows.eraseIdx i) ∧ Below base w0 w' ∧ w.grownBy w' (some b) := by
  have HR := Aside0.mk HO
  have HB := Aside0.mk hB
  have hlt : i < j := by omega
  have hij : i ≤ j := by omega
  have hjn : j ≤ n := by omega
  have hic : i ≤ cap := by omega
  have hjc : j ≤ cap := by omega
  have heq : ¬ i = j := by omega
  have HJ := Aside0.mk hj
  clear HO hB hj
  go_enter Try.func74, Try.ntmps74
  go_wp2_with fail
  have HBD := Aside0.mk HB.out.drew
  go_region_law (refine Kd.R_delete_step (w0 := w0) (Kd.raw 2) base (by first | rfl | assumption) (.tmp 22) (.tmp 25) 65 67 rfl Try.underlying65 (by kernel_rfl) (g := b) (n := n) (c := cap) (k := i) (m := n - j) (c2 := cap - j) (A := if cap = j then some ⟨b, 0, none⟩ else some ⟨b, j * 2, none⟩) (xs := rows) (ok := ok) (by simp [Act.eval, Act.put]) (by simp [Act.eval, Act.put]) (by rw [HJ.out]; simp [Addr.add, Kd.raw]) (by rw [HJ.out]) HR.out hi HBD.out hbase ?_; intro w1 hR1 hB1 hG1; have HR1 := Aside0.mk hR1; have HB1 := Aside0.mk hB1; have HG1 := Aside0.mk hG1; clear hR1 hB1 hG1)
  obtain ⟨hok1, inner1, hown1, hreps1⟩ := HR1.out
  obtain ⟨pn, cur1, p1, p2, p3, p4, p5, p6⟩ := own_parts (show w1.ownsRow base 67 2 (.slice (some ⟨b, 0, none⟩) (n - 1) cap) (rows.eraseIdx i).length inner1 from hown1)
  rw [← pn] at hown1
  have hcl : ∀ ty, (Builtin.clear_ #[65] ty #[.slice (some ⟨b, (n - 1) * 2, none⟩) (n - (n - 1)) (cap - (n - 1))]).run Try.prog w1 = .ok (.tuple #[]) (w1.setCells b ((n - 1) * 2) [.int .i64 0, .slice none 0 0]) := fun ty => by
    rw [show n - (n - 1) = 1 by omega]
    exact clear2 w1 ty b _ _ (fun j hj => by rw [blk_cell p2, Array.getElem?_eq_getElem (by rw [p5]; omega)]; rfl) (fun j hj => blk_frozen p2 _)
  have hg2 : w1.grownBy (w1.setCells b ((n - 1) * 2) [.int .i64 0, .slice none 0 0]) (some b) := grown_trans2 (grown_cell w1 b _ (.int .i64 0)) (grown_cell _ b ((n - 1) * 2 + 1) (.slice none 0 0))
  have HZ : Aside0 ((Kd.raw 2).R 67 (w1.setCells b ((n - 1) * 2) [.int .i64 0, .slice none 0 0]) base ok (.slice (some ⟨b, 0, none⟩) (n - 1) cap) (rows.eraseIdx i) ∧ Below base w0 (w1.setCells b ((n - 1) * 2) [.int .i64 0, .slice none 0 0]) ∧ w.grownBy (w1.setCells b ((n - 1) * 2) [.int .i64 0, .slice none 0 0]) (some b)) :=
    Aside0.mk ⟨⟨hok1, inner1, by rw [← pn]; exact own_beyond (own_beyond hown1 ((n - 1) * 2) (Nat.le_refl _) (.int .i64 0)) ((n - 1) * 2 + 1) (Nat.le_succ _) (.slice none 0 0), hreps1.imp_ (fun _ _ h => h)⟩, pw_below_grown HB1.out (some b) (Nat.le_trans hbase HG1.out.size) hg2 (fun k e => by injection e with e; subst e; exact p1), grown_trans2 ⟨HG1.out.os, HG1.out.tape, HG1.out.output, HG1.out.size, HG1.out.block⟩ hg2⟩
  clear hok1 hown1 hreps1 pn p1 p2 p3 p4 p5 p6 hg2
  go_wp2
  all_goals (go_ret; refine ⟨rfl, ?_⟩; first | exact HZ.out | (have e_ : cap = j := (by assumption); subst e_; exact HZ.out))
theorem grown_box {w W w' wF : World} {b k0 : Nat} (h : Below w.heap.size w W) (g : W.grownBy w' (some b)) (k : w'.grownBy wF (some k0)) (hk : w.heap.size ≤ k0) : w.grownBy wF (some b) :=
  ⟨k.os.trans (g.os.trans h.os), k.tape.trans (g.tape.trans h.tape), k.output.trans (g.output.trans h.output), Nat.le_trans h.size (Nat.le_trans g.size k.size), fun i hi hn =>
    (k.block i (Nat.lt_of_lt_of_le hi (Nat.le_trans h.size g.size)) (fun e => by injection e with e; omega)).trans ((g.block i (Nat.lt_of_lt_of_le hi h.size) hn).trans (h.block i hi))⟩
/-- impl.lightest: the first of the lightest trees is taken out. -/
abbrev T4 := Int × Option Addr × Nat × Nat
abbrev z4 : T4 := (0, none, 0, 0)
abbrev sl4 (T : T4) : Value := .slice T.2.1 T.2.2.1 T.2.2.2
def cellsOf (F : List T4) : List (List Value) := F.map fun T => [.int .i64 T.1, sl4 T]
theorem tree_cells {w : World} {base b n cap : Nat} {ok : Nat → Prop} {F : List T4} (h : (Kd.raw 2).R 67 w base ok (.slice (some ⟨b, 0, none⟩) n cap) (cellsOf F)) : F.length = n ∧ n ≤ cap ∧ b < w.heap.size ∧ base ≤ b ∧
    ∀ W : World, W.heap[b]? = w.heap[b]? → ∀ i, i < n → W.cell? ⟨b, i * 2, none⟩ = some (.int .i64 (F.getD i z4).1) ∧ W.cell? ⟨b, i * 2 + 1, none⟩ = some (sl4 (F.getD i z4)) := by
  obtain ⟨hok, inner, hown, hreps⟩ := h
  obtain ⟨pn, cur, p1, p2, p3, p4, p5, p6⟩ := own_parts (show w.ownsRow base 67 2 (.slice (some ⟨b, 0, none⟩) n cap) (cellsOf F).length inner from hown)
  have hl : F.length = n := by rw [pn]; simp [cellsOf]
  refine ⟨hl, by omega, (Array.getElem?_eq_some_iff.1 p2).1, p1, fun W hW i hi => ?_⟩
  have hq : (cellsOf F)[i]? = some [.int .i64 (F.getD i z4).1, (sl4 (F.getD i z4))] := by
    unfold cellsOf
    rw [List.getElem?_map, List.getElem?_eq_getElem (by omega), List.getD_eq_getElem?_getD, List.getElem?_eq_getElem (by omega)]
    rfl
  have hr := (hreps.2 i _ hq).1
  have hil : inner.length = (cellsOf F).length * 2 := hreps.1
  have at_ : ∀ j u, j < 2 → [Value.int .i64 (F.getD i z4).1, (sl4 (F.getD i z4))][j]? = some u → W.cell? ⟨b, i * 2 + j, none⟩ = some u := fun j u hj hu => by
    rw [blk_cell (hW.trans p2), ← hu, ← hr]
    show _ = ((inner.drop (i * 2)).take 2)[j]?
    rw [List.getElem?_take, if_pos hj, List.getElem?_drop, ← p6, List.getElem?_take, if_pos (by omega), Array.getElem?_toList]
  exact ⟨at_ 0 _ (by omega) rfl, at_ 1 _ (by omega) rfl⟩
theorem box_alloc {wr : World} {k : Nat} {q : Obj} (h : wr.heap[k]? = some q) (o : Obj) : (wr.alloc o).heap[k]? = some q := (((Below.refl wr.heap.size wr).alloc (Nat.le_refl _) o).block k (Array.getElem?_eq_some_iff.1 h).1).trans h
abbrev box0 : Obj := .cells #[.int .i64 0, .slice none 0 0] 67
def FirstMin (F : List T4) (a : Nat) : Prop := a < F.length ∧ (∀ j, j < F.length → (F.getD a z4).1 ≤ (F.getD j z4).1) ∧ ∀ j, j < a → (F.getD a z4).1 < (F.getD j z4).1
set_option maxHeartbeats 4000000 in
set_option maxRecDepth 1000000 in
theorem lightestTree (base b cap n : Nat) (F : List T4) (ok : Nat → Prop) (w0 w : World) (hB : Below base w0 w) (hbase : base ≤ w.heap.size) (HO : (Kd.raw 2).R 67 w base ok (.slice (some ⟨b, 0, none⟩) n cap) (cellsOf F)) (h1 : 1 ≤ n) (hn : n ≤ 1000000) :
    Calls Try.prog 55 #[.slice (some ⟨b, 0, none⟩) n cap] w fun e w' => ∃ a, FirstMin F a ∧ e = .returned (.tuple #[.agg #[.int .i64 (F.getD a z4).1, sl4 (F.getD a z4)], .slice (some ⟨b, 0, none⟩) (n - 1) cap]) ∧ (Kd.raw 2).R 67 w' base ok (.slice (some ⟨b, 0, none⟩) (n - 1) cap) (cellsOf (F.eraseIdx a)) ∧ Below base w0 w' ∧ w.grownBy w' (some b) := by
  obtain ⟨hl, hcap, hlt, hbb, hcell⟩ := tree_cells HO
  have HR := Aside0.mk HO
  have HB0 := Aside0.mk hB
  have HCE := Aside0.mk hcell
  have HL := Aside0.mk hl
  have HLT := Aside0.mk hlt
  have HBB := Aside0.mk hbb
  clear HO hB hcell hl hlt hbb
  go_enter Try.func55, Try.ntmps55
  go_wp2
  go_loopg [4, 10] n (fun gg v4 v10 wr => ∃ a i : Nat, v4 = .int .i64 a ∧ v10 = .int .i64 i ∧ Aside0 (i ≤ n) ∧ Aside0 (n - i ≤ gg) ∧ Aside0 (a < n ∧ (a < i ∨ (i = 0 ∧ a = 0)) ∧ (∀ j, j < i → (F.getD a z4).1 ≤ (F.getD j z4).1) ∧ ∀ j, j < a → (F.getD a z4).1 < (F.getD j z4).1) ∧ Aside0 (Below w.heap.size w wr) ∧ Aside0 (wr.heap[w.heap.size]? = some box0))
  case atStart => exact ⟨0, 0, rfl, rfl, ⟨by omega⟩, ⟨by omega⟩, ⟨⟨by omega, .inr ⟨rfl, rfl⟩, fun j hj => by omega, fun j hj => by omega⟩⟩, ⟨by have := Below.refl w.heap.size w; exact this.alloc (Nat.le_refl _) _⟩, ⟨(show (w.heap.push box0)[w.heap.size]? = some box0 from Array.getElem?_push_size)⟩⟩
  case round =>
    obtain ⟨a, i, rfl, rfl, HI, HG, HA, HB, HX0⟩ := hrel
    by_cases hlt : i < n
    · have HI2 := Aside0.mk hlt
      obtain ⟨x1, x2⟩ := HCE.out wr (HB.out.block b HLT.out) i hlt
      obtain ⟨y1, y2⟩ := HCE.out wr (HB.out.block b HLT.out) a HA.out.1
      have y1' : ∀ o, (wr.alloc o).cell? ⟨b, a * 2, none⟩ = some (.int .i64 (F.getD a z4).1) := fun o => (HCE.out (wr.alloc o) ((HB.out.alloc HB.out.size o).block b HLT.out) a HA.out.1).1
      have han := HA.out.1
      generalize hx : F.getD i z4 = x at x1 x2
      generalize hy : F.getD a z4 = y at y1 y2 y1'
      have HX := Aside0.mk (And.intro hx hy)
      clear hx hy
      have hin : (decide ((i : Int) < (n : Int))) = true := decide_eq_true (by omega)
      by_cases q : x.1 < y.1
      · have hq : decide (x.1 < y.1) = true := decide_eq_true q
        have HQ := Aside0.mk q
        clear q
        go_wp2
        repeat (go_quiet (fail); try go_wp2)
        go_roundg (n - (i + 1))
        case measure => have := HI2.out; have := HG.out; omega
        case rel =>
          obtain ⟨A1, A2, A3, A4⟩ := HA.out
          obtain ⟨X1, X2⟩ := HX.out
          have qq := HQ.out
          have hw : wrap64 ((i : Int) + 1) = (i : Int) + 1 := by unfold wrap64; omega
          refine ⟨i, i + 1, rfl, by first | rfl | (rw [hw]; rfl) | go_num, ⟨by omega⟩, ⟨Nat.le_refl _⟩, ⟨⟨hlt, .inl (by omega), fun j hj => ?_, fun j hj => ?_⟩⟩, ?_, ⟨box_alloc HX0.out _⟩⟩
          · by_cases e : j = i
            · rw [e]; exact Int.le_refl _
            · have := A3 j (by omega)
              rw [X1]; rw [X2] at this; omega
          · have := A3 j (by omega)
            rw [X1]; rw [X2] at this; omega
          · exact ⟨pw_below_drewN (HB.out.alloc HB.out.size _) _⟩
      · have hq : decide (x.1 < y.1) = false := decide_eq_false q
        have HQ := Aside0.mk q
        clear q
        go_wp2
        repeat (go_quiet (fail); try go_wp2)
        go_roundg (n - (i + 1))
        case measure => have := HI2.out; have := HG.out; omega
        case rel =>
          obtain ⟨A1, A2, A3, A4⟩ := HA.out
          obtain ⟨X1, X2⟩ := HX.out
          have qq := HQ.out
          have hw : wrap64 ((i : Int) + 1) = (i : Int) + 1 := by unfold wrap64; omega
          refine ⟨a, i + 1, rfl, by first | rfl | (rw [hw]; rfl) | go_num, ⟨by omega⟩, ⟨Nat.le_refl _⟩, ⟨⟨A1, .inl (by omega), fun j hj => ?_, A4⟩⟩, ?_, ⟨box_alloc HX0.out _⟩⟩
          · by_cases e : j = i
            · rw [e, X1, X2]; omega
            · exact A3 j (by omega)
          · exact ⟨pw_below_drewN (HB.out.alloc HB.out.size _) _⟩
    · have hge : i = n := by have := HI.out; omega
      subst hge
      have hfm : FirstMin F a := ⟨by rw [HL.out]; exact HA.out.1, fun j hj => HA.out.2.2.1 j (by rw [HL.out] at hj; exact hj), HA.out.2.2.2⟩
      obtain ⟨y1, y2⟩ := HCE.out wr (HB.out.block b HLT.out) a HA.out.1
      have han := HA.out.1
      have HD := Aside0.mk (fun (W : World) (hW : Below w.heap.size w W) => by
        have h_ := deleteTree base b cap i a (a + 1) rfl (cellsOf F) ok w0 W ⟨hW.os.trans HB0.out.os, hW.tape.trans HB0.out.tape, hW.output.trans HB0.out.output, Nat.le_trans HB0.out.size hW.size, fun k hk => (hW.block k (Nat.lt_of_lt_of_le hk hbase)).trans (HB0.out.block k hk)⟩ (Nat.le_trans hbase hW.size) (Kd.R_grown1 HR.out rfl (row := none) ⟨hW.os, hW.tape, hW.output, hW.size, fun k hk _ => hW.block k hk⟩ (by simp [Value.ownBlock])) HA.out.1 hn hcap
        rw [show ((a + 1 : Nat) : Int) = (a : Int) + 1 from rfl] at h_
        exact h_)
      have hfn : (decide ((i : Int) < (i : Int))) = false := decide_eq_false (by omega)
      have HFM := Aside0.mk hfm
      have YE : ∃ y, F.getD a z4 = y := ⟨_, rfl⟩
      obtain ⟨y, hy⟩ := YE
      rw [hy] at y1 y2
      have HY := Aside0.mk hy
      clear hfm hy
      go_wp2
      repeat (go_quiet (fail); try go_wp2)
      have hbw : Below w.heap.size w (wr.alloc (.cells #[.int .i64 y.1, sl4 y] 67)) := HB.out.alloc HB.out.size _
      have HBW := Aside0.mk hbw
      have HW0 := Aside0.mk (box_alloc HX0.out (.cells #[.int .i64 y.1, sl4 y] 67))
      have HOX : Aside0 ((wr.alloc (.cells #[.int .i64 y.1, sl4 y] 67)).heap[wr.heap.size]? = some (.cells #[.int .i64 y.1, sl4 y] 67)) := Aside0.mk (show (wr.heap.push _)[wr.heap.size]? = some _ from Array.getElem?_push_size)
      have hwr : IntKind.i64.wrap ((a : Int) + 1) = (a : Int) + 1 := (i64_w _).trans (by unfold wrap64; omega)
      go_region_law (refine goes_ Try.func74 (by kernel_rfl) rfl #[.slice (some ⟨b, 0, none⟩) i cap, .int .i64 a, .int .i64 ((a : Int) + 1)] (by rfl) rfl rfl (by simp [Act.eval, Act.put]) ?_; refine (HD.out _ HBW.out.drew).mono ?_; rintro e w' ⟨rfl, hr', hb', hg'⟩; refine ⟨_, rfl, ?_⟩; have bx : w'.heap[w.heap.size]? = some box0 := (hg'.block _ (Array.getElem?_eq_some_iff.1 HW0.out).1 (fun e => by injection e with e; have := HLT.out; omega)).trans HW0.out; have ox : w'.heap[wr.heap.size]? = some (.cells #[.int .i64 y.1, sl4 y] 67) := (hg'.block _ (Array.getElem?_eq_some_iff.1 HOX.out).1 (fun e => by injection e with e; have := HLT.out; have := HB.out.size; omega)).trans HOX.out; have d1 := (blk_cell bx 0).trans rfl; have d2 := (blk_cell bx 1).trans rfl; have g1 := blk_frozen bx 0; have g2 := blk_frozen bx 1; have o1 := (blk_cell ox 0).trans rfl; have o2 := (blk_cell ox 1).trans rfl; have HR' := Aside0.mk hr'; have HB' := Aside0.mk hb'; have HG' := Aside0.mk hg'; have HBX := Aside0.mk bx; clear hr' hb' hg' bx ox)
      all_goals go_wp2
      all_goals (try simp only [Exit.inBlock, Exit.then])
      all_goals (refine bodyPost_ret (results_ct rfl _ _ w.heap.size 67 #[.int .i64 y.1, sl4 y] (0, 0) _ rfl (blk_set (blk_set HBX.out 0 _) 1 _) Try.underlying67 rfl (by kernel_rfl)) rfl ?_)
      all_goals (have hgF := grown_trans2 (grown_cell w' w.heap.size 0 (.int .i64 y.1)) (grown_cell _ w.heap.size 1 (sl4 y)))
      all_goals (have hne : w.heap.size ≠ b := by have := HLT.out; omega)
      all_goals (have hcut : cellsOf (F.eraseIdx a) = (cellsOf F).eraseIdx a := by unfold cellsOf; rw [List.eraseIdx_eq_take_drop_succ, List.eraseIdx_eq_take_drop_succ, List.map_append, List.map_take, List.map_drop])
      all_goals (refine ⟨a, HFM.out, by rw [HY.out]; rfl, by rw [hcut]; exact Kd.R_grown1 HR'.out rfl hgF (by simpa [Value.ownBlock] using hne), pw_below_grown HB'.out (some w.heap.size) (Nat.le_trans hbase (Nat.le_trans HBW.out.size HG'.out.size)) hgF (fun k e => by injection e with e; omega), grown_box HBW.out ⟨HG'.out.os, HG'.out.tape, HG'.out.output, HG'.out.size, HG'.out.block⟩ hgF (Nat.le_refl _)⟩)
end Go.Proofs.Ytgjmmegmkdklbaa.Tre
