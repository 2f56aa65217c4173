import Derived.Test.YtgjmmegmkdklbaaProg
import Derived.Below
import Derived.Deep.Draws
import Derived.Deep.AppendLies
import Derived.Maps.AppendAt
import Derived.OwnWalk
import Derived.Laws.BytesArg
import Derived.Laws.MakeOwn
import Derived.Laws.OwnMore
import Derived.Deep.OwnRows
import Derived.Tactics
import Derived.Lib.ConvBytes
import Derived.Laws.Slices
import Derived.WalkKit
import Derived.KernelRfl
import Derived.RowKit3
import Derived.Deep.LoopGhost
import Derived.Deep.QuietTactic
import Derived.BigQuiet
import Derived.WideLaws
import Derived.Deep.DeepCutAuto
import Derived.Deep.CutBlock
import Derived.Deep.RegionHeld3
import Derived.Laws.Rows
import Derived.Lib.AppendStr
import Derived.ArgAppend
import Derived.Laws.IdiomCopy
import Derived.OrdersHeld
import Derived.Laws.BitsLemmas
import Derived.RowKit
import Derived.Maps.Own
import Derived.DeepKeys5
import Derived.Shelf.Abstract
import Derived.DataElems
import Derived.Test.YtgjmmegmkdklbaaWWords
import Derived.Test.YtgjmmegmkdklbaaWLast
import Derived.Test.YtgjmmegmkdklbaaWTab
import Derived.Test.YtgjmmegmkdklbaaWQPut
import Derived.Test.YtgjmmegmkdklbaaWApart
import Derived.Test.YtgjmmegmkdklbaaWArr
import Derived.Test.YtgjmmegmkdklbaaWZeros
import Derived.Test.YtgjmmegmkdklbaaWFoot
import Derived.Test.YtgjmmegmkdklbaaWKept
import Derived.Test.YtgjmmegmkdklbaaWShare
import Derived.Test.YtgjmmegmkdklbaaWN
import Derived.Test.YtgjmmegmkdklbaaWRepsOne
import Derived.Test.YtgjmmegmkdklbaaWGuard
import Derived.Test.YtgjmmegmkdklbaaWNEv
import Derived.Test.YtgjmmegmkdklbaaWMore
-- module Derived.Maps.Own
-- module Derived.DeepKeys5
/- A map whose keys are records of two whole numbers, and whose elements are whole numbers. TW=76 -/
namespace Go.Proofs.Ytgjmmegmkdklbaa.Wd
open Go.RowKit Go.Proofs.YtgjmmegmkdklbaaW.PrintWords Go.Proofs.YtgjmmegmkdklbaaW.PrintLast Go.Proofs.YtgjmmegmkdklbaaW.PrintMore
open Go.ChangeMaps (setBlock heap_setBlock_same heap_setBlock_other)
set_option linter.unusedVariables false
set_option linter.unusedSimpArgs false
theorem laid : laidOutB Try.prog = true := by kernel_rfl
theorem law : Maps.Keyed Try.prog 76 := Maps.Keyed.of_law (deep_law_gate laid (of_decide_eq_true (by kernel_rfl)) (of_decide_eq_true (by kernel_rfl)) (by kernel_rfl) (by kernel_rfl))
/-- A whole number of the machine's. -/
def wf (a : Int) : Bool := decide (-9223372036854775808 ≤ a ∧ a ≤ 9223372036854775807)
theorem wf_lit {a : Int} (h : wf a = true) : (Lit.int .i64 a).wf = true := by
  unfold wf at h
  rw [decide_eq_true_eq] at h
  simp only [Lit.wf, IntKind.min, IntKind.max, IntKind.signed, IntKind.bits, Bool.and_eq_true, decide_eq_true_eq]
  simpa using h
def key (p : Int × Int) : Value := .agg #[.int .i64 p.1, .int .i64 p.2]
theorem key_inj {p q : Int × Int} (h : key p = key q) : p = q := by
  unfold key at h
  simp at h
  exact Prod.ext h.1 h.2
theorem keyOf_key {p : Int × Int} (h1 : wf p.1 = true) (h2 : wf p.2 = true) : ∃ l, keyOf Try.prog 76 (key p) = some l := by
  obtain ⟨n, hn⟩ : ∃ n, Try.prog.types.size = n + 1 := ⟨Try.prog.types.size - 1, by
    have : 0 < Try.prog.types.size := of_decide_eq_true (by kernel_rfl)
    omega⟩
  have hk : Try.prog.keyType 76 = true := by kernel_rfl
  have hf : (key p).formed Try.prog 76 = true := by
    unfold key Value.formed
    have hc : Try.prog.cellsOf 76 = 2 := by kernel_rfl
    rw [Try.underlying76]
    show (2 == Try.prog.cellsOf 76) = true
    rw [hc]
    rfl
  have hc2 : Try.prog.cellsOf 76 = 2 := by kernel_rfl
  have hc1 : Try.prog.cellsOf 3 = 1 := by kernel_rfl
  have e : (key p).cells.toList = [.int .i64 p.1, .int .i64 p.2] := rfl
  unfold keyOf
  rw [Try.underlying76]
  simp only [hk, hf, Bool.and_self, if_true, hn]
  rw [e]
  simp [Program.keyLits, Try.underlying76, Try.underlying3, hc1, hc2, wf_lit h1, wf_lit h2]
/-- The entries es tell the table kn. -/
def Tells (es : Array MapEntry) (kn : List ((Int × Int) × Int)) : Prop := es.toList.map (fun x => (x.key, x.val)) = kn.map (fun x => (key x.1, Value.int .i64 x.2)) ∧ (∀ x ∈ kn, ∀ y ∈ kn, x.1 = y.1 → x = y) ∧ ∀ x ∈ kn, wf x.1.1 = true ∧ wf x.1.2 = true
theorem tells_nil : Tells #[] [] := ⟨rfl, fun x hx => (by cases hx), fun x hx => (by cases hx)⟩
theorem tells_of {es : Array MapEntry} {kn : List ((Int × Int) × Int)} (h : Tells es kn) {x : MapEntry} (hx : x ∈ es.toList) : ∃ y ∈ kn, x.key = key y.1 ∧ x.val = Value.int .i64 y.2 := by
  have : (x.key, x.val) ∈ es.toList.map (fun x => (x.key, x.val)) := List.mem_map.2 ⟨x, hx, rfl⟩
  rw [h.1] at this
  obtain ⟨y, hy, e⟩ := List.mem_map.1 this
  injection e with e1 e2
  exact ⟨y, hy, e1.symm, e2.symm⟩
theorem tells_in {es : Array MapEntry} {kn : List ((Int × Int) × Int)} (h : Tells es kn) {y : (Int × Int) × Int} (hy : y ∈ kn) : ∃ x ∈ es.toList, x.key = key y.1 := by
  have : (key y.1, Value.int .i64 y.2) ∈ kn.map (fun x => (key x.1, Value.int .i64 x.2)) := List.mem_map.2 ⟨y, hy, rfl⟩
  rw [← h.1] at this
  obtain ⟨x, hx, e⟩ := List.mem_map.1 this
  injection e with e1 e2
  exact ⟨x, hx, e1⟩
theorem tells_keys {es : Array MapEntry} {kn : List ((Int × Int) × Int)} (h : Tells es kn) : ∀ x ∈ es.toList, ∃ l, keyOf Try.prog 76 x.key = some l := fun x hx => by
  obtain ⟨y, hy, e, _⟩ := tells_of h hx
  rw [e]
  exact keyOf_key (h.2.2 y hy).1 (h.2.2 y hy).2
/-- What the table says of a key. -/
def look (kn : List ((Int × Int) × Int)) (p : Int × Int) : Int × Bool := match kn.find? (fun x => x.1 == p) with
  | some x => (x.2, true)
  | none => (0, false)
theorem zero_run (w : World) : (zeroValue 3).run Try.prog w = .ok (.int .i64 0) w := by
  first
    | kernel_rfl
    | simp [zeroValue, Sem.run, Try.underlying3, run_underlying Try.underlying3]
theorem lookup_run {w : World} {b clock : Nat} {es : Array MapEntry} {kn : List ((Int × Int) × Int)} (h : Tells es kn) (hb : w.heap[b]? = some (.map es clock)) {p : Int × Int} (h1 : wf p.1 = true) (h2 : wf p.2 = true) :
    (Instr.lookup 74 (.map (some b)) (key p) true).run Try.prog w = .ok (.tuple #[.int .i64 (look kn p).1, .bool (look kn p).2]) w := by
  obtain ⟨l, hl⟩ := keyOf_key h1 h2
  rcases law.find w hl es.toList (tells_keys h) with ⟨e1, e2⟩ | ⟨j, x, e1, e2, e3⟩
  · have hn : kn.find? (fun x => x.1 == p) = none := List.find?_eq_none.2 fun y hy hq => by
      obtain ⟨x, hx, ex⟩ := tells_in h hy
      exact e2 x hx (by rw [ex, eq_of_beq hq])
    unfold look
    rw [hn]
    simp [Instr.lookup, run_underlying Try.underlying74, MapKept.run_getObj_map hb, law.check w _ hl, e1, zero_run, Result.andThen]
  · have hx : x ∈ es.toList := List.mem_of_getElem? e2
    obtain ⟨y, hy, ek, ev⟩ := tells_of h hx
    have ep : y.1 = p := key_inj (by rw [← ek, e3])
    have hs : kn.find? (fun x => x.1 == p) = some y := by
      cases hq : kn.find? (fun x => x.1 == p) with
      | none => exact absurd (List.find?_eq_none.1 hq y hy) (by rw [ep]; simp)
      | some z =>
        have hz := List.mem_of_find?_eq_some hq
        have hz2 := eq_of_beq (List.find?_some (p := fun x : (Int × Int) × Int => x.1 == p) hq)
        rw [h.2.1 z hz y hy (by rw [hz2, ep])]
    unfold look
    rw [hs]
    simp [Instr.lookup, run_underlying Try.underlying74, MapKept.run_getObj_map hb, law.check w _ hl, e1, ev, Result.andThen]
theorem update_run {w : World} {b clock : Nat} {es : Array MapEntry} {kn : List ((Int × Int) × Int)} (h : Tells es kn) (hb : w.heap[b]? = some (.map es clock)) {p : Int × Int} (h1 : wf p.1 = true) (h2 : wf p.2 = true) (v : Int) (hnew : kn.any (fun x => x.1 == p) = false) :
    ∃ es' clock' w', (Instr.mapUpdate 74 (.map (some b)) (key p) (.int .i64 v)).run Try.prog w = .ok () w' ∧ w'.heap[b]? = some (.map es' clock') ∧ Tells es' (kn ++ [(p, v)]) ∧ w.grownBy w' (some b) := by
  obtain ⟨l, hl⟩ := keyOf_key h1 h2
  have hno : ∀ y ∈ kn, y.1 ≠ p := fun y hy e => by
    have : kn.any (fun x => x.1 == p) = true := List.any_eq_true.2 ⟨y, hy, by rw [e]; simp⟩
    rw [hnew] at this
    exact absurd this (by decide)
  rcases law.find w hl es.toList (tells_keys h) with ⟨e1, e2⟩ | ⟨j, x, e1, e2, e3⟩
  · refine ⟨es.push ⟨key p, .int .i64 v, clock⟩, clock + 1, setBlock w b (.map (es.push ⟨key p, .int .i64 v, clock⟩) (clock + 1)), ?_, heap_setBlock_same hb _, ⟨?_, ?_, ?_⟩, ⟨rfl, rfl, rfl, by simp [setBlock], fun i _ hi => heap_setBlock_other hb _ (fun e => hi (by rw [e]))⟩⟩
    · simp [Instr.mapUpdate, run_underlying Try.underlying74, MapKept.run_getObj_map hb, law.check w false hl, e1, MapKept.run_setObj_map _ hb, Result.andThen, setBlock]
    · rw [Array.toList_push, List.map_append, List.map_append, h.1]
      rfl
    · intro x hx y hy e
      rcases List.mem_append.1 hx with hx | hx <;> rcases List.mem_append.1 hy with hy | hy
      · exact h.2.1 x hx y hy e
      · rw [List.mem_singleton] at hy
        subst hy
        exact absurd e (hno x hx)
      · rw [List.mem_singleton] at hx
        subst hx
        exact absurd e.symm (hno y hy)
      · rw [List.mem_singleton] at hx hy
        rw [hx, hy]
    · intro x hx
      rcases List.mem_append.1 hx with hx | hx
      · exact h.2.2 x hx
      · rw [List.mem_singleton] at hx
        subst hx
        exact ⟨h1, h2⟩
  · obtain ⟨y, hy, ek, _⟩ := tells_of h (List.mem_of_getElem? e2)
    exact absurd (key_inj (by rw [← ek, e3])) (hno y hy)
section
variable {ops : Array Oper} {rest : List Oper} {o : Oper} {a : Act} {Q : Exit → Act → World → Prop}
/-- 'v, ok := m[k]' at the operation. -/
theorem lookup_event {w : World} (hgd : o.guard = none) {m k : Operand} (ho : o.op = .lookup 74 m k true) {b clock : Nat} {es : Array MapEntry} {kn : List ((Int × Int) × Int)} (p : Int × Int) (hm : a.eval m = .map (some b)) (hk : a.eval k = .agg #[.int .i64 p.1, .int .i64 p.2])
    (h : Tells es kn) (hb : w.heap[b]? = some (.map es clock)) (h1 : wf p.1 = true) (h2 : wf p.2 = true) {v : Int} {ok : Bool} (hl : look kn p = (v, ok)) (hw : wpList Try.prog ops Q rest (a.put o.dst (.tuple #[.int .i64 v, .bool ok])) w) : wpList Try.prog ops Q (o :: rest) a w := by
  refine Kd.event_run hgd ?_ hw
  have hr := lookup_run h hb h1 h2
  rw [hl] at hr
  unfold key at hr
  simp [execOp, ho, hm, hk, hr, Result.andThen]
/-- 'make(map[K]V)' at the operation. -/
theorem make_event {W : World} (hgd : o.guard = none) (hrun : (execOp a.eval o).run Try.prog W = .ok (.value (.map (some W.heap.size))) (W.alloc (.map #[] 0)))
    (h : ∀ g, g = W.heap.size → ∀ w1, w1.heap[g]? = some (.map #[] 0) → Below W.heap.size W w1 → wpList Try.prog ops Q rest (a.put o.dst (.map (some g))) w1) : wpList Try.prog ops Q (o :: rest) a W :=
  Kd.event_run hgd hrun (h _ rfl _ (blk_new W _) (below_alloc (Below.refl _ _) _))
/-- 'm[k] = v' at the operation, k new. -/
theorem update_event {w : World} (hgd : o.guard = none) (hN : o.dst = none) {m k x : Operand} (ho : o.op = .mapUpdate 74 m k x) {b clock : Nat} {es : Array MapEntry} {kn : List ((Int × Int) × Int)} (p : Int × Int) (v : Int) (hm : a.eval m = .map (some b)) (hk : a.eval k = .agg #[.int .i64 p.1, .int .i64 p.2]) (hx : a.eval x = .int .i64 v)
    (h : Tells es kn) (hb : w.heap[b]? = some (.map es clock)) (h1 : wf p.1 = true) (h2 : wf p.2 = true) (hnew : kn.any (fun x => x.1 == p) = false)
    (hw : ∀ es' clock' w', w'.heap[b]? = some (.map es' clock') → Tells es' (kn ++ [(p, v)]) → w.grownBy w' (some b) → wpList Try.prog ops Q rest a w') : wpList Try.prog ops Q (o :: rest) a w := by
  obtain ⟨es', clock', w', hr, q1, q2, q3⟩ := update_run h hb h1 h2 v hnew
  unfold key at hr
  refine wpList_plain hgd fun K hK => ?_
  unfold Oper.wp
  simp [execOp, ho, hm, hk, hx, hr, Result.andThen]
  have := hK _ _ (hw es' clock' w' q1 q2 q3)
  show K (a.put o.dst undef) w'
  rw [hN]
  exact this
end
end Go.Proofs.Ytgjmmegmkdklbaa.Wd
