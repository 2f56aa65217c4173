import Derived.Test.YtoinagnieobbpaaProg
import Derived.Below
import Derived.Deep.Draws
import Derived.Deep.AppendLies
import Derived.Maps.AppendAt
import Derived.OwnWalk
import Derived.Laws.BytesArg
import Derived.Laws.MakeOwn
import Derived.Laws.OwnMore
import Derived.Deep.OwnRows
import Derived.Tactics
import Derived.Lib.ConvBytes
import Derived.Laws.Slices
import Derived.WalkKit
import Derived.KernelRfl
import Derived.RowKit3
import Derived.Deep.LoopGhost
import Derived.Deep.QuietTactic
import Derived.BigQuiet
import Derived.WideLaws
import Derived.Deep.DeepCutAuto
import Derived.Deep.CutBlock
import Derived.Deep.RegionHeld3
import Derived.Laws.Rows
import Derived.Lib.AppendStr
import Derived.ArgAppend
import Derived.Laws.IdiomCopy
import Derived.OrdersHeld
import Derived.Laws.BitsLemmas
import Derived.RowKit
import Derived.Lib.SlicesCompact
import Derived.Deep.LoopGhost
import Derived.Lib.SliceRun
import Derived.Shelf.Abstract
import Derived.DataElems
import Derived.Test.YtoinagnieobbpaaWWords
import Derived.Test.YtoinagnieobbpaaWLast
import Derived.Test.YtoinagnieobbpaaWTab
import Derived.Test.YtoinagnieobbpaaWQPut
import Derived.Test.YtoinagnieobbpaaWApart
import Derived.Test.YtoinagnieobbpaaWArr
import Derived.Test.YtoinagnieobbpaaWZeros
import Derived.Test.YtoinagnieobbpaaWFoot
import Derived.Test.YtoinagnieobbpaaWKept
import Derived.Test.YtoinagnieobbpaaWShare
import Derived.Test.YtoinagnieobbpaaWN
import Derived.Test.YtoinagnieobbpaaWEqStruct
import Derived.Test.YtoinagnieobbpaaWRepsOne
import Derived.Test.YtoinagnieobbpaaWGuard
import Derived.Test.YtoinagnieobbpaaWNEv
import Derived.Test.YtoinagnieobbpaaWMore
import Derived.Test.YtoinagnieobbpaaSq
import Derived.Test.YtoinagnieobbpaaLays
import Derived.Test.YtoinagnieobbpaaSuf
import Derived.Test.YtoinagnieobbpaaStr
-- import Sq
-- import Lays
-- import Suf
-- import Str
-- module Derived.Lib.SlicesCompact
-- module Derived.Deep.LoopGhost
-- module Derived.Lib.SliceRun
/- slices.Compact at stretches. -/
namespace Go.Proofs.Ytoinagnieobbpaa.Str
open Go.RowKit Go.Sort Go.Lib Go.Proofs.YtoinagnieobbpaaW.PrintWords
set_option linter.unusedVariables false
set_option linter.unusedSimpArgs false
abbrev T3 := Int × Int × Int
theorem eq3 (x y : T3) (W : World) : (binOp .eql 27 (.agg #[.int .i64 x.1, .int .i64 x.2.1, .int .i64 x.2.2]) (.agg #[.int .i64 y.1, .int .i64 y.2.1, .int .i64 y.2.2])).run Try.prog W = .ok (.bool (decide (x = y))) W := by
  obtain ⟨x0, x1, x2⟩ := x
  obtain ⟨y0, y1, y2⟩ := y
  have hu27 := Try.underlying27
  have hu3 := Try.underlying3
  by_cases c0 : x0 = y0
  · by_cases c1 : x1 = y1
    · by_cases c2 : x2 = y2
      · subst c0; subst c1; subst c2; go_simp
      · subst c0; subst c1; first | (go_simp; done) | (go_simp; simp [c2])
    · subst c0; first | (go_simp; done) | (go_simp; simp [c1])
  · first | (go_simp; done) | (go_simp; simp [c0])
theorem ne3 (x y : T3) (W : World) : (binOp .neq 27 (.agg #[.int .i64 x.1, .int .i64 x.2.1, .int .i64 x.2.2]) (.agg #[.int .i64 y.1, .int .i64 y.2.1, .int .i64 y.2.2])).run Try.prog W = .ok (.bool (!decide (x = y))) W := by
  obtain ⟨x0, x1, x2⟩ := x
  obtain ⟨y0, y1, y2⟩ := y
  have hu27 := Try.underlying27
  have hu3 := Try.underlying3
  by_cases c0 : x0 = y0
  · by_cases c1 : x1 = y1
    · by_cases c2 : x2 = y2
      · subst c0; subst c1; subst c2; go_simp
      · subst c0; subst c1; first | (go_simp; done) | (go_simp; simp [c2])
    · subst c0; first | (go_simp; done) | (go_simp; simp [c1])
  · first | (go_simp; done) | (go_simp; simp [c0])
theorem holds3 {W : World} {b : Nat} {d : Array T3} (h : HoldsK enc3 3 W b 0 d) {i : Nat} (hi : i < d.size) :
    (W.cell? ⟨b, i * 3, none⟩ = some (.int .i64 d[i]!.1) ∧ W.cell? ⟨b, i * 3 + 1, none⟩ = some (.int .i64 d[i]!.2.1) ∧ W.cell? ⟨b, i * 3 + 2, none⟩ = some (.int .i64 d[i]!.2.2)) ∧
      W.frozen? ⟨b, i * 3, none⟩ = false ∧ W.frozen? ⟨b, i * 3 + 1, none⟩ = false ∧ W.frozen? ⟨b, i * 3 + 2, none⟩ = false := by
  have g : ∀ c, c < 3 → W.cell? ⟨b, i * 3 + c, none⟩ = some ((enc3 d[i]!)[c]!) ∧ W.frozen? ⟨b, i * 3 + c, none⟩ = false := fun c hc => by
    have hb : i * 3 + c < (flatK enc3 3 d).size := by rw [size_flatK]; omega
    have := h (i * 3 + c) hb
    rw [Nat.zero_add, get_flatK _ _ _ _ (by omega), show (i * 3 + c) / 3 = i by omega, show (i * 3 + c) % 3 = c by omega] at this
    exact this
  exact ⟨⟨(g 0 (by omega)).1, (g 1 (by omega)).1, (g 2 (by omega)).1⟩, (g 0 (by omega)).2, (g 1 (by omega)).2, (g 2 (by omega)).2⟩
theorem clear3 (w : World) (ty : TypeId) (b o n c : Nat) (hn : 0 < n) (hc : ∀ j, j < n * 3 → (w.cell? ⟨b, o + j, none⟩).isSome = true) (hf : ∀ j, j < n * 3 → w.frozen? ⟨b, o + j, none⟩ = false) :
    (Builtin.clear_ #[39] ty #[.slice (some ⟨b, o, none⟩) n c]).run Try.prog w = .ok (.tuple #[]) (w.setCells b o (List.replicate (n * 3) (.int .i64 0))) := by
  have hv : ∀ w, (zeroValue 27).run Try.prog w = .ok (.agg #[.int .i64 0, .int .i64 0, .int .i64 0]) w := fun w => by kernel_rfl
  have hzc : (Builtin.zeroCells (Value.agg #[.int .i64 0, .int .i64 0, .int .i64 0]).cells n).toList = List.replicate (n * 3) (.int .i64 0) := by
    rw [show (Value.agg #[Value.int .i64 0, Value.int .i64 0, Value.int .i64 0]).cells = #[Value.int .i64 0, Value.int .i64 0, Value.int .i64 0] by kernel_rfl]
    simp only [Builtin.zeroCells]
    apply List.ext_getElem
    · simp
    · intro i h1 h2
      have h3 : i % 3 < 3 := Nat.mod_lt _ (by decide)
      simp only [Array.getElem_toList, Array.getElem_map, Array.getElem_range, List.getElem_replicate]
      show (#[Value.int .i64 0, Value.int .i64 0, Value.int .i64 0] : Array Value)[i % 3]! = _
      generalize i % 3 = m at h3 ⊢
      match m, h3 with
      | 0, _ => rfl
      | 1, _ => rfl
      | 2, _ => rfl
  have hst := run_storeCells_cells (P := Try.prog) b o (List.replicate (n * 3) (Value.int .i64 0)) 0 w (by simpa using hc) (by simpa using hf) (by intro v hv'; rw [List.eq_of_mem_replicate hv']; rfl)
  simp only [Nat.add_zero] at hst
  obtain ⟨m, rfl⟩ : ∃ m, n = m + 1 := ⟨n - 1, by omega⟩
  simp [Builtin.clear_, run_underlying Try.underlying39, hv, hzc, hst]

/-- The cells in which the three numbers are laid at place i. -/
theorem put3 {w wr : World} {n b : Nat} {dk : Array T3} {i : Nat} (hi : i < dk.size) (hwr : wr = putRowK enc3 3 (Sort.ahead w n) b 0 dk) (x : T3) :
    (((wr.setCell ⟨b, i * 3, none⟩ (.int .i64 x.1)).setCell ⟨b, i * 3 + 1, none⟩ (.int .i64 x.2.1)).setCell ⟨b, i * 3 + 2, none⟩ (.int .i64 x.2.2)) = putRowK enc3 3 (Sort.ahead w n) b 0 (dk.setIfInBounds i x) := by
  subst hwr
  have h := setCells_putRow (Sort.ahead w n) b 0 (enc3 x) (i * 3) (flatK enc3 3 dk) (by rw [size_flatK]; simp [enc3]; omega)
  rw [Nat.zero_add] at h
  refine Eq.trans (show _ = (putRow id (Sort.ahead w n) b 0 (flatK enc3 3 dk)).setCells b (i * 3) (enc3 x) from rfl) (h.trans ?_)
  unfold putRowK
  congr 1
  refine ext_get! (by simp) fun t ht => ?_
  have ht' : t < dk.size * 3 := by simpa using ht
  rw [get_setMany _ _ _ _ (by rw [size_flatK]; exact ht'), get_flatK _ _ _ _ ht', get_flatK _ _ _ _ (by simpa using ht')]
  by_cases c : i * 3 ≤ t ∧ t < i * 3 + (enc3 x).length
  · have c2 : t < i * 3 + 3 := c.2
    rw [if_pos c, show t / 3 = i by omega, getElem!_set_same dk i x hi, show t - i * 3 = t % 3 by omega]
  · have c2 : ¬ (i * 3 ≤ t ∧ t < i * 3 + 3) := c
    rw [if_neg c, getElem!_set_other dk i (t / 3) x (by omega)]
def CEnd (d : Array T3) (w : World) (b cap : Nat) (e : Ending) (w' : World) : Prop := e = .returned (.slice (some ⟨b, 0, none⟩) (compactUpTo d d.size).length cap) ∧ (compactUpTo d d.size).length ≤ d.size ∧
    ∃ (q : Nat) (F : Array Value), F.size = d.size * 3 ∧ (∀ t, t < (compactUpTo d d.size).length * 3 → F[t]! = (enc3 ((compactUpTo d d.size).toArray[t / 3]!))[t % 3]!) ∧ w' = putRow id (Sort.ahead w q) b 0 F
theorem cend_same {d : Array T3} {w : World} {b cap : Nat} (hH : HoldsK enc3 3 w b 0 d) (q : Nat) (hall : ∀ j, j < d.size → keeps d j = true) : CEnd d w b cap (.returned (.slice (some ⟨b, 0, none⟩) d.size cap)) (w.drewN q) := by
  have e : compactUpTo d d.size = d.toList := by rw [compactUpTo_all d _ hall, range_map_get]
  have el : (compactUpTo d d.size).length = d.size := by rw [e]; simp
  refine ⟨by rw [el], by omega, q, flatK enc3 3 d, size_flatK .., fun t ht => ?_, (putRowK_self enc3 3 (Sort.ahead w q) b 0 d (holdsK_ahead enc3 3 w q b 0 d hH)).symm⟩
  rw [el] at ht
  rw [get_flatK _ _ _ _ ht, e, Array.toArray_toList]
set_option maxHeartbeats 8000000 in
set_option maxRecDepth 1000000 in
theorem compactWalk (b cap : Nat) (d : Array T3) (w : World) (hH : HoldsK enc3 3 w b 0 d) (hsz : d.size ≤ 4611686018427387904) (hcap : d.size ≤ cap) :
    Calls Try.prog 73 #[.slice (some ⟨b, 0, none⟩) d.size cap] w fun e w' => CEnd d w b cap e w' := by
  have hu27 := Try.underlying27
  have HE := Aside0.mk (fun q (hall : ∀ j, j < d.size → keeps d j = true) => cend_same (cap := cap) hH q hall)
  by_cases h2 : d.size < 2
  · have HH := Aside0.mk hH
    clear hH
    go_enter Try.func73, Try.ntmps73
    go_wp2
    go_ret
    exact HE.out 0 (fun j hj => keeps_lt_one d j (by omega))
  · go_enter Try.func73, Try.ntmps73
    go_wp2
    go_loopg [3] d.size (fun g s3 wr => ∃ k q : Nat, 1 ≤ k ∧ k ≤ d.size ∧ d.size - k ≤ g ∧ s3 = .int .i64 k ∧ wr = w.drewN q ∧ ∀ j, j < k → keeps d j = true)
    case atStart => exact ⟨1, 0, Nat.le_refl _, by omega, by omega, rfl, rfl, keeps_lt_one d⟩
    case round =>
      obtain ⟨k, q, hk1, hk, hg, rfl, rfl, hall⟩ := hrel
      by_cases hlt : k < d.size
      · obtain ⟨⟨c1, c2, c3⟩, _⟩ := holds3 hH hlt
        obtain ⟨⟨c4, c5, c6⟩, _⟩ := holds3 hH (show k - 1 < d.size by omega)
        have A := Aside0.mk hall
        have HH := Aside0.mk hH
        clear hall hH
        generalize hx : d[k]! = x at c1 c2 c3
        generalize hy : d[k - 1]! = y at c4 c5 c6
        have B := Aside0.mk (And.intro hx hy)
        clear hx hy
        have he := eq3 x y
        by_cases hdup : x = y
        · subst hdup
          rw [decide_eq_true rfl] at he
          go_wp2_with fail
          go_region
          go_wp2
          clear c1 c2 c3 c4 c5 c6 he
          go_loopg [3, 5] d.size (fun g s3 s5 wr => ∃ (kk k2 q2 : Nat) (dk : Array T3), s3 = .int .i64 kk ∧ s5 = .int .i64 k2 ∧ 1 ≤ k2 ∧ k + k2 ≤ d.size ∧ d.size - (k + k2) ≤ g ∧ wr = putRowK enc3 3 (Sort.ahead w q2) b 0 dk ∧ CompInv d (k + k2) kk dk)
          case atStart => exact ⟨k, 1, q + 1, d, rfl, rfl, Nat.le_refl _, by omega, by omega, (putRowK_self enc3 3 (Sort.ahead w (q + 1)) b 0 d (holdsK_ahead enc3 3 w (q + 1) b 0 d HH.out)).symm, CompInv.start A.out (keeps_neg (by omega) (by rw [B.out.1, B.out.2]))⟩
          case round =>
            obtain ⟨kk, k2, q2, dk, rfl, rfl, h1, hle, hg2, hwr, hI⟩ := hrel
            have hkk := hI.lt
            have hds := hI.size
            have hHk : HoldsK enc3 3 wr b 0 dk := by rw [hwr]; exact holdsK_putRowK enc3 3 _ b 0 d dk (holdsK_ahead enc3 3 w q2 b 0 d HH.out) hds
            have W2 := Aside0.mk hwr
            have I2 := Aside0.mk hI
            clear hwr
            by_cases hlt2 : k + k2 < d.size
            · obtain ⟨⟨m1, m2, m3⟩, _⟩ := holds3 hHk (show k + k2 < dk.size by omega)
              obtain ⟨⟨p1, p2, p3⟩, _⟩ := holds3 hHk (show k + k2 - 1 < dk.size by omega)
              obtain ⟨⟨o1, o2, o3⟩, f1, f2, f3⟩ := holds3 hHk (show kk < dk.size by omega)
              rw [hI.high (k + k2) (by omega)] at m1 m2 m3
              rw [hI.high (k + k2 - 1) (by omega)] at p1 p2 p3
              rw [show (k + k2) * 3 = k * 3 + k2 * 3 by omega] at m1 m2 m3
              rw [show (k + k2 - 1) * 3 = k * 3 + (k2 - 1) * 3 by omega] at p1 p2 p3
              clear hHk hI
              generalize hu : d[k + k2]! = u at m1 m2 m3
              generalize hv : d[k + k2 - 1]! = v at p1 p2 p3
              generalize dk[kk]! = old at o1 o2 o3
              have C := Aside0.mk (And.intro hu hv)
              clear hu hv
              have hn := ne3 u v
              by_cases huv : u = v
              · subst huv
                rw [decide_eq_true rfl, Bool.not_true] at hn
                go_wp2_with fail
                go_region
                go_wp2
                go_roundg (d.size - (k + (k2 + 1)))
                case measure => omega
                case rel => exact ⟨kk, k2 + 1, q2 + 1, dk, rfl, by go_num, by omega, by omega, Nat.le_refl _, by rw [W2.out]; rfl, I2.out.skip (keeps_neg (by omega) (by rw [C.out.1, C.out.2]))⟩
              · rw [decide_eq_false huv, Bool.not_false] at hn
                go_wp2_with fail
                go_region
                go_wp2
                go_roundg (d.size - (k + (k2 + 1)))
                case measure => omega
                case rel =>
                  refine ⟨kk + 1, k2 + 1, q2 + 1, dk.setIfInBounds kk u, by go_num, by go_num, by omega, by omega, Nat.le_refl _, ?_, by have := I2.out.keep hlt2 (keeps_pos (by rw [C.out.1, C.out.2]; exact huv)); rwa [C.out.1] at this⟩
                  exact put3 (n := q2 + 1) (wr := wr.drew) (by omega) (by rw [W2.out]; rfl) u
            · have hend : k + k2 = d.size := by omega
              have hcl : ∀ ty, (Builtin.clear_ #[39] ty #[.slice (some ⟨b, kk * 3, none⟩) (d.size - kk) (cap - kk)]).run Try.prog wr = .ok (.tuple #[]) (wr.setCells b (kk * 3) (List.replicate ((d.size - kk) * 3) (.int .i64 0))) :=
                fun ty => clear3 wr ty b (kk * 3) (d.size - kk) (cap - kk) (by omega) (fun j hj => by
                  have := (hHk (kk * 3 + j) (by rw [size_flatK]; omega)).1
                  rw [Nat.zero_add] at this
                  rw [this]; rfl) (fun j hj => by
                  have := (hHk (kk * 3 + j) (by rw [size_flatK]; omega)).2
                  rwa [Nat.zero_add] at this)
              clear hHk hI
              go_wp2
              go_ret
              have hI := I2.out
              rw [hend] at hI
              have hw : wr.setCells b (kk * 3) (List.replicate ((d.size - kk) * 3) (.int .i64 0)) = putRow id (Sort.ahead w q2) b 0 (setMany (flatK enc3 3 dk) (kk * 3) (List.replicate ((d.size - kk) * 3) (.int .i64 0))) := by
                rw [W2.out]
                have := setCells_putRow (Sort.ahead w q2) b 0 (List.replicate ((d.size - kk) * 3) (.int .i64 0)) (kk * 3) (flatK enc3 3 dk) (by rw [size_flatK, List.length_replicate]; omega)
                rw [Nat.zero_add] at this
                exact this
              refine ⟨by rw [hI.len]; rfl, by rw [hI.len]; omega, q2, setMany (flatK enc3 3 dk) (kk * 3) (List.replicate ((d.size - kk) * 3) (.int .i64 0)), by rw [size_setMany, size_flatK, hI.size], fun t ht => ?_, hw⟩
              rw [hI.len] at ht
              rw [get_setMany _ _ _ _ (by rw [size_flatK]; omega), if_neg (by omega), get_flatK _ _ _ _ (by omega)]
              have hlow := hI.low (t / 3) (by omega)
              have hlt3 : t / 3 < (compactUpTo d d.size).length := by rw [hI.len]; omega
              rw [List.getElem?_eq_getElem hlt3] at hlow
              injection hlow with hlow
              rw [getElem!_pos (compactUpTo d d.size).toArray (t / 3) (by simpa using hlt3), List.getElem_toArray, hlow]
        · rw [decide_eq_false hdup] at he
          go_wp2_with fail
          go_region
          go_wp2
          go_roundg (d.size - (k + 1))
          case measure => omega
          case rel =>
            refine ⟨k + 1, q + 1, by omega, by omega, Nat.le_refl _, by go_num, rfl, fun j hj => ?_⟩
            by_cases e : j = k
            · subst e
              exact keeps_pos (by rw [B.out.1, B.out.2]; exact hdup)
            · exact A.out j (by omega)
      · have : k = d.size := by omega
        subst this
        have HH := Aside0.mk hH
        clear hH
        go_wp2
        go_ret
        exact HE.out q hall

theorem compactNil (A : Option Addr) (cap : Nat) (w : World) : Calls Try.prog 73 #[.slice A 0 cap] w fun e w' => e = .returned (.slice A 0 cap) ∧ w' = w := by
  go_enter Try.func73, Try.ntmps73
  go_wp2
  go_ret
  exact ⟨rfl, rfl⟩
theorem own_cut {W : World} {base : Nat} {e : TypeId} {g n c m : Nat} {xs : List Value} (h : W.ownsRow base e 3 (.slice (some ⟨g, 0, none⟩) n c) n xs) (hm : m ≤ n) : W.ownsRow base e 3 (.slice (some ⟨g, 0, none⟩) m c) m (xs.take (m * 3)) := by
  obtain ⟨hl, h⟩ := h
  rcases h with ⟨he, _⟩ | ⟨g', cap, cur, he, hb, hh, hnc, hcm, hcs, ht⟩
  · cases he
  injection he with he1 he2 he3
  injection he1 with he1
  injection he1 with he1
  subst he1; subst he3
  refine ⟨by rw [List.length_take, hl]; omega, .inr ⟨g, c, cur, rfl, hb, hh, by omega, hcm, hcs, ?_⟩⟩
  rw [← ht, List.take_take, Nat.min_eq_left (by omega)]
theorem reps_of {S : Type} {M : S → List Value → Prop} {tri : S → T3} (hM : ∀ x, M x (enc3 (tri x))) {xs : List S} {cs : List Value} (hl : cs.length = xs.length * 3) (h : ∀ t p, xs[t / 3]? = some p → cs[t]? = (enc3 (tri p))[t % 3]?) : Reps M 3 xs cs := by
  refine ⟨hl, fun j p hp => ?_⟩
  have e : (cs.drop (j * 3)).take 3 = enc3 (tri p) := by
    apply List.ext_getElem?
    intro i
    rw [List.getElem?_take]
    by_cases hi : i < 3
    · rw [if_pos hi, List.getElem?_drop, h (j * 3 + i) p (by rw [show (j * 3 + i) / 3 = j by omega]; exact hp), show (j * 3 + i) % 3 = i by omega]
    · rw [if_neg hi, List.getElem?_eq_none (by simp [enc3]; omega)]
  rw [e]
  exact hM p
theorem holds_own {S : Type} {K : Kd S} {tri : S → T3} (hM : ∀ w b ok x cs, K.M w b ok x cs → cs = enc3 (tri x)) {w : World} {base b cap e : Nat} {ok : Nat → Prop} {l0 : List S} {inner : List Value}
    (hown : w.ownsRow base e 3 (.slice (some ⟨b, 0, none⟩) l0.length cap) l0.length inner) (hreps : Reps (K.M w base ok) 3 l0 inner) : HoldsK enc3 3 w b 0 (l0.map tri).toArray := by
  rcases hown.2 with ⟨he, _⟩ | ⟨g', cap', cur, he, hbb, hh, hnc, hcm, hcs, ht⟩
  · cases he
  injection he with he1 he2 he3
  injection he1 with he1
  injection he1 with he1
  subst he1; subst he3
  intro t ht'
  have ht3 : t < l0.length * 3 := by simpa using ht'
  obtain ⟨p, hp, hc⟩ := reps_at (fun x cs => hM _ _ _ x cs) hreps t ht3
  refine ⟨?_, blk_frozen hh _⟩
  have h3 : t / 3 < l0.length := by omega
  have ecell : w.cell? ⟨b, 0 + t, none⟩ = inner[t]? := by
    rw [Nat.zero_add, ← ht, List.getElem?_take, if_pos ht3]
    exact (blk_cell hh t).trans (by rw [Array.getElem?_toList])
  have h33 : t % 3 < (enc3 (tri p)).length := by simp [enc3]; omega
  rw [ecell, hc, get_flatK enc3 3 _ t (by simpa using ht3), getElem!_pos (l0.map tri).toArray (t / 3) (by simpa using h3), List.getElem_toArray, List.getElem_map]
  rw [List.getElem?_eq_getElem h3] at hp
  injection hp with hp
  rw [hp, getElem!_pos (enc3 (tri p)) (t % 3) h33, List.getElem?_eq_getElem h33]
  rfl
set_option maxHeartbeats 2000000 in
/-- slices.Compact at stretches of a row of one's own. -/
theorem compactStr {S : Type} (K : Kd S) (tri : S → T3) (g : T3 → S) (hg : ∀ t, tri (g t) = t) (hsz : K.sz = 3) (hM : ∀ w b ok x cs, K.M w b ok x cs → cs = enc3 (tri x)) (hM' : ∀ w b ok x, K.M w b ok x (enc3 (tri x)))
    (P0 : Nat → Prop) (u : Value) (l0 : List S) (w0 w : World) (hB : Below w0.heap.size w0 w) (ho : K.R 27 w w0.heap.size P0 u l0) (hs : l0.length ≤ 4611686018427387904) :
    Calls Try.prog 73 #[u] w fun e w' => ∃ v : Value, e = .returned v ∧ K.R 27 w' w0.heap.size (fun k => (P0 k ∨ w.heap.size ≤ k)) v ((compact (l0.map tri)).map g) ∧ Below w0.heap.size w0 w' ∧ Kept w w' (fun k => P0 k) := by
  obtain ⟨hok, inner, hown, hreps⟩ := id ho
  rw [hsz] at hown hreps
  rcases hown.2 with ⟨he, h0⟩ | ⟨b, cap, cur, rfl, hbb, hh, hnc, hcm, hcs, ht⟩
  · obtain rfl := List.eq_nil_of_length_eq_zero h0
    subst he
    refine (compactNil none 0 w).mono ?_
    rintro e w' ⟨rfl, rfl⟩
    exact ⟨_, rfl, Kd.R_mono ho (fun k hk => .inl hk), hB, Kept.refl _ _⟩
  · have hP : P0 b := hok b (by simp [Value.ownBlock])
    have hlt : b < w.heap.size := (Array.getElem?_eq_some_iff.1 hh).1
    have hH := holds_own hM hown hreps
    have hd : (l0.map tri).toArray.size = l0.length := by simp
    have hW := compactWalk b cap (l0.map tri).toArray w hH (by rw [hd]; exact hs) (by rw [hd]; exact hnc)
    rw [hd] at hW
    refine hW.mono ?_
    rintro e w' ⟨rfl, hle, q, F, hF, hFt, rfl⟩
    have ec : compact (l0.map tri) = compactUpTo (l0.map tri).toArray (l0.map tri).toArray.size := by unfold compact; rw [hd, List.length_map]
    rw [← ec] at hle hFt ⊢
    rw [hd] at hle hF
    generalize hC : compact (l0.map tri) = C at *
    obtain ⟨ho', hgr⟩ := Fv.own_put hown q F hF #[]
    have eg : grow (putRow id (Sort.ahead w q) b 0 F) #[] = putRow id (Sort.ahead w q) b 0 F := grow_empty _
    rw [eg] at ho' hgr
    refine ⟨_, rfl, ⟨fun k hk => .inl (hok k hk), F.toList.take (C.length * 3), ?_, ?_⟩, hB.grown hgr hB.size (fun k e => by injection e with e; omega), Fv.kept_of_grown hgr hP⟩
    · rw [hsz, List.length_map]
      exact own_cut ho' hle
    · rw [hsz]
      refine reps_of (hM' _ _ _) (by simp; omega) (fun t p hp => ?_)
      have h3 : t / 3 < C.length := by have := (List.getElem?_eq_some_iff.1 hp).1; simpa using this
      have hp' : g C[t / 3] = p := by
        rw [List.getElem?_map, List.getElem?_eq_getElem h3] at hp
        injection hp
      have hbF : t < F.size := by rw [hF]; omega
      have h33 : t % 3 < (enc3 (tri p)).length := by simp [enc3]; omega
      have hv := hFt t (by omega)
      have e2 : C.toArray[t / 3]! = C[t / 3] := by
        rw [getElem!_pos C.toArray (t / 3) (by simpa using h3)]
        rfl
      rw [getElem!_pos F t hbF, e2] at hv
      rw [List.getElem?_take, if_pos (by omega), Array.getElem?_toList, Array.getElem?_eq_getElem hbF, hv, ← hp', hg, List.getElem?_eq_getElem (by rw [← hp', hg] at h33; exact h33), getElem!_pos _ _ (by rw [← hp', hg] at h33; exact h33)]
/-- Stretches of one place have one depth. -/
def okP (l : List T3) : Bool := l.all fun x => l.all fun y => !(x.1 == y.1 && x.2.1 == y.2.1) || x.2.2 == y.2.2
theorem okP_out {l : List T3} (h : okP l = true) : ∀ x ∈ l, ∀ y ∈ l, x.1 = y.1 → x.2.1 = y.2.1 → x = y := by
  intro x hx y hy h1 h2
  have h3 := List.all_eq_true.1 (List.all_eq_true.1 h x hx) y hy
  obtain ⟨x0, x1, x2⟩ := x
  obtain ⟨y0, y1, y2⟩ := y
  simp only at h1 h2
  subst h1; subst h2
  simp at h3
  rw [h3]
theorem sortStr' {S : Type} (K : Kd S) (tri : S → T3) (g : T3 → S) (hg : ∀ x, g (tri x) = x) (hsz : K.sz = 3) (hM : ∀ w b ok x cs, K.M w b ok x cs → cs = enc3 (tri x)) (hM' : ∀ w b ok x, K.M w b ok x (enc3 (tri x)))
    (P0 : Nat → Prop) (u : Value) (l0 : List S) (w0 w : World) (hB : Below w0.heap.size w0 w) (ho : K.R 27 w w0.heap.size P0 u l0) (hd : okP (l0.map tri) = true) (hs : l0.length < 4611686018427387904) :
    Calls Try.prog 71 #[u, .func (.func 72) #[] #[]] w fun e w' => e = .returned (.tuple #[]) ∧ K.R 27 w' w0.heap.size (fun k => (P0 k ∨ w.heap.size ≤ k)) u (l0.mergeSort (le3 tri)) ∧ Below w0.heap.size w0 w' ∧ Kept w w' (fun k => P0 k) :=
  sortStr K tri hsz hM hM' P0 u l0 w0 w hB ho (fun x hx y hy h1 h2 => by
    have := okP_out hd _ (List.mem_map_of_mem hx) _ (List.mem_map_of_mem hy) h1 h2
    rw [← hg x, this, hg y]) hs
end Go.Proofs.Ytoinagnieobbpaa.Str
