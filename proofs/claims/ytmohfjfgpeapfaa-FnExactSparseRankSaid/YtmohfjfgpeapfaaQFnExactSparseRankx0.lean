-- A walk, made by walk.py, a program of this session's.
import Derived.Test.YtmohfjfgpeapfaaProg
import Derived.Below
import Derived.Deep.Draws
import Derived.Deep.AppendLies
import Derived.Maps.AppendAt
import Derived.OwnWalk
import Derived.Laws.BytesArg
import Derived.Laws.MakeOwn
import Derived.Laws.OwnMore
import Derived.Deep.OwnRows
import Derived.Tactics
import Derived.Lib.ConvBytes
import Derived.Laws.Slices
import Derived.WalkKit
import Derived.KernelRfl
import Derived.RowKit3
import Derived.Deep.LoopGhost
import Derived.Deep.QuietTactic
import Derived.BigQuiet
import Derived.WideLaws
import Derived.Deep.DeepCutAuto
import Derived.Deep.CutBlock
import Derived.Deep.RegionHeld3
import Derived.Laws.Rows
import Derived.Lib.AppendStr
import Derived.ArgAppend
import Derived.Laws.IdiomCopy
import Derived.OrdersHeld
import Derived.Laws.BitsLemmas
import Derived.RowKit
import Derived.Test.YtmohfjfgpeapfaaOpen
import Derived.Test.YtmohfjfgpeapfaaAreAll
import Derived.Test.YtmohfjfgpeapfaaPreds
import Derived.Test.YtmohfjfgpeapfaaSq
import Derived.Test.YtmohfjfgpeapfaaWWords
import Derived.Test.YtmohfjfgpeapfaaWLast
import Derived.Test.YtmohfjfgpeapfaaWTab
import Derived.Test.YtmohfjfgpeapfaaWQPut
import Derived.Test.YtmohfjfgpeapfaaWApart
import Derived.Test.YtmohfjfgpeapfaaWArr
import Derived.Test.YtmohfjfgpeapfaaWZeros
import Derived.Test.YtmohfjfgpeapfaaWFoot
import Derived.Test.YtmohfjfgpeapfaaWKept
import Derived.Test.YtmohfjfgpeapfaaWShare
import Derived.Test.YtmohfjfgpeapfaaWN
import Derived.Test.YtmohfjfgpeapfaaWRepsOne
import Derived.Test.YtmohfjfgpeapfaaWGuard
import Derived.Test.YtmohfjfgpeapfaaWNEv
import Derived.Test.YtmohfjfgpeapfaaWMore
namespace Go.Proofs.Ytmohfjfgpeapfaa.QFnExactSparseRank
open Go.RowKit Go.Proofs.YtmohfjfgpeapfaaW.PrintWords Go.Proofs.YtmohfjfgpeapfaaW.PrintLast Go.Proofs.YtmohfjfgpeapfaaW.PrintMore
attribute [local go_sem] max2_int min2_int max_two min_two max_three min_three max_four min_four   -- for this text's walks alone
set_option linter.unusedVariables false
set_option linter.unusedSimpArgs false



def errW : Option Int → Value
  | none => .nilIface
  | some c => .iface 0 (.int .i64 c)
theorem errW_none : errW none = .nilIface := rfl
theorem errW_some (c : Int) : errW (some c) = .iface 0 (.int .i64 c) := rfl

theorem info3 : (Try.prog.info? 3).map (fun i => (i.zero, i.size, i.bytes)) = some (some (.int .i64 0), 1, 8) := by kernel_rfl
theorem info78 : (Try.prog.info? 78).map (fun i => (i.zero, i.size, i.bytes)) = some (some (.int .u64 0), 1, 8) := by kernel_rfl
-- the values' own types
def rd_L2 (xs : List (List Int)) (i : Int) : (List Int) := xs.getD i.toNat ([] : List Int)
theorem at_L2 {w : World} {A : Option Addr} {n : Nat} {xs : List (List Int)} (h : Kd.C (Kd.slice 78 (Kd.int .u64)) w A n xs) (i : Int) (h0 : 0 ≤ i) (h1 : i < n) : ∃ ad A0 c0, A = some ad ∧ w.cell? (ad.add i.toNat) = some (.slice A0 (rd_L2 xs i).length c0) ∧ (rd_L2 xs i).length ≤ c0 ∧ (Kd.int .u64).C w A0 (rd_L2 xs i).length (rd_L2 xs i) := by
  obtain ⟨ad, c, e, _, hK, hc0⟩ := Kd.C_get h ([] : List Int) i h0 h1
  have hc : ∀ j u, c[j]? = some u → w.cell? (ad.add (i.toNat * 1 + j)) = some u := hc0
  obtain ⟨A0, c0, rfl, l0, g0⟩ := hK
  exact ⟨ad, A0, c0, e, by have hq := hc 0 _ rfl; rwa [Nat.mul_one, Nat.add_zero] at hq, l0, g0⟩

/-! #### struct type 41 -/
structure S41 where
  f0 : Int
  f1 : (List Int)
def z41 : S41 := ⟨(0 : Int), ([] : List Int)⟩
def k41 : Kd S41 := Kd.iso (Kd.pair (Kd.int .i64) (Kd.slice 78 (Kd.int .u64))) (fun x : S41 => (x.f0, x.f1))
theorem k41_open {w : World} {x : S41} {cs : List Value} (h : k41.K w x cs) : ∃ A1 c1, cs = [.int .i64 x.f0, .slice A1 x.f1.length c1] ∧ x.f1.length ≤ c1 ∧ (Kd.int .u64).C w A1 x.f1.length x.f1 := by
  obtain ⟨_, _, rfl, rfl, ⟨A1, c1, rfl, l1, g1⟩⟩ := h
  exact ⟨A1, c1, rfl, l1, g1⟩
theorem k41_openM {w : World} {base : Nat} {ok : Nat → Prop} {x : S41} {cs : List Value} (h : k41.M w base ok x cs) : ∃ v1, cs = [.int .i64 x.f0, v1] ∧ (Kd.int .u64).R 78 w base ok v1 x.f1 := by
  obtain ⟨_, _, rfl, rfl, ⟨v1, rfl, g1⟩⟩ := h
  exact ⟨v1, rfl, g1⟩
theorem k41_mk (w : World) (x : S41) {A1 : Option Addr} {c1 : Nat} (l1 : x.f1.length ≤ c1) (g1 : (Kd.int .u64).C w A1 x.f1.length x.f1) : k41.K w x [.int .i64 x.f0, .slice A1 x.f1.length c1] := ⟨[.int .i64 x.f0], [.slice A1 x.f1.length c1], rfl, rfl, ⟨A1, c1, rfl, l1, g1⟩⟩
theorem k41_mkM (w : World) (base : Nat) (ok : Nat → Prop) (x : S41) {v1 : Value} (g1 : (Kd.int .u64).R 78 w base ok v1 x.f1) : k41.M w base ok x [.int .i64 x.f0, v1] := ⟨[.int .i64 x.f0], [v1], rfl, rfl, ⟨v1, rfl, g1⟩⟩
def rd_T41 (xs : List S41) (i : Int) : S41 := xs.getD i.toNat z41
theorem at_T41 {w : World} {A : Option Addr} {n : Nat} {xs : List S41} (h : Kd.C k41 w A n xs) (i : Int) (h0 : 0 ≤ i) (h1 : i < n) : ∃ ad A1 c1, A = some ad ∧ w.cell? (ad.add (i.toNat * 2)) = some (.int .i64 (rd_T41 xs i).f0) ∧ w.cell? ⟨(ad.add (i.toNat * 2)).block, (ad.add (i.toNat * 2)).off + 1, none⟩ = some (.slice A1 (rd_T41 xs i).f1.length c1) ∧ (rd_T41 xs i).f1.length ≤ c1 ∧ (Kd.int .u64).C w A1 (rd_T41 xs i).f1.length (rd_T41 xs i).f1 := by
  obtain ⟨ad, c, e, _, hK, hc0⟩ := Kd.C_get h z41 i h0 h1
  have hc : ∀ j u, c[j]? = some u → w.cell? (ad.add (i.toNat * 2 + j)) = some u := hc0
  obtain ⟨A1, c1, rfl, l1, g1⟩ := k41_open hK
  exact ⟨ad, A1, c1, e, hc 0 _ rfl, by rw [← add_field _ _ 1 (by omega)]; exact hc 1 _ rfl, l1, g1⟩

/-! #### struct type 43 -/
structure S43 where
  f0 : Int
  f1 : Int
  f2 : S41
def z43 : S43 := ⟨(0 : Int), (0 : Int), z41⟩
def k43 : Kd S43 := Kd.iso (Kd.pair (Kd.int .i64) (Kd.pair (Kd.int .i64) k41)) (fun x : S43 => (x.f0, x.f1, x.f2))
theorem k43_open {w : World} {x : S43} {cs : List Value} (h : k43.K w x cs) : ∃ A3 c3, cs = [.int .i64 x.f0, .int .i64 x.f1, .int .i64 x.f2.f0, .slice A3 x.f2.f1.length c3] ∧ x.f2.f1.length ≤ c3 ∧ (Kd.int .u64).C w A3 x.f2.f1.length x.f2.f1 := by
  obtain ⟨_, _, rfl, rfl, ⟨_, _, rfl, rfl, s2⟩⟩ := h
  obtain ⟨A3, c3, rfl, l3, g3⟩ := k41_open s2
  exact ⟨A3, c3, rfl, l3, g3⟩
theorem k43_openM {w : World} {base : Nat} {ok : Nat → Prop} {x : S43} {cs : List Value} (h : k43.M w base ok x cs) : ∃ v3, cs = [.int .i64 x.f0, .int .i64 x.f1, .int .i64 x.f2.f0, v3] ∧ (Kd.int .u64).R 78 w base ok v3 x.f2.f1 := by
  obtain ⟨_, _, rfl, rfl, ⟨_, _, rfl, rfl, s2⟩⟩ := h
  obtain ⟨v3, rfl, g3⟩ := k41_openM s2
  exact ⟨v3, rfl, g3⟩
theorem k43_mk (w : World) (x : S43) {A3 : Option Addr} {c3 : Nat} (l3 : x.f2.f1.length ≤ c3) (g3 : (Kd.int .u64).C w A3 x.f2.f1.length x.f2.f1) : k43.K w x [.int .i64 x.f0, .int .i64 x.f1, .int .i64 x.f2.f0, .slice A3 x.f2.f1.length c3] := ⟨[.int .i64 x.f0], [.int .i64 x.f1, .int .i64 x.f2.f0, .slice A3 x.f2.f1.length c3], rfl, rfl, ⟨[.int .i64 x.f1], [.int .i64 x.f2.f0, .slice A3 x.f2.f1.length c3], rfl, rfl, (k41_mk w x.f2 l3 g3)⟩⟩
theorem k43_mkM (w : World) (base : Nat) (ok : Nat → Prop) (x : S43) {v3 : Value} (g3 : (Kd.int .u64).R 78 w base ok v3 x.f2.f1) : k43.M w base ok x [.int .i64 x.f0, .int .i64 x.f1, .int .i64 x.f2.f0, v3] := ⟨[.int .i64 x.f0], [.int .i64 x.f1, .int .i64 x.f2.f0, v3], rfl, rfl, ⟨[.int .i64 x.f1], [.int .i64 x.f2.f0, v3], rfl, rfl, (k41_mkM w base ok x.f2 g3)⟩⟩
def rd_T43 (xs : List S43) (i : Int) : S43 := xs.getD i.toNat z43
theorem at_T43 {w : World} {A : Option Addr} {n : Nat} {xs : List S43} (h : Kd.C k43 w A n xs) (i : Int) (h0 : 0 ≤ i) (h1 : i < n) : ∃ ad A3 c3, A = some ad ∧ w.cell? (ad.add (i.toNat * 4)) = some (.int .i64 (rd_T43 xs i).f0) ∧ w.cell? ⟨(ad.add (i.toNat * 4)).block, (ad.add (i.toNat * 4)).off + 1, none⟩ = some (.int .i64 (rd_T43 xs i).f1) ∧ w.cell? ⟨(ad.add (i.toNat * 4)).block, (ad.add (i.toNat * 4)).off + 2, none⟩ = some (.int .i64 (rd_T43 xs i).f2.f0) ∧ w.cell? ⟨(ad.add (i.toNat * 4)).block, (ad.add (i.toNat * 4)).off + 3, none⟩ = some (.slice A3 (rd_T43 xs i).f2.f1.length c3) ∧ (rd_T43 xs i).f2.f1.length ≤ c3 ∧ (Kd.int .u64).C w A3 (rd_T43 xs i).f2.f1.length (rd_T43 xs i).f2.f1 := by
  obtain ⟨ad, c, e, _, hK, hc0⟩ := Kd.C_get h z43 i h0 h1
  have hc : ∀ j u, c[j]? = some u → w.cell? (ad.add (i.toNat * 4 + j)) = some u := hc0
  obtain ⟨A3, c3, rfl, l3, g3⟩ := k43_open hK
  exact ⟨ad, A3, c3, e, hc 0 _ rfl, by rw [← add_field _ _ 1 (by omega)]; exact hc 1 _ rfl, by rw [← add_field _ _ 2 (by omega)]; exact hc 2 _ rfl, by rw [← add_field _ _ 3 (by omega)]; exact hc 3 _ rfl, l3, g3⟩

/-! #### struct type 45 -/
structure S45 where
  f0 : Int
  f1 : Int
  f2 : S43
  f3 : S41
def z45 : S45 := ⟨(0 : Int), (0 : Int), z43, z41⟩
def k45 : Kd S45 := Kd.iso (Kd.pair (Kd.int .i64) (Kd.pair (Kd.int .i64) (Kd.pair k43 k41))) (fun x : S45 => (x.f0, x.f1, x.f2, x.f3))
theorem k45_open {w : World} {x : S45} {cs : List Value} (h : k45.K w x cs) : ∃ A5 c5 A7 c7, cs = [.int .i64 x.f0, .int .i64 x.f1, .int .i64 x.f2.f0, .int .i64 x.f2.f1, .int .i64 x.f2.f2.f0, .slice A5 x.f2.f2.f1.length c5, .int .i64 x.f3.f0, .slice A7 x.f3.f1.length c7] ∧ x.f2.f2.f1.length ≤ c5 ∧ (Kd.int .u64).C w A5 x.f2.f2.f1.length x.f2.f2.f1 ∧ x.f3.f1.length ≤ c7 ∧ (Kd.int .u64).C w A7 x.f3.f1.length x.f3.f1 := by
  obtain ⟨_, _, rfl, rfl, ⟨_, _, rfl, rfl, ⟨_, _, rfl, s2, s6⟩⟩⟩ := h
  obtain ⟨A5, c5, rfl, l5, g5⟩ := k43_open s2
  obtain ⟨A7, c7, rfl, l7, g7⟩ := k41_open s6
  exact ⟨A5, c5, A7, c7, rfl, l5, g5, l7, g7⟩
theorem k45_openM {w : World} {base : Nat} {ok : Nat → Prop} {x : S45} {cs : List Value} (h : k45.M w base ok x cs) : ∃ v5 v7, cs = [.int .i64 x.f0, .int .i64 x.f1, .int .i64 x.f2.f0, .int .i64 x.f2.f1, .int .i64 x.f2.f2.f0, v5, .int .i64 x.f3.f0, v7] ∧ (Kd.int .u64).R 78 w base ok v5 x.f2.f2.f1 ∧ (Kd.int .u64).R 78 w base ok v7 x.f3.f1 := by
  obtain ⟨_, _, rfl, rfl, ⟨_, _, rfl, rfl, ⟨_, _, rfl, s2, s6⟩⟩⟩ := h
  obtain ⟨v5, rfl, g5⟩ := k43_openM s2
  obtain ⟨v7, rfl, g7⟩ := k41_openM s6
  exact ⟨v5, v7, rfl, g5, g7⟩
theorem k45_mk (w : World) (x : S45) {A5 : Option Addr} {c5 : Nat} (l5 : x.f2.f2.f1.length ≤ c5) (g5 : (Kd.int .u64).C w A5 x.f2.f2.f1.length x.f2.f2.f1) {A7 : Option Addr} {c7 : Nat} (l7 : x.f3.f1.length ≤ c7) (g7 : (Kd.int .u64).C w A7 x.f3.f1.length x.f3.f1) : k45.K w x [.int .i64 x.f0, .int .i64 x.f1, .int .i64 x.f2.f0, .int .i64 x.f2.f1, .int .i64 x.f2.f2.f0, .slice A5 x.f2.f2.f1.length c5, .int .i64 x.f3.f0, .slice A7 x.f3.f1.length c7] := ⟨[.int .i64 x.f0], [.int .i64 x.f1, .int .i64 x.f2.f0, .int .i64 x.f2.f1, .int .i64 x.f2.f2.f0, .slice A5 x.f2.f2.f1.length c5, .int .i64 x.f3.f0, .slice A7 x.f3.f1.length c7], rfl, rfl, ⟨[.int .i64 x.f1], [.int .i64 x.f2.f0, .int .i64 x.f2.f1, .int .i64 x.f2.f2.f0, .slice A5 x.f2.f2.f1.length c5, .int .i64 x.f3.f0, .slice A7 x.f3.f1.length c7], rfl, rfl, ⟨[.int .i64 x.f2.f0, .int .i64 x.f2.f1, .int .i64 x.f2.f2.f0, .slice A5 x.f2.f2.f1.length c5], [.int .i64 x.f3.f0, .slice A7 x.f3.f1.length c7], rfl, (k43_mk w x.f2 l5 g5), (k41_mk w x.f3 l7 g7)⟩⟩⟩
theorem k45_mkM (w : World) (base : Nat) (ok : Nat → Prop) (x : S45) {v5 : Value} (g5 : (Kd.int .u64).R 78 w base ok v5 x.f2.f2.f1) {v7 : Value} (g7 : (Kd.int .u64).R 78 w base ok v7 x.f3.f1) : k45.M w base ok x [.int .i64 x.f0, .int .i64 x.f1, .int .i64 x.f2.f0, .int .i64 x.f2.f1, .int .i64 x.f2.f2.f0, v5, .int .i64 x.f3.f0, v7] := ⟨[.int .i64 x.f0], [.int .i64 x.f1, .int .i64 x.f2.f0, .int .i64 x.f2.f1, .int .i64 x.f2.f2.f0, v5, .int .i64 x.f3.f0, v7], rfl, rfl, ⟨[.int .i64 x.f1], [.int .i64 x.f2.f0, .int .i64 x.f2.f1, .int .i64 x.f2.f2.f0, v5, .int .i64 x.f3.f0, v7], rfl, rfl, ⟨[.int .i64 x.f2.f0, .int .i64 x.f2.f1, .int .i64 x.f2.f2.f0, v5], [.int .i64 x.f3.f0, v7], rfl, (k43_mkM w base ok x.f2 g5), (k41_mkM w base ok x.f3 g7)⟩⟩⟩
def rd_T45 (xs : List S45) (i : Int) : S45 := xs.getD i.toNat z45
theorem at_T45 {w : World} {A : Option Addr} {n : Nat} {xs : List S45} (h : Kd.C k45 w A n xs) (i : Int) (h0 : 0 ≤ i) (h1 : i < n) : ∃ ad A5 c5 A7 c7, A = some ad ∧ w.cell? (ad.add (i.toNat * 8)) = some (.int .i64 (rd_T45 xs i).f0) ∧ w.cell? ⟨(ad.add (i.toNat * 8)).block, (ad.add (i.toNat * 8)).off + 1, none⟩ = some (.int .i64 (rd_T45 xs i).f1) ∧ w.cell? ⟨(ad.add (i.toNat * 8)).block, (ad.add (i.toNat * 8)).off + 2, none⟩ = some (.int .i64 (rd_T45 xs i).f2.f0) ∧ w.cell? ⟨(ad.add (i.toNat * 8)).block, (ad.add (i.toNat * 8)).off + 3, none⟩ = some (.int .i64 (rd_T45 xs i).f2.f1) ∧ w.cell? ⟨(ad.add (i.toNat * 8)).block, (ad.add (i.toNat * 8)).off + 4, none⟩ = some (.int .i64 (rd_T45 xs i).f2.f2.f0) ∧ w.cell? ⟨(ad.add (i.toNat * 8)).block, (ad.add (i.toNat * 8)).off + 5, none⟩ = some (.slice A5 (rd_T45 xs i).f2.f2.f1.length c5) ∧ w.cell? ⟨(ad.add (i.toNat * 8)).block, (ad.add (i.toNat * 8)).off + 6, none⟩ = some (.int .i64 (rd_T45 xs i).f3.f0) ∧ w.cell? ⟨(ad.add (i.toNat * 8)).block, (ad.add (i.toNat * 8)).off + 7, none⟩ = some (.slice A7 (rd_T45 xs i).f3.f1.length c7) ∧ (rd_T45 xs i).f2.f2.f1.length ≤ c5 ∧ (Kd.int .u64).C w A5 (rd_T45 xs i).f2.f2.f1.length (rd_T45 xs i).f2.f2.f1 ∧ (rd_T45 xs i).f3.f1.length ≤ c7 ∧ (Kd.int .u64).C w A7 (rd_T45 xs i).f3.f1.length (rd_T45 xs i).f3.f1 := by
  obtain ⟨ad, c, e, _, hK, hc0⟩ := Kd.C_get h z45 i h0 h1
  have hc : ∀ j u, c[j]? = some u → w.cell? (ad.add (i.toNat * 8 + j)) = some u := hc0
  obtain ⟨A5, c5, A7, c7, rfl, l5, g5, l7, g7⟩ := k45_open hK
  exact ⟨ad, A5, c5, A7, c7, e, hc 0 _ rfl, by rw [← add_field _ _ 1 (by omega)]; exact hc 1 _ rfl, by rw [← add_field _ _ 2 (by omega)]; exact hc 2 _ rfl, by rw [← add_field _ _ 3 (by omega)]; exact hc 3 _ rfl, by rw [← add_field _ _ 4 (by omega)]; exact hc 4 _ rfl, by rw [← add_field _ _ 5 (by omega)]; exact hc 5 _ rfl, by rw [← add_field _ _ 6 (by omega)]; exact hc 6 _ rfl, by rw [← add_field _ _ 7 (by omega)]; exact hc 7 _ rfl, l5, g5, l7, g7⟩

def ok41 (x : S41) : Prop := (Fv.OkI .i64) x.f0 ∧ (Fv.OkL (Fv.OkI .u64)) x.f1
theorem opens41 {H : Type} {enc : TypeId × Value → H} {w : World} : Fv.Opens enc Try.prog w k41.K ok41 41 := by
  intro fuel cs y h
  obtain ⟨hl, hf⟩ := Fv.fields_of Try.underlying41 (tr := [(3, 0, 1), (27, 1, 1)]) (m := 2) (by kernel_rfl) (by kernel_rfl) h
  obtain ⟨n0, z0, h0⟩ := hf (3, 0, 1) (by simp)
  obtain ⟨x0, K0, o0⟩ := ((Fv.opens_int Try.underlying3) : Fv.Opens enc Try.prog w (Kd.K (Kd.int .i64)) _ 3) _ _ _ h0
  obtain ⟨n1, z1, h1⟩ := hf (27, 1, 1) (by simp)
  replace h1 : DataW.trod enc Try.prog w 0 (fun _ => true) true n1 27 (cs.drop 1) = some z1 := by rw [← Fv.last_ (o := 1) (s := 1) hl (by omega)]; exact h1
  obtain ⟨x1, K1, o1⟩ := ((Fv.opens_slice (d := (Kd.int .u64)) Try.underlying27 (by kernel_rfl) (Fv.opens_int Try.underlying78)) : Fv.Opens enc Try.prog w (Kd.K (Kd.slice 78 (Kd.int .u64))) _ 27) _ _ _ h1
  exact ⟨⟨x0, x1⟩, ⟨_, _, Fv.cut_ cs 0 1, K0, K1⟩, ⟨o0, o1⟩⟩
def ok43 (x : S43) : Prop := (Fv.OkI .i64) x.f0 ∧ (Fv.OkI .i64) x.f1 ∧ ok41 x.f2
theorem opens43 {H : Type} {enc : TypeId × Value → H} {w : World} : Fv.Opens enc Try.prog w k43.K ok43 43 := by
  intro fuel cs y h
  obtain ⟨hl, hf⟩ := Fv.fields_of Try.underlying43 (tr := [(3, 0, 1), (3, 1, 1), (41, 2, 2)]) (m := 4) (by kernel_rfl) (by kernel_rfl) h
  obtain ⟨n0, z0, h0⟩ := hf (3, 0, 1) (by simp)
  obtain ⟨x0, K0, o0⟩ := ((Fv.opens_int Try.underlying3) : Fv.Opens enc Try.prog w (Kd.K (Kd.int .i64)) _ 3) _ _ _ h0
  obtain ⟨n1, z1, h1⟩ := hf (3, 1, 1) (by simp)
  obtain ⟨x1, K1, o1⟩ := ((Fv.opens_int Try.underlying3) : Fv.Opens enc Try.prog w (Kd.K (Kd.int .i64)) _ 3) _ _ _ h1
  obtain ⟨n2, z2, h2⟩ := hf (41, 2, 2) (by simp)
  replace h2 : DataW.trod enc Try.prog w 0 (fun _ => true) true n2 41 (cs.drop 2) = some z2 := by rw [← Fv.last_ (o := 2) (s := 2) hl (by omega)]; exact h2
  obtain ⟨x2, K2, o2⟩ := (opens41 : Fv.Opens enc Try.prog w (Kd.K k41) _ 41) _ _ _ h2
  exact ⟨⟨x0, x1, x2⟩, ⟨_, _, Fv.cut_ cs 0 1, K0, ⟨_, _, Fv.cut_ cs 1 1, K1, K2⟩⟩, ⟨o0, o1, o2⟩⟩
def ok45 (x : S45) : Prop := (Fv.OkI .i64) x.f0 ∧ (Fv.OkI .i64) x.f1 ∧ ok43 x.f2 ∧ ok41 x.f3
theorem opens45 {H : Type} {enc : TypeId × Value → H} {w : World} : Fv.Opens enc Try.prog w k45.K ok45 45 := by
  intro fuel cs y h
  obtain ⟨hl, hf⟩ := Fv.fields_of Try.underlying45 (tr := [(3, 0, 1), (3, 1, 1), (43, 2, 4), (41, 6, 2)]) (m := 8) (by kernel_rfl) (by kernel_rfl) h
  obtain ⟨n0, z0, h0⟩ := hf (3, 0, 1) (by simp)
  obtain ⟨x0, K0, o0⟩ := ((Fv.opens_int Try.underlying3) : Fv.Opens enc Try.prog w (Kd.K (Kd.int .i64)) _ 3) _ _ _ h0
  obtain ⟨n1, z1, h1⟩ := hf (3, 1, 1) (by simp)
  obtain ⟨x1, K1, o1⟩ := ((Fv.opens_int Try.underlying3) : Fv.Opens enc Try.prog w (Kd.K (Kd.int .i64)) _ 3) _ _ _ h1
  obtain ⟨n2, z2, h2⟩ := hf (43, 2, 4) (by simp)
  obtain ⟨x2, K2, o2⟩ := (opens43 : Fv.Opens enc Try.prog w (Kd.K k43) _ 43) _ _ _ h2
  obtain ⟨n3, z3, h3⟩ := hf (41, 6, 2) (by simp)
  replace h3 : DataW.trod enc Try.prog w 0 (fun _ => true) true n3 41 (cs.drop 6) = some z3 := by rw [← Fv.last_ (o := 6) (s := 2) hl (by omega)]; exact h3
  obtain ⟨x3, K3, o3⟩ := (opens41 : Fv.Opens enc Try.prog w (Kd.K k41) _ 41) _ _ _ h3
  exact ⟨⟨x0, x1, x2, x3⟩, ⟨_, _, Fv.cut_ cs 0 1, K0, ⟨_, _, Fv.cut_ cs 1 1, K1, ⟨_, _, Fv.cut_ cs 2 4, K2, K3⟩⟩⟩, ⟨o0, o1, o2, o3⟩⟩
end Go.Proofs.Ytmohfjfgpeapfaa.QFnExactSparseRank
