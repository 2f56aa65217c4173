-- A walk, made by walk.py, a program of this session's.
import Derived.Test.YtgjmmegmkdklbaaProg
import Derived.Below
import Derived.Deep.Draws
import Derived.Deep.AppendLies
import Derived.Maps.AppendAt
import Derived.OwnWalk
import Derived.Laws.BytesArg
import Derived.Laws.MakeOwn
import Derived.Laws.OwnMore
import Derived.Deep.OwnRows
import Derived.Tactics
import Derived.Lib.ConvBytes
import Derived.Laws.Slices
import Derived.WalkKit
import Derived.KernelRfl
import Derived.RowKit3
import Derived.Deep.LoopGhost
import Derived.Deep.QuietTactic
import Derived.BigQuiet
import Derived.WideLaws
import Derived.Deep.DeepCutAuto
import Derived.Deep.CutBlock
import Derived.Deep.RegionHeld3
import Derived.Laws.Rows
import Derived.Lib.AppendStr
import Derived.ArgAppend
import Derived.Laws.IdiomCopy
import Derived.OrdersHeld
import Derived.Laws.BitsLemmas
import Derived.RowKit
import Derived.Lib.SliceRun
import Derived.Test.YtgjmmegmkdklbaaOpen
import Derived.Test.YtgjmmegmkdklbaaAreAll
import Derived.Test.YtgjmmegmkdklbaaPreds
import Derived.Test.YtgjmmegmkdklbaaSq
import Derived.Test.YtgjmmegmkdklbaaKopy
import Derived.Test.YtgjmmegmkdklbaaWd
import Derived.Test.YtgjmmegmkdklbaaWWords
import Derived.Test.YtgjmmegmkdklbaaWLast
import Derived.Test.YtgjmmegmkdklbaaWTab
import Derived.Test.YtgjmmegmkdklbaaWQPut
import Derived.Test.YtgjmmegmkdklbaaWApart
import Derived.Test.YtgjmmegmkdklbaaWArr
import Derived.Test.YtgjmmegmkdklbaaWZeros
import Derived.Test.YtgjmmegmkdklbaaWFoot
import Derived.Test.YtgjmmegmkdklbaaWKept
import Derived.Test.YtgjmmegmkdklbaaWShare
import Derived.Test.YtgjmmegmkdklbaaWN
import Derived.Test.YtgjmmegmkdklbaaWRepsOne
import Derived.Test.YtgjmmegmkdklbaaWGuard
import Derived.Test.YtgjmmegmkdklbaaWNEv
import Derived.Test.YtgjmmegmkdklbaaWMore
namespace Go.Proofs.Ytgjmmegmkdklbaa.QFnExactHuffRead
open Go.RowKit Go.Proofs.YtgjmmegmkdklbaaW.PrintWords Go.Proofs.YtgjmmegmkdklbaaW.PrintLast Go.Proofs.YtgjmmegmkdklbaaW.PrintMore
attribute [local go_sem] max2_int min2_int max_two min_two max_three min_three max_four min_four   -- for this text's walks alone
set_option linter.unusedVariables false
set_option linter.unusedSimpArgs false



def errW : Option Int → Value
  | none => .nilIface
  | some c => .iface 0 (.int .i64 c)
theorem errW_none : errW none = .nilIface := rfl
theorem errW_some (c : Int) : errW (some c) = .iface 0 (.int .i64 c) := rfl

theorem info3 : (Try.prog.info? 3).map (fun i => (i.zero, i.size, i.bytes)) = some (some (.int .i64 0), 1, 8) := by kernel_rfl
theorem info82 : (Try.prog.info? 82).map (fun i => (i.zero, i.size, i.bytes)) = some (some (.int .u64 0), 1, 8) := by kernel_rfl
-- the values' own types
def rd_L2 (xs : List (List Int)) (i : Int) : (List Int) := xs.getD i.toNat ([] : List Int)
theorem at_L2 {w : World} {A : Option Addr} {n : Nat} {xs : List (List Int)} (h : Kd.C (Kd.slice 82 (Kd.int .u64)) w A n xs) (i : Int) (h0 : 0 ≤ i) (h1 : i < n) : ∃ ad A0 c0, A = some ad ∧ w.cell? (ad.add i.toNat) = some (.slice A0 (rd_L2 xs i).length c0) ∧ (rd_L2 xs i).length ≤ c0 ∧ (Kd.int .u64).C w A0 (rd_L2 xs i).length (rd_L2 xs i) := by
  obtain ⟨ad, c, e, _, hK, hc0⟩ := Kd.C_get h ([] : List Int) i h0 h1
  have hc : ∀ j u, c[j]? = some u → w.cell? (ad.add (i.toNat * 1 + j)) = some u := hc0
  obtain ⟨A0, c0, rfl, l0, g0⟩ := hK
  exact ⟨ad, A0, c0, e, by have hq := hc 0 _ rfl; rwa [Nat.mul_one, Nat.add_zero] at hq, l0, g0⟩

/-! #### struct type 41 -/
structure S41 where
  f0 : Int
  f1 : (List Int)
def z41 : S41 := ⟨(0 : Int), ([] : List Int)⟩
def k41 : Kd S41 := Kd.iso (Kd.pair (Kd.int .i64) (Kd.slice 82 (Kd.int .u64))) (fun x : S41 => (x.f0, x.f1))
theorem k41_open {w : World} {x : S41} {cs : List Value} (h : k41.K w x cs) : ∃ A1 c1, cs = [.int .i64 x.f0, .slice A1 x.f1.length c1] ∧ x.f1.length ≤ c1 ∧ (Kd.int .u64).C w A1 x.f1.length x.f1 := by
  obtain ⟨_, _, rfl, rfl, ⟨A1, c1, rfl, l1, g1⟩⟩ := h
  exact ⟨A1, c1, rfl, l1, g1⟩
theorem k41_openM {w : World} {base : Nat} {ok : Nat → Prop} {x : S41} {cs : List Value} (h : k41.M w base ok x cs) : ∃ v1, cs = [.int .i64 x.f0, v1] ∧ (Kd.int .u64).R 82 w base ok v1 x.f1 := by
  obtain ⟨_, _, rfl, rfl, ⟨v1, rfl, g1⟩⟩ := h
  exact ⟨v1, rfl, g1⟩
theorem k41_mk (w : World) (x : S41) {A1 : Option Addr} {c1 : Nat} (l1 : x.f1.length ≤ c1) (g1 : (Kd.int .u64).C w A1 x.f1.length x.f1) : k41.K w x [.int .i64 x.f0, .slice A1 x.f1.length c1] := ⟨[.int .i64 x.f0], [.slice A1 x.f1.length c1], rfl, rfl, ⟨A1, c1, rfl, l1, g1⟩⟩
theorem k41_mkM (w : World) (base : Nat) (ok : Nat → Prop) (x : S41) {v1 : Value} (g1 : (Kd.int .u64).R 82 w base ok v1 x.f1) : k41.M w base ok x [.int .i64 x.f0, v1] := ⟨[.int .i64 x.f0], [v1], rfl, rfl, ⟨v1, rfl, g1⟩⟩
def rd_T41 (xs : List S41) (i : Int) : S41 := xs.getD i.toNat z41
theorem at_T41 {w : World} {A : Option Addr} {n : Nat} {xs : List S41} (h : Kd.C k41 w A n xs) (i : Int) (h0 : 0 ≤ i) (h1 : i < n) : ∃ ad A1 c1, A = some ad ∧ w.cell? (ad.add (i.toNat * 2)) = some (.int .i64 (rd_T41 xs i).f0) ∧ w.cell? ⟨(ad.add (i.toNat * 2)).block, (ad.add (i.toNat * 2)).off + 1, none⟩ = some (.slice A1 (rd_T41 xs i).f1.length c1) ∧ (rd_T41 xs i).f1.length ≤ c1 ∧ (Kd.int .u64).C w A1 (rd_T41 xs i).f1.length (rd_T41 xs i).f1 := by
  obtain ⟨ad, c, e, _, hK, hc0⟩ := Kd.C_get h z41 i h0 h1
  have hc : ∀ j u, c[j]? = some u → w.cell? (ad.add (i.toNat * 2 + j)) = some u := hc0
  obtain ⟨A1, c1, rfl, l1, g1⟩ := k41_open hK
  exact ⟨ad, A1, c1, e, hc 0 _ rfl, by rw [← add_field _ _ 1 (by omega)]; exact hc 1 _ rfl, l1, g1⟩

def ok41 (x : S41) : Prop := (Fv.OkI .i64) x.f0 ∧ (Fv.OkL (Fv.OkI .u64)) x.f1
theorem opens41 {H : Type} {enc : TypeId × Value → H} {w : World} : Fv.Opens enc Try.prog w k41.K ok41 41 := by
  intro fuel cs y h
  obtain ⟨hl, hf⟩ := Fv.fields_of Try.underlying41 (tr := [(3, 0, 1), (28, 1, 1)]) (m := 2) (by kernel_rfl) (by kernel_rfl) h
  obtain ⟨n0, z0, h0⟩ := hf (3, 0, 1) (by simp)
  obtain ⟨x0, K0, o0⟩ := ((Fv.opens_int Try.underlying3) : Fv.Opens enc Try.prog w (Kd.K (Kd.int .i64)) _ 3) _ _ _ h0
  obtain ⟨n1, z1, h1⟩ := hf (28, 1, 1) (by simp)
  replace h1 : DataW.trod enc Try.prog w 0 (fun _ => true) true n1 28 (cs.drop 1) = some z1 := by rw [← Fv.last_ (o := 1) (s := 1) hl (by omega)]; exact h1
  obtain ⟨x1, K1, o1⟩ := ((Fv.opens_slice (d := (Kd.int .u64)) Try.underlying28 (by kernel_rfl) (Fv.opens_int Try.underlying82)) : Fv.Opens enc Try.prog w (Kd.K (Kd.slice 82 (Kd.int .u64))) _ 28) _ _ _ h1
  exact ⟨⟨x0, x1⟩, ⟨_, _, Fv.cut_ cs 0 1, K0, K1⟩, ⟨o0, o1⟩⟩
end Go.Proofs.Ytgjmmegmkdklbaa.QFnExactHuffRead
