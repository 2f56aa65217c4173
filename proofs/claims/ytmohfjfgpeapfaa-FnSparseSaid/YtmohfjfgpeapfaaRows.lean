/-
  No cell of these rows narrows 'for every input' (looked for: loops, veiled, ifaces, maps, wideKeys, modest, calm, conditions, laid).
  DERIVED. THE GIVEN ROWS OF THIS SEAT. 4 by the template 'for every input the law returns true; each argument reads behind the call as it read before'; 0 by the template 'total and deterministic' (their statements: YtmohfjfgpeapfaaTotals.lean).
  GIVEN WITH THE SEED: the statements are not yours to turn. If you find one false, say at which input.
  Laid BY PROGRAM, IN A SANDBOX (cutbox-rows.mjs): the forced cells as the released guide's own fill.sh prints them over the translation 385f157e3458558e… (all of the seat's roots in one cut). By AI agents, Wed Nov 11 2026. No macro, syntax, notation, axiom, sorry.
-/
import Derived.Test.YtmohfjfgpeapfaaChecked
import GoSem.Claim
import GoSem.ClaimJoined
import GoSem.ClaimMapViews
import Derived.JoinedTies
import Derived.KernelRfl
namespace Go.Proofs.Ytmohfjfgpeapfaa
/- THE CELL 'sum', in the pinned program and in every row, IS THE sha256 OF THE DUMP (.gsa) THAT YtmohfjfgpeapfaaProg.lean LOADS. Nothing in Lean hashes anything: it is a label: what it is worth is what the hold of that sum in a sandbox is worth. -/
noncomputable def Try.pinned : Pinned := { name := "ytmohfjfgpeapfaa", sum := "385f157e3458558ed36f87e2e57e408946dc0614b1874b5a2bdf11334e4ca4df", checked := Try.checked }
namespace Rows
def none {H : Type} : Left H := { results := [], args := [] }

/-- 'laws.FnSparse': WHATEVER THE INPUT: true; the input reads as it did. -/
def fnSparseSpec : ChangeSpec := { name := "fnSparse", fn := fun _ => fun
  | [d] => { results := [.lit (.bool true)], args := [d] }
  | _ => none }
def fnSparseRow : OpenClaim := { program := "ytmohfjfgpeapfaa", sum := "385f157e3458558ed36f87e2e57e408946dc0614b1874b5a2bdf11334e4ca4df", func := "loop.example/g00688/laws.FnSparse", spec := "fnSparse", unfollowed := true, recurses := true, apart := false }
def FnSparseSaid : Prop := fnSparseRow.holds Try.pinned (OpenSpec.ofChange fnSparseSpec)

/-- ITS FALSE NEIGHBOUR: 'it returns false'. Refute it at one input. -/
def fnSparseWrong : ChangeSpec := { name := "fnSparse", fn := fun _ => fun
  | [d] => { results := [.lit (.bool false)], args := [d] }
  | _ => none }
def FnSparseWrongFalsely : Prop := fnSparseRow.holds Try.pinned (OpenSpec.ofChange fnSparseWrong)

/-- 'laws.FnExactSparseAt': WHATEVER THE INPUT: true; the input reads as it did. -/
def fnExactSparseAtSpec : ChangeSpec := { name := "fnExactSparseAt", fn := fun _ => fun
  | [d1, d2] => { results := [.lit (.bool true)], args := [d1, d2] }
  | _ => none }
def fnExactSparseAtRow : OpenClaim := { program := "ytmohfjfgpeapfaa", sum := "385f157e3458558ed36f87e2e57e408946dc0614b1874b5a2bdf11334e4ca4df", func := "loop.example/g00688/laws.FnExactSparseAt", spec := "fnExactSparseAt", unfollowed := true, recurses := true, apart := false }
def FnExactSparseAtSaid : Prop := fnExactSparseAtRow.holds Try.pinned (OpenSpec.ofChange fnExactSparseAtSpec)

/-- ITS FALSE NEIGHBOUR: 'it returns false'. Refute it at one input. -/
def fnExactSparseAtWrong : ChangeSpec := { name := "fnExactSparseAt", fn := fun _ => fun
  | [d1, d2] => { results := [.lit (.bool false)], args := [d1, d2] }
  | _ => none }
def FnExactSparseAtWrongFalsely : Prop := fnExactSparseAtRow.holds Try.pinned (OpenSpec.ofChange fnExactSparseAtWrong)

/-- 'laws.FnExactSparseHas': WHATEVER THE INPUT: true; the input reads as it did. -/
def fnExactSparseHasSpec : ChangeSpec := { name := "fnExactSparseHas", fn := fun _ => fun
  | [d1, d2] => { results := [.lit (.bool true)], args := [d1, d2] }
  | _ => none }
def fnExactSparseHasRow : OpenClaim := { program := "ytmohfjfgpeapfaa", sum := "385f157e3458558ed36f87e2e57e408946dc0614b1874b5a2bdf11334e4ca4df", func := "loop.example/g00688/laws.FnExactSparseHas", spec := "fnExactSparseHas", unfollowed := true, recurses := true, apart := false }
def FnExactSparseHasSaid : Prop := fnExactSparseHasRow.holds Try.pinned (OpenSpec.ofChange fnExactSparseHasSpec)

/-- ITS FALSE NEIGHBOUR: 'it returns false'. Refute it at one input. -/
def fnExactSparseHasWrong : ChangeSpec := { name := "fnExactSparseHas", fn := fun _ => fun
  | [d1, d2] => { results := [.lit (.bool false)], args := [d1, d2] }
  | _ => none }
def FnExactSparseHasWrongFalsely : Prop := fnExactSparseHasRow.holds Try.pinned (OpenSpec.ofChange fnExactSparseHasWrong)

/-- 'laws.FnExactSparseRank': WHATEVER THE INPUT: true; the input reads as it did. -/
def fnExactSparseRankSpec : ChangeSpec := { name := "fnExactSparseRank", fn := fun _ => fun
  | [d1, d2] => { results := [.lit (.bool true)], args := [d1, d2] }
  | _ => none }
def fnExactSparseRankRow : OpenClaim := { program := "ytmohfjfgpeapfaa", sum := "385f157e3458558ed36f87e2e57e408946dc0614b1874b5a2bdf11334e4ca4df", func := "loop.example/g00688/laws.FnExactSparseRank", spec := "fnExactSparseRank", unfollowed := true, recurses := true, apart := false }
def FnExactSparseRankSaid : Prop := fnExactSparseRankRow.holds Try.pinned (OpenSpec.ofChange fnExactSparseRankSpec)

/-- ITS FALSE NEIGHBOUR: 'it returns false'. Refute it at one input. -/
def fnExactSparseRankWrong : ChangeSpec := { name := "fnExactSparseRank", fn := fun _ => fun
  | [d1, d2] => { results := [.lit (.bool false)], args := [d1, d2] }
  | _ => none }
def FnExactSparseRankWrongFalsely : Prop := fnExactSparseRankRow.holds Try.pinned (OpenSpec.ofChange fnExactSparseRankWrong)

/- THE SECOND FORM. 'bulk': how many values and letters a reading holds, each counted each time it is reached (what is shared counts as often as it is met; a slice's spare places count too). A statement '..UptoSaid' is the law's where the arguments, and the package variables that the reading takes, are together of bulk at most 1048576: NARROWER than '..Said'. Prove '..Said' where nothing that the law and all that it calls make is longer than what came in: it says more and counts as full. Else prove '..UptoSaid'. A law counts once. -/
mutual
def uptoBulk {H : Type} : DataW H → Nat
  | .lit (.string bytes) => bytes.length + 1
  | .lit _ => 1
  | .nil => 1
  | .ptr d => uptoBulk d + 1
  | .slice elems spare => uptoBulkAll elems + uptoBulkAll spare + 1
  | .agg parts => uptoBulkAll parts + 1
  | .iface _ d => uptoBulk d + 1
  | .map entries => uptoBulkEntries entries + 1
  | .held _ => 1
def uptoBulkAll {H : Type} : List (DataW H) → Nat
  | [] => 0
  | d :: r => uptoBulk d + uptoBulkAll r
def uptoBulkEntries {H : Type} : List (Lit × DataW H) → Nat
  | [] => 0
  | x :: r => uptoBulkEntry x + uptoBulkEntries r
def uptoBulkEntry {H : Type} : Lit × DataW H → Nat
  | (.string bytes, d) => bytes.length + uptoBulk d + 1
  | (_, d) => uptoBulk d + 1
 end
def uptoSmall : (H : Type) → List (DataW H) → Bool := fun _ ds => decide (uptoBulkAll ds ≤ 1048576)
def OpenSpec.upto (s : _root_.Go.ChangeSpec) : _root_.Go.OpenSpec := { _root_.Go.OpenSpec.ofChange s with cond := some uptoSmall }

/-- 'laws.FnSparse', WHERE WHAT IT READS IS OF BULK AT MOST 1048576: true; the input reads as it did. -/
def fnSparseUptoRow : OpenClaim := { program := "ytmohfjfgpeapfaa", sum := "385f157e3458558ed36f87e2e57e408946dc0614b1874b5a2bdf11334e4ca4df", func := "loop.example/g00688/laws.FnSparse", spec := "fnSparse", unfollowed := true, recurses := true, apart := false, narrowed := true }
def FnSparseUptoSaid : Prop := fnSparseUptoRow.holds Try.pinned (OpenSpec.upto fnSparseSpec)

/-- 'laws.FnExactSparseAt', WHERE WHAT IT READS IS OF BULK AT MOST 1048576: true; the input reads as it did. -/
def fnExactSparseAtUptoRow : OpenClaim := { program := "ytmohfjfgpeapfaa", sum := "385f157e3458558ed36f87e2e57e408946dc0614b1874b5a2bdf11334e4ca4df", func := "loop.example/g00688/laws.FnExactSparseAt", spec := "fnExactSparseAt", unfollowed := true, recurses := true, apart := false, narrowed := true }
def FnExactSparseAtUptoSaid : Prop := fnExactSparseAtUptoRow.holds Try.pinned (OpenSpec.upto fnExactSparseAtSpec)

/-- 'laws.FnExactSparseHas', WHERE WHAT IT READS IS OF BULK AT MOST 1048576: true; the input reads as it did. -/
def fnExactSparseHasUptoRow : OpenClaim := { program := "ytmohfjfgpeapfaa", sum := "385f157e3458558ed36f87e2e57e408946dc0614b1874b5a2bdf11334e4ca4df", func := "loop.example/g00688/laws.FnExactSparseHas", spec := "fnExactSparseHas", unfollowed := true, recurses := true, apart := false, narrowed := true }
def FnExactSparseHasUptoSaid : Prop := fnExactSparseHasUptoRow.holds Try.pinned (OpenSpec.upto fnExactSparseHasSpec)

/-- 'laws.FnExactSparseRank', WHERE WHAT IT READS IS OF BULK AT MOST 1048576: true; the input reads as it did. -/
def fnExactSparseRankUptoRow : OpenClaim := { program := "ytmohfjfgpeapfaa", sum := "385f157e3458558ed36f87e2e57e408946dc0614b1874b5a2bdf11334e4ca4df", func := "loop.example/g00688/laws.FnExactSparseRank", spec := "fnExactSparseRank", unfollowed := true, recurses := true, apart := false, narrowed := true }
def FnExactSparseRankUptoSaid : Prop := fnExactSparseRankUptoRow.holds Try.pinned (OpenSpec.upto fnExactSparseRankSpec)

end Rows
end Go.Proofs.Ytmohfjfgpeapfaa
