/-
  No cell of these rows narrows 'for every input' (looked for: loops, veiled, ifaces, maps, wideKeys, modest, calm, conditions, laid).
  DERIVED. THE GIVEN ROWS OF THIS SEAT. 8 by the template 'for every input the law returns true; each argument reads behind the call as it read before'; 0 by the template 'total and deterministic' (their statements: YtpheodpcppclaaaTotals.lean).
  GIVEN WITH THE SEED: the statements are not yours to turn. If you find one false, say at which input.
  Laid BY PROGRAM, IN A SANDBOX (cutbox-rows.mjs): the forced cells as the released guide's own fill.sh prints them over the translation f06a35479a591fc9… (all of the seat's roots in one cut). By AI agents, Wed Nov 11 2026. No macro, syntax, notation, axiom, sorry.
-/
import Derived.Test.YtpheodpcppclaaaChecked
import GoSem.Claim
import GoSem.ClaimJoined
import GoSem.ClaimMapViews
import Derived.JoinedTies
import Derived.KernelRfl
namespace Go.Proofs.Ytpheodpcppclaaa
/- THE CELL 'sum', in the pinned program and in every row, IS THE sha256 OF THE DUMP (.gsa) THAT YtpheodpcppclaaaProg.lean LOADS. Nothing in Lean hashes anything: it is a label: what it is worth is what the hold of that sum in a sandbox is worth. -/
noncomputable def Try.pinned : Pinned := { name := "ytpheodpcppclaaa", sum := "f06a35479a591fc9277864d73c871d930c65b02407f33d464a8d85e4267d0159", checked := Try.checked }
namespace Rows
def none {H : Type} : Left H := { results := [], args := [] }

/-- 'laws.FnExactMinsOf': WHATEVER THE INPUT: true; the input reads as it did. -/
def fnExactMinsOfSpec : ChangeSpec := { name := "fnExactMinsOf", fn := fun _ => fun
  | [d] => { results := [.lit (.bool true)], args := [d] }
  | _ => none }
def fnExactMinsOfRow : OpenClaim := { program := "ytpheodpcppclaaa", sum := "f06a35479a591fc9277864d73c871d930c65b02407f33d464a8d85e4267d0159", func := "loop.example/g00688/laws.FnExactMinsOf", spec := "fnExactMinsOf", unfollowed := true, recurses := true, apart := false }
def FnExactMinsOfSaid : Prop := fnExactMinsOfRow.holds Try.pinned (OpenSpec.ofChange fnExactMinsOfSpec)

/-- ITS FALSE NEIGHBOUR: 'it returns false'. Refute it at one input. -/
def fnExactMinsOfWrong : ChangeSpec := { name := "fnExactMinsOf", fn := fun _ => fun
  | [d] => { results := [.lit (.bool false)], args := [d] }
  | _ => none }
def FnExactMinsOfWrongFalsely : Prop := fnExactMinsOfRow.holds Try.pinned (OpenSpec.ofChange fnExactMinsOfWrong)

/-- 'laws.FnExactMinsPrev': WHATEVER THE INPUT: true; the input reads as it did. -/
def fnExactMinsPrevSpec : ChangeSpec := { name := "fnExactMinsPrev", fn := fun _ => fun
  | [d1, d2, d3] => { results := [.lit (.bool true)], args := [d1, d2, d3] }
  | _ => none }
def fnExactMinsPrevRow : OpenClaim := { program := "ytpheodpcppclaaa", sum := "f06a35479a591fc9277864d73c871d930c65b02407f33d464a8d85e4267d0159", func := "loop.example/g00688/laws.FnExactMinsPrev", spec := "fnExactMinsPrev", unfollowed := true, recurses := true, apart := false }
def FnExactMinsPrevSaid : Prop := fnExactMinsPrevRow.holds Try.pinned (OpenSpec.ofChange fnExactMinsPrevSpec)

/-- ITS FALSE NEIGHBOUR: 'it returns false'. Refute it at one input. -/
def fnExactMinsPrevWrong : ChangeSpec := { name := "fnExactMinsPrev", fn := fun _ => fun
  | [d1, d2, d3] => { results := [.lit (.bool false)], args := [d1, d2, d3] }
  | _ => none }
def FnExactMinsPrevWrongFalsely : Prop := fnExactMinsPrevRow.holds Try.pinned (OpenSpec.ofChange fnExactMinsPrevWrong)

/-- 'laws.FnExactMinsNext': WHATEVER THE INPUT: true; the input reads as it did. -/
def fnExactMinsNextSpec : ChangeSpec := { name := "fnExactMinsNext", fn := fun _ => fun
  | [d1, d2, d3] => { results := [.lit (.bool true)], args := [d1, d2, d3] }
  | _ => none }
def fnExactMinsNextRow : OpenClaim := { program := "ytpheodpcppclaaa", sum := "f06a35479a591fc9277864d73c871d930c65b02407f33d464a8d85e4267d0159", func := "loop.example/g00688/laws.FnExactMinsNext", spec := "fnExactMinsNext", unfollowed := true, recurses := true, apart := false }
def FnExactMinsNextSaid : Prop := fnExactMinsNextRow.holds Try.pinned (OpenSpec.ofChange fnExactMinsNextSpec)

/-- ITS FALSE NEIGHBOUR: 'it returns false'. Refute it at one input. -/
def fnExactMinsNextWrong : ChangeSpec := { name := "fnExactMinsNext", fn := fun _ => fun
  | [d1, d2, d3] => { results := [.lit (.bool false)], args := [d1, d2, d3] }
  | _ => none }
def FnExactMinsNextWrongFalsely : Prop := fnExactMinsNextRow.holds Try.pinned (OpenSpec.ofChange fnExactMinsNextWrong)

/-- 'laws.FnExactMinsRange': WHATEVER THE INPUT: true; the input reads as it did. -/
def fnExactMinsRangeSpec : ChangeSpec := { name := "fnExactMinsRange", fn := fun _ => fun
  | [d1, d2, d3] => { results := [.lit (.bool true)], args := [d1, d2, d3] }
  | _ => none }
def fnExactMinsRangeRow : OpenClaim := { program := "ytpheodpcppclaaa", sum := "f06a35479a591fc9277864d73c871d930c65b02407f33d464a8d85e4267d0159", func := "loop.example/g00688/laws.FnExactMinsRange", spec := "fnExactMinsRange", unfollowed := true, recurses := true, apart := false }
def FnExactMinsRangeSaid : Prop := fnExactMinsRangeRow.holds Try.pinned (OpenSpec.ofChange fnExactMinsRangeSpec)

/-- ITS FALSE NEIGHBOUR: 'it returns false'. Refute it at one input. -/
def fnExactMinsRangeWrong : ChangeSpec := { name := "fnExactMinsRange", fn := fun _ => fun
  | [d1, d2, d3] => { results := [.lit (.bool false)], args := [d1, d2, d3] }
  | _ => none }
def FnExactMinsRangeWrongFalsely : Prop := fnExactMinsRangeRow.holds Try.pinned (OpenSpec.ofChange fnExactMinsRangeWrong)

/-- 'laws.FnExactMinsList': WHATEVER THE INPUT: true; the input reads as it did. -/
def fnExactMinsListSpec : ChangeSpec := { name := "fnExactMinsList", fn := fun _ => fun
  | [d] => { results := [.lit (.bool true)], args := [d] }
  | _ => none }
def fnExactMinsListRow : OpenClaim := { program := "ytpheodpcppclaaa", sum := "f06a35479a591fc9277864d73c871d930c65b02407f33d464a8d85e4267d0159", func := "loop.example/g00688/laws.FnExactMinsList", spec := "fnExactMinsList", unfollowed := true, recurses := true, apart := false }
def FnExactMinsListSaid : Prop := fnExactMinsListRow.holds Try.pinned (OpenSpec.ofChange fnExactMinsListSpec)

/-- ITS FALSE NEIGHBOUR: 'it returns false'. Refute it at one input. -/
def fnExactMinsListWrong : ChangeSpec := { name := "fnExactMinsList", fn := fun _ => fun
  | [d] => { results := [.lit (.bool false)], args := [d] }
  | _ => none }
def FnExactMinsListWrongFalsely : Prop := fnExactMinsListRow.holds Try.pinned (OpenSpec.ofChange fnExactMinsListWrong)

/-- 'laws.FnExactMinsSet': WHATEVER THE INPUT: true; the input reads as it did. -/
def fnExactMinsSetSpec : ChangeSpec := { name := "fnExactMinsSet", fn := fun _ => fun
  | [d1, d2, d3] => { results := [.lit (.bool true)], args := [d1, d2, d3] }
  | _ => none }
def fnExactMinsSetRow : OpenClaim := { program := "ytpheodpcppclaaa", sum := "f06a35479a591fc9277864d73c871d930c65b02407f33d464a8d85e4267d0159", func := "loop.example/g00688/laws.FnExactMinsSet", spec := "fnExactMinsSet", unfollowed := true, recurses := true, apart := false }
def FnExactMinsSetSaid : Prop := fnExactMinsSetRow.holds Try.pinned (OpenSpec.ofChange fnExactMinsSetSpec)

/-- ITS FALSE NEIGHBOUR: 'it returns false'. Refute it at one input. -/
def fnExactMinsSetWrong : ChangeSpec := { name := "fnExactMinsSet", fn := fun _ => fun
  | [d1, d2, d3] => { results := [.lit (.bool false)], args := [d1, d2, d3] }
  | _ => none }
def FnExactMinsSetWrongFalsely : Prop := fnExactMinsSetRow.holds Try.pinned (OpenSpec.ofChange fnExactMinsSetWrong)

/-- 'laws.FnMinsSet': WHATEVER THE INPUT: true; the input reads as it did. -/
def fnMinsSetSpec : ChangeSpec := { name := "fnMinsSet", fn := fun _ => fun
  | [d] => { results := [.lit (.bool true)], args := [d] }
  | _ => none }
def fnMinsSetRow : OpenClaim := { program := "ytpheodpcppclaaa", sum := "f06a35479a591fc9277864d73c871d930c65b02407f33d464a8d85e4267d0159", func := "loop.example/g00688/laws.FnMinsSet", spec := "fnMinsSet", unfollowed := true, recurses := true, apart := false }
def FnMinsSetSaid : Prop := fnMinsSetRow.holds Try.pinned (OpenSpec.ofChange fnMinsSetSpec)

/-- ITS FALSE NEIGHBOUR: 'it returns false'. Refute it at one input. -/
def fnMinsSetWrong : ChangeSpec := { name := "fnMinsSet", fn := fun _ => fun
  | [d] => { results := [.lit (.bool false)], args := [d] }
  | _ => none }
def FnMinsSetWrongFalsely : Prop := fnMinsSetRow.holds Try.pinned (OpenSpec.ofChange fnMinsSetWrong)

/-- 'laws.FnMins': WHATEVER THE INPUT: true; the input reads as it did. -/
def fnMinsSpec : ChangeSpec := { name := "fnMins", fn := fun _ => fun
  | [d] => { results := [.lit (.bool true)], args := [d] }
  | _ => none }
def fnMinsRow : OpenClaim := { program := "ytpheodpcppclaaa", sum := "f06a35479a591fc9277864d73c871d930c65b02407f33d464a8d85e4267d0159", func := "loop.example/g00688/laws.FnMins", spec := "fnMins", unfollowed := true, recurses := true, apart := false }
def FnMinsSaid : Prop := fnMinsRow.holds Try.pinned (OpenSpec.ofChange fnMinsSpec)

/-- ITS FALSE NEIGHBOUR: 'it returns false'. Refute it at one input. -/
def fnMinsWrong : ChangeSpec := { name := "fnMins", fn := fun _ => fun
  | [d] => { results := [.lit (.bool false)], args := [d] }
  | _ => none }
def FnMinsWrongFalsely : Prop := fnMinsRow.holds Try.pinned (OpenSpec.ofChange fnMinsWrong)

/- THE SECOND FORM. 'bulk': how many values and letters a reading holds, each counted each time it is reached (what is shared counts as often as it is met; a slice's spare places count too). A statement '..UptoSaid' is the law's where the arguments, and the package variables that the reading takes, are together of bulk at most 1048576: NARROWER than '..Said'. Prove '..Said' where nothing that the law and all that it calls make is longer than what came in: it says more and counts as full. Else prove '..UptoSaid'. A law counts once. -/
mutual
def uptoBulk {H : Type} : DataW H → Nat
  | .lit (.string bytes) => bytes.length + 1
  | .lit _ => 1
  | .nil => 1
  | .ptr d => uptoBulk d + 1
  | .slice elems spare => uptoBulkAll elems + uptoBulkAll spare + 1
  | .agg parts => uptoBulkAll parts + 1
  | .iface _ d => uptoBulk d + 1
  | .map entries => uptoBulkEntries entries + 1
  | .held _ => 1
def uptoBulkAll {H : Type} : List (DataW H) → Nat
  | [] => 0
  | d :: r => uptoBulk d + uptoBulkAll r
def uptoBulkEntries {H : Type} : List (Lit × DataW H) → Nat
  | [] => 0
  | x :: r => uptoBulkEntry x + uptoBulkEntries r
def uptoBulkEntry {H : Type} : Lit × DataW H → Nat
  | (.string bytes, d) => bytes.length + uptoBulk d + 1
  | (_, d) => uptoBulk d + 1
 end
def uptoSmall : (H : Type) → List (DataW H) → Bool := fun _ ds => decide (uptoBulkAll ds ≤ 1048576)
def OpenSpec.upto (s : _root_.Go.ChangeSpec) : _root_.Go.OpenSpec := { _root_.Go.OpenSpec.ofChange s with cond := some uptoSmall }

/-- 'laws.FnExactMinsOf', WHERE WHAT IT READS IS OF BULK AT MOST 1048576: true; the input reads as it did. -/
def fnExactMinsOfUptoRow : OpenClaim := { program := "ytpheodpcppclaaa", sum := "f06a35479a591fc9277864d73c871d930c65b02407f33d464a8d85e4267d0159", func := "loop.example/g00688/laws.FnExactMinsOf", spec := "fnExactMinsOf", unfollowed := true, recurses := true, apart := false, narrowed := true }
def FnExactMinsOfUptoSaid : Prop := fnExactMinsOfUptoRow.holds Try.pinned (OpenSpec.upto fnExactMinsOfSpec)

/-- 'laws.FnExactMinsPrev', WHERE WHAT IT READS IS OF BULK AT MOST 1048576: true; the input reads as it did. -/
def fnExactMinsPrevUptoRow : OpenClaim := { program := "ytpheodpcppclaaa", sum := "f06a35479a591fc9277864d73c871d930c65b02407f33d464a8d85e4267d0159", func := "loop.example/g00688/laws.FnExactMinsPrev", spec := "fnExactMinsPrev", unfollowed := true, recurses := true, apart := false, narrowed := true }
def FnExactMinsPrevUptoSaid : Prop := fnExactMinsPrevUptoRow.holds Try.pinned (OpenSpec.upto fnExactMinsPrevSpec)

/-- 'laws.FnExactMinsNext', WHERE WHAT IT READS IS OF BULK AT MOST 1048576: true; the input reads as it did. -/
def fnExactMinsNextUptoRow : OpenClaim := { program := "ytpheodpcppclaaa", sum := "f06a35479a591fc9277864d73c871d930c65b02407f33d464a8d85e4267d0159", func := "loop.example/g00688/laws.FnExactMinsNext", spec := "fnExactMinsNext", unfollowed := true, recurses := true, apart := false, narrowed := true }
def FnExactMinsNextUptoSaid : Prop := fnExactMinsNextUptoRow.holds Try.pinned (OpenSpec.upto fnExactMinsNextSpec)

/-- 'laws.FnExactMinsRange', WHERE WHAT IT READS IS OF BULK AT MOST 1048576: true; the input reads as it did. -/
def fnExactMinsRangeUptoRow : OpenClaim := { program := "ytpheodpcppclaaa", sum := "f06a35479a591fc9277864d73c871d930c65b02407f33d464a8d85e4267d0159", func := "loop.example/g00688/laws.FnExactMinsRange", spec := "fnExactMinsRange", unfollowed := true, recurses := true, apart := false, narrowed := true }
def FnExactMinsRangeUptoSaid : Prop := fnExactMinsRangeUptoRow.holds Try.pinned (OpenSpec.upto fnExactMinsRangeSpec)

/-- 'laws.FnExactMinsList', WHERE WHAT IT READS IS OF BULK AT MOST 1048576: true; the input reads as it did. -/
def fnExactMinsListUptoRow : OpenClaim := { program := "ytpheodpcppclaaa", sum := "f06a35479a591fc9277864d73c871d930c65b02407f33d464a8d85e4267d0159", func := "loop.example/g00688/laws.FnExactMinsList", spec := "fnExactMinsList", unfollowed := true, recurses := true, apart := false, narrowed := true }
def FnExactMinsListUptoSaid : Prop := fnExactMinsListUptoRow.holds Try.pinned (OpenSpec.upto fnExactMinsListSpec)

/-- 'laws.FnExactMinsSet', WHERE WHAT IT READS IS OF BULK AT MOST 1048576: true; the input reads as it did. -/
def fnExactMinsSetUptoRow : OpenClaim := { program := "ytpheodpcppclaaa", sum := "f06a35479a591fc9277864d73c871d930c65b02407f33d464a8d85e4267d0159", func := "loop.example/g00688/laws.FnExactMinsSet", spec := "fnExactMinsSet", unfollowed := true, recurses := true, apart := false, narrowed := true }
def FnExactMinsSetUptoSaid : Prop := fnExactMinsSetUptoRow.holds Try.pinned (OpenSpec.upto fnExactMinsSetSpec)

/-- 'laws.FnMinsSet', WHERE WHAT IT READS IS OF BULK AT MOST 1048576: true; the input reads as it did. -/
def fnMinsSetUptoRow : OpenClaim := { program := "ytpheodpcppclaaa", sum := "f06a35479a591fc9277864d73c871d930c65b02407f33d464a8d85e4267d0159", func := "loop.example/g00688/laws.FnMinsSet", spec := "fnMinsSet", unfollowed := true, recurses := true, apart := false, narrowed := true }
def FnMinsSetUptoSaid : Prop := fnMinsSetUptoRow.holds Try.pinned (OpenSpec.upto fnMinsSetSpec)

/-- 'laws.FnMins', WHERE WHAT IT READS IS OF BULK AT MOST 1048576: true; the input reads as it did. -/
def fnMinsUptoRow : OpenClaim := { program := "ytpheodpcppclaaa", sum := "f06a35479a591fc9277864d73c871d930c65b02407f33d464a8d85e4267d0159", func := "loop.example/g00688/laws.FnMins", spec := "fnMins", unfollowed := true, recurses := true, apart := false, narrowed := true }
def FnMinsUptoSaid : Prop := fnMinsUptoRow.holds Try.pinned (OpenSpec.upto fnMinsSpec)

end Rows
end Go.Proofs.Ytpheodpcppclaaa
