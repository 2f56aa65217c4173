/-
  No cell of these rows narrows 'for every input' (looked for: loops, veiled, ifaces, maps, wideKeys, modest, calm, conditions, laid).
  DERIVED. THE GIVEN ROWS OF THIS SEAT. 6 by the template 'for every input the law returns true; each argument reads behind the call as it read before'; 0 by the template 'total and deterministic' (their statements: YtlnmkgeoiinjfaaTotals.lean).
  GIVEN WITH THE SEED: the statements are not yours to turn. If you find one false, say at which input.
  Laid BY PROGRAM, IN A SANDBOX (cutbox-rows.mjs): the forced cells as the released guide's own fill.sh prints them over the translation 0a78c215cd34484b… (all of the seat's roots in one cut). By AI agents, Wed Nov 11 2026. No macro, syntax, notation, axiom, sorry.
-/
import Derived.Test.YtlnmkgeoiinjfaaChecked
import GoSem.Claim
import GoSem.ClaimJoined
import GoSem.ClaimMapViews
import Derived.JoinedTies
import Derived.KernelRfl
namespace Go.Proofs.Ytlnmkgeoiinjfaa
/- THE CELL 'sum', in the pinned program and in every row, IS THE sha256 OF THE DUMP (.gsa) THAT YtlnmkgeoiinjfaaProg.lean LOADS. Nothing in Lean hashes anything: it is a label: what it is worth is what the hold of that sum in a sandbox is worth. -/
noncomputable def Try.pinned : Pinned := { name := "ytlnmkgeoiinjfaa", sum := "0a78c215cd34484b97a341dad69b0abf2da41e83d288f159ce90e91bd36e5133", checked := Try.checked }
namespace Rows
def none {H : Type} : Left H := { results := [], args := [] }

/-- 'laws.FnExactCommonLen': WHATEVER THE INPUT: true; the input reads as it did. -/
def fnExactCommonLenSpec : ChangeSpec := { name := "fnExactCommonLen", fn := fun _ => fun
  | [d1, d2] => { results := [.lit (.bool true)], args := [d1, d2] }
  | _ => none }
def fnExactCommonLenRow : OpenClaim := { program := "ytlnmkgeoiinjfaa", sum := "0a78c215cd34484b97a341dad69b0abf2da41e83d288f159ce90e91bd36e5133", func := "loop.example/g00688/laws.FnExactCommonLen", spec := "fnExactCommonLen", apart := false }
def FnExactCommonLenSaid : Prop := fnExactCommonLenRow.holds Try.pinned (OpenSpec.ofChange fnExactCommonLenSpec)

/-- ITS FALSE NEIGHBOUR: 'it returns false'. Refute it at one input. -/
def fnExactCommonLenWrong : ChangeSpec := { name := "fnExactCommonLen", fn := fun _ => fun
  | [d1, d2] => { results := [.lit (.bool false)], args := [d1, d2] }
  | _ => none }
def FnExactCommonLenWrongFalsely : Prop := fnExactCommonLenRow.holds Try.pinned (OpenSpec.ofChange fnExactCommonLenWrong)

/-- 'laws.FnExactCommonOk': WHATEVER THE INPUT: true; the input reads as it did. -/
def fnExactCommonOkSpec : ChangeSpec := { name := "fnExactCommonOk", fn := fun _ => fun
  | [d1, d2, d3] => { results := [.lit (.bool true)], args := [d1, d2, d3] }
  | _ => none }
def fnExactCommonOkRow : OpenClaim := { program := "ytlnmkgeoiinjfaa", sum := "0a78c215cd34484b97a341dad69b0abf2da41e83d288f159ce90e91bd36e5133", func := "loop.example/g00688/laws.FnExactCommonOk", spec := "fnExactCommonOk", apart := false }
def FnExactCommonOkSaid : Prop := fnExactCommonOkRow.holds Try.pinned (OpenSpec.ofChange fnExactCommonOkSpec)

/-- ITS FALSE NEIGHBOUR: 'it returns false'. Refute it at one input. -/
def fnExactCommonOkWrong : ChangeSpec := { name := "fnExactCommonOk", fn := fun _ => fun
  | [d1, d2, d3] => { results := [.lit (.bool false)], args := [d1, d2, d3] }
  | _ => none }
def FnExactCommonOkWrongFalsely : Prop := fnExactCommonOkRow.holds Try.pinned (OpenSpec.ofChange fnExactCommonOkWrong)

/-- 'laws.FnExactPartsOk': WHATEVER THE INPUT: true; the input reads as it did. -/
def fnExactPartsOkSpec : ChangeSpec := { name := "fnExactPartsOk", fn := fun _ => fun
  | [d1, d2, d3] => { results := [.lit (.bool true)], args := [d1, d2, d3] }
  | _ => none }
def fnExactPartsOkRow : OpenClaim := { program := "ytlnmkgeoiinjfaa", sum := "0a78c215cd34484b97a341dad69b0abf2da41e83d288f159ce90e91bd36e5133", func := "loop.example/g00688/laws.FnExactPartsOk", spec := "fnExactPartsOk", apart := false }
def FnExactPartsOkSaid : Prop := fnExactPartsOkRow.holds Try.pinned (OpenSpec.ofChange fnExactPartsOkSpec)

/-- ITS FALSE NEIGHBOUR: 'it returns false'. Refute it at one input. -/
def fnExactPartsOkWrong : ChangeSpec := { name := "fnExactPartsOk", fn := fun _ => fun
  | [d1, d2, d3] => { results := [.lit (.bool false)], args := [d1, d2, d3] }
  | _ => none }
def FnExactPartsOkWrongFalsely : Prop := fnExactPartsOkRow.holds Try.pinned (OpenSpec.ofChange fnExactPartsOkWrong)

/-- 'laws.FnExactCommonOf': WHATEVER THE INPUT: true; the input reads as it did. -/
def fnExactCommonOfSpec : ChangeSpec := { name := "fnExactCommonOf", fn := fun _ => fun
  | [d1, d2] => { results := [.lit (.bool true)], args := [d1, d2] }
  | _ => none }
def fnExactCommonOfRow : OpenClaim := { program := "ytlnmkgeoiinjfaa", sum := "0a78c215cd34484b97a341dad69b0abf2da41e83d288f159ce90e91bd36e5133", func := "loop.example/g00688/laws.FnExactCommonOf", spec := "fnExactCommonOf", apart := false }
def FnExactCommonOfSaid : Prop := fnExactCommonOfRow.holds Try.pinned (OpenSpec.ofChange fnExactCommonOfSpec)

/-- ITS FALSE NEIGHBOUR: 'it returns false'. Refute it at one input. -/
def fnExactCommonOfWrong : ChangeSpec := { name := "fnExactCommonOf", fn := fun _ => fun
  | [d1, d2] => { results := [.lit (.bool false)], args := [d1, d2] }
  | _ => none }
def FnExactCommonOfWrongFalsely : Prop := fnExactCommonOfRow.holds Try.pinned (OpenSpec.ofChange fnExactCommonOfWrong)

/-- 'laws.FnExactCommonWithin': WHATEVER THE INPUT: true; the input reads as it did. -/
def fnExactCommonWithinSpec : ChangeSpec := { name := "fnExactCommonWithin", fn := fun _ => fun
  | [d1, d2, d3] => { results := [.lit (.bool true)], args := [d1, d2, d3] }
  | _ => none }
def fnExactCommonWithinRow : OpenClaim := { program := "ytlnmkgeoiinjfaa", sum := "0a78c215cd34484b97a341dad69b0abf2da41e83d288f159ce90e91bd36e5133", func := "loop.example/g00688/laws.FnExactCommonWithin", spec := "fnExactCommonWithin", apart := false }
def FnExactCommonWithinSaid : Prop := fnExactCommonWithinRow.holds Try.pinned (OpenSpec.ofChange fnExactCommonWithinSpec)

/-- ITS FALSE NEIGHBOUR: 'it returns false'. Refute it at one input. -/
def fnExactCommonWithinWrong : ChangeSpec := { name := "fnExactCommonWithin", fn := fun _ => fun
  | [d1, d2, d3] => { results := [.lit (.bool false)], args := [d1, d2, d3] }
  | _ => none }
def FnExactCommonWithinWrongFalsely : Prop := fnExactCommonWithinRow.holds Try.pinned (OpenSpec.ofChange fnExactCommonWithinWrong)

/-- 'laws.FnCommon': WHATEVER THE INPUT: true; the input reads as it did. -/
def fnCommonSpec : ChangeSpec := { name := "fnCommon", fn := fun _ => fun
  | [d] => { results := [.lit (.bool true)], args := [d] }
  | _ => none }
def fnCommonRow : OpenClaim := { program := "ytlnmkgeoiinjfaa", sum := "0a78c215cd34484b97a341dad69b0abf2da41e83d288f159ce90e91bd36e5133", func := "loop.example/g00688/laws.FnCommon", spec := "fnCommon", apart := false }
def FnCommonSaid : Prop := fnCommonRow.holds Try.pinned (OpenSpec.ofChange fnCommonSpec)

/-- ITS FALSE NEIGHBOUR: 'it returns false'. Refute it at one input. -/
def fnCommonWrong : ChangeSpec := { name := "fnCommon", fn := fun _ => fun
  | [d] => { results := [.lit (.bool false)], args := [d] }
  | _ => none }
def FnCommonWrongFalsely : Prop := fnCommonRow.holds Try.pinned (OpenSpec.ofChange fnCommonWrong)

/- THE SECOND FORM. 'bulk': how many values and letters a reading holds, each counted each time it is reached (what is shared counts as often as it is met; a slice's spare places count too). A statement '..UptoSaid' is the law's where the arguments, and the package variables that the reading takes, are together of bulk at most 1048576: NARROWER than '..Said'. Prove '..Said' where nothing that the law and all that it calls make is longer than what came in: it says more and counts as full. Else prove '..UptoSaid'. A law counts once. -/
mutual
def uptoBulk {H : Type} : DataW H → Nat
  | .lit (.string bytes) => bytes.length + 1
  | .lit _ => 1
  | .nil => 1
  | .ptr d => uptoBulk d + 1
  | .slice elems spare => uptoBulkAll elems + uptoBulkAll spare + 1
  | .agg parts => uptoBulkAll parts + 1
  | .iface _ d => uptoBulk d + 1
  | .map entries => uptoBulkEntries entries + 1
  | .held _ => 1
def uptoBulkAll {H : Type} : List (DataW H) → Nat
  | [] => 0
  | d :: r => uptoBulk d + uptoBulkAll r
def uptoBulkEntries {H : Type} : List (Lit × DataW H) → Nat
  | [] => 0
  | x :: r => uptoBulkEntry x + uptoBulkEntries r
def uptoBulkEntry {H : Type} : Lit × DataW H → Nat
  | (.string bytes, d) => bytes.length + uptoBulk d + 1
  | (_, d) => uptoBulk d + 1
 end
def uptoSmall : (H : Type) → List (DataW H) → Bool := fun _ ds => decide (uptoBulkAll ds ≤ 1048576)
def OpenSpec.upto (s : _root_.Go.ChangeSpec) : _root_.Go.OpenSpec := { _root_.Go.OpenSpec.ofChange s with cond := some uptoSmall }

/-- 'laws.FnExactCommonLen', WHERE WHAT IT READS IS OF BULK AT MOST 1048576: true; the input reads as it did. -/
def fnExactCommonLenUptoRow : OpenClaim := { program := "ytlnmkgeoiinjfaa", sum := "0a78c215cd34484b97a341dad69b0abf2da41e83d288f159ce90e91bd36e5133", func := "loop.example/g00688/laws.FnExactCommonLen", spec := "fnExactCommonLen", apart := false, narrowed := true }
def FnExactCommonLenUptoSaid : Prop := fnExactCommonLenUptoRow.holds Try.pinned (OpenSpec.upto fnExactCommonLenSpec)

/-- 'laws.FnExactCommonOk', WHERE WHAT IT READS IS OF BULK AT MOST 1048576: true; the input reads as it did. -/
def fnExactCommonOkUptoRow : OpenClaim := { program := "ytlnmkgeoiinjfaa", sum := "0a78c215cd34484b97a341dad69b0abf2da41e83d288f159ce90e91bd36e5133", func := "loop.example/g00688/laws.FnExactCommonOk", spec := "fnExactCommonOk", apart := false, narrowed := true }
def FnExactCommonOkUptoSaid : Prop := fnExactCommonOkUptoRow.holds Try.pinned (OpenSpec.upto fnExactCommonOkSpec)

/-- 'laws.FnExactPartsOk', WHERE WHAT IT READS IS OF BULK AT MOST 1048576: true; the input reads as it did. -/
def fnExactPartsOkUptoRow : OpenClaim := { program := "ytlnmkgeoiinjfaa", sum := "0a78c215cd34484b97a341dad69b0abf2da41e83d288f159ce90e91bd36e5133", func := "loop.example/g00688/laws.FnExactPartsOk", spec := "fnExactPartsOk", apart := false, narrowed := true }
def FnExactPartsOkUptoSaid : Prop := fnExactPartsOkUptoRow.holds Try.pinned (OpenSpec.upto fnExactPartsOkSpec)

/-- 'laws.FnExactCommonOf', WHERE WHAT IT READS IS OF BULK AT MOST 1048576: true; the input reads as it did. -/
def fnExactCommonOfUptoRow : OpenClaim := { program := "ytlnmkgeoiinjfaa", sum := "0a78c215cd34484b97a341dad69b0abf2da41e83d288f159ce90e91bd36e5133", func := "loop.example/g00688/laws.FnExactCommonOf", spec := "fnExactCommonOf", apart := false, narrowed := true }
def FnExactCommonOfUptoSaid : Prop := fnExactCommonOfUptoRow.holds Try.pinned (OpenSpec.upto fnExactCommonOfSpec)

/-- 'laws.FnExactCommonWithin', WHERE WHAT IT READS IS OF BULK AT MOST 1048576: true; the input reads as it did. -/
def fnExactCommonWithinUptoRow : OpenClaim := { program := "ytlnmkgeoiinjfaa", sum := "0a78c215cd34484b97a341dad69b0abf2da41e83d288f159ce90e91bd36e5133", func := "loop.example/g00688/laws.FnExactCommonWithin", spec := "fnExactCommonWithin", apart := false, narrowed := true }
def FnExactCommonWithinUptoSaid : Prop := fnExactCommonWithinUptoRow.holds Try.pinned (OpenSpec.upto fnExactCommonWithinSpec)

/-- 'laws.FnCommon', WHERE WHAT IT READS IS OF BULK AT MOST 1048576: true; the input reads as it did. -/
def fnCommonUptoRow : OpenClaim := { program := "ytlnmkgeoiinjfaa", sum := "0a78c215cd34484b97a341dad69b0abf2da41e83d288f159ce90e91bd36e5133", func := "loop.example/g00688/laws.FnCommon", spec := "fnCommon", apart := false, narrowed := true }
def FnCommonUptoSaid : Prop := fnCommonUptoRow.holds Try.pinned (OpenSpec.upto fnCommonSpec)

end Rows
end Go.Proofs.Ytlnmkgeoiinjfaa
