/-
  No cell of these rows narrows 'for every input' (looked for: loops, veiled, ifaces, maps, wideKeys, modest, calm, conditions, laid).
  DERIVED. THE GIVEN ROWS OF THIS SEAT. 5 by the template 'for every input the law returns true; each argument reads behind the call as it read before'; 0 by the template 'total and deterministic' (their statements: YtgjmmegmkdklbaaTotals.lean).
  GIVEN WITH THE SEED: the statements are not yours to turn. If you find one false, say at which input.
  Laid BY PROGRAM, IN A SANDBOX (cutbox-rows.mjs): the forced cells as the released guide's own fill.sh prints them over the translation 679821e23d4931a5… (all of the seat's roots in one cut). By AI agents, Wed Nov 11 2026. No macro, syntax, notation, axiom, sorry.
-/
import Derived.Test.YtgjmmegmkdklbaaChecked
import GoSem.Claim
import GoSem.ClaimJoined
import GoSem.ClaimMapViews
import Derived.JoinedTies
import Derived.KernelRfl
namespace Go.Proofs.Ytgjmmegmkdklbaa
/- THE CELL 'sum', in the pinned program and in every row, IS THE sha256 OF THE DUMP (.gsa) THAT YtgjmmegmkdklbaaProg.lean LOADS. Nothing in Lean hashes anything: it is a label: what it is worth is what the hold of that sum in a sandbox is worth. -/
noncomputable def Try.pinned : Pinned := { name := "ytgjmmegmkdklbaa", sum := "679821e23d4931a5c7a09801ab53976555edea5a55442789e658d282c8f48f76", checked := Try.checked }
namespace Rows
def none {H : Type} : Left H := { results := [], args := [] }

/-- 'laws.FnPrefix': WHATEVER THE INPUT: true; the input reads as it did. -/
def fnPrefixSpec : ChangeSpec := { name := "fnPrefix", fn := fun _ => fun
  | [d] => { results := [.lit (.bool true)], args := [d] }
  | _ => none }
def fnPrefixRow : OpenClaim := { program := "ytgjmmegmkdklbaa", sum := "679821e23d4931a5c7a09801ab53976555edea5a55442789e658d282c8f48f76", func := "loop.example/g00688/laws.FnPrefix", spec := "fnPrefix", unfollowed := true, recurses := true, plainKeys := false, apart := false }
def FnPrefixSaid : Prop := fnPrefixRow.holds Try.pinned (OpenSpec.ofChange fnPrefixSpec)

/-- ITS FALSE NEIGHBOUR: 'it returns false'. Refute it at one input. -/
def fnPrefixWrong : ChangeSpec := { name := "fnPrefix", fn := fun _ => fun
  | [d] => { results := [.lit (.bool false)], args := [d] }
  | _ => none }
def FnPrefixWrongFalsely : Prop := fnPrefixRow.holds Try.pinned (OpenSpec.ofChange fnPrefixWrong)

/-- 'laws.FnExactHuffWrite': WHATEVER THE INPUT: true; the input reads as it did. -/
def fnExactHuffWriteSpec : ChangeSpec := { name := "fnExactHuffWrite", fn := fun _ => fun
  | [d1, d2] => { results := [.lit (.bool true)], args := [d1, d2] }
  | _ => none }
def fnExactHuffWriteRow : OpenClaim := { program := "ytgjmmegmkdklbaa", sum := "679821e23d4931a5c7a09801ab53976555edea5a55442789e658d282c8f48f76", func := "loop.example/g00688/laws.FnExactHuffWrite", spec := "fnExactHuffWrite", unfollowed := true, recurses := true, plainKeys := false, apart := false }
def FnExactHuffWriteSaid : Prop := fnExactHuffWriteRow.holds Try.pinned (OpenSpec.ofChange fnExactHuffWriteSpec)

/-- ITS FALSE NEIGHBOUR: 'it returns false'. Refute it at one input. -/
def fnExactHuffWriteWrong : ChangeSpec := { name := "fnExactHuffWrite", fn := fun _ => fun
  | [d1, d2] => { results := [.lit (.bool false)], args := [d1, d2] }
  | _ => none }
def FnExactHuffWriteWrongFalsely : Prop := fnExactHuffWriteRow.holds Try.pinned (OpenSpec.ofChange fnExactHuffWriteWrong)

/-- 'laws.FnHuffBest': WHATEVER THE INPUT: true; the input reads as it did. -/
def fnHuffBestSpec : ChangeSpec := { name := "fnHuffBest", fn := fun _ => fun
  | [d] => { results := [.lit (.bool true)], args := [d] }
  | _ => none }
def fnHuffBestRow : OpenClaim := { program := "ytgjmmegmkdklbaa", sum := "679821e23d4931a5c7a09801ab53976555edea5a55442789e658d282c8f48f76", func := "loop.example/g00688/laws.FnHuffBest", spec := "fnHuffBest", unfollowed := true, recurses := true, plainKeys := false, apart := false }
def FnHuffBestSaid : Prop := fnHuffBestRow.holds Try.pinned (OpenSpec.ofChange fnHuffBestSpec)

/-- ITS FALSE NEIGHBOUR: 'it returns false'. Refute it at one input. -/
def fnHuffBestWrong : ChangeSpec := { name := "fnHuffBest", fn := fun _ => fun
  | [d] => { results := [.lit (.bool false)], args := [d] }
  | _ => none }
def FnHuffBestWrongFalsely : Prop := fnHuffBestRow.holds Try.pinned (OpenSpec.ofChange fnHuffBestWrong)

/-- 'laws.FnExactHuffRead': WHATEVER THE INPUT: true; the input reads as it did. -/
def fnExactHuffReadSpec : ChangeSpec := { name := "fnExactHuffRead", fn := fun _ => fun
  | [d1, d2, d3] => { results := [.lit (.bool true)], args := [d1, d2, d3] }
  | _ => none }
def fnExactHuffReadRow : OpenClaim := { program := "ytgjmmegmkdklbaa", sum := "679821e23d4931a5c7a09801ab53976555edea5a55442789e658d282c8f48f76", func := "loop.example/g00688/laws.FnExactHuffRead", spec := "fnExactHuffRead", unfollowed := true, recurses := true, plainKeys := false, apart := false }
def FnExactHuffReadSaid : Prop := fnExactHuffReadRow.holds Try.pinned (OpenSpec.ofChange fnExactHuffReadSpec)

/-- ITS FALSE NEIGHBOUR: 'it returns false'. Refute it at one input. -/
def fnExactHuffReadWrong : ChangeSpec := { name := "fnExactHuffRead", fn := fun _ => fun
  | [d1, d2, d3] => { results := [.lit (.bool false)], args := [d1, d2, d3] }
  | _ => none }
def FnExactHuffReadWrongFalsely : Prop := fnExactHuffReadRow.holds Try.pinned (OpenSpec.ofChange fnExactHuffReadWrong)

/-- 'laws.FnHuffBack': WHATEVER THE INPUT: true; the input reads as it did. -/
def fnHuffBackSpec : ChangeSpec := { name := "fnHuffBack", fn := fun _ => fun
  | [d] => { results := [.lit (.bool true)], args := [d] }
  | _ => none }
def fnHuffBackRow : OpenClaim := { program := "ytgjmmegmkdklbaa", sum := "679821e23d4931a5c7a09801ab53976555edea5a55442789e658d282c8f48f76", func := "loop.example/g00688/laws.FnHuffBack", spec := "fnHuffBack", unfollowed := true, recurses := true, plainKeys := false, apart := false }
def FnHuffBackSaid : Prop := fnHuffBackRow.holds Try.pinned (OpenSpec.ofChange fnHuffBackSpec)

/-- ITS FALSE NEIGHBOUR: 'it returns false'. Refute it at one input. -/
def fnHuffBackWrong : ChangeSpec := { name := "fnHuffBack", fn := fun _ => fun
  | [d] => { results := [.lit (.bool false)], args := [d] }
  | _ => none }
def FnHuffBackWrongFalsely : Prop := fnHuffBackRow.holds Try.pinned (OpenSpec.ofChange fnHuffBackWrong)

/- THE SECOND FORM. 'bulk': how many values and letters a reading holds, each counted each time it is reached (what is shared counts as often as it is met; a slice's spare places count too). A statement '..UptoSaid' is the law's where the arguments, and the package variables that the reading takes, are together of bulk at most 1048576: NARROWER than '..Said'. Prove '..Said' where nothing that the law and all that it calls make is longer than what came in: it says more and counts as full. Else prove '..UptoSaid'. A law counts once. -/
mutual
def uptoBulk {H : Type} : DataW H → Nat
  | .lit (.string bytes) => bytes.length + 1
  | .lit _ => 1
  | .nil => 1
  | .ptr d => uptoBulk d + 1
  | .slice elems spare => uptoBulkAll elems + uptoBulkAll spare + 1
  | .agg parts => uptoBulkAll parts + 1
  | .iface _ d => uptoBulk d + 1
  | .map entries => uptoBulkEntries entries + 1
  | .held _ => 1
def uptoBulkAll {H : Type} : List (DataW H) → Nat
  | [] => 0
  | d :: r => uptoBulk d + uptoBulkAll r
def uptoBulkEntries {H : Type} : List (Lit × DataW H) → Nat
  | [] => 0
  | x :: r => uptoBulkEntry x + uptoBulkEntries r
def uptoBulkEntry {H : Type} : Lit × DataW H → Nat
  | (.string bytes, d) => bytes.length + uptoBulk d + 1
  | (_, d) => uptoBulk d + 1
 end
def uptoSmall : (H : Type) → List (DataW H) → Bool := fun _ ds => decide (uptoBulkAll ds ≤ 1048576)
def OpenSpec.upto (s : _root_.Go.ChangeSpec) : _root_.Go.OpenSpec := { _root_.Go.OpenSpec.ofChange s with cond := some uptoSmall }

/-- 'laws.FnPrefix', WHERE WHAT IT READS IS OF BULK AT MOST 1048576: true; the input reads as it did. -/
def fnPrefixUptoRow : OpenClaim := { program := "ytgjmmegmkdklbaa", sum := "679821e23d4931a5c7a09801ab53976555edea5a55442789e658d282c8f48f76", func := "loop.example/g00688/laws.FnPrefix", spec := "fnPrefix", unfollowed := true, recurses := true, plainKeys := false, apart := false, narrowed := true }
def FnPrefixUptoSaid : Prop := fnPrefixUptoRow.holds Try.pinned (OpenSpec.upto fnPrefixSpec)

/-- 'laws.FnExactHuffWrite', WHERE WHAT IT READS IS OF BULK AT MOST 1048576: true; the input reads as it did. -/
def fnExactHuffWriteUptoRow : OpenClaim := { program := "ytgjmmegmkdklbaa", sum := "679821e23d4931a5c7a09801ab53976555edea5a55442789e658d282c8f48f76", func := "loop.example/g00688/laws.FnExactHuffWrite", spec := "fnExactHuffWrite", unfollowed := true, recurses := true, plainKeys := false, apart := false, narrowed := true }
def FnExactHuffWriteUptoSaid : Prop := fnExactHuffWriteUptoRow.holds Try.pinned (OpenSpec.upto fnExactHuffWriteSpec)

/-- 'laws.FnHuffBest', WHERE WHAT IT READS IS OF BULK AT MOST 1048576: true; the input reads as it did. -/
def fnHuffBestUptoRow : OpenClaim := { program := "ytgjmmegmkdklbaa", sum := "679821e23d4931a5c7a09801ab53976555edea5a55442789e658d282c8f48f76", func := "loop.example/g00688/laws.FnHuffBest", spec := "fnHuffBest", unfollowed := true, recurses := true, plainKeys := false, apart := false, narrowed := true }
def FnHuffBestUptoSaid : Prop := fnHuffBestUptoRow.holds Try.pinned (OpenSpec.upto fnHuffBestSpec)

/-- 'laws.FnExactHuffRead', WHERE WHAT IT READS IS OF BULK AT MOST 1048576: true; the input reads as it did. -/
def fnExactHuffReadUptoRow : OpenClaim := { program := "ytgjmmegmkdklbaa", sum := "679821e23d4931a5c7a09801ab53976555edea5a55442789e658d282c8f48f76", func := "loop.example/g00688/laws.FnExactHuffRead", spec := "fnExactHuffRead", unfollowed := true, recurses := true, plainKeys := false, apart := false, narrowed := true }
def FnExactHuffReadUptoSaid : Prop := fnExactHuffReadUptoRow.holds Try.pinned (OpenSpec.upto fnExactHuffReadSpec)

/-- 'laws.FnHuffBack', WHERE WHAT IT READS IS OF BULK AT MOST 1048576: true; the input reads as it did. -/
def fnHuffBackUptoRow : OpenClaim := { program := "ytgjmmegmkdklbaa", sum := "679821e23d4931a5c7a09801ab53976555edea5a55442789e658d282c8f48f76", func := "loop.example/g00688/laws.FnHuffBack", spec := "fnHuffBack", unfollowed := true, recurses := true, plainKeys := false, apart := false, narrowed := true }
def FnHuffBackUptoSaid : Prop := fnHuffBackUptoRow.holds Try.pinned (OpenSpec.upto fnHuffBackSpec)

end Rows
end Go.Proofs.Ytgjmmegmkdklbaa
