/-
  No cell of these rows narrows 'for every input' (looked for: loops, veiled, ifaces, maps, wideKeys, modest, calm, conditions, laid).
  DERIVED. THE GIVEN ROWS OF THIS SEAT. 8 by the template 'for every input the law returns true; each argument reads behind the call as it read before'; 0 by the template 'total and deterministic' (their statements: YtoinagnieobbpaaTotals.lean).
  GIVEN WITH THE SEED: the statements are not yours to turn. If you find one false, say at which input.
  Laid BY PROGRAM, IN A SANDBOX (cutbox-rows.mjs): the forced cells as the released guide's own fill.sh prints them over the translation cfb715ce452bb471… (all of the seat's roots in one cut). By AI agents, Wed Nov 11 2026. No macro, syntax, notation, axiom, sorry.
-/
import Derived.Test.YtoinagnieobbpaaChecked
import GoSem.Claim
import GoSem.ClaimJoined
import GoSem.ClaimMapViews
import Derived.JoinedTies
import Derived.KernelRfl
namespace Go.Proofs.Ytoinagnieobbpaa
/- THE CELL 'sum', in the pinned program and in every row, IS THE sha256 OF THE DUMP (.gsa) THAT YtoinagnieobbpaaProg.lean LOADS. Nothing in Lean hashes anything: it is a label: what it is worth is what the hold of that sum in a sandbox is worth. -/
noncomputable def Try.pinned : Pinned := { name := "ytoinagnieobbpaa", sum := "cfb715ce452bb4712067af10c92cfd997e845e2457c22dd39e4875deea43c487", checked := Try.checked }
namespace Rows
def none {H : Type} : Left H := { results := [], args := [] }

/-- 'laws.FnExactStretchOk': WHATEVER THE INPUT: true; the input reads as it did. -/
def fnExactStretchOkSpec : ChangeSpec := { name := "fnExactStretchOk", fn := fun _ => fun
  | [d1, d2] => { results := [.lit (.bool true)], args := [d1, d2] }
  | _ => none }
def fnExactStretchOkRow : OpenClaim := { program := "ytoinagnieobbpaa", sum := "cfb715ce452bb4712067af10c92cfd997e845e2457c22dd39e4875deea43c487", func := "loop.example/g00688/laws.FnExactStretchOk", spec := "fnExactStretchOk", inPlace := ["internal/bytealg.Compare"], unfollowed := true, recurses := true, apart := false }
def FnExactStretchOkSaid : Prop := fnExactStretchOkRow.holds Try.pinned (OpenSpec.ofChange fnExactStretchOkSpec)

/-- ITS FALSE NEIGHBOUR: 'it returns false'. Refute it at one input. -/
def fnExactStretchOkWrong : ChangeSpec := { name := "fnExactStretchOk", fn := fun _ => fun
  | [d1, d2] => { results := [.lit (.bool false)], args := [d1, d2] }
  | _ => none }
def FnExactStretchOkWrongFalsely : Prop := fnExactStretchOkRow.holds Try.pinned (OpenSpec.ofChange fnExactStretchOkWrong)

/-- 'laws.FnExactStretchWord': WHATEVER THE INPUT: true; the input reads as it did. -/
def fnExactStretchWordSpec : ChangeSpec := { name := "fnExactStretchWord", fn := fun _ => fun
  | [d1, d2] => { results := [.lit (.bool true)], args := [d1, d2] }
  | _ => none }
def fnExactStretchWordRow : OpenClaim := { program := "ytoinagnieobbpaa", sum := "cfb715ce452bb4712067af10c92cfd997e845e2457c22dd39e4875deea43c487", func := "loop.example/g00688/laws.FnExactStretchWord", spec := "fnExactStretchWord", inPlace := ["internal/bytealg.Compare"], unfollowed := true, recurses := true, apart := false }
def FnExactStretchWordSaid : Prop := fnExactStretchWordRow.holds Try.pinned (OpenSpec.ofChange fnExactStretchWordSpec)

/-- ITS FALSE NEIGHBOUR: 'it returns false'. Refute it at one input. -/
def fnExactStretchWordWrong : ChangeSpec := { name := "fnExactStretchWord", fn := fun _ => fun
  | [d1, d2] => { results := [.lit (.bool false)], args := [d1, d2] }
  | _ => none }
def FnExactStretchWordWrongFalsely : Prop := fnExactStretchWordRow.holds Try.pinned (OpenSpec.ofChange fnExactStretchWordWrong)

/-- 'laws.FnExactStretchOf': WHATEVER THE INPUT: true; the input reads as it did. -/
def fnExactStretchOfSpec : ChangeSpec := { name := "fnExactStretchOf", fn := fun _ => fun
  | [d1, d2] => { results := [.lit (.bool true)], args := [d1, d2] }
  | _ => none }
def fnExactStretchOfRow : OpenClaim := { program := "ytoinagnieobbpaa", sum := "cfb715ce452bb4712067af10c92cfd997e845e2457c22dd39e4875deea43c487", func := "loop.example/g00688/laws.FnExactStretchOf", spec := "fnExactStretchOf", inPlace := ["internal/bytealg.Compare"], unfollowed := true, recurses := true, apart := false }
def FnExactStretchOfSaid : Prop := fnExactStretchOfRow.holds Try.pinned (OpenSpec.ofChange fnExactStretchOfSpec)

/-- ITS FALSE NEIGHBOUR: 'it returns false'. Refute it at one input. -/
def fnExactStretchOfWrong : ChangeSpec := { name := "fnExactStretchOf", fn := fun _ => fun
  | [d1, d2] => { results := [.lit (.bool false)], args := [d1, d2] }
  | _ => none }
def FnExactStretchOfWrongFalsely : Prop := fnExactStretchOfRow.holds Try.pinned (OpenSpec.ofChange fnExactStretchOfWrong)

/-- 'laws.FnExactLongest': WHATEVER THE INPUT: true; the input reads as it did. -/
def fnExactLongestSpec : ChangeSpec := { name := "fnExactLongest", fn := fun _ => fun
  | [d] => { results := [.lit (.bool true)], args := [d] }
  | _ => none }
def fnExactLongestRow : OpenClaim := { program := "ytoinagnieobbpaa", sum := "cfb715ce452bb4712067af10c92cfd997e845e2457c22dd39e4875deea43c487", func := "loop.example/g00688/laws.FnExactLongest", spec := "fnExactLongest", inPlace := ["internal/bytealg.Compare", "internal/bytealg.IndexByte", "internal/bytealg.Index"], unfollowed := true, recurses := true, named := ["internal/bytealg.MaxLen"], apart := false }
def FnExactLongestSaid : Prop := fnExactLongestRow.holds Try.pinned (OpenSpec.ofChange fnExactLongestSpec)

/-- ITS FALSE NEIGHBOUR: 'it returns false'. Refute it at one input. -/
def fnExactLongestWrong : ChangeSpec := { name := "fnExactLongest", fn := fun _ => fun
  | [d] => { results := [.lit (.bool false)], args := [d] }
  | _ => none }
def FnExactLongestWrongFalsely : Prop := fnExactLongestRow.holds Try.pinned (OpenSpec.ofChange fnExactLongestWrong)

/-- 'laws.FnExactStretchAll': WHATEVER THE INPUT: true; the input reads as it did. -/
def fnExactStretchAllSpec : ChangeSpec := { name := "fnExactStretchAll", fn := fun _ => fun
  | [d] => { results := [.lit (.bool true)], args := [d] }
  | _ => none }
def fnExactStretchAllRow : OpenClaim := { program := "ytoinagnieobbpaa", sum := "cfb715ce452bb4712067af10c92cfd997e845e2457c22dd39e4875deea43c487", func := "loop.example/g00688/laws.FnExactStretchAll", spec := "fnExactStretchAll", inPlace := ["internal/bytealg.Compare"], unfollowed := true, recurses := true, apart := false }
def FnExactStretchAllSaid : Prop := fnExactStretchAllRow.holds Try.pinned (OpenSpec.ofChange fnExactStretchAllSpec)

/-- ITS FALSE NEIGHBOUR: 'it returns false'. Refute it at one input. -/
def fnExactStretchAllWrong : ChangeSpec := { name := "fnExactStretchAll", fn := fun _ => fun
  | [d] => { results := [.lit (.bool false)], args := [d] }
  | _ => none }
def FnExactStretchAllWrongFalsely : Prop := fnExactStretchAllRow.holds Try.pinned (OpenSpec.ofChange fnExactStretchAllWrong)

/-- 'laws.FnExactStretchUp': WHATEVER THE INPUT: true; the input reads as it did. -/
def fnExactStretchUpSpec : ChangeSpec := { name := "fnExactStretchUp", fn := fun _ => fun
  | [d1, d2] => { results := [.lit (.bool true)], args := [d1, d2] }
  | _ => none }
def fnExactStretchUpRow : OpenClaim := { program := "ytoinagnieobbpaa", sum := "cfb715ce452bb4712067af10c92cfd997e845e2457c22dd39e4875deea43c487", func := "loop.example/g00688/laws.FnExactStretchUp", spec := "fnExactStretchUp", inPlace := ["internal/bytealg.Compare"], unfollowed := true, recurses := true, apart := false }
def FnExactStretchUpSaid : Prop := fnExactStretchUpRow.holds Try.pinned (OpenSpec.ofChange fnExactStretchUpSpec)

/-- ITS FALSE NEIGHBOUR: 'it returns false'. Refute it at one input. -/
def fnExactStretchUpWrong : ChangeSpec := { name := "fnExactStretchUp", fn := fun _ => fun
  | [d1, d2] => { results := [.lit (.bool false)], args := [d1, d2] }
  | _ => none }
def FnExactStretchUpWrongFalsely : Prop := fnExactStretchUpRow.holds Try.pinned (OpenSpec.ofChange fnExactStretchUpWrong)

/-- 'laws.FnExactStretchKids': WHATEVER THE INPUT: true; the input reads as it did. -/
def fnExactStretchKidsSpec : ChangeSpec := { name := "fnExactStretchKids", fn := fun _ => fun
  | [d1, d2] => { results := [.lit (.bool true)], args := [d1, d2] }
  | _ => none }
def fnExactStretchKidsRow : OpenClaim := { program := "ytoinagnieobbpaa", sum := "cfb715ce452bb4712067af10c92cfd997e845e2457c22dd39e4875deea43c487", func := "loop.example/g00688/laws.FnExactStretchKids", spec := "fnExactStretchKids", inPlace := ["internal/bytealg.Compare"], unfollowed := true, recurses := true, apart := false }
def FnExactStretchKidsSaid : Prop := fnExactStretchKidsRow.holds Try.pinned (OpenSpec.ofChange fnExactStretchKidsSpec)

/-- ITS FALSE NEIGHBOUR: 'it returns false'. Refute it at one input. -/
def fnExactStretchKidsWrong : ChangeSpec := { name := "fnExactStretchKids", fn := fun _ => fun
  | [d1, d2] => { results := [.lit (.bool false)], args := [d1, d2] }
  | _ => none }
def FnExactStretchKidsWrongFalsely : Prop := fnExactStretchKidsRow.holds Try.pinned (OpenSpec.ofChange fnExactStretchKidsWrong)

/-- 'laws.FnStretchWords': WHATEVER THE INPUT: true; the input reads as it did. -/
def fnStretchWordsSpec : ChangeSpec := { name := "fnStretchWords", fn := fun _ => fun
  | [d] => { results := [.lit (.bool true)], args := [d] }
  | _ => none }
def fnStretchWordsRow : OpenClaim := { program := "ytoinagnieobbpaa", sum := "cfb715ce452bb4712067af10c92cfd997e845e2457c22dd39e4875deea43c487", func := "loop.example/g00688/laws.FnStretchWords", spec := "fnStretchWords", inPlace := ["internal/bytealg.Compare"], unfollowed := true, recurses := true, apart := false }
def FnStretchWordsSaid : Prop := fnStretchWordsRow.holds Try.pinned (OpenSpec.ofChange fnStretchWordsSpec)

/-- ITS FALSE NEIGHBOUR: 'it returns false'. Refute it at one input. -/
def fnStretchWordsWrong : ChangeSpec := { name := "fnStretchWords", fn := fun _ => fun
  | [d] => { results := [.lit (.bool false)], args := [d] }
  | _ => none }
def FnStretchWordsWrongFalsely : Prop := fnStretchWordsRow.holds Try.pinned (OpenSpec.ofChange fnStretchWordsWrong)

/- THE SECOND FORM. 'bulk': how many values and letters a reading holds, each counted each time it is reached (what is shared counts as often as it is met; a slice's spare places count too). A statement '..UptoSaid' is the law's where the arguments, and the package variables that the reading takes, are together of bulk at most 1048576: NARROWER than '..Said'. Prove '..Said' where nothing that the law and all that it calls make is longer than what came in: it says more and counts as full. Else prove '..UptoSaid'. A law counts once. -/
mutual
def uptoBulk {H : Type} : DataW H → Nat
  | .lit (.string bytes) => bytes.length + 1
  | .lit _ => 1
  | .nil => 1
  | .ptr d => uptoBulk d + 1
  | .slice elems spare => uptoBulkAll elems + uptoBulkAll spare + 1
  | .agg parts => uptoBulkAll parts + 1
  | .iface _ d => uptoBulk d + 1
  | .map entries => uptoBulkEntries entries + 1
  | .held _ => 1
def uptoBulkAll {H : Type} : List (DataW H) → Nat
  | [] => 0
  | d :: r => uptoBulk d + uptoBulkAll r
def uptoBulkEntries {H : Type} : List (Lit × DataW H) → Nat
  | [] => 0
  | x :: r => uptoBulkEntry x + uptoBulkEntries r
def uptoBulkEntry {H : Type} : Lit × DataW H → Nat
  | (.string bytes, d) => bytes.length + uptoBulk d + 1
  | (_, d) => uptoBulk d + 1
 end
def uptoSmall : (H : Type) → List (DataW H) → Bool := fun _ ds => decide (uptoBulkAll ds ≤ 1048576)
def OpenSpec.upto (s : _root_.Go.ChangeSpec) : _root_.Go.OpenSpec := { _root_.Go.OpenSpec.ofChange s with cond := some uptoSmall }

/-- 'laws.FnExactStretchOk', WHERE WHAT IT READS IS OF BULK AT MOST 1048576: true; the input reads as it did. -/
def fnExactStretchOkUptoRow : OpenClaim := { program := "ytoinagnieobbpaa", sum := "cfb715ce452bb4712067af10c92cfd997e845e2457c22dd39e4875deea43c487", func := "loop.example/g00688/laws.FnExactStretchOk", spec := "fnExactStretchOk", inPlace := ["internal/bytealg.Compare"], unfollowed := true, recurses := true, apart := false, narrowed := true }
def FnExactStretchOkUptoSaid : Prop := fnExactStretchOkUptoRow.holds Try.pinned (OpenSpec.upto fnExactStretchOkSpec)

/-- 'laws.FnExactStretchWord', WHERE WHAT IT READS IS OF BULK AT MOST 1048576: true; the input reads as it did. -/
def fnExactStretchWordUptoRow : OpenClaim := { program := "ytoinagnieobbpaa", sum := "cfb715ce452bb4712067af10c92cfd997e845e2457c22dd39e4875deea43c487", func := "loop.example/g00688/laws.FnExactStretchWord", spec := "fnExactStretchWord", inPlace := ["internal/bytealg.Compare"], unfollowed := true, recurses := true, apart := false, narrowed := true }
def FnExactStretchWordUptoSaid : Prop := fnExactStretchWordUptoRow.holds Try.pinned (OpenSpec.upto fnExactStretchWordSpec)

/-- 'laws.FnExactStretchOf', WHERE WHAT IT READS IS OF BULK AT MOST 1048576: true; the input reads as it did. -/
def fnExactStretchOfUptoRow : OpenClaim := { program := "ytoinagnieobbpaa", sum := "cfb715ce452bb4712067af10c92cfd997e845e2457c22dd39e4875deea43c487", func := "loop.example/g00688/laws.FnExactStretchOf", spec := "fnExactStretchOf", inPlace := ["internal/bytealg.Compare"], unfollowed := true, recurses := true, apart := false, narrowed := true }
def FnExactStretchOfUptoSaid : Prop := fnExactStretchOfUptoRow.holds Try.pinned (OpenSpec.upto fnExactStretchOfSpec)

/-- 'laws.FnExactLongest', WHERE WHAT IT READS IS OF BULK AT MOST 1048576: true; the input reads as it did. -/
def fnExactLongestUptoRow : OpenClaim := { program := "ytoinagnieobbpaa", sum := "cfb715ce452bb4712067af10c92cfd997e845e2457c22dd39e4875deea43c487", func := "loop.example/g00688/laws.FnExactLongest", spec := "fnExactLongest", inPlace := ["internal/bytealg.Compare", "internal/bytealg.IndexByte", "internal/bytealg.Index"], unfollowed := true, recurses := true, named := ["internal/bytealg.MaxLen"], apart := false, narrowed := true }
def FnExactLongestUptoSaid : Prop := fnExactLongestUptoRow.holds Try.pinned (OpenSpec.upto fnExactLongestSpec)

/-- 'laws.FnExactStretchAll', WHERE WHAT IT READS IS OF BULK AT MOST 1048576: true; the input reads as it did. -/
def fnExactStretchAllUptoRow : OpenClaim := { program := "ytoinagnieobbpaa", sum := "cfb715ce452bb4712067af10c92cfd997e845e2457c22dd39e4875deea43c487", func := "loop.example/g00688/laws.FnExactStretchAll", spec := "fnExactStretchAll", inPlace := ["internal/bytealg.Compare"], unfollowed := true, recurses := true, apart := false, narrowed := true }
def FnExactStretchAllUptoSaid : Prop := fnExactStretchAllUptoRow.holds Try.pinned (OpenSpec.upto fnExactStretchAllSpec)

/-- 'laws.FnExactStretchUp', WHERE WHAT IT READS IS OF BULK AT MOST 1048576: true; the input reads as it did. -/
def fnExactStretchUpUptoRow : OpenClaim := { program := "ytoinagnieobbpaa", sum := "cfb715ce452bb4712067af10c92cfd997e845e2457c22dd39e4875deea43c487", func := "loop.example/g00688/laws.FnExactStretchUp", spec := "fnExactStretchUp", inPlace := ["internal/bytealg.Compare"], unfollowed := true, recurses := true, apart := false, narrowed := true }
def FnExactStretchUpUptoSaid : Prop := fnExactStretchUpUptoRow.holds Try.pinned (OpenSpec.upto fnExactStretchUpSpec)

/-- 'laws.FnExactStretchKids', WHERE WHAT IT READS IS OF BULK AT MOST 1048576: true; the input reads as it did. -/
def fnExactStretchKidsUptoRow : OpenClaim := { program := "ytoinagnieobbpaa", sum := "cfb715ce452bb4712067af10c92cfd997e845e2457c22dd39e4875deea43c487", func := "loop.example/g00688/laws.FnExactStretchKids", spec := "fnExactStretchKids", inPlace := ["internal/bytealg.Compare"], unfollowed := true, recurses := true, apart := false, narrowed := true }
def FnExactStretchKidsUptoSaid : Prop := fnExactStretchKidsUptoRow.holds Try.pinned (OpenSpec.upto fnExactStretchKidsSpec)

/-- 'laws.FnStretchWords', WHERE WHAT IT READS IS OF BULK AT MOST 1048576: true; the input reads as it did. -/
def fnStretchWordsUptoRow : OpenClaim := { program := "ytoinagnieobbpaa", sum := "cfb715ce452bb4712067af10c92cfd997e845e2457c22dd39e4875deea43c487", func := "loop.example/g00688/laws.FnStretchWords", spec := "fnStretchWords", inPlace := ["internal/bytealg.Compare"], unfollowed := true, recurses := true, apart := false, narrowed := true }
def FnStretchWordsUptoSaid : Prop := fnStretchWordsUptoRow.holds Try.pinned (OpenSpec.upto fnStretchWordsSpec)

end Rows
end Go.Proofs.Ytoinagnieobbpaa
