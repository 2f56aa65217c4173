/-
  No cell of these rows narrows 'for every input' (looked for: loops, veiled, ifaces, maps, wideKeys, modest, calm, conditions, laid).
  DERIVED. THE GIVEN ROWS OF THIS SEAT. 6 by the template 'for every input the law returns true; each argument reads behind the call as it read before'; 0 by the template 'total and deterministic' (their statements: YtamdhfjnalglfaaTotals.lean).
  GIVEN WITH THE SEED: the statements are not yours to turn. If you find one false, say at which input.
  Laid BY PROGRAM, IN A SANDBOX (cutbox-rows.mjs): the forced cells as the released guide's own fill.sh prints them over the translation 1cc2334295ba2247… (all of the seat's roots in one cut). By AI agents, Wed Nov 11 2026. No macro, syntax, notation, axiom, sorry.
-/
import Derived.Test.YtamdhfjnalglfaaChecked
import GoSem.Claim
import GoSem.ClaimJoined
import GoSem.ClaimMapViews
import Derived.JoinedTies
import Derived.KernelRfl
namespace Go.Proofs.Ytamdhfjnalglfaa
/- THE CELL 'sum', in the pinned program and in every row, IS THE sha256 OF THE DUMP (.gsa) THAT YtamdhfjnalglfaaProg.lean LOADS. Nothing in Lean hashes anything: it is a label: what it is worth is what the hold of that sum in a sandbox is worth. -/
noncomputable def Try.pinned : Pinned := { name := "ytamdhfjnalglfaa", sum := "1cc2334295ba2247580fde5c3fb909bcc7642b549dce6d444ad95f7f29e76b4a", checked := Try.checked }
namespace Rows
def none {H : Type} : Left H := { results := [], args := [] }

/-- 'laws.FnExactWaveAt': WHATEVER THE INPUT: true; the input reads as it did. -/
def fnExactWaveAtSpec : ChangeSpec := { name := "fnExactWaveAt", fn := fun _ => fun
  | [d1, d2] => { results := [.lit (.bool true)], args := [d1, d2] }
  | _ => none }
def fnExactWaveAtRow : OpenClaim := { program := "ytamdhfjnalglfaa", sum := "1cc2334295ba2247580fde5c3fb909bcc7642b549dce6d444ad95f7f29e76b4a", func := "loop.example/g00688/laws.FnExactWaveAt", spec := "fnExactWaveAt", apart := false }
def FnExactWaveAtSaid : Prop := fnExactWaveAtRow.holds Try.pinned (OpenSpec.ofChange fnExactWaveAtSpec)

/-- ITS FALSE NEIGHBOUR: 'it returns false'. Refute it at one input. -/
def fnExactWaveAtWrong : ChangeSpec := { name := "fnExactWaveAt", fn := fun _ => fun
  | [d1, d2] => { results := [.lit (.bool false)], args := [d1, d2] }
  | _ => none }
def FnExactWaveAtWrongFalsely : Prop := fnExactWaveAtRow.holds Try.pinned (OpenSpec.ofChange fnExactWaveAtWrong)

/-- 'laws.FnWave': WHATEVER THE INPUT: true; the input reads as it did. -/
def fnWaveSpec : ChangeSpec := { name := "fnWave", fn := fun _ => fun
  | [d] => { results := [.lit (.bool true)], args := [d] }
  | _ => none }
def fnWaveRow : OpenClaim := { program := "ytamdhfjnalglfaa", sum := "1cc2334295ba2247580fde5c3fb909bcc7642b549dce6d444ad95f7f29e76b4a", func := "loop.example/g00688/laws.FnWave", spec := "fnWave", unfollowed := true, recurses := true, apart := false }
def FnWaveSaid : Prop := fnWaveRow.holds Try.pinned (OpenSpec.ofChange fnWaveSpec)

/-- ITS FALSE NEIGHBOUR: 'it returns false'. Refute it at one input. -/
def fnWaveWrong : ChangeSpec := { name := "fnWave", fn := fun _ => fun
  | [d] => { results := [.lit (.bool false)], args := [d] }
  | _ => none }
def FnWaveWrongFalsely : Prop := fnWaveRow.holds Try.pinned (OpenSpec.ofChange fnWaveWrong)

/-- 'laws.FnExactWaveRank': WHATEVER THE INPUT: true; the input reads as it did. -/
def fnExactWaveRankSpec : ChangeSpec := { name := "fnExactWaveRank", fn := fun _ => fun
  | [d1, d2, d3] => { results := [.lit (.bool true)], args := [d1, d2, d3] }
  | _ => none }
def fnExactWaveRankRow : OpenClaim := { program := "ytamdhfjnalglfaa", sum := "1cc2334295ba2247580fde5c3fb909bcc7642b549dce6d444ad95f7f29e76b4a", func := "loop.example/g00688/laws.FnExactWaveRank", spec := "fnExactWaveRank", apart := false }
def FnExactWaveRankSaid : Prop := fnExactWaveRankRow.holds Try.pinned (OpenSpec.ofChange fnExactWaveRankSpec)

/-- ITS FALSE NEIGHBOUR: 'it returns false'. Refute it at one input. -/
def fnExactWaveRankWrong : ChangeSpec := { name := "fnExactWaveRank", fn := fun _ => fun
  | [d1, d2, d3] => { results := [.lit (.bool false)], args := [d1, d2, d3] }
  | _ => none }
def FnExactWaveRankWrongFalsely : Prop := fnExactWaveRankRow.holds Try.pinned (OpenSpec.ofChange fnExactWaveRankWrong)

/-- 'laws.FnExactWaveLess': WHATEVER THE INPUT: true; the input reads as it did. -/
def fnExactWaveLessSpec : ChangeSpec := { name := "fnExactWaveLess", fn := fun _ => fun
  | [d1, d2, d3, d4] => { results := [.lit (.bool true)], args := [d1, d2, d3, d4] }
  | _ => none }
def fnExactWaveLessRow : OpenClaim := { program := "ytamdhfjnalglfaa", sum := "1cc2334295ba2247580fde5c3fb909bcc7642b549dce6d444ad95f7f29e76b4a", func := "loop.example/g00688/laws.FnExactWaveLess", spec := "fnExactWaveLess", apart := false }
def FnExactWaveLessSaid : Prop := fnExactWaveLessRow.holds Try.pinned (OpenSpec.ofChange fnExactWaveLessSpec)

/-- ITS FALSE NEIGHBOUR: 'it returns false'. Refute it at one input. -/
def fnExactWaveLessWrong : ChangeSpec := { name := "fnExactWaveLess", fn := fun _ => fun
  | [d1, d2, d3, d4] => { results := [.lit (.bool false)], args := [d1, d2, d3, d4] }
  | _ => none }
def FnExactWaveLessWrongFalsely : Prop := fnExactWaveLessRow.holds Try.pinned (OpenSpec.ofChange fnExactWaveLessWrong)

/-- 'laws.FnExactWaveSelect': WHATEVER THE INPUT: true; the input reads as it did. -/
def fnExactWaveSelectSpec : ChangeSpec := { name := "fnExactWaveSelect", fn := fun _ => fun
  | [d1, d2, d3] => { results := [.lit (.bool true)], args := [d1, d2, d3] }
  | _ => none }
def fnExactWaveSelectRow : OpenClaim := { program := "ytamdhfjnalglfaa", sum := "1cc2334295ba2247580fde5c3fb909bcc7642b549dce6d444ad95f7f29e76b4a", func := "loop.example/g00688/laws.FnExactWaveSelect", spec := "fnExactWaveSelect", apart := false }
def FnExactWaveSelectSaid : Prop := fnExactWaveSelectRow.holds Try.pinned (OpenSpec.ofChange fnExactWaveSelectSpec)

/-- ITS FALSE NEIGHBOUR: 'it returns false'. Refute it at one input. -/
def fnExactWaveSelectWrong : ChangeSpec := { name := "fnExactWaveSelect", fn := fun _ => fun
  | [d1, d2, d3] => { results := [.lit (.bool false)], args := [d1, d2, d3] }
  | _ => none }
def FnExactWaveSelectWrongFalsely : Prop := fnExactWaveSelectRow.holds Try.pinned (OpenSpec.ofChange fnExactWaveSelectWrong)

/-- 'laws.FnExactWaveList': WHATEVER THE INPUT: true; the input reads as it did. -/
def fnExactWaveListSpec : ChangeSpec := { name := "fnExactWaveList", fn := fun _ => fun
  | [d] => { results := [.lit (.bool true)], args := [d] }
  | _ => none }
def fnExactWaveListRow : OpenClaim := { program := "ytamdhfjnalglfaa", sum := "1cc2334295ba2247580fde5c3fb909bcc7642b549dce6d444ad95f7f29e76b4a", func := "loop.example/g00688/laws.FnExactWaveList", spec := "fnExactWaveList", apart := false }
def FnExactWaveListSaid : Prop := fnExactWaveListRow.holds Try.pinned (OpenSpec.ofChange fnExactWaveListSpec)

/-- ITS FALSE NEIGHBOUR: 'it returns false'. Refute it at one input. -/
def fnExactWaveListWrong : ChangeSpec := { name := "fnExactWaveList", fn := fun _ => fun
  | [d] => { results := [.lit (.bool false)], args := [d] }
  | _ => none }
def FnExactWaveListWrongFalsely : Prop := fnExactWaveListRow.holds Try.pinned (OpenSpec.ofChange fnExactWaveListWrong)

/- THE SECOND FORM. 'bulk': how many values and letters a reading holds, each counted each time it is reached (what is shared counts as often as it is met; a slice's spare places count too). A statement '..UptoSaid' is the law's where the arguments, and the package variables that the reading takes, are together of bulk at most 1048576: NARROWER than '..Said'. Prove '..Said' where nothing that the law and all that it calls make is longer than what came in: it says more and counts as full. Else prove '..UptoSaid'. A law counts once. -/
mutual
def uptoBulk {H : Type} : DataW H → Nat
  | .lit (.string bytes) => bytes.length + 1
  | .lit _ => 1
  | .nil => 1
  | .ptr d => uptoBulk d + 1
  | .slice elems spare => uptoBulkAll elems + uptoBulkAll spare + 1
  | .agg parts => uptoBulkAll parts + 1
  | .iface _ d => uptoBulk d + 1
  | .map entries => uptoBulkEntries entries + 1
  | .held _ => 1
def uptoBulkAll {H : Type} : List (DataW H) → Nat
  | [] => 0
  | d :: r => uptoBulk d + uptoBulkAll r
def uptoBulkEntries {H : Type} : List (Lit × DataW H) → Nat
  | [] => 0
  | x :: r => uptoBulkEntry x + uptoBulkEntries r
def uptoBulkEntry {H : Type} : Lit × DataW H → Nat
  | (.string bytes, d) => bytes.length + uptoBulk d + 1
  | (_, d) => uptoBulk d + 1
 end
def uptoSmall : (H : Type) → List (DataW H) → Bool := fun _ ds => decide (uptoBulkAll ds ≤ 1048576)
def OpenSpec.upto (s : _root_.Go.ChangeSpec) : _root_.Go.OpenSpec := { _root_.Go.OpenSpec.ofChange s with cond := some uptoSmall }

/-- 'laws.FnExactWaveAt', WHERE WHAT IT READS IS OF BULK AT MOST 1048576: true; the input reads as it did. -/
def fnExactWaveAtUptoRow : OpenClaim := { program := "ytamdhfjnalglfaa", sum := "1cc2334295ba2247580fde5c3fb909bcc7642b549dce6d444ad95f7f29e76b4a", func := "loop.example/g00688/laws.FnExactWaveAt", spec := "fnExactWaveAt", apart := false, narrowed := true }
def FnExactWaveAtUptoSaid : Prop := fnExactWaveAtUptoRow.holds Try.pinned (OpenSpec.upto fnExactWaveAtSpec)

/-- 'laws.FnWave', WHERE WHAT IT READS IS OF BULK AT MOST 1048576: true; the input reads as it did. -/
def fnWaveUptoRow : OpenClaim := { program := "ytamdhfjnalglfaa", sum := "1cc2334295ba2247580fde5c3fb909bcc7642b549dce6d444ad95f7f29e76b4a", func := "loop.example/g00688/laws.FnWave", spec := "fnWave", unfollowed := true, recurses := true, apart := false, narrowed := true }
def FnWaveUptoSaid : Prop := fnWaveUptoRow.holds Try.pinned (OpenSpec.upto fnWaveSpec)

/-- 'laws.FnExactWaveRank', WHERE WHAT IT READS IS OF BULK AT MOST 1048576: true; the input reads as it did. -/
def fnExactWaveRankUptoRow : OpenClaim := { program := "ytamdhfjnalglfaa", sum := "1cc2334295ba2247580fde5c3fb909bcc7642b549dce6d444ad95f7f29e76b4a", func := "loop.example/g00688/laws.FnExactWaveRank", spec := "fnExactWaveRank", apart := false, narrowed := true }
def FnExactWaveRankUptoSaid : Prop := fnExactWaveRankUptoRow.holds Try.pinned (OpenSpec.upto fnExactWaveRankSpec)

/-- 'laws.FnExactWaveLess', WHERE WHAT IT READS IS OF BULK AT MOST 1048576: true; the input reads as it did. -/
def fnExactWaveLessUptoRow : OpenClaim := { program := "ytamdhfjnalglfaa", sum := "1cc2334295ba2247580fde5c3fb909bcc7642b549dce6d444ad95f7f29e76b4a", func := "loop.example/g00688/laws.FnExactWaveLess", spec := "fnExactWaveLess", apart := false, narrowed := true }
def FnExactWaveLessUptoSaid : Prop := fnExactWaveLessUptoRow.holds Try.pinned (OpenSpec.upto fnExactWaveLessSpec)

/-- 'laws.FnExactWaveSelect', WHERE WHAT IT READS IS OF BULK AT MOST 1048576: true; the input reads as it did. -/
def fnExactWaveSelectUptoRow : OpenClaim := { program := "ytamdhfjnalglfaa", sum := "1cc2334295ba2247580fde5c3fb909bcc7642b549dce6d444ad95f7f29e76b4a", func := "loop.example/g00688/laws.FnExactWaveSelect", spec := "fnExactWaveSelect", apart := false, narrowed := true }
def FnExactWaveSelectUptoSaid : Prop := fnExactWaveSelectUptoRow.holds Try.pinned (OpenSpec.upto fnExactWaveSelectSpec)

/-- 'laws.FnExactWaveList', WHERE WHAT IT READS IS OF BULK AT MOST 1048576: true; the input reads as it did. -/
def fnExactWaveListUptoRow : OpenClaim := { program := "ytamdhfjnalglfaa", sum := "1cc2334295ba2247580fde5c3fb909bcc7642b549dce6d444ad95f7f29e76b4a", func := "loop.example/g00688/laws.FnExactWaveList", spec := "fnExactWaveList", apart := false, narrowed := true }
def FnExactWaveListUptoSaid : Prop := fnExactWaveListUptoRow.holds Try.pinned (OpenSpec.upto fnExactWaveListSpec)

end Rows
end Go.Proofs.Ytamdhfjnalglfaa
