import Derived.Test.YtadhngelhognaaaProg
import Derived.Below
import Derived.Deep.Draws
import Derived.Deep.AppendLies
import Derived.Maps.AppendAt
import Derived.OwnWalk
import Derived.Laws.BytesArg
import Derived.Laws.MakeOwn
import Derived.Laws.OwnMore
import Derived.Deep.OwnRows
import Derived.Tactics
import Derived.Lib.ConvBytes
import Derived.Laws.Slices
import Derived.WalkKit
import Derived.KernelRfl
import Derived.RowKit3
import Derived.Deep.LoopGhost
import Derived.Deep.QuietTactic
import Derived.BigQuiet
import Derived.WideLaws
import Derived.Deep.DeepCutAuto
import Derived.Deep.CutBlock
import Derived.Deep.RegionHeld3
import Derived.Laws.Rows
import Derived.Lib.AppendStr
import Derived.ArgAppend
import Derived.Laws.IdiomCopy
import Derived.OrdersHeld
import Derived.Laws.BitsLemmas
import Derived.RowKit
import Derived.Lib.ConvBytes
import Derived.OwnWalk
import Derived.Shelf.Abstract
import Derived.DataElems
import Derived.Test.YtadhngelhognaaaWWords
import Derived.Test.YtadhngelhognaaaWLast
import Derived.Test.YtadhngelhognaaaWTab
import Derived.Test.YtadhngelhognaaaWFour
import Derived.Test.YtadhngelhognaaaWQPut
import Derived.Test.YtadhngelhognaaaWApart
import Derived.Test.YtadhngelhognaaaWArr
import Derived.Test.YtadhngelhognaaaWZeros
import Derived.Test.YtadhngelhognaaaWFoot
import Derived.Test.YtadhngelhognaaaWKept
import Derived.Test.YtadhngelhognaaaWShare
import Derived.Test.YtadhngelhognaaaWN
import Derived.Test.YtadhngelhognaaaWFootNe
import Derived.Test.YtadhngelhognaaaWAt
import Derived.Test.YtadhngelhognaaaWEqStruct
import Derived.Test.YtadhngelhognaaaWRepsOne
import Derived.Test.YtadhngelhognaaaWInv
import Derived.Test.YtadhngelhognaaaWInvWords
import Derived.Test.YtadhngelhognaaaWGuard
import Derived.Test.YtadhngelhognaaaWNEv
import Derived.Test.YtadhngelhognaaaWMore
-- module Derived.Lib.ConvBytes
-- module Derived.OwnWalk
/- append(xs, []byte(s)...): the string's bytes, made right ahead. -/
namespace Go.Proofs.Ytadhngelhognaaa.Cnv
open Go.RowKit Go.Proofs.YtadhngelhognaaaW.PrintWords
section
variable {P : Program} {ops : Array Oper} {rest : List Oper} {o : Oper} {a : Act} {Q : Exit → Act → World → Prop}
theorem grown_bytes (W : World) (e : TypeId) (s : ByteArray) : W.grownBy (Lib.bytesWorld W e s) none :=
  ⟨rfl, rfl, rfl, by rw [Lib.bytesWorld_size]; omega, fun k hk _ => Lib.bytesWorld_at_old W e s k hk⟩
theorem grown_then {w W W' : World} {b : Option Nat} (h : w.grownBy W none) (k : W.grownBy W' b) : w.grownBy W' b :=
  ⟨k.os.trans h.os, k.tape.trans h.tape, k.output.trans h.output, Nat.le_trans h.size k.size, fun i hi hn => (k.block i (Nat.lt_of_lt_of_le hi h.size) hn).trans (h.block i hi (fun e => by cases e))⟩
theorem append_conv {w0 W : World} (base : Nat) (hgd : o.guard = none) (s x : Operand) (t e : TypeId)
    (ho : o.op = .call { callee := .builtin .append, args := #[s, x], argTypes := #[t, t] })
    (ht : P.underlying t = some (.slice e)) (hinfo : (P.info? e).map (fun i => (i.zero, i.size, i.bytes)) = some (some (.int .u8 0), 1, 1))
    (v : Value) (xs : List Int) (y : ByteArray) {cc : Nat} (ok : Nat → Prop) (hs : a.eval s = v) (hx : a.eval x = .slice (some ⟨W.heap.size, 0, none⟩) y.size cc)
    (HO : (Kd.int .u8).R e W base ok v xs) (hfresh : ∀ k, W.heap.size ≤ k → ok k) (HB : Below base w0 W) (hbase : base ≤ W.heap.size) (hl : xs.length + y.size ≤ 140737488355328)
    (h : ∀ v1 w1, (Kd.int .u8).R e w1 base ok v1 (xs ++ bytesOf y) → Below base w0 w1 → W.grownBy w1 v.ownBlock → (v1.ownBlock = v.ownBlock ∨ ∃ b, v1.ownBlock = some b ∧ W.heap.size ≤ b) → wpList P ops Q rest (a.put o.dst v1) w1) :
    wpList P ops Q (o :: rest) a (Lib.bytesWorld W e y) := by
  have hg0 := grown_bytes W e y
  have hsz : W.heap.size ≤ (Lib.bytesWorld W e y).heap.size := by rw [Lib.bytesWorld_size]; omega
  have HR := bytes_reads W e y (by omega)
  refine Kd.R_append_rows (Kd.int .u8) (w0 := w0) base hgd s x t e (.int .u8 0) 1 ho ht hinfo rfl (by decide) (by decide) v xs (bytesOf y) _ y.size cc ok (fun _ => False) hs hx
    (Kd.R_below HO (bytes_below (Below.refl _ _) (Nat.le_refl _) e y)) (Kd.C_of_reads (enc := Value.int .u8) (d := (0 : Int)) (readsInt_of.1 HR)) (fun _ _ h => h) (fun _ h => h.elim) (fun k hk => hfresh k (Nat.le_trans hsz hk)) (bytes_below HB hbase e y) (Nat.le_trans hbase hsz) (by omega) ?_
  intro v1 w1 h1 h2 h3 h4
  exact h v1 w1 h1 h2 (grown_then hg0 h3) (h4.imp id (fun ⟨b, hb, hk⟩ => ⟨b, hb, Nat.le_trans hsz hk⟩))
end
end Go.Proofs.Ytadhngelhognaaa.Cnv
