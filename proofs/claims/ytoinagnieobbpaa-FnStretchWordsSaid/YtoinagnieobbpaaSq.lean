/- Words that the walks use. -/
import Derived.Test.YtoinagnieobbpaaWWords
import Derived.Test.YtoinagnieobbpaaWLast
import Derived.Test.YtoinagnieobbpaaWApart
import Derived.Test.YtoinagnieobbpaaWMore
namespace Go.Proofs.Ytoinagnieobbpaa
open Go.RowKit Go.Proofs.YtoinagnieobbpaaW.PrintWords Go.Proofs.YtoinagnieobbpaaW.PrintLast Go.Proofs.YtoinagnieobbpaaW.PrintMore
set_option linter.defProp false
def aR := @Kd.R_alloc
def nR := @Kd.R_drewN
def dR := @Kd.R_drew
def aS := @Kd.S_alloc
def aC := @Kd.C_alloc
def nC := @Kd.C_drewN
def dC := @Kd.C_drew
def aB := @blk_alloc
def nB := @blk_drewN
def dB := @blk_drew
def aZ := @below_alloc
def nZ := @pw_below_drewN
def dZ := @below_drew1
def sZ := @below_set
def mk0 := @Aside0.mk
abbrev T : Bool := true
abbrev F : Bool := false
theorem sA {α : Type} (l : List α) (i : Nat) (x : α) : l.toArray.setIfInBounds i x = (l.set i x).toArray := by simp
theorem sO {α : Type} (a b : α) (l : List α) : (a :: l).set 0 b = b :: l := rfl
theorem sS {α : Type} (a b : α) (l : List α) (n : Nat) : (a :: l).set (n + 1) b = a :: l.set n b := rfl
theorem lD {α : Type} {i : Nat} {l : List α} : (l.drop i).length = l.length - i := List.length_drop
theorem lT {α : Type} {i : Nat} {l : List α} : (l.take i).length = min i l.length := List.length_take
theorem mA {α β : Type} (f : α → β) (l : List α) : l.toArray.map f = (l.map f).toArray := by simp
theorem mC {α β : Type} (f : α → β) (a : α) (l : List α) : (a :: l).map f = f a :: l.map f := rfl
theorem mN {α β : Type} (f : α → β) : ([] : List α).map f = [] := rfl
theorem kK {W0 W w1 : World} {g : Nat} {o : Obj} (h : W0.heap[g]? = some o) (hb : Below W.heap.size W w1) (hc : W0.heap[g]? = some o → W.heap[g]? = some o := by intro h_; (with_reducible repeat (first | apply nB | apply dB | apply aB)); exact h_) : w1.heap[g]? = some o := blk_below (hc h) hb
theorem kN {W0 W : World} {g : Nat} {o : Obj} (h : W0.heap[g]? = some o) (hc : W0.heap[g]? = some o → W.heap[g]? = some o := by intro h_; (with_reducible repeat (first | apply nB | apply dB | apply aB)); exact h_) : W.heap[g]? = some o := hc h
theorem kL {W0 W : World} {g : Nat} {o : Obj} (h : W0.heap[g]? = some o) (hc : W0.heap[g]? = some o → W.heap[g]? = some o := by intro h_; (with_reducible repeat (first | apply nB | apply dB | apply aB)); exact h_) : g < W.heap.size := blk_lt (hc h)
theorem kB {w W0 W : World} (h : Below w.heap.size w W0) (hc : Below w.heap.size w W0 → Below w.heap.size w W := by intro h_; repeat (first | (with_reducible first | exact h_ | apply aZ | apply nZ | apply dZ | refine sZ ?_ (Aside0.out (by assumption))) | exact h_)) : Below w.heap.size w W := hc h
theorem kS {w W0 W w2 : World} (h : Below w.heap.size w W0) (hb : Below W.heap.size W w2) (hc : Below w.heap.size w W0 → Below w.heap.size w W := by intro h_; repeat (first | (with_reducible first | exact h_ | apply aZ | apply nZ | apply dZ | refine sZ ?_ (Aside0.out (by assumption))) | exact h_)) : Below w.heap.size w w2 := below_step (hc h) hb
theorem kZ {w W0 W : World} (h : Below w.heap.size w W0) (hc : Below w.heap.size w W0 → Below w.heap.size w W := by intro h_; repeat (first | (with_reducible first | exact h_ | apply aZ | apply nZ | apply dZ | refine sZ ?_ (Aside0.out (by assumption))) | exact h_)) : w.heap.size ≤ W.heap.size := below_size (hc h)
theorem bR {α : Type} {d : Kd α} {e base : Nat} {ok : Nat → Prop} {v : Value} {xs : List α} {W0 W w1 : World} (h : Kd.R d e W0 base ok v xs) (hb : Below W.heap.size W w1) (hc : Kd.R d e W0 base ok v xs → Kd.R d e W base ok v xs := by intro h_; (with_reducible repeat (first | apply aR | apply nR | apply dR)); exact h_) : Kd.R d e w1 base ok v xs := Kd.R_below (hc h) hb
theorem rR {α : Type} {d : Kd α} {e base : Nat} {ok : Nat → Prop} {v : Value} {xs : List α} {W0 W : World} (h : Kd.R d e W0 base ok v xs) (hc : Kd.R d e W0 base ok v xs → Kd.R d e W base ok v xs := by intro h_; (with_reducible repeat (first | apply aR | apply nR | apply dR)); exact h_) : Kd.R d e W base ok v xs := hc h
theorem kC {α : Type} {d : Kd α} {A : Option Addr} {n : Nat} {xs : List α} {W0 W : World} (h : Kd.C d W0 A n xs) (hc : Kd.C d W0 A n xs → Kd.C d W A n xs := by intro h_; repeat (first | exact h_ | (with_reducible first | apply aC | apply nC | apply dC))) : Kd.C d W A n xs := hc h
theorem ck3 {w : World} {g : Nat} {t : TypeId} {a0 a1 a2 : Value} (h : w.heap[g]? = some (.cells #[a0, a1, a2] t (0, 0))) : w.cell? ⟨g, 0, none⟩ = some a0 ∧ w.cell? ⟨g, 1, none⟩ = some a1 ∧ w.cell? ⟨g, 2, none⟩ = some a2 := ⟨(blk_cell h 0).trans rfl, (blk_cell h 1).trans rfl, (blk_cell h 2).trans rfl⟩
theorem cz3 {w : World} {g : Nat} {t : TypeId} {a0 a1 a2 : Value} (h : w.heap[g]? = some (.cells #[a0, a1, a2] t (0, 0))) : w.cell? ⟨g, 0, none⟩ = some a0 ∧ w.cell? ⟨g, 1, none⟩ = some a1 ∧ w.cell? ⟨g, 2, none⟩ = some a2 ∧ w.frozen? ⟨g, 0, none⟩ = false ∧ w.frozen? ⟨g, 1, none⟩ = false ∧ w.frozen? ⟨g, 2, none⟩ = false := ⟨(blk_cell h 0).trans rfl, (blk_cell h 1).trans rfl, (blk_cell h 2).trans rfl, blk_frozen h 0, blk_frozen h 1, blk_frozen h 2⟩
end Go.Proofs.Ytoinagnieobbpaa
