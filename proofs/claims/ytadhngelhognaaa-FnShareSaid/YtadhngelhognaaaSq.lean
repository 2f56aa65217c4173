/- Words that the walks use. -/
import Derived.Test.YtadhngelhognaaaWWords
import Derived.Test.YtadhngelhognaaaWLast
import Derived.Test.YtadhngelhognaaaWApart
import Derived.Test.YtadhngelhognaaaWMore
namespace Go.Proofs.Ytadhngelhognaaa
open Go.RowKit Go.Proofs.YtadhngelhognaaaW.PrintWords Go.Proofs.YtadhngelhognaaaW.PrintLast Go.Proofs.YtadhngelhognaaaW.PrintMore
set_option linter.defProp false
def aR := @Kd.R_alloc
def nR := @Kd.R_drewN
def dR := @Kd.R_drew
def aS := @Kd.S_alloc
def nS := @Kd.S_drewN
def dS := @Kd.S_drew
def aV := @Kd.V_alloc
def nV := @Kd.V_drewN
def dV := @Kd.V_drew
def aC := @Kd.C_alloc
def nC := @Kd.C_drewN
def dC := @Kd.C_drew
def aN := @Kd.N_alloc
def nN := @Kd.N_drewN
def dN := @Kd.N_drew
def aB := @blk_alloc
def nB := @blk_drewN
def dB := @blk_drew
def aZ := @below_alloc
def nZ := @pw_below_drewN
def dZ := @below_drew1
def sZ := @below_set
def mk0 := @Aside0.mk
abbrev T : Bool := true
abbrev F : Bool := false
theorem sA {α : Type} (l : List α) (i : Nat) (x : α) : l.toArray.setIfInBounds i x = (l.set i x).toArray := by simp
theorem sO {α : Type} (a b : α) (l : List α) : (a :: l).set 0 b = b :: l := rfl
theorem sS {α : Type} (a b : α) (l : List α) (n : Nat) : (a :: l).set (n + 1) b = a :: l.set n b := rfl
theorem mA {α β : Type} (f : α → β) (l : List α) : l.toArray.map f = (l.map f).toArray := by simp
theorem mC {α β : Type} (f : α → β) (a : α) (l : List α) : (a :: l).map f = f a :: l.map f := rfl
theorem mN {α β : Type} (f : α → β) : ([] : List α).map f = [] := rfl
theorem kK {W0 W w1 : World} {g : Nat} {o : Obj} (h : W0.heap[g]? = some o) (hb : Below W.heap.size W w1) (hc : W0.heap[g]? = some o → W.heap[g]? = some o := by intro h_; (with_reducible repeat (first | apply nB | apply dB | apply aB)); exact h_) : w1.heap[g]? = some o := blk_below (hc h) hb
theorem kN {W0 W : World} {g : Nat} {o : Obj} (h : W0.heap[g]? = some o) (hc : W0.heap[g]? = some o → W.heap[g]? = some o := by intro h_; (with_reducible repeat (first | apply nB | apply dB | apply aB)); exact h_) : W.heap[g]? = some o := hc h
theorem kL {W0 W : World} {g : Nat} {o : Obj} (h : W0.heap[g]? = some o) (hc : W0.heap[g]? = some o → W.heap[g]? = some o := by intro h_; (with_reducible repeat (first | apply nB | apply dB | apply aB)); exact h_) : g < W.heap.size := blk_lt (hc h)
theorem kB {w W0 W : World} (h : Below w.heap.size w W0) (hc : Below w.heap.size w W0 → Below w.heap.size w W := by intro h_; repeat (first | (with_reducible first | exact h_ | apply aZ | apply nZ | apply dZ | refine sZ ?_ (Aside0.out (by assumption))) | exact h_)) : Below w.heap.size w W := hc h
theorem kS {w W0 W w2 : World} (h : Below w.heap.size w W0) (hb : Below W.heap.size W w2) (hc : Below w.heap.size w W0 → Below w.heap.size w W := by intro h_; repeat (first | (with_reducible first | exact h_ | apply aZ | apply nZ | apply dZ | refine sZ ?_ (Aside0.out (by assumption))) | exact h_)) : Below w.heap.size w w2 := below_step (hc h) hb
theorem kZ {w W0 W : World} (h : Below w.heap.size w W0) (hc : Below w.heap.size w W0 → Below w.heap.size w W := by intro h_; repeat (first | (with_reducible first | exact h_ | apply aZ | apply nZ | apply dZ | refine sZ ?_ (Aside0.out (by assumption))) | exact h_)) : w.heap.size ≤ W.heap.size := below_size (hc h)
theorem bR {α : Type} {d : Kd α} {e base : Nat} {ok : Nat → Prop} {v : Value} {xs : List α} {W0 W w1 : World} (h : Kd.R d e W0 base ok v xs) (hb : Below W.heap.size W w1) (hc : Kd.R d e W0 base ok v xs → Kd.R d e W base ok v xs := by intro h_; (with_reducible repeat (first | apply aR | apply nR | apply dR)); exact h_) : Kd.R d e w1 base ok v xs := Kd.R_below (hc h) hb
theorem rR {α : Type} {d : Kd α} {e base : Nat} {ok : Nat → Prop} {v : Value} {xs : List α} {W0 W : World} (h : Kd.R d e W0 base ok v xs) (hc : Kd.R d e W0 base ok v xs → Kd.R d e W base ok v xs := by intro h_; (with_reducible repeat (first | apply aR | apply nR | apply dR)); exact h_) : Kd.R d e W base ok v xs := hc h
theorem bN {α : Type} {d : Kd α} {e base : Nat} {ok : Nat → Prop} {v : Value} {xs : List α} {W0 W w1 : World} (h : Kd.N d e W0 base ok v xs) (hb : Below W.heap.size W w1) (hc : Kd.N d e W0 base ok v xs → Kd.N d e W base ok v xs := by intro h_; (with_reducible repeat (first | apply aN | apply nN | apply dN)); exact h_) : Kd.N d e w1 base ok v xs := Kd.N_below (hc h) hb
theorem rN {α : Type} {d : Kd α} {e base : Nat} {ok : Nat → Prop} {v : Value} {xs : List α} {W0 W : World} (h : Kd.N d e W0 base ok v xs) (hc : Kd.N d e W0 base ok v xs → Kd.N d e W base ok v xs := by intro h_; (with_reducible repeat (first | apply aN | apply nN | apply dN)); exact h_) : Kd.N d e W base ok v xs := hc h
theorem bV {α : Type} {d : Kd α} {e base : Nat} {ok : Nat → Prop} {v : Value} {xs : List α} {W0 W w1 : World} (h : Kd.V d e W0 base ok v xs) (hb : Below W.heap.size W w1) (hc : Kd.V d e W0 base ok v xs → Kd.V d e W base ok v xs := by intro h_; (with_reducible repeat (first | apply aV | apply nV | apply dV)); exact h_) : Kd.V d e w1 base ok v xs := Kd.V_below (hc h) hb
theorem rV {α : Type} {d : Kd α} {e base : Nat} {ok : Nat → Prop} {v : Value} {xs : List α} {W0 W : World} (h : Kd.V d e W0 base ok v xs) (hc : Kd.V d e W0 base ok v xs → Kd.V d e W base ok v xs := by intro h_; (with_reducible repeat (first | apply aV | apply nV | apply dV)); exact h_) : Kd.V d e W base ok v xs := hc h
theorem bS {α : Type} {d : Kd α} {e base : Nat} {ok : Nat → Prop} {v : Value} {xs : List α} {W0 W w1 : World} (h : Kd.S d e W0 base ok v xs) (hb : Below W.heap.size W w1) (hc : Kd.S d e W0 base ok v xs → Kd.S d e W base ok v xs := by intro h_; (with_reducible repeat (first | apply aS | apply nS | apply dS)); exact h_) : Kd.S d e w1 base ok v xs := Kd.S_below (hc h) hb
theorem rS {α : Type} {d : Kd α} {e base : Nat} {ok : Nat → Prop} {v : Value} {xs : List α} {W0 W : World} (h : Kd.S d e W0 base ok v xs) (hc : Kd.S d e W0 base ok v xs → Kd.S d e W base ok v xs := by intro h_; (with_reducible repeat (first | apply aS | apply nS | apply dS)); exact h_) : Kd.S d e W base ok v xs := hc h
theorem kC {α : Type} {d : Kd α} {A : Option Addr} {n : Nat} {xs : List α} {W0 W : World} (h : Kd.C d W0 A n xs) (hc : Kd.C d W0 A n xs → Kd.C d W A n xs := by intro h_; repeat (first | exact h_ | (with_reducible first | apply aC | apply nC | apply dC))) : Kd.C d W A n xs := hc h
theorem ck2 {w : World} {g : Nat} {t : TypeId} {a0 a1 : Value} (h : w.heap[g]? = some (.cells #[a0, a1] t (0, 0))) : w.cell? ⟨g, 0, none⟩ = some a0 ∧ w.cell? ⟨g, 1, none⟩ = some a1 := ⟨(blk_cell h 0).trans rfl, (blk_cell h 1).trans rfl⟩
theorem cz2 {w : World} {g : Nat} {t : TypeId} {a0 a1 : Value} (h : w.heap[g]? = some (.cells #[a0, a1] t (0, 0))) : w.cell? ⟨g, 0, none⟩ = some a0 ∧ w.cell? ⟨g, 1, none⟩ = some a1 ∧ w.frozen? ⟨g, 0, none⟩ = false ∧ w.frozen? ⟨g, 1, none⟩ = false := ⟨(blk_cell h 0).trans rfl, (blk_cell h 1).trans rfl, blk_frozen h 0, blk_frozen h 1⟩
theorem ck5 {w : World} {g : Nat} {t : TypeId} {a0 a1 a2 a3 a4 : Value} (h : w.heap[g]? = some (.cells #[a0, a1, a2, a3, a4] t (0, 0))) : w.cell? ⟨g, 0, none⟩ = some a0 ∧ w.cell? ⟨g, 1, none⟩ = some a1 ∧ w.cell? ⟨g, 2, none⟩ = some a2 ∧ w.cell? ⟨g, 3, none⟩ = some a3 ∧ w.cell? ⟨g, 4, none⟩ = some a4 := ⟨(blk_cell h 0).trans rfl, (blk_cell h 1).trans rfl, (blk_cell h 2).trans rfl, (blk_cell h 3).trans rfl, (blk_cell h 4).trans rfl⟩
theorem cz5 {w : World} {g : Nat} {t : TypeId} {a0 a1 a2 a3 a4 : Value} (h : w.heap[g]? = some (.cells #[a0, a1, a2, a3, a4] t (0, 0))) : w.cell? ⟨g, 0, none⟩ = some a0 ∧ w.cell? ⟨g, 1, none⟩ = some a1 ∧ w.cell? ⟨g, 2, none⟩ = some a2 ∧ w.cell? ⟨g, 3, none⟩ = some a3 ∧ w.cell? ⟨g, 4, none⟩ = some a4 ∧ w.frozen? ⟨g, 0, none⟩ = false ∧ w.frozen? ⟨g, 1, none⟩ = false ∧ w.frozen? ⟨g, 2, none⟩ = false ∧ w.frozen? ⟨g, 3, none⟩ = false ∧ w.frozen? ⟨g, 4, none⟩ = false := ⟨(blk_cell h 0).trans rfl, (blk_cell h 1).trans rfl, (blk_cell h 2).trans rfl, (blk_cell h 3).trans rfl, (blk_cell h 4).trans rfl, blk_frozen h 0, blk_frozen h 1, blk_frozen h 2, blk_frozen h 3, blk_frozen h 4⟩
end Go.Proofs.Ytadhngelhognaaa
