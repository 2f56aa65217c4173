/- Steps of a walk, their side facts found by themselves. -/
import Derived.Test.YtjfoaiabbmkdpaaWTab
import Derived.Test.YtjfoaiabbmkdpaaWMore
import Derived.Test.YtjfoaiabbmkdpaaSq
import Derived.KernelRfl
namespace Go.Proofs.Ytjfoaiabbmkdpaa
open Go.RowKit Go.Proofs.YtjfoaiabbmkdpaaW.PrintWords Go.Proofs.YtjfoaiabbmkdpaaW.PrintLast Go.Proofs.YtjfoaiabbmkdpaaW.PrintMore
/-- n marks, those of k's bits are set. -/
def bm (n k : Nat) : Array Bool := ((List.range n).map fun i => k.testBit i).toArray
theorem bE {α β : Type} {x : Option α} {f : α → Option β} {r : β} (h : x.bind f = some r) : ∃ a, Aside0 (x = some a) ∧ f a = some r := by
  obtain ⟨a, h1, h2⟩ := Option.bind_eq_some_iff.mp h
  exact ⟨a, ⟨h1⟩, h2⟩
theorem yB {α β : Type} {e y : α} {f : α → Option β} {r : Option β} (hy : y = e) (h : (some e).bind f = r) : f y = r := by subst hy; exact h
theorem iT {α : Type} {x y r : α} [d : Decidable (true = true)] (h : (if true = true then x else y) = r) : x = r := by rwa [if_pos rfl] at h
theorem iF {α : Type} {x y r : α} [d : Decidable (false = true)] (h : (if false = true then x else y) = r) : y = r := by rwa [if_neg (fun e => Bool.noConfusion e)] at h
theorem oD {p : Prop} [Decidable p] (h : decide p = true := by first | (with_reducible assumption) | assumption) : p := of_decide_eq_true h
theorem nn {α : Type} {r : α} {p : Prop} (h : (none : Option α) = some r) : p := by cases h
theorem eR {α : Sort _} {a b : α} (h : a = b := by first | rfl | (simp [errW_none, errW_some] <;> rfl) | (simp [*, errW_none, errW_some] <;> rfl)) : a = b := h
theorem eS {α : Sort _} {a b : α} (h : a = b := by first | rfl | (simp; done) | (simp [*]; done)) : a = b := h
theorem sD (w : World) (n : Nat) (p : Addr) (u : Value) : (w.drewN n).setCell p u = (w.setCell p u).drewN n := by
  unfold World.setCell World.drewN
  simp only
theorem cD (w : World) (n : Nat) (a : Addr) : (w.drewN n).cell? a = w.cell? a := rfl
theorem cy1 {w : World} {p0 : Addr} {u0 : Value} {a : Addr} {v : Value} (h : (w.setCell p0 u0).cell? a = some v) (n : Nat) : ((w.drewN n).setCell p0 u0).cell? a = some v := by
  simp only [sD, cD]; exact h
theorem cy2 {w : World} {p0 p1 : Addr} {u0 u1 : Value} {a : Addr} {v : Value} (h : ((w.setCell p0 u0).setCell p1 u1).cell? a = some v) (n : Nat) : (((w.drewN n).setCell p0 u0).setCell p1 u1).cell? a = some v := by
  simp only [sD, cD]; exact h
theorem cy3 {w : World} {p0 p1 p2 : Addr} {u0 u1 u2 : Value} {a : Addr} {v : Value} (h : (((w.setCell p0 u0).setCell p1 u1).setCell p2 u2).cell? a = some v) (n : Nat) : ((((w.drewN n).setCell p0 u0).setCell p1 u1).setCell p2 u2).cell? a = some v := by
  simp only [sD, cD]; exact h
theorem cy4 {w : World} {p0 p1 p2 p3 : Addr} {u0 u1 u2 u3 : Value} {a : Addr} {v : Value} (h : ((((w.setCell p0 u0).setCell p1 u1).setCell p2 u2).setCell p3 u3).cell? a = some v) (n : Nat) : (((((w.drewN n).setCell p0 u0).setCell p1 u1).setCell p2 u2).setCell p3 u3).cell? a = some v := by
  simp only [sD, cD]; exact h
theorem cy5 {w : World} {p0 p1 p2 p3 p4 : Addr} {u0 u1 u2 u3 u4 : Value} {a : Addr} {v : Value} (h : (((((w.setCell p0 u0).setCell p1 u1).setCell p2 u2).setCell p3 u3).setCell p4 u4).cell? a = some v) (n : Nat) : ((((((w.drewN n).setCell p0 u0).setCell p1 u1).setCell p2 u2).setCell p3 u3).setCell p4 u4).cell? a = some v := by
  simp only [sD, cD]; exact h
theorem cy6 {w : World} {p0 p1 p2 p3 p4 p5 : Addr} {u0 u1 u2 u3 u4 u5 : Value} {a : Addr} {v : Value} (h : ((((((w.setCell p0 u0).setCell p1 u1).setCell p2 u2).setCell p3 u3).setCell p4 u4).setCell p5 u5).cell? a = some v) (n : Nat) : (((((((w.drewN n).setCell p0 u0).setCell p1 u1).setCell p2 u2).setCell p3 u3).setCell p4 u4).setCell p5 u5).cell? a = some v := by
  simp only [sD, cD]; exact h
theorem cy7 {w : World} {p0 p1 p2 p3 p4 p5 p6 : Addr} {u0 u1 u2 u3 u4 u5 u6 : Value} {a : Addr} {v : Value} (h : (((((((w.setCell p0 u0).setCell p1 u1).setCell p2 u2).setCell p3 u3).setCell p4 u4).setCell p5 u5).setCell p6 u6).cell? a = some v) (n : Nat) : ((((((((w.drewN n).setCell p0 u0).setCell p1 u1).setCell p2 u2).setCell p3 u3).setCell p4 u4).setCell p5 u5).setCell p6 u6).cell? a = some v := by
  simp only [sD, cD]; exact h
section
variable {P : Program} {ops : Array Oper} {Q : Exit → Act → World → Prop} {md : Region.Mode} {S : World → Prop} {ds : List Nat} {t : Bool × List (List Nat × List Nat)} {B : List Nat} {oi : Oper} {v : Value} {fuel : Nat} {l : Array Bool} {a a' : Act} {w : World}
theorem pU (i : Nat) (N : Option Tmp) (l' : Array Bool) (HT : Aside0 (rtab md ops = t)) (h : wpAnyLast P md ops Q S ds fuel l' a' w) (hi : ops[i]? = some oi := by rfl) (hN : oi.dst = N := by rfl) (hc : anyT t l.toList l'.toList i = true := by kernel_rfl)
    (hQ : ∀ c a w, Q (.panic c) (a.put oi.dst v) w → Q (.panic c) a w := by exact fun _ _ _ h => h) (hw : Region.wanted oi (yielded ops a.tmps) = true := by rfl) (hy : ∀ w, (execOp a.eval oi).run P w = .ok (.value v) w := by intro w'; go_simp; with_reducible rfl)
    (ha : a.put N v = a' := by simp only [Act.put,sA,sO,sS,i64_w,i32_w]; rfl) : wpAnyLast P md ops Q S ds (fuel + 1) l a w := pure_ l' hi hN (any_of HT.out hc) hQ (Or.inl ⟨hw, hy⟩) ha h
theorem pX (i : Nat) (N : Option Tmp) (l' : Array Bool) (HT : Aside0 (rtab md ops = t)) (h : wpAnyLast P md ops Q S ds fuel l' a' w) (hi : ops[i]? = some oi := by rfl) (hN : oi.dst = N := by rfl) (hc : anyT t l.toList l'.toList i = true := by kernel_rfl)
    (hQ : ∀ c a w, Q (.panic c) (a.put oi.dst undef) w → Q (.panic c) a w := by exact fun _ _ _ h => h) (hw : Region.wanted oi (yielded ops a.tmps) = false := by rfl)
    (ha : a.put N undef = a' := by simp only [Act.put,sA,sO,sS,i64_w,i32_w]; rfl) : wpAnyLast P md ops Q S ds (fuel + 1) l a w := pure_ l' hi hN (any_of HT.out hc) hQ (Or.inr ⟨hw, rfl⟩) ha h
theorem pT (i : Nat) (N : Option Tmp) (l' : Array Bool) (HT : Aside0 (rtab md ops = t)) (HW : Aside0 (waitsOk t.2 B = true)) (hS : S w) (h : wpAnyLast P md ops Q S ds fuel l' a' w) (hi : ops[i]? = some oi := by rfl) (hN : oi.dst = N := by rfl) (hc : takeW t B ds l.toList l'.toList i = true := by kernel_rfl)
    (hQ : ∀ c a w, Q (.panic c) (a.put oi.dst v) w → Q (.panic c) a w := by exact fun _ _ _ h => h) (hw : Region.wanted oi (yielded ops a.tmps) = true := by rfl) (hy : ∀ w, S w → (execOp a.eval oi).run P w = .ok (.value v) w := by intro w' hs; repeat (obtain ⟨_, hs⟩ := hs); (go_simp; with_reducible rfl))
    (ha : a.put N v = a' := by simp only [Act.put,sA,sO,sS,i64_w,i32_w]; rfl) : wpAnyLast P md ops Q S ds (fuel + 1) l a w := take_ l' hi hN (take_ofW HT.out HW.out hc) hQ (Or.inl ⟨hw, hy⟩) hS ha h
theorem pD (HT : Aside0 (rtab md ops = t)) {n : Nat} (h : Q .normal a w) (hr : (readyT t.2 l.toList == []) = true := by kernel_rfl) : wpAnyLast P md ops Q S ds n l a w := done_ (done_of HT.out hr) h
theorem pN (N : Option Tmp) {b : Act} {u : Value} (h : wpAnyLast P md ops Q S ds fuel l a' w) (ha : b.put N u = a' := by simp only [Act.put,sA,sO,sS,i64_w,i32_w]; rfl) : wpAnyLast P md ops Q S ds fuel l (b.put N u) w := norm_ ha h
theorem pO (i : Nat) (N : Option Tmp) (l' : Array Bool) (HT : Aside0 (rtab md ops = t)) (h : ∀ K : Act → World → Prop, Shut (∀ a' w', S w' → (S w' → wpAnyLast P md ops Q S ds fuel l' a' w') → K a' w') → if Region.wanted oi (yielded ops a.tmps) = true then Oper.wp P oi a w K Q else K (a.put N undef) w)
    (hi : ops[i]? = some oi := by rfl) (hN : oi.dst = N := by rfl) (hc : (readyT t.2 l.toList == [i] && l.toList.set i true == l'.toList) = true := by kernel_rfl) (hd : i ∉ ds := by decide) : wpAnyLast P md ops Q S ds (fuel + 1) l a w := one_ l' hi hN (one_of HT.out hc) hd h
theorem pL (i : Nat) (N : Option Tmp) (l' : Array Bool) (HT : Aside0 (rtab md ops = t)) (h : ∀ K : Act → World → Prop, Shut (∀ a' w', wpAnyLast P md ops Q S ds fuel l' a' w' → K a' w') → if Region.wanted oi (yielded ops a.tmps) = true then Oper.wp P oi a w K Q else K (a.put N undef) w)
    (hi : ops[i]? = some oi := by rfl) (hN : oi.dst = N := by rfl) (hc : (readyT t.2 l.toList == [i] && l.toList.set i true == l'.toList) = true := by kernel_rfl) (hd : i ∈ ds := by decide) : wpAnyLast P md ops Q S ds (fuel + 1) l a w := last_ l' hi hN (one_of HT.out hc) hd h
theorem gO {N : Option Tmp} {K : Act → World → Prop} {f : FuncId} {fn : Func} {as : Array Operand} {ts : Array TypeId} (hf : P.funcs[f]? = some fn) (args : Array Value) (h : Calls P f args w fun e w' => ∃ v, e = .returned v ∧ K (a.put N v) w')
    (hname : (fn.name == "runtime.NumGoroutine") = false := by kernel_rfl) (hb : fn.body.isSome = true := by rfl) (hw : Region.wanted oi (yielded ops a.tmps) = true := by rfl) (hN : oi.dst = N := by rfl) (hop : oi.op = .call { callee := .value (.func f), args := as, argTypes := ts } := by rfl)
    (hargs : as.map a.eval = args := by (try simp only [mA,mC,mN]); first | done | rfl | (simp only [List.length_drop,List.length_take]; done) | (simp only [List.length_drop,List.length_take]; rfl)) : if Region.wanted oi (yielded ops a.tmps) = true then Oper.wp P oi a w K Q else K (a.put N undef) w := goes_ hf hname hb args hw hN hop hargs h
theorem gL {rest : List Oper} (N : Option Tmp) {f : FuncId} {fn : Func} {as : Array Operand} {ts : Array TypeId} (hf : P.funcs[f]? = some fn) (args : Array Value) (h : Calls P f args w fun e w' => ∃ v, e = .returned v ∧ wpList P ops Q rest (a.put N v) w')
    (hd : oi.dst = N := by rfl) (hg : oi.guard = none := by rfl) (hname : (fn.name == "runtime.NumGoroutine") = false := by kernel_rfl) (hb : fn.body.isSome = true := by rfl) (hop : oi.op = .call { callee := .value (.func f), args := as, argTypes := ts } := by rfl)
    (hargs : as.map a.eval = args := by (try simp only [mA,mC,mN]); first | done | rfl | (simp only [List.length_drop,List.length_take]; done) | (simp only [List.length_drop,List.length_take]; rfl)) : wpList P ops Q (oi :: rest) a w := goesL_ N hd hg hf hname hb args hop hargs h
end
end Go.Proofs.Ytjfoaiabbmkdpaa
