import Derived.Test.YtjfoaiabbmkdpaaProg
import Derived.Below
import Derived.Deep.Draws
import Derived.Deep.AppendLies
import Derived.Maps.AppendAt
import Derived.OwnWalk
import Derived.Laws.BytesArg
import Derived.Laws.MakeOwn
import Derived.Laws.OwnMore
import Derived.Deep.OwnRows
import Derived.Tactics
import Derived.Lib.ConvBytes
import Derived.Laws.Slices
import Derived.WalkKit
import Derived.KernelRfl
import Derived.RowKit3
import Derived.Deep.LoopGhost
import Derived.Deep.QuietTactic
import Derived.BigQuiet
import Derived.WideLaws
import Derived.Deep.DeepCutAuto
import Derived.Deep.CutBlock
import Derived.Deep.RegionHeld3
import Derived.Laws.Rows
import Derived.Lib.AppendStr
import Derived.ArgAppend
import Derived.Laws.IdiomCopy
import Derived.OrdersHeld
import Derived.Laws.BitsLemmas
import Derived.RowKit
import Derived.Shelf.Abstract
import Derived.DataElems
import Derived.Test.YtjfoaiabbmkdpaaWWords
import Derived.Test.YtjfoaiabbmkdpaaWLast
import Derived.Test.YtjfoaiabbmkdpaaWTab
import Derived.Test.YtjfoaiabbmkdpaaWQPut
import Derived.Test.YtjfoaiabbmkdpaaWApart
import Derived.Test.YtjfoaiabbmkdpaaWArr
import Derived.Test.YtjfoaiabbmkdpaaWZeros
import Derived.Test.YtjfoaiabbmkdpaaWFoot
import Derived.Test.YtjfoaiabbmkdpaaWKept
import Derived.Test.YtjfoaiabbmkdpaaWShare
import Derived.Test.YtjfoaiabbmkdpaaWN
import Derived.Test.YtjfoaiabbmkdpaaWEqStruct
import Derived.Test.YtjfoaiabbmkdpaaWRepsOne
import Derived.Test.YtjfoaiabbmkdpaaWGuard
import Derived.Test.YtjfoaiabbmkdpaaWNEv
import Derived.Test.YtjfoaiabbmkdpaaWMore
namespace Go.Proofs.Ytjfoaiabbmkdpaa.Fv
open Go.RowKit Go.Proofs.YtjfoaiabbmkdpaaW.PrintWords Go.Proofs.YtjfoaiabbmkdpaaW.PrintLast Go.Proofs.YtjfoaiabbmkdpaaW.PrintMore
set_option linter.unusedVariables false
section
variable {H : Type} {enc : TypeId × Value → H} {P : Program} {w : World}

/-- Whatever can be read at a type is a value of the kind. -/
def Opens (enc : TypeId × Value → H) (P : Program) (w : World) {α : Type} (K : World → α → List Value → Prop) (Ok : α → Prop) (t : TypeId) : Prop :=
  ∀ (fuel : Nat) (cs : List Value) (y : DataW H × List MemPlace), DataW.trod enc P w 0 (fun _ => true) true fuel t cs = some y → ∃ x, K w x cs ∧ Ok x

def OkI (k : IntKind) (n : Int) : Prop := (Lit.int k n).wf = true
def OkB (b : Bool) : Prop := True
def OkStr (s : ByteArray) : Prop := s.size ≤ maxLen
def OkL {α : Type} (Ok : α → Prop) (xs : List α) : Prop := xs.length ≤ maxLen ∧ ∀ x ∈ xs, Ok x

theorem opens_int {t : TypeId} {k : IntKind} (hu : P.underlying t = some (.int k)) : Opens enc P w (Kd.int k).K (OkI k) t := by
  intro fuel cs y h
  cases fuel with
  | zero => simp [DataW.trod] at h
  | succ fuel =>
    unfold DataW.trod at h
    rw [hu] at h
    split at h <;> (try cases ‹some (_ : TypeDesc) = some _›) <;> (try (cases h; done))
    split at h
    · rename_i hc
      obtain ⟨rfl, hw⟩ := hc
      exact ⟨_, rfl, hw⟩
    · cases h

theorem opens_bool {t : TypeId} (hu : P.underlying t = some .bool) : Opens enc P w Kd.bool.K OkB t := by
  intro fuel cs y h
  cases fuel with
  | zero => simp [DataW.trod] at h
  | succ fuel =>
    unfold DataW.trod at h
    rw [hu] at h
    split at h <;> (try cases ‹some (_ : TypeDesc) = some _›) <;> (try (cases h; done))
    exact ⟨_, rfl, trivial⟩

theorem opens_string {t : TypeId} (hu : P.underlying t = some .string) : Opens enc P w Kd.string.K OkStr t := by
  intro fuel cs y h
  cases fuel with
  | zero => simp [DataW.trod] at h
  | succ fuel =>
    unfold DataW.trod at h
    rw [hu] at h
    split at h <;> (try cases ‹some (_ : TypeDesc) = some _›) <;> (try (cases h; done))
    split at h
    · rename_i hs
      exact ⟨_, rfl, hs⟩
    · cases h

theorem mapM_get {α β : Type} {f : α → Option β} : ∀ {l : List α} {r : List β}, l.mapM f = some r → r.length = l.length ∧ ∀ (i : Nat) (a : α), l[i]? = some a → ∃ b, r[i]? = some b ∧ f a = some b := by
  intro l
  induction l with
  | nil => intro r h; simp at h; subst h; exact ⟨rfl, fun i a ha => by simp at ha⟩
  | cons x xs ih =>
    intro r h
    rw [List.mapM_cons] at h
    cases hx : f x with
    | none => rw [hx] at h; simp at h
    | some b =>
      rw [hx] at h
      cases hxs : xs.mapM f with
      | none => rw [hxs] at h; simp at h
      | some bs =>
        rw [hxs] at h
        simp at h
        subst h
        obtain ⟨h1, h2⟩ := ih hxs
        refine ⟨by simp [h1], fun i a ha => ?_⟩
        cases i with
        | zero => simp at ha; subst ha; exact ⟨b, rfl, hx⟩
        | succ i => simp at ha; simpa using h2 i a ha

/-- The list of what each place holds. -/
theorem collect {α : Type} {Q : Nat → α → Prop} (n : Nat) (h : ∀ i, i < n → ∃ x, Q i x) : ∃ xs : List α, xs.length = n ∧ ∀ (i : Nat) (x : α), xs[i]? = some x → Q i x := by
  induction n with
  | zero => exact ⟨[], rfl, fun i x hx => by simp at hx⟩
  | succ n ih =>
    obtain ⟨xs, hl, hq⟩ := ih (fun i hi => h i (by omega))
    obtain ⟨x, hx⟩ := h n (by omega)
    refine ⟨xs ++ [x], by simp [hl], fun i y hy => ?_⟩
    rcases Nat.lt_or_ge i n with hi | hi
    · rw [List.getElem?_append_left (by omega)] at hy
      exact hq i y hy
    · rw [List.getElem?_append_right (by omega)] at hy
      have e : i - xs.length = 0 := by
        rcases Nat.eq_zero_or_pos (i - xs.length) with e | e
        · exact e
        · rw [List.getElem?_eq_none (by simp; omega)] at hy
          cases hy
      rw [e] at hy
      simp at hy
      subst hy
      have : i = n := by omega
      rw [this]
      exact hx

theorem opens_slice {α : Type} {d : Kd α} {Ok : α → Prop} {t e : TypeId} (hu : P.underlying t = some (.slice e)) (hc : P.cellsOf e = d.sz) (he : Opens enc P w d.K Ok e) : Opens enc P w (Kd.slice e d).K (OkL Ok) t := by
  intro fuel cs y h
  cases fuel with
  | zero => simp [DataW.trod] at h
  | succ fuel =>
    unfold DataW.trod at h
    rw [hu] at h
    split at h <;> (try cases ‹some (_ : TypeDesc) = some _›) <;> (try (cases h; done))
    · exact ⟨[], ⟨none, 0, rfl, Nat.le_refl _, rfl, by simp, fun h0 => absurd h0 (by simp)⟩, by unfold maxLen; simp, by simp⟩
    · rename_i a len cap
      simp only at h
      split at h
      · rename_i hg
        obtain ⟨_, hlc, hcm⟩ := hg
        rw [Option.bind_eq_some_iff] at h
        obtain ⟨elems, hm, _⟩ := h
        obtain ⟨hl, hq⟩ := mapM_get hm
        rw [List.length_range] at hl
        obtain ⟨xs, hxl, hxs⟩ := collect (α := α) (Q := fun i x => Ok x ∧ ∃ c : List Value, c.length = d.sz ∧ d.K w x c ∧ ∀ j u, c[j]? = some u → w.cell? (a.add (i * d.sz + j)) = some u) len (fun i hi => by
          obtain ⟨b, _, hb⟩ := hq i i (by rw [List.getElem?_range hi])
          rw [Option.bind_eq_some_iff] at hb
          obtain ⟨c, hcells, htrod⟩ := hb
          obtain ⟨x, hk, ho⟩ := he _ _ _ htrod
          rw [hc] at hcells
          refine ⟨x, ho, c, d.K_len hk, hk, fun j u hj => ?_⟩
          unfold World.cells? at hcells
          split at hcells
          · obtain ⟨hcl, hcq⟩ := mapM_get hcells
            rw [List.length_range] at hcl
            have hjl : j < d.sz := by
              rw [← hcl]
              exact (List.getElem?_eq_some_iff.1 hj).1
            obtain ⟨u', hu', hcell⟩ := hcq j j (by rw [List.getElem?_range hjl])
            rw [hj] at hu'
            injection hu' with hu'
            subst hu'
            rw [show a.add (i * d.sz + j) = (a.add (i * d.sz)).add j from (Addr.add_add a _ _).symm]
            exact hcell
          · cases hcells)
        subst hxl
        refine ⟨xs, ⟨some a, cap, rfl, hlc, rfl, by unfold maxLen at hcm; omega, fun _ => ⟨a, rfl, fun j p hj => ?_⟩⟩, by omega, fun x hx => ?_⟩
        · obtain ⟨_, c, h1, h2, h3⟩ := hxs j p hj
          exact ⟨c, h1, h2, h3⟩
        · obtain ⟨i, hi, rfl⟩ := List.mem_iff_getElem.1 hx
          exact (hxs i _ (List.getElem?_eq_getElem hi)).1
      · cases h

/-- A struct's fields, each by its type, place and size. -/
theorem fields_of {t : TypeId} {fs : Array Field} {m : Nat} {tr : List (TypeId × Nat × Nat)} (hu : P.underlying t = some (.struct fs)) (htr : (fs.toList.map fun f => (f.type, f.offset, P.cellsOf f.type)) = tr) (hm : P.cellsOf t = m)
    {fuel : Nat} {cs : List Value} {y : DataW H × List MemPlace} (h : DataW.trod enc P w 0 (fun _ => true) true fuel t cs = some y) :
    cs.length = m ∧ ∀ p ∈ tr, ∃ n z, DataW.trod enc P w 0 (fun _ => true) true n p.1 ((cs.drop p.2.1).take p.2.2) = some z := by
  cases fuel with
  | zero => simp [DataW.trod] at h
  | succ fuel =>
    unfold DataW.trod at h
    rw [hu] at h
    split at h <;> (try cases ‹some (_ : TypeDesc) = some _›) <;> (try (cases h; done))
    · split at h
      · rename_i hl
        refine ⟨hl.trans hm, fun p hp => ?_⟩
        rw [← htr] at hp
        obtain ⟨f, hf, rfl⟩ := List.mem_map.1 hp
        rw [Option.map_eq_some_iff] at h
        obtain ⟨zs, hz, _⟩ := h
        obtain ⟨i, hi, rfl⟩ := List.mem_iff_getElem.1 hf
        obtain ⟨_, hq⟩ := mapM_get hz
        obtain ⟨z, _, hz2⟩ := hq i _ (List.getElem?_eq_getElem hi)
        exact ⟨fuel, z, hz2⟩
      · cases h
    · exact (‹∀ fs_1 : Array Field, some (TypeDesc.struct fs) = some (TypeDesc.struct fs_1) → False› fs rfl).elim

theorem cut_ (cs : List Value) (o s : Nat) : cs.drop o = (cs.drop o).take s ++ cs.drop (o + s) := by rw [← List.drop_drop, List.take_append_drop]
theorem last_ {cs : List Value} {o s m : Nat} (hl : cs.length = m) (h : m ≤ o + s) : (cs.drop o).take s = cs.drop o := List.take_of_length_le (by rw [List.length_drop]; omega)
theorem toList_eq {a : Array Value} {l : List Value} (h : a.toList = l) : a = l.toArray := by rw [← h]
end
end Go.Proofs.Ytjfoaiabbmkdpaa.Fv
