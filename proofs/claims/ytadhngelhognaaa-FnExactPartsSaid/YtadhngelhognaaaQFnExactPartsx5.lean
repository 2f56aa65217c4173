-- A walk, made by walk.py, a program of this session's.
import Derived.Test.YtadhngelhognaaaQFnExactPartsx0
import Derived.Test.YtadhngelhognaaaQFnExactPartsx1
import Derived.Test.YtadhngelhognaaaQFnExactPartsx4
namespace Go.Proofs.Ytadhngelhognaaa.QFnExactParts
open Go.RowKit Go.Proofs.YtadhngelhognaaaW.PrintWords Go.Proofs.YtadhngelhognaaaW.PrintLast Go.Proofs.YtadhngelhognaaaW.PrintMore
attribute [local go_sem] max2_int min2_int max_two min_two max_three min_three max_four min_four   -- for this text's walks alone
set_option linter.unusedVariables false
set_option linter.unusedSimpArgs false

/-! ### impl_headRows: function 77 -/
def impl_headRows.l0 : Nat → List ByteArray → ByteArray → Int → Int → Option (Int × Int)
 | 0, _, _, _, _ => none
 | k + 1, x0, x1, x6, x8 => if x8 < (x0.length : Int) then (if 0 ≤ x8 then (if (rdOf ByteArray.empty x0 x8).toList = x1.toList then (impl_headRows.l0 k x0 x1 x6 (wrap64 (x8 + 1))) else (some (x6, x8))) else (none)) else (some (x6, x8))
def impl_headRows.f (k : Nat) (l0 : List ByteArray) (a1 : ByteArray) : Option (Int × Int) := (slices_BinarySearch_string_string.f k l0 a1).bind fun bt269 => (impl_headRows.l0 k l0 a1 bt269.1 bt269.1)
theorem impl_headRows.mono_l : ∀ k, (∀ y0 y1 y2 y3, LeO (impl_headRows.l0 k y0 y1 y2 y3) (impl_headRows.l0 (k + 1) y0 y1 y2 y3))
 | 0 => fun _ _ _ _ r h => by simp [impl_headRows.l0] at h
 | k + 1 => by
  have ih0 := impl_headRows.mono_l k
  ·intro y0 y1 y2 y3
   unfold impl_headRows.l0
   repeat' first|(with_reducible first|exact ih0 _ _ _ _|exact slices_BinarySearch_string_string.mono _ _ _|exact LeO.refl _|exact LeO.none _|refine LeO.ite ?_ ?_|refine LeO.bind ?_ (fun _ => ?_))|exact LeO.none _|refine LeO.ite ?_ ?_|refine LeO.bind ?_ (fun _ => ?_)
theorem impl_headRows.mono : ∀ a0 a1 k, LeO (impl_headRows.f k a0 a1) (impl_headRows.f (k + 1) a0 a1) := by
 intro a0 a1 k
 have ih0 := impl_headRows.mono_l k
 unfold impl_headRows.f
 repeat' first|(with_reducible first|exact ih0 _ _ _ _|exact slices_BinarySearch_string_string.mono _ _ _|exact LeO.refl _|exact LeO.none _|refine LeO.ite ?_ ?_|refine LeO.bind ?_ (fun _ => ?_))|exact LeO.none _|refine LeO.ite ?_ ?_|refine LeO.bind ?_ (fun _ => ?_)
set_option maxHeartbeats 8000000 in
set_option maxRecDepth 100000 in
theorem impl_headRows.calls (k : Nat) (A0 : Option Addr) (c0 : Nat) (l0 : List ByteArray) (a1 : ByteArray) (r1 : Int) (r2 : Int) (w : World) (hr0 : Kd.C Kd.string w A0 l0.length l0) (hc0 : l0.length ≤ c0) (h : impl_headRows.f k l0 a1 = some (r1, r2)) :
  Calls Try.prog 77 #[.slice A0 l0.length c0, .string a1] w fun e w' => e = .returned (.tuple #[.int .i64 r1, .int .i64 r2]) ∧ Drawn0 w w' := by
 have HR0:=mk0 hr0
 have HC0:=mk0 hc0
 clear hr0 hc0
 have H:((slices_BinarySearch_string_string.f k l0 a1).bind fun bt269=>(impl_headRows.l0 k l0 a1 bt269.1 bt269.1)) = some (r1,r2):=h
 clear h
 replace H:=Option.bind_eq_some_iff.mp H
 obtain⟨⟨t269,t270⟩,A30,H⟩:=H
 replace H:(impl_headRows.l0 k l0 a1 t269 t269) = some (r1,r2):=H
 have A3:=mk0 A30
 clear A30
 have H':=mk0 H
 clear H
 go_enter Try.func77,Try.ntmps77
 go_wp2_with (first|((with_reducible refine gate_callee (f:=87) rfl ?_);refine gL (some 12) Try.func87 #[.slice A0 l0.length c0,.string a1] ?_;(with_reducible refine (slices_BinarySearch_string_string.calls k _ _ l0 a1 t269 t270 _ ?side1 ?side2 A3.out).mono ?_);(case side1=>repeat (first|exact HR0.out|(with_reducible first|apply aC|apply nC|apply dC)));(case side2=>exact HC0.out);rintro e w' ⟨rfl,⟨nd,rfl⟩⟩;refine⟨_,rfl,?_⟩))
 go_loopg [8] k (fun kq v8 w'=>∃ (x8_1:Int),v8 = .int .i64 x8_1 ∧ Aside0 (impl_headRows.l0 kq l0 a1 t269 x8_1 = some (r1,r2)) ∧ Aside0 (kq ≤ k) ∧ Drawn0 w w')
 case atStart=>exact⟨(t269),(by first|rfl|(simp;done)|(simp [*];done)),H',⟨Nat.le_refl _⟩,by repeat (first|exact Drawn0.refl _|apply Drawn0.step)⟩
 case round =>
  clear H'
  try clear p2
  obtain⟨x8_1,rfl,HA,HK1,⟨m1,rfl⟩⟩:=hrel
  cases gk with
  | zero=>exact absurd HA.out (by simp [impl_headRows.l0])
  | succ k1 =>
   have H:=HA.out
   clear HA
   simp only [impl_headRows.l0] at H
   by_cases c4:x8_1 < (l0.length:Int)
   ·rw [if_pos c4] at H
    have c4b0:decide (x8_1 < (l0.length:Int)) = true:=decide_eq_true c4
    clear c4
    by_cases c5:0 ≤ x8_1
    ·rw [if_pos c5] at H
     have c5b0:decide (0 ≤ x8_1) = true:=decide_eq_true c5
     clear c5
     by_cases c6:(rdOf ByteArray.empty l0 x8_1).toList = a1.toList
     ·rw [if_pos c6] at H
      have c6b0:((rdOf ByteArray.empty l0 x8_1).toList == a1.toList) = true:=beq_iff_eq.mpr c6
      have c6b1:((rdOf ByteArray.empty l0 x8_1).toList != a1.toList) = false:=bne_eq_false_iff_eq.mpr c6
      clear c6
      have H':=mk0 H
      clear H
      have p271:0 ≤ (x8_1:Int):=of_decide_eq_true (by first|(with_reducible assumption)|assumption)
      have q271:x8_1 < (l0.length:Int):=of_decide_eq_true (by first|(with_reducible assumption)|assumption)
      obtain⟨ad271,e271,hx271_0⟩:=Kd.at_string HR0.out x8_1 p271 q271
      cases e271
      replace p271:=eq_true p271
      replace q271:=eq_true q271
      go_wp2
      go_roundg k1
      case measure=>have:=HK1.out;omega
      case rel=>exact⟨(wrap64 (x8_1 + 1)),(by first|rfl|(simp;done)|(simp [*];done)),H',⟨by have:=HK1.out;omega⟩,by repeat (first|exact Drawn0.refl _|apply Drawn0.step)⟩
     ·rw [if_neg c6] at H
      have c6b0:((rdOf ByteArray.empty l0 x8_1).toList == a1.toList) = false:=beq_eq_false_iff_ne.mpr c6
      have c6b1:((rdOf ByteArray.empty l0 x8_1).toList != a1.toList) = true:=bne_iff_ne.mpr c6
      simp only [Option.some.injEq,Prod.mk.injEq] at H
      obtain⟨rfl,rfl⟩:=H
      have p271:0 ≤ (x8_1:Int):=of_decide_eq_true (by first|(with_reducible assumption)|assumption)
      have q271:x8_1 < (l0.length:Int):=of_decide_eq_true (by first|(with_reducible assumption)|assumption)
      obtain⟨ad271,e271,hx271_0⟩:=Kd.at_string HR0.out x8_1 p271 q271
      cases e271
      replace p271:=eq_true p271
      replace q271:=eq_true q271
      go_wp2
      go_ret2
      exact⟨by first|rfl|(simp;done)|(simp [*];done),by repeat (first|exact Drawn0.refl _|apply Drawn0.step)⟩
    ·rw [if_neg c5] at H
     exact absurd H (by simp)
   ·rw [if_neg c4] at H
    have c4b0:decide (x8_1 < (l0.length:Int)) = false:=decide_eq_false c4
    clear c4
    simp only [Option.some.injEq,Prod.mk.injEq] at H
    obtain⟨rfl,rfl⟩:=H
    go_wp2
    go_ret2
    exact⟨by first|rfl|(simp;done)|(simp [*];done),by repeat (first|exact Drawn0.refl _|apply Drawn0.step)⟩

/-! ### k48c: the parts as the program makes them: their words' blocks are frozen behind their ends -/
def k48c : Kd S48 := Kd.iso (Kd.pair Cbk.cv (Kd.pair (Kd.int .i64) (Kd.pair (Kd.int .i64) (Kd.pair (Kd.int .i64) (Kd.int .i64))))) (fun x : S48 => (x.f0, x.f1, x.f2, x.f3, x.f4))
theorem k48c_openM {w : World} {base : Nat} {ok : Nat → Prop} {x : S48} {cs : List Value} (h : k48c.M w base ok x cs) : ∃ v0, cs = [v0, .int .i64 x.f1, .int .i64 x.f2, .int .i64 x.f3, .int .i64 x.f4] ∧ Cbk.OwnF w base ok v0 x.f0 := by
  obtain ⟨_, _, rfl, ⟨v0, rfl, g0⟩, ⟨_, _, rfl, rfl, ⟨_, _, rfl, rfl, ⟨_, _, rfl, rfl, rfl⟩⟩⟩⟩ := h
  exact ⟨v0, rfl, g0⟩
theorem k48c_mkM (w : World) (base : Nat) (ok : Nat → Prop) (x : S48) {v0 : Value} (g0 : Cbk.OwnF w base ok v0 x.f0) : k48c.M w base ok x [v0, .int .i64 x.f1, .int .i64 x.f2, .int .i64 x.f3, .int .i64 x.f4] := ⟨[v0], [.int .i64 x.f1, .int .i64 x.f2, .int .i64 x.f3, .int .i64 x.f4], rfl, ⟨v0, rfl, g0⟩, ⟨[.int .i64 x.f1], [.int .i64 x.f2, .int .i64 x.f3, .int .i64 x.f4], rfl, rfl, ⟨[.int .i64 x.f2], [.int .i64 x.f3, .int .i64 x.f4], rfl, rfl, ⟨[.int .i64 x.f3], [.int .i64 x.f4], rfl, rfl, rfl⟩⟩⟩⟩
theorem k48c_C {w : World} {A : Option Addr} {n : Nat} {xs : List S48} (h : Kd.C k48c w A n xs) : Kd.C k48 w A n xs := h

/-! ### impl_parts: function 55 (by hand) -/
def impl_parts.l0 : Nat → List ByteArray → List ByteArray → List ByteArray → Int → List S48 → Option (List S48)
 | 0, _, _, _, _, _ => none
 | k + 1, a, b, ws, i, out => if i < (ws.length : Int) then (if 0 ≤ i then ((impl_headRows.f k a (rdOf ByteArray.empty ws i)).bind fun p => (impl_headRows.f k b (rdOf ByteArray.empty ws i)).bind fun q => if out.length < 1048576 then impl_parts.l0 k a b ws (wrap64 (i + 1)) (out ++ [(⟨bytesOf (rdOf ByteArray.empty ws i), p.1, p.2, q.1, q.2⟩ : S48)]) else none) else none) else some out
def impl_parts.f (k : Nat) (l0 : List Int) (l1 : List Int) (a2 : Int) : Option (List S48) := (impl_heads.f k l0 a2).bind fun a => (impl_heads.f k l1 a2).bind fun b => (slices_Concat_string_string.f k [a, b]).bind fun c => if c.length ≤ 1048576 ∧ (∀ x ∈ c, x.size ≤ 1048576) then impl_parts.l0 k a b (Srt.wordsOf c) 0 [] else none
theorem impl_parts.mono_l0 : ∀ k y0 y1 y2 y3 y4, LeO (impl_parts.l0 k y0 y1 y2 y3 y4) (impl_parts.l0 (k + 1) y0 y1 y2 y3 y4)
 | 0 => fun _ _ _ _ _ r h => by simp [impl_parts.l0] at h
 | k + 1 => by
  intro y0 y1 y2 y3 y4
  have ih0 := impl_parts.mono_l0 k
  unfold impl_parts.l0
  exact LeO.ite (LeO.ite (LeO.bind (impl_headRows.mono _ _ _) (fun _ => LeO.bind (impl_headRows.mono _ _ _) (fun _ => LeO.ite (ih0 _ _ _ _ _) (LeO.none _)))) (LeO.none _)) (LeO.refl _)
theorem impl_parts.mono : ∀ a0 a1 a2 k, LeO (impl_parts.f k a0 a1 a2) (impl_parts.f (k + 1) a0 a1 a2) := by
  intro a0 a1 a2 k
  unfold impl_parts.f
  exact LeO.bind (impl_heads.mono _ _ _) (fun _ => LeO.bind (impl_heads.mono _ _ _) (fun _ => LeO.bind (slices_Concat_string_string.mono _ _) (fun _ => LeO.ite (impl_parts.mono_l0 _ _ _ _ _ _) (LeO.none _))))
set_option maxHeartbeats 8000000 in
set_option maxRecDepth 100000 in
theorem impl_parts.calls (k : Nat) (A0 : Option Addr) (c0 : Nat) (l0 : List Int) (A1 : Option Addr) (c1 : Nat) (l1 : List Int) (a2 : Int) (r : List S48) (w : World) (hr0 : Kd.C (Kd.int .u8) w A0 l0.length l0) (hc0 : l0.length ≤ c0) (hr1 : Kd.C (Kd.int .u8) w A1 l1.length l1) (hc1 : l1.length ≤ c1) (h : impl_parts.f k l0 l1 a2 = some r) :
    Calls Try.prog 55 #[.slice A0 l0.length c0, .slice A1 l1.length c1, .int .i64 a2] w fun e w' => ∃ v0_ : Value, e = .returned (v0_) ∧ Kd.S k48c 48 w' w.heap.size (fun _ => True) v0_ r ∧ Below w.heap.size w w' := by
  unfold impl_parts.f at h
  obtain ⟨a, ha, h⟩ := Option.bind_eq_some_iff.mp h
  obtain ⟨b, hb, h⟩ := Option.bind_eq_some_iff.mp h
  obtain ⟨c, hcc, h⟩ := Option.bind_eq_some_iff.mp h
  by_cases hm : c.length ≤ 1048576 ∧ (∀ x ∈ c, x.size ≤ 1048576)
  rotate_left
  · rw [if_neg hm] at h
    exact absurd h (by simp)
  rw [if_pos hm] at h
  have HA := Aside0.mk ha
  have HBB := Aside0.mk hb
  have HCC := Aside0.mk hcc
  have HM := Aside0.mk hm
  have H := Aside0.mk h
  have HR0 := Aside0.mk hr0
  have HC0 := Aside0.mk hc0
  have HR1 := Aside0.mk hr1
  have HC1 := Aside0.mk hc1
  clear ha hb hcc hm h hr0 hc0 hr1 hc1
  go_enter Try.func55, Try.ntmps55
  go_wp2_with (first
    | (go_at_call 72; (with_reducible refine (impl_heads.calls k A0 c0 l0 a2 a w ?s1 ?s2 HA.out).mono ?_); (case s1 => exact HR0.out); (case s2 => exact HC0.out); rintro e w1 ⟨va, rfl, ra, ba⟩; obtain ⟨Aa, ca, ea⟩ := Kd.R_slice ra; subst ea; have SA1 := Aside0.mk ra; have B1 := Aside0.mk ba; clear ra ba)
    | (go_at_call 72; (with_reducible refine (impl_heads.calls k A1 c1 l1 a2 b w1 ?s1 ?s2 HBB.out).mono ?_); (case s1 => exact Kd.C_below HR1.out B1.out); (case s2 => exact HC1.out); rintro e w2 ⟨vb, rfl, rb, bb⟩; obtain ⟨Ab, cb, eb⟩ := Kd.R_slice rb; subst eb; have SA2 := Aside0.mk (Kd.R_below SA1.out bb); have SB2 := Aside0.mk (Kd.R_lower rb B1.out.size); have B2 := Aside0.mk (below_then B1.out B1.out.size bb); clear rb bb)
    | (go_at_call 76; (refine (slices_Concat_string_string.calls k (some ⟨w2.heap.size, 0, none⟩) 2 [a, b] c _ ?s1 ?s2 HCC.out).mono ?_); (case s1 => exact Srt.two_rows SA2.out SB2.out (below_alloc (Below.refl _ _) _) (blk_new w2 _)); (case s2 => exact Nat.le_refl _); rintro e w3 ⟨vc, rfl, rc, bc⟩; obtain ⟨Ac, cc, ec⟩ := Kd.R_slice rc; subst ec; have hb3 := below_then (below_alloc (Below.refl w2.heap.size w2) _) (below_alloc (Below.refl w2.heap.size w2) _).size bc; have SA3 := Aside0.mk (Kd.R_mono (Kd.R_bound (Kd.R_below SA2.out hb3)) (fun q hq => hq.2.2.1)); have SB3 := Aside0.mk (Kd.R_mono (Kd.R_bound (Kd.R_below SB2.out hb3)) (fun q hq => hq.2.2.1)); have B3 := Aside0.mk (below_then B2.out B2.out.size hb3); have SC3 := Aside0.mk (Kd.R_lower rc (Nat.le_trans B2.out.size (below_alloc (Below.refl w2.heap.size w2) _).size)); clear rc bc hb3)
    | (go_at_call 75; (with_reducible refine (Srt.valuesOf _ Ac c.length cc rfl w3).mono ?_); rintro e w' ⟨rfl, rfl⟩)
    | (go_at_call 74; (with_reducible refine (Srt.sortedOf (.slice Ac c.length cc) w3.heap.size w.heap.size (fun _ => True) c HM.out.1 _ ?s1 ?s2).mono ?_); (case s1 => exact (blk_cell (blk_new w3 _) 0).trans rfl); (case s2 => exact Kd.R_alloc SC3.out _); rintro e w4 ⟨vs, rfl, rs, bs⟩; have hb4 := below_then (below_alloc (Below.refl w3.heap.size w3) (.cells #[.slice Ac c.length cc] 82)) (below_alloc (Below.refl w3.heap.size w3) _).size bs; have SA4 := Aside0.mk (Kd.R_below SA3.out hb4); have SB4 := Aside0.mk (Kd.R_below SB3.out hb4); have B4 := Aside0.mk (below_then B3.out B3.out.size hb4); have SS4 := Aside0.mk (Kd.R_lower rs (below_alloc (Below.refl w3.heap.size w3) _).size); obtain ⟨As, cs, es⟩ := Kd.R_slice rs; subst es; clear rs bs hb4)
    | (go_at_call 73; (with_reducible refine (Srt.compactOf (.slice As (Srt.sortedS c).length cs) (fun _ => True) (Srt.sortedS c) w w4 B4.out (Kd.R_lower SS4.out B3.out.size) ?s1).mono ?_); (case s1 => rw [Srt.sortedS_len]; exact HM.out.1); rintro e w5 ⟨vw, rfl, rw5, b5, g5⟩; rw [Srt.words_eq] at rw5; obtain ⟨ws, hws⟩ : ∃ q, Srt.wordsOf c = q := ⟨_, rfl⟩; rw [hws] at rw5; have HWE := Aside0.mk hws; clear hws; obtain ⟨Aw, cw, ew⟩ := Kd.R_slice rw5; subst ew; have SW := Aside0.mk rw5; have SA := Aside0.mk (Kd.R_mono (Kd.R_grown SA4.out g5 (fun q hq e => by have := Kd.R_base SS4.out q e.symm; omega)) (fun _ _ => trivial) : Kd.string.R 9 w5 w.heap.size (fun _ => True) (.slice Aa a.length ca) a); have SB := Aside0.mk (Kd.R_mono (Kd.R_grown SB4.out g5 (fun q hq e => by have := Kd.R_base SS4.out q e.symm; omega)) (fun _ _ => trivial) : Kd.string.R 9 w5 w.heap.size (fun _ => True) (.slice Ab b.length cb) b); have B5 := Aside0.mk b5; clear rw5 b5 g5))
  have HWS := Aside0.mk (fun x hx => HM.out.2 x (Srt.words_mem (xs := c) (x := x) hx))
  rw [HWE.out] at H HWS
  clear HWE SA1 SB2 SA2 SA3 SB3 SA4 SB4 SC3 SS4 B1 B2 B3 B4 HA HBB HCC HM HR0 HC0 HR1 HC1
  go_loopg [10, 29] k (fun kq v10 v29 W => ∃ (out : List S48) (x : Int), v29 = .int .i64 x ∧ Aside0 (impl_parts.l0 kq a b ws x out = some r) ∧ Aside0 (kq ≤ k) ∧ Aside0 (Kd.S k48c 48 W w.heap.size (fun _ => True) v10 out) ∧ Aside0 (Kd.string.R 9 W w.heap.size (fun _ => True) (.slice Aa a.length ca) a) ∧ Aside0 (Kd.string.R 9 W w.heap.size (fun _ => True) (.slice Ab b.length cb) b) ∧ Aside0 (Kd.string.R 9 W w.heap.size (fun _ => True) (.slice Aw ws.length cw) ws) ∧ Aside0 (Below w.heap.size w W))
  case atStart => exact ⟨[], 0, rfl, H, ⟨Nat.le_refl _⟩, ⟨Kd.S_nil _ _ _ _ _⟩, SA, SB, SW, B5⟩
  case round =>
    clear H SA SB SW B5
    obtain ⟨out, x, rfl, HA, HK, HO, SA, SB, SW, HB⟩ := hrel
    cases gk with
    | zero => exact absurd HA.out (by simp [impl_parts.l0])
    | succ k1 =>
      have H := HA.out
      clear HA
      simp only [impl_parts.l0] at H
      by_cases c1 : x < (ws.length : Int)
      rotate_left
      · rw [if_neg c1] at H
        have c1b : decide (x < (ws.length : Int)) = false := decide_eq_false c1
        clear c1
        obtain rfl := Option.some.inj H
        clear H
        obtain ⟨Ao, co, eo⟩ := Kd.S_slice HO.out
        subst eo
        go_wp2
        go_ret
        exact ⟨_, rfl, HO.out, HB.out⟩
      rw [if_pos c1] at H
      by_cases c2 : 0 ≤ x
      rotate_left
      · rw [if_neg c2] at H
        exact absurd H (by simp)
      rw [if_pos c2] at H
      obtain ⟨⟨p1, p2⟩, hp, H⟩ := Option.bind_eq_some_iff.mp H
      obtain ⟨⟨q1, q2⟩, hq, H⟩ := Option.bind_eq_some_iff.mp H
      by_cases c3 : out.length < 1048576
      rotate_left
      · rw [if_neg c3] at H
        exact absurd H (by simp)
      rw [if_pos c3] at H
      have c1b : decide (x < (ws.length : Int)) = true := decide_eq_true c1
      obtain ⟨ad, ead, hx⟩ := Kd.at_string (Kd.R_reads' SW.out).2.2 x c2 c1
      subst ead
      have hmem : rdOf ByteArray.empty ws x ∈ ws := by
        unfold rdOf
        rw [List.getD_eq_getElem?_getD, List.getElem?_eq_getElem (by omega)]
        exact List.getElem_mem (by omega)
      have hsz := HWS.out _ hmem
      obtain ⟨s, hs⟩ : ∃ q, rdOf ByteArray.empty ws x = q := ⟨_, rfl⟩
      rw [hs] at hx hsz hp hq H
      have HP := Aside0.mk hp
      have HQ := Aside0.mk hq
      have HSZ := Aside0.mk hsz
      have H' := Aside0.mk H
      have LM := Aside0.mk c3
      clear hp hq hsz H c3 hs hmem
      obtain ⟨Ao, co, eo⟩ := Kd.S_slice HO.out
      subst eo
      have hcv := print_bytes (P := Try.prog) 9 22 5 Try.underlying9 Try.underlying22 Try.underlying5 s wr
      go_wp2_with (first | ((with_reducible refine gate_dst (N := 13) rfl ?_); refine box_event ?hg (N := 13) ?hd (cs := #[.slice none 0 0, .int .i64 0, .int .i64 0, .int .i64 0, .int .i64 0]) (t := 48) ?hr ?_; (case hd => rfl); (case hg => rfl); (case hr => first | (go_simp; done) | (go_simp; rfl)); intro g hg_ w6 hbx hb; have RD := Aside0.mk (show Srt.Rd wr w6 s g #[.slice none 0 0, .int .i64 0, .int .i64 0, .int .i64 0, .int .i64 0] from ⟨below_then (bytes_below (Below.refl wr.heap.size wr) (Nat.le_refl _) 5 s) (bytes_below (Below.refl wr.heap.size wr) (Nat.le_refl _) 5 s).size hb, hb.block _ (by rw [Lib.bytesWorld_size]; omega), hbx, by rw [hg_, Lib.bytesWorld_size]; omega⟩); clear hg_ hbx hb) | ((with_reducible refine gate_store (t := 48) (p := 13) (v := .tmp 35) rfl ?_); refine store_event (t := 48) (p := 13) (v := .tmp 35) (w1 := (World.setCell (World.setCell (World.setCell (World.setCell (World.setCell w6 ⟨g, 0, none⟩ (.slice (some ⟨wr.heap.size, 0, none⟩) s.size (grownCap wr s.size 0 5))) ⟨g, 1, none⟩ (.int .i64 0)) ⟨g, 2, none⟩ (.int .i64 0)) ⟨g, 3, none⟩ (.int .i64 0)) ⟨g, 4, none⟩ (.int .i64 0))) ?hg ?ho ?hn ?hr ?_; (case ho => rfl); (case hg => rfl); (case hn => rfl); (case hr => have c0_ : _ = some (Value.slice none 0 0) := (blk_cell RD.out.bx 0).trans rfl; have c1_ : _ = some (Value.int .i64 0) := (blk_cell RD.out.bx 1).trans rfl; have c2_ : _ = some (Value.int .i64 0) := (blk_cell RD.out.bx 2).trans rfl; have c3_ : _ = some (Value.int .i64 0) := (blk_cell RD.out.bx 3).trans rfl; have c4_ : _ = some (Value.int .i64 0) := (blk_cell RD.out.bx 4).trans rfl; have f0_ := blk_frozen RD.out.bx 0; have f1_ := blk_frozen RD.out.bx 1; have f2_ := blk_frozen RD.out.bx 2; have f3_ := blk_frozen RD.out.bx 3; have f4_ := blk_frozen RD.out.bx 4; first | (go_simp; done) | (go_simp; rfl)); intro w7 hw; replace RD := Aside0.mk (RD.out.set (W' := w7) (cs' := #[(.slice (some ⟨wr.heap.size, 0, none⟩) s.size (grownCap wr s.size 0 5)), .int .i64 0, .int .i64 0, .int .i64 0, .int .i64 0]) (by rw [hw]; exact Srt.grown_two (Srt.grown_two (Srt.grown_two (Srt.grown_two (Srt.grown_cell _ g 0 _) (Srt.grown_cell _ g 1 _)) (Srt.grown_cell _ g 2 _)) (Srt.grown_cell _ g 3 _)) (Srt.grown_cell _ g 4 _)) (by rw [hw]; exact blk_put (blk_put (blk_put (blk_put (blk_put RD.out.bx 0 _ rfl) 1 _ rfl) 2 _ rfl) 3 _ rfl) 4 _ rfl)); clear hw) | (go_at_call 77; (with_reducible refine (impl_headRows.calls k1 Aa ca a s p1 p2 w7 ?s1 ?s2 HP.out).mono ?_); (case s1 => exact Kd.C_below (Kd.R_reads' SA.out).2.2 RD.out.be); (case s2 => exact (Kd.R_reads' SA.out).2.1); rintro e w' ⟨rfl, ⟨nd, rfl⟩⟩; replace RD := Aside0.mk (RD.out.drew nd)) | ((with_reducible refine gate_store (t := 3) (p := 42) (v := .tmp 40) rfl ?_); refine store_event (t := 3) (p := 42) (v := .tmp 40) (w1 := (World.setCell (w7.drewN nd) ⟨g, 1, none⟩ (.int .i64 p1))) ?hg ?ho ?hn ?hr ?_; (case ho => rfl); (case hg => rfl); (case hn => rfl); (case hr => have c_ : _ = some (Value.int .i64 0) := (blk_cell RD.out.bx 1).trans rfl; have f_ := blk_frozen RD.out.bx 1; first | (go_simp; done) | (go_simp; rfl)); intro w8 hw; replace RD := Aside0.mk (RD.out.set (W' := w8) (cs' := #[(.slice (some ⟨wr.heap.size, 0, none⟩) s.size (grownCap wr s.size 0 5)), .int .i64 p1, .int .i64 0, .int .i64 0, .int .i64 0]) (by rw [hw]; exact Srt.grown_cell _ g 1 _) (by rw [hw]; exact blk_put RD.out.bx 1 _ rfl)); clear hw) | ((with_reducible refine gate_store (t := 3) (p := 43) (v := .tmp 41) rfl ?_); refine store_event (t := 3) (p := 43) (v := .tmp 41) (w1 := (World.setCell w8 ⟨g, 2, none⟩ (.int .i64 p2))) ?hg ?ho ?hn ?hr ?_; (case ho => rfl); (case hg => rfl); (case hn => rfl); (case hr => have c_ : _ = some (Value.int .i64 0) := (blk_cell RD.out.bx 2).trans rfl; have f_ := blk_frozen RD.out.bx 2; first | (go_simp; done) | (go_simp; rfl)); intro w9 hw; replace RD := Aside0.mk (RD.out.set (W' := w9) (cs' := #[(.slice (some ⟨wr.heap.size, 0, none⟩) s.size (grownCap wr s.size 0 5)), .int .i64 p1, .int .i64 p2, .int .i64 0, .int .i64 0]) (by rw [hw]; exact Srt.grown_cell _ g 2 _) (by rw [hw]; exact blk_put RD.out.bx 2 _ rfl)); clear hw) | (go_at_call 77; (with_reducible refine (impl_headRows.calls k1 Ab cb b s q1 q2 w9 ?s1 ?s2 HQ.out).mono ?_); (case s1 => exact Kd.C_below (Kd.R_reads' SB.out).2.2 RD.out.be); (case s2 => exact (Kd.R_reads' SB.out).2.1); rintro e w' ⟨rfl, ⟨ne, rfl⟩⟩; replace RD := Aside0.mk (RD.out.drew ne)) | ((with_reducible refine gate_store (t := 3) (p := 50) (v := .tmp 48) rfl ?_); refine store_event (t := 3) (p := 50) (v := .tmp 48) (w1 := (World.setCell (w9.drewN ne) ⟨g, 3, none⟩ (.int .i64 q1))) ?hg ?ho ?hn ?hr ?_; (case ho => rfl); (case hg => rfl); (case hn => rfl); (case hr => have c_ : _ = some (Value.int .i64 0) := (blk_cell RD.out.bx 3).trans rfl; have f_ := blk_frozen RD.out.bx 3; first | (go_simp; done) | (go_simp; rfl)); intro w10 hw; replace RD := Aside0.mk (RD.out.set (W' := w10) (cs' := #[(.slice (some ⟨wr.heap.size, 0, none⟩) s.size (grownCap wr s.size 0 5)), .int .i64 p1, .int .i64 p2, .int .i64 q1, .int .i64 0]) (by rw [hw]; exact Srt.grown_cell _ g 3 _) (by rw [hw]; exact blk_put RD.out.bx 3 _ rfl)); clear hw) | ((with_reducible refine gate_store (t := 3) (p := 51) (v := .tmp 49) rfl ?_); refine store_event (t := 3) (p := 51) (v := .tmp 49) (w1 := (World.setCell w10 ⟨g, 4, none⟩ (.int .i64 q2))) ?hg ?ho ?hn ?hr ?_; (case ho => rfl); (case hg => rfl); (case hn => rfl); (case hr => have c_ : _ = some (Value.int .i64 0) := (blk_cell RD.out.bx 4).trans rfl; have f_ := blk_frozen RD.out.bx 4; first | (go_simp; done) | (go_simp; rfl)); intro w11 hw; replace RD := Aside0.mk (RD.out.set (W' := w11) (cs' := #[(.slice (some ⟨wr.heap.size, 0, none⟩) s.size (grownCap wr s.size 0 5)), .int .i64 p1, .int .i64 p2, .int .i64 q1, .int .i64 q2]) (by rw [hw]; exact Srt.grown_cell _ g 4 _) (by rw [hw]; exact blk_put RD.out.bx 4 _ rfl)); clear hw; have d0 : _ = some (Value.slice (some ⟨wr.heap.size, 0, none⟩) s.size (grownCap wr s.size 0 5)) := (blk_cell RD.out.bx 0).trans rfl; have d1 : _ = some (Value.int .i64 p1) := (blk_cell RD.out.bx 1).trans rfl; have d2 : _ = some (Value.int .i64 p2) := (blk_cell RD.out.bx 2).trans rfl; have d3 : _ = some (Value.int .i64 q1) := (blk_cell RD.out.bx 3).trans rfl; have d4 : _ = some (Value.int .i64 q2) := (blk_cell RD.out.bx 4).trans rfl) | ((with_reducible refine gate_builtin (b := .append) (xs := #[.tmp 52, .tmp 54]) rfl ?_); at_builtin; refine Kd.S_append k48c (w0 := w) (W := w11) w.heap.size rfl (.tmp 52) (.tmp 54) 43 48 (.agg #[(.slice none 0 0), (.int .i64 0), (.int .i64 0), (.int .i64 0), (.int .i64 0)]) 56 rfl Try.underlying43 info48 rfl (by decide) (by omega) (.slice Ao out.length co) out (⟨bytesOf s, p1, p2, q1, q2⟩ : S48) [(.slice (some ⟨wr.heap.size, 0, none⟩) s.size (grownCap wr s.size 0 5)), .int .i64 p1, .int .i64 p2, .int .i64 q1, .int .i64 q2] (fun _ => True) (fun k_ => k_ = wr.heap.size) rfl rfl ?aP ?aK ?aF ?aO ?aB ?aS ?aL ?_; (case aP => exact k48c_mkM w11 _ _ (⟨bytesOf s, p1, p2, q1, q2⟩ : S48) (Cbk.own_conv s HSZ.out RD.out.by_ HB.out.size (grownCap_ge _ _ _ _))); (case aK => intro k_ hk_; subst hk_; exact ⟨trivial, fun e => by have := Kd.S_lt HO.out _ e.symm; omega⟩); (case aF => intro k_ hk_; trivial); (case aO => exact Kd.S_below (Kd.S_mono (Kd.S_bound HO.out) (fun k_ hk_ => ⟨trivial, fun e_ => by have := hk_.2.2.1; omega⟩)) RD.out.be); (case aB => exact below_then HB.out HB.out.size RD.out.be); (case aS => have := RD.out.be.size; have := HB.out.size; omega); (case aL => have := LM.out; omega); intro v12 w12 ho hb hg hat; have HO2 := Aside0.mk ho; have HB2 := Aside0.mk hb; have HG2 := Aside0.mk hg; clear ho hb hg hat))
      go_roundg k1
      case measure => have := HK.out; omega
      case rel =>
        have hty := Kd.S_typed (Kd.S_below HO.out RD.out.be)
        exact ⟨_, wrap64 (x + 1), by first | rfl | go_num, H', ⟨by have := HK.out; omega⟩, HO2, ⟨Kd.R_over' (Kd.R_below SA.out RD.out.be) hty (by decide) HG2.out⟩, ⟨Kd.R_over' (Kd.R_below SB.out RD.out.be) hty (by decide) HG2.out⟩, ⟨Kd.R_over' (Kd.R_below SW.out RD.out.be) hty (by decide) HG2.out⟩, HB2⟩

/-! ### impl_Parts: function 28 -/
def impl_Parts.f (k : Nat) (l0 : List Int) (l1 : List Int) (a2 : Int) : Option ((List (S48))) := (impl_isShared.f l0 l1 a2).bind fun t272 => (if t272 = true then ((impl_parts.f k l0 l1 a2).bind fun t273 => (some t273)) else (some ([] : List (S48))))
theorem impl_Parts.mono : ∀ a0 a1 a2 k, LeO (impl_Parts.f k a0 a1 a2) (impl_Parts.f (k + 1) a0 a1 a2) := by
 intro a0 a1 a2 k
 unfold impl_Parts.f
 repeat' first|(with_reducible first|exact impl_parts.mono _ _ _ _|exact LeO.refl _|exact LeO.none _|refine LeO.ite ?_ ?_|refine LeO.bind ?_ (fun _ => ?_))|exact LeO.none _|refine LeO.ite ?_ ?_|refine LeO.bind ?_ (fun _ => ?_)
set_option maxHeartbeats 8000000 in
set_option maxRecDepth 100000 in
theorem impl_Parts.calls (k : Nat) (A0 : Option Addr) (c0 : Nat) (l0 : List Int) (A1 : Option Addr) (c1 : Nat) (l1 : List Int) (a2 : Int) (r : List (S48)) (w : World) (hr0 : Kd.C (Kd.int .u8) w A0 l0.length l0) (hc0 : l0.length ≤ c0) (hr1 : Kd.C (Kd.int .u8) w A1 l1.length l1) (hc1 : l1.length ≤ c1) (h : impl_Parts.f k l0 l1 a2 = some r) :
  Calls Try.prog 28 #[.slice A0 l0.length c0, .slice A1 l1.length c1, .int .i64 a2] w fun e w' => ∃ v0_ : Value, e = .returned (v0_) ∧ Kd.S k48c 48 w' w.heap.size (fun _ => True) v0_ r ∧ Below w.heap.size w w' := by
 have HR0:=mk0 hr0
 have HC0:=mk0 hc0
 clear hr0 hc0
 have HR1:=mk0 hr1
 have HC1:=mk0 hc1
 clear hr1 hc1
 have HB:=mk0 (Below.refl w.heap.size w)
 have H:((impl_isShared.f l0 l1 a2).bind fun t272=>(if t272 = true then ((impl_parts.f k l0 l1 a2).bind fun t273=>(some t273)) else (some ([]:List (S48))))) = some r:=h
 clear h
 replace H:=Option.bind_eq_some_iff.mp H
 obtain⟨t272,A40,H⟩:=H
 replace H:(if t272 = true then ((impl_parts.f k l0 l1 a2).bind fun t273=>(some t273)) else (some ([]:List (S48)))) = some r:=H
 have A4:=mk0 A40
 clear A40
 by_cases c5:t272 = true
 ·subst c5
  have H1:((impl_parts.f k l0 l1 a2).bind fun t273=>(some t273)) = some r:=by rw [if_pos rfl] at H;exact H
  clear H
  have H:=H1
  clear H1
  replace H:=Option.bind_eq_some_iff.mp H
  obtain⟨t273,A60,H⟩:=H
  replace H:(some t273) = some r:=H
  have A6:=mk0 A60
  clear A60
  obtain rfl:=Option.some.inj H
  go_enter Try.func28,Try.ntmps28
  go_wp2_with (first|((with_reducible refine gate_callee (f:=38) rfl ?_);refine gL (some 10) Try.func38 #[.slice A0 l0.length c0,.slice A1 l1.length c1,.int .i64 a2] ?_;(with_reducible refine (impl_isShared.calls _ _ l0 _ _ l1 a2 true _ ?side1 ?side2 ?side3 ?side4 A4.out).mono ?_);(case side1=>repeat (first|exact HR0.out|(with_reducible first|apply aC|apply nC|apply dC)));(case side2=>exact HC0.out);(case side3=>repeat (first|exact HR1.out|(with_reducible first|apply aC|apply nC|apply dC)));(case side4=>exact HC1.out);rintro e w' ⟨rfl,⟨nd,rfl⟩⟩;refine⟨_,rfl,?_⟩)|((with_reducible refine gate_callee (f:=55) rfl ?_);refine gL (some 15) Try.func55 #[.slice A0 l0.length c0,.slice A1 l1.length c1,.int .i64 a2] ?_;(with_reducible refine (impl_parts.calls k _ _ l0 _ _ l1 a2 t273 _ ?side1 ?side2 ?side3 ?side4 A6.out).mono ?_);(case side1=>repeat (first|exact HR0.out|(with_reducible first|apply aC|apply nC|apply dC)));(case side2=>exact HC0.out);(case side3=>repeat (first|exact HR1.out|(with_reducible first|apply aC|apply nC|apply dC)));(case side4=>exact HC1.out);rintro e w7 ⟨v274,rfl,ho0,hb⟩;refine⟨_,rfl,?_⟩;have HO275:=mk0 (Kd.S_lower ho0 (kZ HB.out));replace HB:=mk0 (kS HB.out hb);(try clear hb);(try clear ho0)))
  go_ret
  exact⟨_,by first|rfl|(simp [errW_none,errW_some] <;> rfl)|(simp [*,errW_none,errW_some] <;> rfl),rS HO275.out,kB HB.out⟩
 ·replace c5:=Bool.eq_false_iff.mpr c5
  subst c5
  have H1:(some ([]:List (S48))) = some r:=by rw [if_neg (show ¬ (false = true) by decide)] at H;exact H
  clear H
  have H:=H1
  clear H1
  obtain rfl:=Option.some.inj H
  go_enter Try.func28,Try.ntmps28
  go_wp2_with (first|((with_reducible refine gate_callee (f:=38) rfl ?_);refine gL (some 10) Try.func38 #[.slice A0 l0.length c0,.slice A1 l1.length c1,.int .i64 a2] ?_;(with_reducible refine (impl_isShared.calls _ _ l0 _ _ l1 a2 false _ ?side1 ?side2 ?side3 ?side4 A4.out).mono ?_);(case side1=>repeat (first|exact HR0.out|(with_reducible first|apply aC|apply nC|apply dC)));(case side2=>exact HC0.out);(case side3=>repeat (first|exact HR1.out|(with_reducible first|apply aC|apply nC|apply dC)));(case side4=>exact HC1.out);rintro e w' ⟨rfl,⟨nd,rfl⟩⟩;refine⟨_,rfl,?_⟩))
  go_ret
  exact⟨_,by first|rfl|(simp [errW_none,errW_some] <;> rfl)|(simp [*,errW_none,errW_some] <;> rfl),by first|exact Kd.S_nil _ _ _ _ _|exact Kd.N_nil _ _ _ _ _|exact Kd.V_nil _ _ _ _ _|exact Kd.Q_nil _ _ _ _ _|exact Kd.R_nil _ _ _ _ _,kB HB.out⟩

/-! ### laws_eqPart: function 56 -/
def laws_eqPart.f (k : Nat) (l0_0 : List Int) (a0_1 : Int) (a0_2 : Int) (a0_3 : Int) (a0_4 : Int) (l1_0 : List Int) (a1_1 : Int) (a1_2 : Int) (a1_3 : Int) (a1_4 : Int) : Option (Bool) := (laws_eqByteS.f k l0_0 l1_0).bind fun t278 => (if t278 = true then (if a0_1 = a1_1 then (if a0_2 = a1_2 then (if a0_3 = a1_3 then (if a0_4 = a1_4 then (some true) else (some false)) else (some false)) else (some false)) else (some false)) else (some false))
theorem laws_eqPart.mono : ∀ a0 a1 a2 a3 a4 a5 a6 a7 a8 a9 k, LeO (laws_eqPart.f k a0 a1 a2 a3 a4 a5 a6 a7 a8 a9) (laws_eqPart.f (k + 1) a0 a1 a2 a3 a4 a5 a6 a7 a8 a9) := by
 intro a0 a1 a2 a3 a4 a5 a6 a7 a8 a9 k
 unfold laws_eqPart.f
 repeat' first|(with_reducible first|exact laws_eqByteS.mono _ _ _|exact LeO.refl _|exact LeO.none _|refine LeO.ite ?_ ?_|refine LeO.bind ?_ (fun _ => ?_))|exact LeO.none _|refine LeO.ite ?_ ?_|refine LeO.bind ?_ (fun _ => ?_)
set_option maxHeartbeats 8000000 in
set_option maxRecDepth 100000 in
theorem laws_eqPart.calls (k : Nat) (A0_0 : Option Addr) (c0_0 : Nat) (l0_0 : List Int) (a0_1 : Int) (a0_2 : Int) (a0_3 : Int) (a0_4 : Int) (A1_0 : Option Addr) (c1_0 : Nat) (l1_0 : List Int) (a1_1 : Int) (a1_2 : Int) (a1_3 : Int) (a1_4 : Int) (r : Bool) (w : World) (hr0_0 : Kd.C (Kd.int .u8) w A0_0 l0_0.length l0_0) (hc0_0 : l0_0.length ≤ c0_0) (hr1_0 : Kd.C (Kd.int .u8) w A1_0 l1_0.length l1_0) (hc1_0 : l1_0.length ≤ c1_0) (h : laws_eqPart.f k l0_0 a0_1 a0_2 a0_3 a0_4 l1_0 a1_1 a1_2 a1_3 a1_4 = some r) :
  Calls Try.prog 56 #[.agg #[.slice A0_0 l0_0.length c0_0, .int .i64 a0_1, .int .i64 a0_2, .int .i64 a0_3, .int .i64 a0_4], .agg #[.slice A1_0 l1_0.length c1_0, .int .i64 a1_1, .int .i64 a1_2, .int .i64 a1_3, .int .i64 a1_4]] w fun e w' => e = .returned (.bool r) ∧ Below w.heap.size w w' := by
 have hu48:=Try.underlying48
 have HR0_0:=mk0 hr0_0
 have HC0_0:=mk0 hc0_0
 clear hr0_0 hc0_0
 have HR1_0:=mk0 hr1_0
 have HC1_0:=mk0 hc1_0
 clear hr1_0 hc1_0
 have HB:=mk0 (Below.refl w.heap.size w)
 have H:((laws_eqByteS.f k l0_0 l1_0).bind fun t278=>(if t278 = true then (if a0_1 = a1_1 then (if a0_2 = a1_2 then (if a0_3 = a1_3 then (if a0_4 = a1_4 then (some true) else (some false)) else (some false)) else (some false)) else (some false)) else (some false))) = some r:=h
 clear h
 replace H:=Option.bind_eq_some_iff.mp H
 obtain⟨t278,A30,H⟩:=H
 replace H:(if t278 = true then (if a0_1 = a1_1 then (if a0_2 = a1_2 then (if a0_3 = a1_3 then (if a0_4 = a1_4 then (some true) else (some false)) else (some false)) else (some false)) else (some false)) else (some false)) = some r:=H
 have A3:=mk0 A30
 clear A30
 by_cases c4:t278 = true
 rotate_left
 ·replace c4:=Bool.eq_false_iff.mpr c4
  subst c4
  have H1:(some false) = some r:=by rw [if_neg (show ¬ (false = true) by decide)] at H;exact H
  clear H
  have H:=H1
  clear H1
  obtain rfl:=Option.some.inj H
  go_enter Try.func56,Try.ntmps56
  go_wp2_with (first|((with_reducible refine gate_dst (N:=2) rfl ?_);refine box_event ?hg (N:=2) ?hd (cs:=#[.slice A0_0 l0_0.length c0_0,.int .i64 a0_1,.int .i64 a0_2,.int .i64 a0_3,.int .i64 a0_4]) (t:=48) ?hr ?_;(case hd=>rfl);(case hg=>rfl);(case hr=>first|(go_simp;done)|(go_simp;rfl));intro gb276 hg w34 hbox hb;have BK276:=mk0 (hbox);have GW276:=mk0 ((by rw [hg];exact (kZ HB.out):w.heap.size ≤ gb276));have GE276:=mk0 ((by rw [hg];exact (kZ HB.out):w.heap.size ≤ gb276));replace HB:=mk0 (kS HB.out hb);clear hb hbox hg)|((with_reducible refine gate_dst (N:=3) rfl ?_);refine box_event ?hg (N:=3) ?hd (cs:=#[.slice A1_0 l1_0.length c1_0,.int .i64 a1_1,.int .i64 a1_2,.int .i64 a1_3,.int .i64 a1_4]) (t:=48) ?hr ?_;(case hd=>rfl);(case hg=>rfl);(case hr=>first|(go_simp;done)|(go_simp;rfl));intro gb277 hg w35 hbox hb;have BK277:=mk0 (hbox);have GW277:=mk0 ((by rw [hg];exact (kZ HB.out):w.heap.size ≤ gb277));have GE277:=mk0 ((by rw [hg];exact (kZ HB.out):w.heap.size ≤ gb277));replace HB:=mk0 (kS HB.out hb);have NB276_277:=mk0 ((by rw [hg];exact Nat.ne_of_lt (kL BK276.out):gb276 ≠ gb277));have NB277_276:=mk0 ((by rw [hg];exact Nat.ne_of_gt (kL BK276.out):gb277 ≠ gb276));replace BK276:=mk0 (kK BK276.out hb);clear hb hbox hg;have hnb36:=NB276_277.out;have hnc36:=NB277_276.out;obtain⟨hcz37_0,hcz37_1,hcz37_2,hcz37_3,hcz37_4,hfz37_0,hfz37_1,hfz37_2,hfz37_3,hfz37_4⟩:=cz5 BK276.out;obtain⟨hcz38_0,hcz38_1,hcz38_2,hcz38_3,hcz38_4,hfz38_0,hfz38_1,hfz38_2,hfz38_3,hfz38_4⟩:=cz5 BK277.out)|((with_reducible refine gate_callee (f:=12) rfl ?_);refine gL (some 9) Try.func12 #[.slice A0_0 l0_0.length c0_0,.slice A1_0 l1_0.length c1_0] ?_;(with_reducible refine (laws_eqByteS.calls k _ _ l0_0 _ _ l1_0 false _ ?side1 ?side2 ?side3 ?side4 A3.out).mono ?_);(case side1=>exact kC (Kd.C_below HR0_0.out HB.out));(case side2=>exact HC0_0.out);(case side3=>exact kC (Kd.C_below HR1_0.out HB.out));(case side4=>exact HC1_0.out);rintro e w' ⟨rfl,⟨nd,rfl⟩⟩;refine⟨_,rfl,?_⟩))
  go_ret
  exact⟨by first|rfl|(simp [errW_none,errW_some] <;> rfl)|(simp [*,errW_none,errW_some] <;> rfl),kB HB.out⟩

 subst c4
 have H1:(if a0_1 = a1_1 then (if a0_2 = a1_2 then (if a0_3 = a1_3 then (if a0_4 = a1_4 then (some true) else (some false)) else (some false)) else (some false)) else (some false)) = some r:=by rw [if_pos rfl] at H;exact H
 clear H
 have H:=H1
 clear H1
 by_cases c5:a0_1 = a1_1
 rotate_left
 ·rw [if_neg c5] at H
  have c5b0:(a0_1 == a1_1) = false:=beq_eq_false_iff_ne.mpr c5
  have c5b1:(a0_1 != a1_1) = true:=bne_iff_ne.mpr c5
  obtain rfl:=Option.some.inj H
  go_enter Try.func56,Try.ntmps56
  go_wp2_with (first|((with_reducible refine gate_dst (N:=2) rfl ?_);refine box_event ?hg (N:=2) ?hd (cs:=#[.slice A0_0 l0_0.length c0_0,.int .i64 a0_1,.int .i64 a0_2,.int .i64 a0_3,.int .i64 a0_4]) (t:=48) ?hr ?_;(case hd=>rfl);(case hg=>rfl);(case hr=>first|(go_simp;done)|(go_simp;rfl));intro gb276 hg w29 hbox hb;have BK276:=mk0 (hbox);have GW276:=mk0 ((by rw [hg];exact (kZ HB.out):w.heap.size ≤ gb276));have GE276:=mk0 ((by rw [hg];exact (kZ HB.out):w.heap.size ≤ gb276));replace HB:=mk0 (kS HB.out hb);clear hb hbox hg)|((with_reducible refine gate_dst (N:=3) rfl ?_);refine box_event ?hg (N:=3) ?hd (cs:=#[.slice A1_0 l1_0.length c1_0,.int .i64 a1_1,.int .i64 a1_2,.int .i64 a1_3,.int .i64 a1_4]) (t:=48) ?hr ?_;(case hd=>rfl);(case hg=>rfl);(case hr=>first|(go_simp;done)|(go_simp;rfl));intro gb277 hg w30 hbox hb;have BK277:=mk0 (hbox);have GW277:=mk0 ((by rw [hg];exact (kZ HB.out):w.heap.size ≤ gb277));have GE277:=mk0 ((by rw [hg];exact (kZ HB.out):w.heap.size ≤ gb277));replace HB:=mk0 (kS HB.out hb);have NB276_277:=mk0 ((by rw [hg];exact Nat.ne_of_lt (kL BK276.out):gb276 ≠ gb277));have NB277_276:=mk0 ((by rw [hg];exact Nat.ne_of_gt (kL BK276.out):gb277 ≠ gb276));replace BK276:=mk0 (kK BK276.out hb);clear hb hbox hg;have hnb31:=NB276_277.out;have hnc31:=NB277_276.out;obtain⟨hcz32_0,hcz32_1,hcz32_2,hcz32_3,hcz32_4,hfz32_0,hfz32_1,hfz32_2,hfz32_3,hfz32_4⟩:=cz5 BK276.out;obtain⟨hcz33_0,hcz33_1,hcz33_2,hcz33_3,hcz33_4,hfz33_0,hfz33_1,hfz33_2,hfz33_3,hfz33_4⟩:=cz5 BK277.out)|((with_reducible refine gate_callee (f:=12) rfl ?_);refine gL (some 9) Try.func12 #[.slice A0_0 l0_0.length c0_0,.slice A1_0 l1_0.length c1_0] ?_;(with_reducible refine (laws_eqByteS.calls k _ _ l0_0 _ _ l1_0 true _ ?side1 ?side2 ?side3 ?side4 A3.out).mono ?_);(case side1=>exact kC (Kd.C_below HR0_0.out HB.out));(case side2=>exact HC0_0.out);(case side3=>exact kC (Kd.C_below HR1_0.out HB.out));(case side4=>exact HC1_0.out);rintro e w' ⟨rfl,⟨nd,rfl⟩⟩;refine⟨_,rfl,?_⟩))
  go_ret
  exact⟨by first|rfl|(simp [errW_none,errW_some] <;> rfl)|(simp [*,errW_none,errW_some] <;> rfl),kB HB.out⟩
 rw [if_pos c5] at H
 have c5b0:(a0_1 == a1_1) = true:=beq_iff_eq.mpr c5
 have c5b1:(a0_1 != a1_1) = false:=bne_eq_false_iff_eq.mpr c5
 clear c5
 by_cases c6:a0_2 = a1_2
 rotate_left
 ·rw [if_neg c6] at H
  have c6b0:(a0_2 == a1_2) = false:=beq_eq_false_iff_ne.mpr c6
  have c6b1:(a0_2 != a1_2) = true:=bne_iff_ne.mpr c6
  obtain rfl:=Option.some.inj H
  go_enter Try.func56,Try.ntmps56
  go_wp2_with (first|((with_reducible refine gate_dst (N:=2) rfl ?_);refine box_event ?hg (N:=2) ?hd (cs:=#[.slice A0_0 l0_0.length c0_0,.int .i64 a0_1,.int .i64 a0_2,.int .i64 a0_3,.int .i64 a0_4]) (t:=48) ?hr ?_;(case hd=>rfl);(case hg=>rfl);(case hr=>first|(go_simp;done)|(go_simp;rfl));intro gb276 hg w24 hbox hb;have BK276:=mk0 (hbox);have GW276:=mk0 ((by rw [hg];exact (kZ HB.out):w.heap.size ≤ gb276));have GE276:=mk0 ((by rw [hg];exact (kZ HB.out):w.heap.size ≤ gb276));replace HB:=mk0 (kS HB.out hb);clear hb hbox hg)|((with_reducible refine gate_dst (N:=3) rfl ?_);refine box_event ?hg (N:=3) ?hd (cs:=#[.slice A1_0 l1_0.length c1_0,.int .i64 a1_1,.int .i64 a1_2,.int .i64 a1_3,.int .i64 a1_4]) (t:=48) ?hr ?_;(case hd=>rfl);(case hg=>rfl);(case hr=>first|(go_simp;done)|(go_simp;rfl));intro gb277 hg w25 hbox hb;have BK277:=mk0 (hbox);have GW277:=mk0 ((by rw [hg];exact (kZ HB.out):w.heap.size ≤ gb277));have GE277:=mk0 ((by rw [hg];exact (kZ HB.out):w.heap.size ≤ gb277));replace HB:=mk0 (kS HB.out hb);have NB276_277:=mk0 ((by rw [hg];exact Nat.ne_of_lt (kL BK276.out):gb276 ≠ gb277));have NB277_276:=mk0 ((by rw [hg];exact Nat.ne_of_gt (kL BK276.out):gb277 ≠ gb276));replace BK276:=mk0 (kK BK276.out hb);clear hb hbox hg;have hnb26:=NB276_277.out;have hnc26:=NB277_276.out;obtain⟨hcz27_0,hcz27_1,hcz27_2,hcz27_3,hcz27_4,hfz27_0,hfz27_1,hfz27_2,hfz27_3,hfz27_4⟩:=cz5 BK276.out;obtain⟨hcz28_0,hcz28_1,hcz28_2,hcz28_3,hcz28_4,hfz28_0,hfz28_1,hfz28_2,hfz28_3,hfz28_4⟩:=cz5 BK277.out)|((with_reducible refine gate_callee (f:=12) rfl ?_);refine gL (some 9) Try.func12 #[.slice A0_0 l0_0.length c0_0,.slice A1_0 l1_0.length c1_0] ?_;(with_reducible refine (laws_eqByteS.calls k _ _ l0_0 _ _ l1_0 true _ ?side1 ?side2 ?side3 ?side4 A3.out).mono ?_);(case side1=>exact kC (Kd.C_below HR0_0.out HB.out));(case side2=>exact HC0_0.out);(case side3=>exact kC (Kd.C_below HR1_0.out HB.out));(case side4=>exact HC1_0.out);rintro e w' ⟨rfl,⟨nd,rfl⟩⟩;refine⟨_,rfl,?_⟩))
  go_ret
  exact⟨by first|rfl|(simp [errW_none,errW_some] <;> rfl)|(simp [*,errW_none,errW_some] <;> rfl),kB HB.out⟩
 rw [if_pos c6] at H
 have c6b0:(a0_2 == a1_2) = true:=beq_iff_eq.mpr c6
 have c6b1:(a0_2 != a1_2) = false:=bne_eq_false_iff_eq.mpr c6
 clear c6
 by_cases c7:a0_3 = a1_3
 rotate_left
 ·rw [if_neg c7] at H
  have c7b0:(a0_3 == a1_3) = false:=beq_eq_false_iff_ne.mpr c7
  have c7b1:(a0_3 != a1_3) = true:=bne_iff_ne.mpr c7
  obtain rfl:=Option.some.inj H
  go_enter Try.func56,Try.ntmps56
  go_wp2_with (first|((with_reducible refine gate_dst (N:=2) rfl ?_);refine box_event ?hg (N:=2) ?hd (cs:=#[.slice A0_0 l0_0.length c0_0,.int .i64 a0_1,.int .i64 a0_2,.int .i64 a0_3,.int .i64 a0_4]) (t:=48) ?hr ?_;(case hd=>rfl);(case hg=>rfl);(case hr=>first|(go_simp;done)|(go_simp;rfl));intro gb276 hg w19 hbox hb;have BK276:=mk0 (hbox);have GW276:=mk0 ((by rw [hg];exact (kZ HB.out):w.heap.size ≤ gb276));have GE276:=mk0 ((by rw [hg];exact (kZ HB.out):w.heap.size ≤ gb276));replace HB:=mk0 (kS HB.out hb);clear hb hbox hg)|((with_reducible refine gate_dst (N:=3) rfl ?_);refine box_event ?hg (N:=3) ?hd (cs:=#[.slice A1_0 l1_0.length c1_0,.int .i64 a1_1,.int .i64 a1_2,.int .i64 a1_3,.int .i64 a1_4]) (t:=48) ?hr ?_;(case hd=>rfl);(case hg=>rfl);(case hr=>first|(go_simp;done)|(go_simp;rfl));intro gb277 hg w20 hbox hb;have BK277:=mk0 (hbox);have GW277:=mk0 ((by rw [hg];exact (kZ HB.out):w.heap.size ≤ gb277));have GE277:=mk0 ((by rw [hg];exact (kZ HB.out):w.heap.size ≤ gb277));replace HB:=mk0 (kS HB.out hb);have NB276_277:=mk0 ((by rw [hg];exact Nat.ne_of_lt (kL BK276.out):gb276 ≠ gb277));have NB277_276:=mk0 ((by rw [hg];exact Nat.ne_of_gt (kL BK276.out):gb277 ≠ gb276));replace BK276:=mk0 (kK BK276.out hb);clear hb hbox hg;have hnb21:=NB276_277.out;have hnc21:=NB277_276.out;obtain⟨hcz22_0,hcz22_1,hcz22_2,hcz22_3,hcz22_4,hfz22_0,hfz22_1,hfz22_2,hfz22_3,hfz22_4⟩:=cz5 BK276.out;obtain⟨hcz23_0,hcz23_1,hcz23_2,hcz23_3,hcz23_4,hfz23_0,hfz23_1,hfz23_2,hfz23_3,hfz23_4⟩:=cz5 BK277.out)|((with_reducible refine gate_callee (f:=12) rfl ?_);refine gL (some 9) Try.func12 #[.slice A0_0 l0_0.length c0_0,.slice A1_0 l1_0.length c1_0] ?_;(with_reducible refine (laws_eqByteS.calls k _ _ l0_0 _ _ l1_0 true _ ?side1 ?side2 ?side3 ?side4 A3.out).mono ?_);(case side1=>exact kC (Kd.C_below HR0_0.out HB.out));(case side2=>exact HC0_0.out);(case side3=>exact kC (Kd.C_below HR1_0.out HB.out));(case side4=>exact HC1_0.out);rintro e w' ⟨rfl,⟨nd,rfl⟩⟩;refine⟨_,rfl,?_⟩))
  go_ret
  exact⟨by first|rfl|(simp [errW_none,errW_some] <;> rfl)|(simp [*,errW_none,errW_some] <;> rfl),kB HB.out⟩
 rw [if_pos c7] at H
 have c7b0:(a0_3 == a1_3) = true:=beq_iff_eq.mpr c7
 have c7b1:(a0_3 != a1_3) = false:=bne_eq_false_iff_eq.mpr c7
 clear c7
 by_cases c8:a0_4 = a1_4
 rotate_left
 ·rw [if_neg c8] at H
  have c8b0:(a0_4 == a1_4) = false:=beq_eq_false_iff_ne.mpr c8
  have c8b1:(a0_4 != a1_4) = true:=bne_iff_ne.mpr c8
  obtain rfl:=Option.some.inj H
  go_enter Try.func56,Try.ntmps56
  go_wp2_with (first|((with_reducible refine gate_dst (N:=2) rfl ?_);refine box_event ?hg (N:=2) ?hd (cs:=#[.slice A0_0 l0_0.length c0_0,.int .i64 a0_1,.int .i64 a0_2,.int .i64 a0_3,.int .i64 a0_4]) (t:=48) ?hr ?_;(case hd=>rfl);(case hg=>rfl);(case hr=>first|(go_simp;done)|(go_simp;rfl));intro gb276 hg w14 hbox hb;have BK276:=mk0 (hbox);have GW276:=mk0 ((by rw [hg];exact (kZ HB.out):w.heap.size ≤ gb276));have GE276:=mk0 ((by rw [hg];exact (kZ HB.out):w.heap.size ≤ gb276));replace HB:=mk0 (kS HB.out hb);clear hb hbox hg)|((with_reducible refine gate_dst (N:=3) rfl ?_);refine box_event ?hg (N:=3) ?hd (cs:=#[.slice A1_0 l1_0.length c1_0,.int .i64 a1_1,.int .i64 a1_2,.int .i64 a1_3,.int .i64 a1_4]) (t:=48) ?hr ?_;(case hd=>rfl);(case hg=>rfl);(case hr=>first|(go_simp;done)|(go_simp;rfl));intro gb277 hg w15 hbox hb;have BK277:=mk0 (hbox);have GW277:=mk0 ((by rw [hg];exact (kZ HB.out):w.heap.size ≤ gb277));have GE277:=mk0 ((by rw [hg];exact (kZ HB.out):w.heap.size ≤ gb277));replace HB:=mk0 (kS HB.out hb);have NB276_277:=mk0 ((by rw [hg];exact Nat.ne_of_lt (kL BK276.out):gb276 ≠ gb277));have NB277_276:=mk0 ((by rw [hg];exact Nat.ne_of_gt (kL BK276.out):gb277 ≠ gb276));replace BK276:=mk0 (kK BK276.out hb);clear hb hbox hg;have hnb16:=NB276_277.out;have hnc16:=NB277_276.out;obtain⟨hcz17_0,hcz17_1,hcz17_2,hcz17_3,hcz17_4,hfz17_0,hfz17_1,hfz17_2,hfz17_3,hfz17_4⟩:=cz5 BK276.out;obtain⟨hcz18_0,hcz18_1,hcz18_2,hcz18_3,hcz18_4,hfz18_0,hfz18_1,hfz18_2,hfz18_3,hfz18_4⟩:=cz5 BK277.out)|((with_reducible refine gate_callee (f:=12) rfl ?_);refine gL (some 9) Try.func12 #[.slice A0_0 l0_0.length c0_0,.slice A1_0 l1_0.length c1_0] ?_;(with_reducible refine (laws_eqByteS.calls k _ _ l0_0 _ _ l1_0 true _ ?side1 ?side2 ?side3 ?side4 A3.out).mono ?_);(case side1=>exact kC (Kd.C_below HR0_0.out HB.out));(case side2=>exact HC0_0.out);(case side3=>exact kC (Kd.C_below HR1_0.out HB.out));(case side4=>exact HC1_0.out);rintro e w' ⟨rfl,⟨nd,rfl⟩⟩;refine⟨_,rfl,?_⟩))
  go_ret
  exact⟨by first|rfl|(simp [errW_none,errW_some] <;> rfl)|(simp [*,errW_none,errW_some] <;> rfl),kB HB.out⟩
 rw [if_pos c8] at H
 have c8b0:(a0_4 == a1_4) = true:=beq_iff_eq.mpr c8
 have c8b1:(a0_4 != a1_4) = false:=bne_eq_false_iff_eq.mpr c8
 clear c8
 obtain rfl:=Option.some.inj H
 go_enter Try.func56,Try.ntmps56
 go_wp2_with (first|((with_reducible refine gate_dst (N:=2) rfl ?_);refine box_event ?hg (N:=2) ?hd (cs:=#[.slice A0_0 l0_0.length c0_0,.int .i64 a0_1,.int .i64 a0_2,.int .i64 a0_3,.int .i64 a0_4]) (t:=48) ?hr ?_;(case hd=>rfl);(case hg=>rfl);(case hr=>first|(go_simp;done)|(go_simp;rfl));intro gb276 hg w9 hbox hb;have BK276:=mk0 (hbox);have GW276:=mk0 ((by rw [hg];exact (kZ HB.out):w.heap.size ≤ gb276));have GE276:=mk0 ((by rw [hg];exact (kZ HB.out):w.heap.size ≤ gb276));replace HB:=mk0 (kS HB.out hb);clear hb hbox hg)|((with_reducible refine gate_dst (N:=3) rfl ?_);refine box_event ?hg (N:=3) ?hd (cs:=#[.slice A1_0 l1_0.length c1_0,.int .i64 a1_1,.int .i64 a1_2,.int .i64 a1_3,.int .i64 a1_4]) (t:=48) ?hr ?_;(case hd=>rfl);(case hg=>rfl);(case hr=>first|(go_simp;done)|(go_simp;rfl));intro gb277 hg w10 hbox hb;have BK277:=mk0 (hbox);have GW277:=mk0 ((by rw [hg];exact (kZ HB.out):w.heap.size ≤ gb277));have GE277:=mk0 ((by rw [hg];exact (kZ HB.out):w.heap.size ≤ gb277));replace HB:=mk0 (kS HB.out hb);have NB276_277:=mk0 ((by rw [hg];exact Nat.ne_of_lt (kL BK276.out):gb276 ≠ gb277));have NB277_276:=mk0 ((by rw [hg];exact Nat.ne_of_gt (kL BK276.out):gb277 ≠ gb276));replace BK276:=mk0 (kK BK276.out hb);clear hb hbox hg;have hnb11:=NB276_277.out;have hnc11:=NB277_276.out;obtain⟨hcz12_0,hcz12_1,hcz12_2,hcz12_3,hcz12_4,hfz12_0,hfz12_1,hfz12_2,hfz12_3,hfz12_4⟩:=cz5 BK276.out;obtain⟨hcz13_0,hcz13_1,hcz13_2,hcz13_3,hcz13_4,hfz13_0,hfz13_1,hfz13_2,hfz13_3,hfz13_4⟩:=cz5 BK277.out)|((with_reducible refine gate_callee (f:=12) rfl ?_);refine gL (some 9) Try.func12 #[.slice A0_0 l0_0.length c0_0,.slice A1_0 l1_0.length c1_0] ?_;(with_reducible refine (laws_eqByteS.calls k _ _ l0_0 _ _ l1_0 true _ ?side1 ?side2 ?side3 ?side4 A3.out).mono ?_);(case side1=>exact kC (Kd.C_below HR0_0.out HB.out));(case side2=>exact HC0_0.out);(case side3=>exact kC (Kd.C_below HR1_0.out HB.out));(case side4=>exact HC1_0.out);rintro e w' ⟨rfl,⟨nd,rfl⟩⟩;refine⟨_,rfl,?_⟩))
 go_ret
 exact⟨by first|rfl|(simp [errW_none,errW_some] <;> rfl)|(simp [*,errW_none,errW_some] <;> rfl),kB HB.out⟩
/-! ### laws_eqPartS: function 32 -/
def laws_eqPartS.l0 : Nat → List (S48) → List (S48) → Int → Option (Bool)
 | 0, _, _, _ => none
 | k + 1, x0, x1, x5 => if x5 < (x0.length : Int) then (if 0 ≤ x5 then (if x5 < (x1.length : Int) then ((laws_eqPart.f k ((rd_T48 x0 x5).f0) ((rd_T48 x0 x5).f1) ((rd_T48 x0 x5).f2) ((rd_T48 x0 x5).f3) ((rd_T48 x0 x5).f4) ((rd_T48 x1 x5).f0) ((rd_T48 x1 x5).f1) ((rd_T48 x1 x5).f2) ((rd_T48 x1 x5).f3) ((rd_T48 x1 x5).f4)).bind fun t281 => (if t281 = true then (laws_eqPartS.l0 k x0 x1 (wrap64 (x5 + 1))) else (some false))) else (none)) else (none)) else (some true)
def laws_eqPartS.f (k : Nat) (l0 : List (S48)) (l1 : List (S48)) : Option (Bool) := if (l0.length : Int) = (l1.length : Int) then (laws_eqPartS.l0 k l0 l1 0) else (some false)
theorem laws_eqPartS.mono_l : ∀ k, (∀ y0 y1 y2, LeO (laws_eqPartS.l0 k y0 y1 y2) (laws_eqPartS.l0 (k + 1) y0 y1 y2))
 | 0 => fun _ _ _ r h => by simp [laws_eqPartS.l0] at h
 | k + 1 => by
  have ih0 := laws_eqPartS.mono_l k
  ·intro y0 y1 y2
   unfold laws_eqPartS.l0
   repeat' first|(with_reducible first|exact ih0 _ _ _|exact laws_eqPart.mono _ _ _ _ _ _ _ _ _ _ _|exact LeO.refl _|exact LeO.none _|refine LeO.ite ?_ ?_|refine LeO.bind ?_ (fun _ => ?_))|exact LeO.none _|refine LeO.ite ?_ ?_|refine LeO.bind ?_ (fun _ => ?_)
theorem laws_eqPartS.mono : ∀ a0 a1 k, LeO (laws_eqPartS.f k a0 a1) (laws_eqPartS.f (k + 1) a0 a1) := by
 intro a0 a1 k
 have ih0 := laws_eqPartS.mono_l k
 unfold laws_eqPartS.f
 repeat' first|(with_reducible first|exact ih0 _ _ _|exact laws_eqPart.mono _ _ _ _ _ _ _ _ _ _ _|exact LeO.refl _|exact LeO.none _|refine LeO.ite ?_ ?_|refine LeO.bind ?_ (fun _ => ?_))|exact LeO.none _|refine LeO.ite ?_ ?_|refine LeO.bind ?_ (fun _ => ?_)
def laws_eqPartS.T6 : Bool × List (List Nat × List Nat) := (true, [([], []), ([], []), ([0, 1], [0, 1]), ([2], [2]), ([], []), ([], []), ([4, 5], [4, 5]), ([6], [6]), ([3, 7], [3, 7]), ([8], [8])])
def laws_eqPartS.B6 : List Nat := [0, 0, 3, 7, 0, 0, 48, 112, 255, 511]
theorem laws_eqPartS.tab6 : rtab .any (opsOf Try.f32 6) = laws_eqPartS.T6 := by kernel_rfl
theorem laws_eqPartS.bits6 : waitsOk laws_eqPartS.T6.2 laws_eqPartS.B6 = true := by kernel_rfl
set_option maxHeartbeats 8000000 in
set_option maxRecDepth 100000 in
theorem laws_eqPartS.calls (k : Nat) (A0 : Option Addr) (c0 : Nat) (l0 : List (S48)) (A1 : Option Addr) (c1 : Nat) (l1 : List (S48)) (r : Bool) (w : World) (hr0 : Kd.C k48 w A0 l0.length l0) (hc0 : l0.length ≤ c0) (hr1 : Kd.C k48 w A1 l1.length l1) (hc1 : l1.length ≤ c1) (h : laws_eqPartS.f k l0 l1 = some r) :
  Calls Try.prog 32 #[.slice A0 l0.length c0, .slice A1 l1.length c1] w fun e w' => e = .returned (.bool r) ∧ Below w.heap.size w w' := by
 have hu48:=Try.underlying48
 have HR0:=mk0 hr0
 have HC0:=mk0 hc0
 clear hr0 hc0
 have HR1:=mk0 hr1
 have HC1:=mk0 hc1
 clear hr1 hc1
 have HB:=mk0 (Below.refl w.heap.size w)
 have H:(if (l0.length:Int) = (l1.length:Int) then (laws_eqPartS.l0 k l0 l1 0) else (some false)) = some r:=h
 clear h
 by_cases c3:(l0.length:Int) = (l1.length:Int)
 rotate_left
 ·rw [if_neg c3] at H
  have c3b0:((l0.length:Int) == (l1.length:Int)) = false:=beq_eq_false_iff_ne.mpr c3
  (try simp only [hl279_0] at c3b0)
  (try simp only [hl280_0] at c3b0)
  have c3b1:((l0.length:Int) != (l1.length:Int)) = true:=bne_iff_ne.mpr c3
  (try simp only [hl279_0] at c3b1)
  (try simp only [hl280_0] at c3b1)
  have c3b2:(l0.length == l1.length) = false:=by first|simpa using c3|(simp at c3 ⊢;omega)
  (try simp only [hl279_0] at c3b2)
  (try simp only [hl280_0] at c3b2)
  obtain rfl:=Option.some.inj H
  go_enter Try.func32,Try.ntmps32
  go_wp2
  go_ret
  exact⟨by first|rfl|(simp [errW_none,errW_some] <;> rfl)|(simp [*,errW_none,errW_some] <;> rfl),kB HB.out⟩

 rw [if_pos c3] at H
 have c3b0:((l0.length:Int) == (l1.length:Int)) = true:=beq_iff_eq.mpr c3
 (try simp only [hl279_0] at c3b0)
 (try simp only [hl280_0] at c3b0)
 have c3b1:((l0.length:Int) != (l1.length:Int)) = false:=bne_eq_false_iff_eq.mpr c3
 (try simp only [hl279_0] at c3b1)
 (try simp only [hl280_0] at c3b1)
 have c3b2:(l0.length == l1.length) = true:=by first|simpa using c3|(simp at c3 ⊢;omega)
 (try simp only [hl279_0] at c3b2)
 (try simp only [hl280_0] at c3b2)
 clear c3
 have H':=mk0 H
 clear H
 go_enter Try.func32,Try.ntmps32
 go_wp2
 go_loopg [5] k (fun kq v5 w'=>∃ (x5_1:Int),v5 = .int .i64 x5_1 ∧ Aside0 (laws_eqPartS.l0 kq l0 l1 x5_1 = some r) ∧ Aside0 (kq ≤ k) ∧ Aside0 (Below w.heap.size w w'))
 case atStart=>exact⟨(0),(by first|rfl|(simp;done)|(simp [*];done)),H',⟨Nat.le_refl _⟩,⟨kB HB.out⟩⟩
 case round =>
  clear H'
  try clear c1
  try clear p2
  try clear c3
  try clear c3b0
  try clear c3b1
  try clear c3b2
  obtain⟨x5_1,rfl,HA,HK1,HB⟩:=hrel
  cases gk with
  | zero=>exact absurd HA.out (by simp [laws_eqPartS.l0])
  | succ k1 =>
   have H:=HA.out
   clear HA
   simp only [laws_eqPartS.l0] at H
   by_cases c4:x5_1 < (l0.length:Int)
   rotate_left
   ·rw [if_neg c4] at H
    have c4b0:decide (x5_1 < (l0.length:Int)) = false:=decide_eq_false c4
    (try simp only [hl279_0] at c4b0)
    (try simp only [hl280_0] at c4b0)
    clear c4
    obtain rfl:=Option.some.inj H
    go_wp2
    go_ret
    exact⟨by first|rfl|(simp [errW_none,errW_some] <;> rfl)|(simp [*,errW_none,errW_some] <;> rfl),kB HB.out⟩
   rw [if_pos c4] at H
   have c4b0:decide (x5_1 < (l0.length:Int)) = true:=decide_eq_true c4
   (try simp only [hl279_0] at c4b0)
   (try simp only [hl280_0] at c4b0)
   clear c4
   by_cases c5:0 ≤ x5_1
   rotate_left
   ·rw [if_neg c5] at H
    exact absurd H (by simp)
   rw [if_pos c5] at H
   have c5b0:decide (0 ≤ x5_1) = true:=decide_eq_true c5
   clear c5
   by_cases c6:x5_1 < (l1.length:Int)
   rotate_left
   ·rw [if_neg c6] at H
    exact absurd H (by simp)
   rw [if_pos c6] at H
   have c6b0:decide (x5_1 < (l1.length:Int)) = true:=decide_eq_true c6
   (try simp only [hl279_0] at c6b0)
   (try simp only [hl280_0] at c6b0)
   clear c6
   replace H:=Option.bind_eq_some_iff.mp H
   obtain⟨t281,A70,H⟩:=H
   replace H:(if t281 = true then (laws_eqPartS.l0 k1 l0 l1 (wrap64 (x5_1 + 1))) else (some false)) = some r:=H
   have A7:=mk0 A70
   clear A70
   by_cases c8:t281 = true
   rotate_left
   ·replace c8:=Bool.eq_false_iff.mpr c8
    subst c8
    have H1:(some false) = some r:=by rw [if_neg (show ¬ (false = true) by decide)] at H;exact H
    clear H
    have H:=H1
    clear H1
    obtain rfl:=Option.some.inj H
    try go_wp2
    replace HB:=mk0 (dZ HB.out)
    have p279:0 ≤ (x5_1:Int):=of_decide_eq_true (by first|(with_reducible assumption)|assumption)
    have q279:x5_1 < (l0.length:Int):=of_decide_eq_true (by first|(with_reducible assumption)|assumption)
    obtain⟨ad279,A279_0,c279_0,e279,hx279_0,hx279_1,hx279_2,hx279_3,hx279_4,hl279_0,hi279_0⟩:=at_T48 HR0.out x5_1 p279 q279
    have hw279_4:=hx279_4
    have hw279_3:=hx279_3
    have hw279_2:=hx279_2
    have hw279_1:=hx279_1
    have hw279_0:=hx279_0
    cases e279
    replace hx279_0:=(HB.out.cell (World.block_lt_of_cell? w _ hx279_0)).trans hx279_0
    replace hx279_1:=(HB.out.cell (World.block_lt_of_cell? w _ hx279_1)).trans hx279_1
    replace hx279_2:=(HB.out.cell (World.block_lt_of_cell? w _ hx279_2)).trans hx279_2
    replace hx279_3:=(HB.out.cell (World.block_lt_of_cell? w _ hx279_3)).trans hx279_3
    replace hx279_4:=(HB.out.cell (World.block_lt_of_cell? w _ hx279_4)).trans hx279_4
    have HR279_0:=mk0 hi279_0
    have HC279_0:=mk0 hl279_0
    clear hi279_0 hl279_0
    replace p279:=eq_true p279
    replace q279:=eq_true q279
    have p280:0 ≤ (x5_1:Int):=of_decide_eq_true (by first|(with_reducible assumption)|assumption)
    have q280:x5_1 < (l1.length:Int):=of_decide_eq_true (by first|(with_reducible assumption)|assumption)
    obtain⟨ad280,A280_0,c280_0,e280,hx280_0,hx280_1,hx280_2,hx280_3,hx280_4,hl280_0,hi280_0⟩:=at_T48 HR1.out x5_1 p280 q280
    have hw280_4:=hx280_4
    have hw280_3:=hx280_3
    have hw280_2:=hx280_2
    have hw280_1:=hx280_1
    have hw280_0:=hx280_0
    cases e280
    replace hx280_0:=(HB.out.cell (World.block_lt_of_cell? w _ hx280_0)).trans hx280_0
    replace hx280_1:=(HB.out.cell (World.block_lt_of_cell? w _ hx280_1)).trans hx280_1
    replace hx280_2:=(HB.out.cell (World.block_lt_of_cell? w _ hx280_2)).trans hx280_2
    replace hx280_3:=(HB.out.cell (World.block_lt_of_cell? w _ hx280_3)).trans hx280_3
    replace hx280_4:=(HB.out.cell (World.block_lt_of_cell? w _ hx280_4)).trans hx280_4
    have HR280_0:=mk0 hi280_0
    have HC280_0:=mk0 hl280_0
    clear hi280_0 hl280_0
    replace p280:=eq_true p280
    replace q280:=eq_true q280
    refine start_ (n:=10) (S:=fun w'=>w'.cell? (ad279.add ((x5_1).toNat * 5)) = some (.slice A279_0 ((rd_T48 l0 x5_1).f0).length c279_0) ∧ w'.cell? ⟨(ad279.add ((x5_1).toNat * 5)).block,(ad279.add ((x5_1).toNat * 5)).off + 1,none⟩ = some (.int .i64 ((rd_T48 l0 x5_1).f1)) ∧ w'.cell? ⟨(ad279.add ((x5_1).toNat * 5)).block,(ad279.add ((x5_1).toNat * 5)).off + 2,none⟩ = some (.int .i64 ((rd_T48 l0 x5_1).f2)) ∧ w'.cell? ⟨(ad279.add ((x5_1).toNat * 5)).block,(ad279.add ((x5_1).toNat * 5)).off + 3,none⟩ = some (.int .i64 ((rd_T48 l0 x5_1).f3)) ∧ w'.cell? ⟨(ad279.add ((x5_1).toNat * 5)).block,(ad279.add ((x5_1).toNat * 5)).off + 4,none⟩ = some (.int .i64 ((rd_T48 l0 x5_1).f4)) ∧ w'.cell? (ad280.add ((x5_1).toNat * 5)) = some (.slice A280_0 ((rd_T48 l1 x5_1).f0).length c280_0) ∧ w'.cell? ⟨(ad280.add ((x5_1).toNat * 5)).block,(ad280.add ((x5_1).toNat * 5)).off + 1,none⟩ = some (.int .i64 ((rd_T48 l1 x5_1).f1)) ∧ w'.cell? ⟨(ad280.add ((x5_1).toNat * 5)).block,(ad280.add ((x5_1).toNat * 5)).off + 2,none⟩ = some (.int .i64 ((rd_T48 l1 x5_1).f2)) ∧ w'.cell? ⟨(ad280.add ((x5_1).toNat * 5)).block,(ad280.add ((x5_1).toNat * 5)).off + 3,none⟩ = some (.int .i64 ((rd_T48 l1 x5_1).f3)) ∧ w'.cell? ⟨(ad280.add ((x5_1).toNat * 5)).block,(ad280.add ((x5_1).toNat * 5)).off + 4,none⟩ = some (.int .i64 ((rd_T48 l1 x5_1).f4))) (ds:=[]) (bm 10 0) (by kernel_rfl) rfl (by kernel_rfl) ⟨((HB.out.cell (World.block_lt_of_cell? w _ hw279_0)).trans hw279_0),((HB.out.cell (World.block_lt_of_cell? w _ hw279_1)).trans hw279_1),((HB.out.cell (World.block_lt_of_cell? w _ hw279_2)).trans hw279_2),((HB.out.cell (World.block_lt_of_cell? w _ hw279_3)).trans hw279_3),((HB.out.cell (World.block_lt_of_cell? w _ hw279_4)).trans hw279_4),((HB.out.cell (World.block_lt_of_cell? w _ hw280_0)).trans hw280_0),((HB.out.cell (World.block_lt_of_cell? w _ hw280_1)).trans hw280_1),((HB.out.cell (World.block_lt_of_cell? w _ hw280_2)).trans hw280_2),((HB.out.cell (World.block_lt_of_cell? w _ hw280_3)).trans hw280_3),((HB.out.cell (World.block_lt_of_cell? w _ hw280_4)).trans hw280_4)⟩ (fun hHeld=>?_);refine with_tabW laws_eqPartS.tab6 laws_eqPartS.bits6 (fun HT_ HW_=>?_)
    generalize wr.drew = w11 at HB HR279_0 HR280_0 hx279_0 hx279_1 hx279_2 hx279_3 hx279_4 hx280_0 hx280_1 hx280_2 hx280_3 hx280_4 hHeld ⊢
    refine pU 0 (some 17) (bm 10 1) HT_ ?_
    refine pU 1 (some 18) (bm 10 3) HT_ ?_
    refine pU 2 (some 19) (bm 10 7) HT_ ?_
    refine pU 4 (some 21) (bm 10 23) HT_ ?_
    refine pU 5 (some 22) (bm 10 55) HT_ ?_
    refine pU 6 (some 23) (bm 10 119) HT_ ?_
    refine pT 3 (some 20) (bm 10 127) HT_ HW_ hHeld ?_
    refine pT 7 (some 24) (bm 10 255) HT_ HW_ hHeld ?_
    refine pO 8 (some 25) (bm 10 511) HT_ (fun K hK=>?_)
    refine gO Try.func56 #[.agg #[.slice A279_0 ((rd_T48 l0 x5_1).f0).length c279_0,.int .i64 ((rd_T48 l0 x5_1).f1),.int .i64 ((rd_T48 l0 x5_1).f2),.int .i64 ((rd_T48 l0 x5_1).f3),.int .i64 ((rd_T48 l0 x5_1).f4)],.agg #[.slice A280_0 ((rd_T48 l1 x5_1).f0).length c280_0,.int .i64 ((rd_T48 l1 x5_1).f1),.int .i64 ((rd_T48 l1 x5_1).f2),.int .i64 ((rd_T48 l1 x5_1).f3),.int .i64 ((rd_T48 l1 x5_1).f4)]] ?_
    with_reducible refine (laws_eqPart.calls k1 _ _ ((rd_T48 l0 x5_1).f0) ((rd_T48 l0 x5_1).f1) ((rd_T48 l0 x5_1).f2) ((rd_T48 l0 x5_1).f3) ((rd_T48 l0 x5_1).f4) _ _ ((rd_T48 l1 x5_1).f0) ((rd_T48 l1 x5_1).f1) ((rd_T48 l1 x5_1).f2) ((rd_T48 l1 x5_1).f3) ((rd_T48 l1 x5_1).f4) false _ ?side1 ?side2 ?side3 ?side4 A7.out).mono ?_
    (case side1=>exact kC (Kd.C_below HR279_0.out HB.out))
    (case side2=>exact HC279_0.out)
    (case side3=>exact kC (Kd.C_below HR280_0.out HB.out))
    (case side4=>exact HC280_0.out)
    rintro e w12 ⟨rfl,hb⟩
    refine⟨_,rfl,?_⟩
    replace HB:=mk0 (kS HB.out hb)
    (try clear hb)
    refine hK.out _ _ ⟨((HB.out.cell (World.block_lt_of_cell? w _ hw279_0)).trans hw279_0),((HB.out.cell (World.block_lt_of_cell? w _ hw279_1)).trans hw279_1),((HB.out.cell (World.block_lt_of_cell? w _ hw279_2)).trans hw279_2),((HB.out.cell (World.block_lt_of_cell? w _ hw279_3)).trans hw279_3),((HB.out.cell (World.block_lt_of_cell? w _ hw279_4)).trans hw279_4),((HB.out.cell (World.block_lt_of_cell? w _ hw280_0)).trans hw280_0),((HB.out.cell (World.block_lt_of_cell? w _ hw280_1)).trans hw280_1),((HB.out.cell (World.block_lt_of_cell? w _ hw280_2)).trans hw280_2),((HB.out.cell (World.block_lt_of_cell? w _ hw280_3)).trans hw280_3),((HB.out.cell (World.block_lt_of_cell? w _ hw280_4)).trans hw280_4)⟩ (fun hHeld=>?_)
    clear hK K
    refine pN (some 25) ?_
    refine pU 9 (some 26) (bm 10 1023) HT_ ?_
    refine pD HT_ ?_
    try go_wp2
    go_ret
    exact⟨by first|rfl|(simp [errW_none,errW_some] <;> rfl)|(simp [*,errW_none,errW_some] <;> rfl),kB HB.out⟩
   subst c8
   have H1:(laws_eqPartS.l0 k1 l0 l1 (wrap64 (x5_1 + 1))) = some r:=by rw [if_pos rfl] at H;exact H
   clear H
   have H:=H1
   clear H1
   have H':=mk0 H
   clear H
   try go_wp2
   replace HB:=mk0 (dZ HB.out)
   have p279:0 ≤ (x5_1:Int):=of_decide_eq_true (by first|(with_reducible assumption)|assumption)
   have q279:x5_1 < (l0.length:Int):=of_decide_eq_true (by first|(with_reducible assumption)|assumption)
   obtain⟨ad279,A279_0,c279_0,e279,hx279_0,hx279_1,hx279_2,hx279_3,hx279_4,hl279_0,hi279_0⟩:=at_T48 HR0.out x5_1 p279 q279
   have hw279_4:=hx279_4
   have hw279_3:=hx279_3
   have hw279_2:=hx279_2
   have hw279_1:=hx279_1
   have hw279_0:=hx279_0
   cases e279
   replace hx279_0:=(HB.out.cell (World.block_lt_of_cell? w _ hx279_0)).trans hx279_0
   replace hx279_1:=(HB.out.cell (World.block_lt_of_cell? w _ hx279_1)).trans hx279_1
   replace hx279_2:=(HB.out.cell (World.block_lt_of_cell? w _ hx279_2)).trans hx279_2
   replace hx279_3:=(HB.out.cell (World.block_lt_of_cell? w _ hx279_3)).trans hx279_3
   replace hx279_4:=(HB.out.cell (World.block_lt_of_cell? w _ hx279_4)).trans hx279_4
   have HR279_0:=mk0 hi279_0
   have HC279_0:=mk0 hl279_0
   clear hi279_0 hl279_0
   replace p279:=eq_true p279
   replace q279:=eq_true q279
   have p280:0 ≤ (x5_1:Int):=of_decide_eq_true (by first|(with_reducible assumption)|assumption)
   have q280:x5_1 < (l1.length:Int):=of_decide_eq_true (by first|(with_reducible assumption)|assumption)
   obtain⟨ad280,A280_0,c280_0,e280,hx280_0,hx280_1,hx280_2,hx280_3,hx280_4,hl280_0,hi280_0⟩:=at_T48 HR1.out x5_1 p280 q280
   have hw280_4:=hx280_4
   have hw280_3:=hx280_3
   have hw280_2:=hx280_2
   have hw280_1:=hx280_1
   have hw280_0:=hx280_0
   cases e280
   replace hx280_0:=(HB.out.cell (World.block_lt_of_cell? w _ hx280_0)).trans hx280_0
   replace hx280_1:=(HB.out.cell (World.block_lt_of_cell? w _ hx280_1)).trans hx280_1
   replace hx280_2:=(HB.out.cell (World.block_lt_of_cell? w _ hx280_2)).trans hx280_2
   replace hx280_3:=(HB.out.cell (World.block_lt_of_cell? w _ hx280_3)).trans hx280_3
   replace hx280_4:=(HB.out.cell (World.block_lt_of_cell? w _ hx280_4)).trans hx280_4
   have HR280_0:=mk0 hi280_0
   have HC280_0:=mk0 hl280_0
   clear hi280_0 hl280_0
   replace p280:=eq_true p280
   replace q280:=eq_true q280
   refine start_ (n:=10) (S:=fun w'=>w'.cell? (ad279.add ((x5_1).toNat * 5)) = some (.slice A279_0 ((rd_T48 l0 x5_1).f0).length c279_0) ∧ w'.cell? ⟨(ad279.add ((x5_1).toNat * 5)).block,(ad279.add ((x5_1).toNat * 5)).off + 1,none⟩ = some (.int .i64 ((rd_T48 l0 x5_1).f1)) ∧ w'.cell? ⟨(ad279.add ((x5_1).toNat * 5)).block,(ad279.add ((x5_1).toNat * 5)).off + 2,none⟩ = some (.int .i64 ((rd_T48 l0 x5_1).f2)) ∧ w'.cell? ⟨(ad279.add ((x5_1).toNat * 5)).block,(ad279.add ((x5_1).toNat * 5)).off + 3,none⟩ = some (.int .i64 ((rd_T48 l0 x5_1).f3)) ∧ w'.cell? ⟨(ad279.add ((x5_1).toNat * 5)).block,(ad279.add ((x5_1).toNat * 5)).off + 4,none⟩ = some (.int .i64 ((rd_T48 l0 x5_1).f4)) ∧ w'.cell? (ad280.add ((x5_1).toNat * 5)) = some (.slice A280_0 ((rd_T48 l1 x5_1).f0).length c280_0) ∧ w'.cell? ⟨(ad280.add ((x5_1).toNat * 5)).block,(ad280.add ((x5_1).toNat * 5)).off + 1,none⟩ = some (.int .i64 ((rd_T48 l1 x5_1).f1)) ∧ w'.cell? ⟨(ad280.add ((x5_1).toNat * 5)).block,(ad280.add ((x5_1).toNat * 5)).off + 2,none⟩ = some (.int .i64 ((rd_T48 l1 x5_1).f2)) ∧ w'.cell? ⟨(ad280.add ((x5_1).toNat * 5)).block,(ad280.add ((x5_1).toNat * 5)).off + 3,none⟩ = some (.int .i64 ((rd_T48 l1 x5_1).f3)) ∧ w'.cell? ⟨(ad280.add ((x5_1).toNat * 5)).block,(ad280.add ((x5_1).toNat * 5)).off + 4,none⟩ = some (.int .i64 ((rd_T48 l1 x5_1).f4))) (ds:=[]) (bm 10 0) (by kernel_rfl) rfl (by kernel_rfl) ⟨((HB.out.cell (World.block_lt_of_cell? w _ hw279_0)).trans hw279_0),((HB.out.cell (World.block_lt_of_cell? w _ hw279_1)).trans hw279_1),((HB.out.cell (World.block_lt_of_cell? w _ hw279_2)).trans hw279_2),((HB.out.cell (World.block_lt_of_cell? w _ hw279_3)).trans hw279_3),((HB.out.cell (World.block_lt_of_cell? w _ hw279_4)).trans hw279_4),((HB.out.cell (World.block_lt_of_cell? w _ hw280_0)).trans hw280_0),((HB.out.cell (World.block_lt_of_cell? w _ hw280_1)).trans hw280_1),((HB.out.cell (World.block_lt_of_cell? w _ hw280_2)).trans hw280_2),((HB.out.cell (World.block_lt_of_cell? w _ hw280_3)).trans hw280_3),((HB.out.cell (World.block_lt_of_cell? w _ hw280_4)).trans hw280_4)⟩ (fun hHeld=>?_);refine with_tabW laws_eqPartS.tab6 laws_eqPartS.bits6 (fun HT_ HW_=>?_)
   generalize wr.drew = w9 at HB HR279_0 HR280_0 hx279_0 hx279_1 hx279_2 hx279_3 hx279_4 hx280_0 hx280_1 hx280_2 hx280_3 hx280_4 hHeld ⊢
   refine pU 0 (some 17) (bm 10 1) HT_ ?_
   refine pU 1 (some 18) (bm 10 3) HT_ ?_
   refine pU 2 (some 19) (bm 10 7) HT_ ?_
   refine pU 4 (some 21) (bm 10 23) HT_ ?_
   refine pU 5 (some 22) (bm 10 55) HT_ ?_
   refine pU 6 (some 23) (bm 10 119) HT_ ?_
   refine pT 3 (some 20) (bm 10 127) HT_ HW_ hHeld ?_
   refine pT 7 (some 24) (bm 10 255) HT_ HW_ hHeld ?_
   refine pO 8 (some 25) (bm 10 511) HT_ (fun K hK=>?_)
   refine gO Try.func56 #[.agg #[.slice A279_0 ((rd_T48 l0 x5_1).f0).length c279_0,.int .i64 ((rd_T48 l0 x5_1).f1),.int .i64 ((rd_T48 l0 x5_1).f2),.int .i64 ((rd_T48 l0 x5_1).f3),.int .i64 ((rd_T48 l0 x5_1).f4)],.agg #[.slice A280_0 ((rd_T48 l1 x5_1).f0).length c280_0,.int .i64 ((rd_T48 l1 x5_1).f1),.int .i64 ((rd_T48 l1 x5_1).f2),.int .i64 ((rd_T48 l1 x5_1).f3),.int .i64 ((rd_T48 l1 x5_1).f4)]] ?_
   with_reducible refine (laws_eqPart.calls k1 _ _ ((rd_T48 l0 x5_1).f0) ((rd_T48 l0 x5_1).f1) ((rd_T48 l0 x5_1).f2) ((rd_T48 l0 x5_1).f3) ((rd_T48 l0 x5_1).f4) _ _ ((rd_T48 l1 x5_1).f0) ((rd_T48 l1 x5_1).f1) ((rd_T48 l1 x5_1).f2) ((rd_T48 l1 x5_1).f3) ((rd_T48 l1 x5_1).f4) true _ ?side1 ?side2 ?side3 ?side4 A7.out).mono ?_
   (case side1=>exact kC (Kd.C_below HR279_0.out HB.out))
   (case side2=>exact HC279_0.out)
   (case side3=>exact kC (Kd.C_below HR280_0.out HB.out))
   (case side4=>exact HC280_0.out)
   rintro e w10 ⟨rfl,hb⟩
   refine⟨_,rfl,?_⟩
   replace HB:=mk0 (kS HB.out hb)
   (try clear hb)
   refine hK.out _ _ ⟨((HB.out.cell (World.block_lt_of_cell? w _ hw279_0)).trans hw279_0),((HB.out.cell (World.block_lt_of_cell? w _ hw279_1)).trans hw279_1),((HB.out.cell (World.block_lt_of_cell? w _ hw279_2)).trans hw279_2),((HB.out.cell (World.block_lt_of_cell? w _ hw279_3)).trans hw279_3),((HB.out.cell (World.block_lt_of_cell? w _ hw279_4)).trans hw279_4),((HB.out.cell (World.block_lt_of_cell? w _ hw280_0)).trans hw280_0),((HB.out.cell (World.block_lt_of_cell? w _ hw280_1)).trans hw280_1),((HB.out.cell (World.block_lt_of_cell? w _ hw280_2)).trans hw280_2),((HB.out.cell (World.block_lt_of_cell? w _ hw280_3)).trans hw280_3),((HB.out.cell (World.block_lt_of_cell? w _ hw280_4)).trans hw280_4)⟩ (fun hHeld=>?_)
   clear hK K
   refine pN (some 25) ?_
   refine pU 9 (some 26) (bm 10 1023) HT_ ?_
   refine pD HT_ ?_
   try go_wp2
   go_roundg k1
   case measure=>have:=HK1.out;omega
   case rel=>exact⟨(wrap64 (x5_1 + 1)),(by first|rfl|(simp;done)|(simp [*];done)),H',⟨by have:=HK1.out;omega⟩,⟨kB HB.out⟩⟩
end Go.Proofs.Ytadhngelhognaaa.QFnExactParts
