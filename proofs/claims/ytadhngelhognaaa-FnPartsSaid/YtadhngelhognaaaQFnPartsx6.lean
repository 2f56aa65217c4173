-- A walk, made by walk.py, a program of this session's.
import Derived.Test.YtadhngelhognaaaQFnPartsx0
import Derived.Test.YtadhngelhognaaaQFnPartsx5
namespace Go.Proofs.Ytadhngelhognaaa.QFnParts
open Go.RowKit Go.Proofs.YtadhngelhognaaaW.PrintWords Go.Proofs.YtadhngelhognaaaW.PrintLast Go.Proofs.YtadhngelhognaaaW.PrintMore
attribute [local go_sem] max2_int min2_int max_two min_two max_three min_three max_four min_four   -- for this text's walks alone
set_option linter.unusedVariables false
set_option linter.unusedSimpArgs false

/-! ### impl_headRows: function 77 -/
def impl_headRows.l0 : Nat → List ByteArray → ByteArray → Int → Int → Option (Int × Int)
 | 0, _, _, _, _ => none
 | k + 1, x0, x1, x6, x8 => if x8 < (x0.length : Int) then (if 0 ≤ x8 then (if (rdOf ByteArray.empty x0 x8).toList = x1.toList then (impl_headRows.l0 k x0 x1 x6 (wrap64 (x8 + 1))) else (some (x6, x8))) else (none)) else (some (x6, x8))
def impl_headRows.f (k : Nat) (l0 : List ByteArray) (a1 : ByteArray) : Option (Int × Int) := (slices_BinarySearch_string_string.f k l0 a1).bind fun bt407 => (impl_headRows.l0 k l0 a1 bt407.1 bt407.1)
theorem impl_headRows.mono_l : ∀ k, (∀ y0 y1 y2 y3, LeO (impl_headRows.l0 k y0 y1 y2 y3) (impl_headRows.l0 (k + 1) y0 y1 y2 y3))
 | 0 => fun _ _ _ _ r h => by simp [impl_headRows.l0] at h
 | k + 1 => by
  have ih0 := impl_headRows.mono_l k
  ·intro y0 y1 y2 y3
   unfold impl_headRows.l0
   repeat' first|(with_reducible first|exact ih0 _ _ _ _|exact slices_BinarySearch_string_string.mono _ _ _|exact LeO.refl _|exact LeO.none _|refine LeO.ite ?_ ?_|refine LeO.bind ?_ (fun _ => ?_))|exact LeO.none _|refine LeO.ite ?_ ?_|refine LeO.bind ?_ (fun _ => ?_)
theorem impl_headRows.mono : ∀ a0 a1 k, LeO (impl_headRows.f k a0 a1) (impl_headRows.f (k + 1) a0 a1) := by
 intro a0 a1 k
 have ih0 := impl_headRows.mono_l k
 unfold impl_headRows.f
 repeat' first|(with_reducible first|exact ih0 _ _ _ _|exact slices_BinarySearch_string_string.mono _ _ _|exact LeO.refl _|exact LeO.none _|refine LeO.ite ?_ ?_|refine LeO.bind ?_ (fun _ => ?_))|exact LeO.none _|refine LeO.ite ?_ ?_|refine LeO.bind ?_ (fun _ => ?_)
set_option maxHeartbeats 8000000 in
set_option maxRecDepth 100000 in
theorem impl_headRows.calls (k : Nat) (A0 : Option Addr) (c0 : Nat) (l0 : List ByteArray) (a1 : ByteArray) (r1 : Int) (r2 : Int) (w : World) (hr0 : Kd.C Kd.string w A0 l0.length l0) (hc0 : l0.length ≤ c0) (h : impl_headRows.f k l0 a1 = some (r1, r2)) :
  Calls Try.prog 77 #[.slice A0 l0.length c0, .string a1] w fun e w' => e = .returned (.tuple #[.int .i64 r1, .int .i64 r2]) ∧ Drawn0 w w' := by
 have HR0:=mk0 hr0
 have HC0:=mk0 hc0
 clear hr0 hc0
 have H:((slices_BinarySearch_string_string.f k l0 a1).bind fun bt407=>(impl_headRows.l0 k l0 a1 bt407.1 bt407.1)) = some (r1,r2):=h
 clear h
 replace H:=Option.bind_eq_some_iff.mp H
 obtain⟨⟨t407,t408⟩,A30,H⟩:=H
 replace H:(impl_headRows.l0 k l0 a1 t407 t407) = some (r1,r2):=H
 have A3:=mk0 A30
 clear A30
 have H':=mk0 H
 clear H
 go_enter Try.func77,Try.ntmps77
 go_wp2_with (first|((with_reducible refine gate_callee (f:=87) rfl ?_);refine gL (some 12) Try.func87 #[.slice A0 l0.length c0,.string a1] ?_;(with_reducible refine (slices_BinarySearch_string_string.calls k _ _ l0 a1 t407 t408 _ ?side1 ?side2 A3.out).mono ?_);(case side1=>repeat (first|exact HR0.out|(with_reducible first|apply aC|apply nC|apply dC)));(case side2=>exact HC0.out);rintro e w' ⟨rfl,⟨nd,rfl⟩⟩;refine⟨_,rfl,?_⟩))
 go_loopg [8] k (fun kq v8 w'=>∃ (x8_1:Int),v8 = .int .i64 x8_1 ∧ Aside0 (impl_headRows.l0 kq l0 a1 t407 x8_1 = some (r1,r2)) ∧ Aside0 (kq ≤ k) ∧ Drawn0 w w')
 case atStart=>exact⟨(t407),(by first|rfl|(simp;done)|(simp [*];done)),H',⟨Nat.le_refl _⟩,by repeat (first|exact Drawn0.refl _|apply Drawn0.step)⟩
 case round =>
  clear H'
  try clear p2
  obtain⟨x8_1,rfl,HA,HK1,⟨m1,rfl⟩⟩:=hrel
  cases gk with
  | zero=>exact absurd HA.out (by simp [impl_headRows.l0])
  | succ k1 =>
   have H:=HA.out
   clear HA
   simp only [impl_headRows.l0] at H
   by_cases c4:x8_1 < (l0.length:Int)
   ·rw [if_pos c4] at H
    have c4b0:decide (x8_1 < (l0.length:Int)) = true:=decide_eq_true c4
    clear c4
    by_cases c5:0 ≤ x8_1
    ·rw [if_pos c5] at H
     have c5b0:decide (0 ≤ x8_1) = true:=decide_eq_true c5
     clear c5
     by_cases c6:(rdOf ByteArray.empty l0 x8_1).toList = a1.toList
     ·rw [if_pos c6] at H
      have c6b0:((rdOf ByteArray.empty l0 x8_1).toList == a1.toList) = true:=beq_iff_eq.mpr c6
      have c6b1:((rdOf ByteArray.empty l0 x8_1).toList != a1.toList) = false:=bne_eq_false_iff_eq.mpr c6
      clear c6
      have H':=mk0 H
      clear H
      have p409:0 ≤ (x8_1:Int):=of_decide_eq_true (by first|(with_reducible assumption)|assumption)
      have q409:x8_1 < (l0.length:Int):=of_decide_eq_true (by first|(with_reducible assumption)|assumption)
      obtain⟨ad409,e409,hx409_0⟩:=Kd.at_string HR0.out x8_1 p409 q409
      cases e409
      replace p409:=eq_true p409
      replace q409:=eq_true q409
      go_wp2
      go_roundg k1
      case measure=>have:=HK1.out;omega
      case rel=>exact⟨(wrap64 (x8_1 + 1)),(by first|rfl|(simp;done)|(simp [*];done)),H',⟨by have:=HK1.out;omega⟩,by repeat (first|exact Drawn0.refl _|apply Drawn0.step)⟩
     ·rw [if_neg c6] at H
      have c6b0:((rdOf ByteArray.empty l0 x8_1).toList == a1.toList) = false:=beq_eq_false_iff_ne.mpr c6
      have c6b1:((rdOf ByteArray.empty l0 x8_1).toList != a1.toList) = true:=bne_iff_ne.mpr c6
      simp only [Option.some.injEq,Prod.mk.injEq] at H
      obtain⟨rfl,rfl⟩:=H
      have p409:0 ≤ (x8_1:Int):=of_decide_eq_true (by first|(with_reducible assumption)|assumption)
      have q409:x8_1 < (l0.length:Int):=of_decide_eq_true (by first|(with_reducible assumption)|assumption)
      obtain⟨ad409,e409,hx409_0⟩:=Kd.at_string HR0.out x8_1 p409 q409
      cases e409
      replace p409:=eq_true p409
      replace q409:=eq_true q409
      go_wp2
      go_ret2
      exact⟨by first|rfl|(simp;done)|(simp [*];done),by repeat (first|exact Drawn0.refl _|apply Drawn0.step)⟩
    ·rw [if_neg c5] at H
     exact absurd H (by simp)
   ·rw [if_neg c4] at H
    have c4b0:decide (x8_1 < (l0.length:Int)) = false:=decide_eq_false c4
    clear c4
    simp only [Option.some.injEq,Prod.mk.injEq] at H
    obtain⟨rfl,rfl⟩:=H
    go_wp2
    go_ret2
    exact⟨by first|rfl|(simp;done)|(simp [*];done),by repeat (first|exact Drawn0.refl _|apply Drawn0.step)⟩


/-! ### impl_parts: function 55 (by hand) -/
def impl_parts.l0 : Nat → List ByteArray → List ByteArray → List ByteArray → Int → List S48 → Option (List S48)
 | 0, _, _, _, _, _ => none
 | k + 1, a, b, ws, i, out => if i < (ws.length : Int) then (if 0 ≤ i then ((impl_headRows.f k a (rdOf ByteArray.empty ws i)).bind fun p => (impl_headRows.f k b (rdOf ByteArray.empty ws i)).bind fun q => if out.length < 1048576 then impl_parts.l0 k a b ws (wrap64 (i + 1)) (out ++ [(⟨bytesOf (rdOf ByteArray.empty ws i), p.1, p.2, q.1, q.2⟩ : S48)]) else none) else none) else some out
def impl_parts.f (k : Nat) (l0 : List Int) (l1 : List Int) (a2 : Int) : Option (List S48) := (impl_heads.f k l0 a2).bind fun a => (impl_heads.f k l1 a2).bind fun b => (slices_Concat_string_string.f k [a, b]).bind fun c => if c.length ≤ 1048576 ∧ (∀ x ∈ c, x.size ≤ 1048576) then impl_parts.l0 k a b (Srt.wordsOf c) 0 [] else none
theorem impl_parts.mono_l0 : ∀ k y0 y1 y2 y3 y4, LeO (impl_parts.l0 k y0 y1 y2 y3 y4) (impl_parts.l0 (k + 1) y0 y1 y2 y3 y4)
 | 0 => fun _ _ _ _ _ r h => by simp [impl_parts.l0] at h
 | k + 1 => by
  intro y0 y1 y2 y3 y4
  have ih0 := impl_parts.mono_l0 k
  unfold impl_parts.l0
  exact LeO.ite (LeO.ite (LeO.bind (impl_headRows.mono _ _ _) (fun _ => LeO.bind (impl_headRows.mono _ _ _) (fun _ => LeO.ite (ih0 _ _ _ _ _) (LeO.none _)))) (LeO.none _)) (LeO.refl _)
theorem impl_parts.mono : ∀ a0 a1 a2 k, LeO (impl_parts.f k a0 a1 a2) (impl_parts.f (k + 1) a0 a1 a2) := by
  intro a0 a1 a2 k
  unfold impl_parts.f
  exact LeO.bind (impl_heads.mono _ _ _) (fun _ => LeO.bind (impl_heads.mono _ _ _) (fun _ => LeO.bind (slices_Concat_string_string.mono _ _) (fun _ => LeO.ite (impl_parts.mono_l0 _ _ _ _ _ _) (LeO.none _))))
theorem impl_parts.bytesF {W0 W : World} (s : ByteArray) (hs : s.size ≤ 1048576) (hW : W.heap[W0.heap.size]? = (Lib.bytesWorld W0 5 s).heap[W0.heap.size]?) : Kd.F (Kd.int .u8) W (fun k => k = W0.heap.size) (some ⟨W0.heap.size, 0, none⟩) (bytesOf s).length (bytesOf s) := fun W' hk => by
  have hlt : W0.heap.size < W.heap.size := by
    have h1 : W0.heap.size < (Lib.bytesWorld W0 5 s).heap.size := by rw [Lib.bytesWorld_size]; omega
    rw [Array.getElem?_eq_getElem h1] at hW
    exact (Array.getElem?_eq_some_iff.1 hW).1
  have h2 := (hk _ rfl hlt).trans hW
  have hr := bytes_reads W0 5 s (by omega)
  rw [← bytesOf_length] at hr
  refine Kd.C_of_reads (enc := Value.int .u8) (d := (0 : Int)) (readsInt_of.1 ⟨hr.1, hr.2.1, fun hn => ?_⟩)
  obtain ⟨ad, e, hc⟩ := hr.2.2 hn
  injection e with e
  subst e
  refine ⟨_, rfl, fun j hj => ?_⟩
  rw [← hc j hj, add_plain]
  exact World.cell?_of_block h2
set_option maxHeartbeats 8000000 in
set_option maxRecDepth 100000 in
theorem impl_parts.calls (k : Nat) (A0 : Option Addr) (c0 : Nat) (l0 : List Int) (A1 : Option Addr) (c1 : Nat) (l1 : List Int) (a2 : Int) (r : List S48) (w : World) (hr0 : Kd.C (Kd.int .u8) w A0 l0.length l0) (hc0 : l0.length ≤ c0) (hr1 : Kd.C (Kd.int .u8) w A1 l1.length l1) (hc1 : l1.length ≤ c1) (h : impl_parts.f k l0 l1 a2 = some r) :
    Calls Try.prog 55 #[.slice A0 l0.length c0, .slice A1 l1.length c1, .int .i64 a2] w fun e w' => ∃ v0_ : Value, e = .returned (v0_) ∧ Kd.N k48 48 w' w.heap.size (fun k_ => w.heap.size ≤ k_) v0_ r ∧ Below w.heap.size w w' := by
  unfold impl_parts.f at h
  obtain ⟨a, ha, h⟩ := Option.bind_eq_some_iff.mp h
  obtain ⟨b, hb, h⟩ := Option.bind_eq_some_iff.mp h
  obtain ⟨c, hcc, h⟩ := Option.bind_eq_some_iff.mp h
  by_cases hm : c.length ≤ 1048576 ∧ (∀ x ∈ c, x.size ≤ 1048576)
  rotate_left
  · rw [if_neg hm] at h
    exact absurd h (by simp)
  rw [if_pos hm] at h
  have HA := Aside0.mk ha
  have HBB := Aside0.mk hb
  have HCC := Aside0.mk hcc
  have HM := Aside0.mk hm
  have H := Aside0.mk h
  have HR0 := Aside0.mk hr0
  have HC0 := Aside0.mk hc0
  have HR1 := Aside0.mk hr1
  have HC1 := Aside0.mk hc1
  clear ha hb hcc hm h hr0 hc0 hr1 hc1
  go_enter Try.func55, Try.ntmps55
  go_wp2_with (first
    | (go_at_call 72; (with_reducible refine (impl_heads.calls k A0 c0 l0 a2 a w ?s1 ?s2 HA.out).mono ?_); (case s1 => exact HR0.out); (case s2 => exact HC0.out); rintro e w1 ⟨va, rfl, ra, ba⟩; obtain ⟨Aa, ca, ea⟩ := Kd.R_slice ra; subst ea; have SA1 := Aside0.mk ra; have B1 := Aside0.mk ba; clear ra ba)
    | (go_at_call 72; (with_reducible refine (impl_heads.calls k A1 c1 l1 a2 b w1 ?s1 ?s2 HBB.out).mono ?_); (case s1 => exact Kd.C_below HR1.out B1.out); (case s2 => exact HC1.out); rintro e w2 ⟨vb, rfl, rb, bb⟩; obtain ⟨Ab, cb, eb⟩ := Kd.R_slice rb; subst eb; have SA2 := Aside0.mk (Kd.R_below SA1.out bb); have SB2 := Aside0.mk (Kd.R_lower rb B1.out.size); have B2 := Aside0.mk (below_then B1.out B1.out.size bb); clear rb bb)
    | (go_at_call 76; (refine (slices_Concat_string_string.calls k (some ⟨w2.heap.size, 0, none⟩) 2 [a, b] c _ ?s1 ?s2 HCC.out).mono ?_); (case s1 => exact Srt.two_rows SA2.out SB2.out (below_alloc (Below.refl _ _) _) (blk_new w2 _)); (case s2 => exact Nat.le_refl _); rintro e w3 ⟨vc, rfl, rc, bc⟩; obtain ⟨Ac, cc, ec⟩ := Kd.R_slice rc; subst ec; have hb3 := below_then (below_alloc (Below.refl w2.heap.size w2) _) (below_alloc (Below.refl w2.heap.size w2) _).size bc; have SA3 := Aside0.mk (Kd.R_mono (Kd.R_bound (Kd.R_below SA2.out hb3)) (fun q hq => hq.2.2.1)); have SB3 := Aside0.mk (Kd.R_mono (Kd.R_bound (Kd.R_below SB2.out hb3)) (fun q hq => hq.2.2.1)); have B3 := Aside0.mk (below_then B2.out B2.out.size hb3); have SC3 := Aside0.mk (Kd.R_lower rc (Nat.le_trans B2.out.size (below_alloc (Below.refl w2.heap.size w2) _).size)); clear rc bc hb3)
    | (go_at_call 75; (with_reducible refine (Srt.valuesOf _ Ac c.length cc rfl w3).mono ?_); rintro e w' ⟨rfl, rfl⟩)
    | (go_at_call 74; (with_reducible refine (Srt.sortedOf (.slice Ac c.length cc) w3.heap.size w.heap.size (fun _ => True) c HM.out.1 _ ?s1 ?s2).mono ?_); (case s1 => exact (blk_cell (blk_new w3 _) 0).trans rfl); (case s2 => exact Kd.R_alloc SC3.out _); rintro e w4 ⟨vs, rfl, rs, bs⟩; have hb4 := below_then (below_alloc (Below.refl w3.heap.size w3) (.cells #[.slice Ac c.length cc] 82)) (below_alloc (Below.refl w3.heap.size w3) _).size bs; have SA4 := Aside0.mk (Kd.R_below SA3.out hb4); have SB4 := Aside0.mk (Kd.R_below SB3.out hb4); have B4 := Aside0.mk (below_then B3.out B3.out.size hb4); have SS4 := Aside0.mk (Kd.R_lower rs (below_alloc (Below.refl w3.heap.size w3) _).size); obtain ⟨As, cs, es⟩ := Kd.R_slice rs; subst es; clear rs bs hb4)
    | (go_at_call 73; (with_reducible refine (Srt.compactOf (.slice As (Srt.sortedS c).length cs) (fun _ => True) (Srt.sortedS c) w w4 B4.out (Kd.R_lower SS4.out B3.out.size) ?s1).mono ?_); (case s1 => rw [Srt.sortedS_len]; exact HM.out.1); rintro e w5 ⟨vw, rfl, rw5, b5, g5⟩; rw [Srt.words_eq] at rw5; obtain ⟨ws, hws⟩ : ∃ q, Srt.wordsOf c = q := ⟨_, rfl⟩; rw [hws] at rw5; have HWE := Aside0.mk hws; clear hws; obtain ⟨Aw, cw, ew⟩ := Kd.R_slice rw5; subst ew; have SW := Aside0.mk rw5; have SA := Aside0.mk (Kd.R_mono (Kd.R_grown SA4.out g5 (fun q hq e => by have := Kd.R_base SS4.out q e.symm; omega)) (fun _ _ => trivial) : Kd.string.R 9 w5 w.heap.size (fun _ => True) (.slice Aa a.length ca) a); have SB := Aside0.mk (Kd.R_mono (Kd.R_grown SB4.out g5 (fun q hq e => by have := Kd.R_base SS4.out q e.symm; omega)) (fun _ _ => trivial) : Kd.string.R 9 w5 w.heap.size (fun _ => True) (.slice Ab b.length cb) b); have B5 := Aside0.mk b5; clear rw5 b5 g5))
  have HWS := Aside0.mk (fun x hx => HM.out.2 x (Srt.words_mem (xs := c) (x := x) hx))
  rw [HWE.out] at H HWS
  clear HWE SA1 SB2 SA2 SA3 SB3 SA4 SB4 SC3 SS4 B1 B2 B3 B4 HA HBB HCC HM HR0 HC0 HR1 HC1
  go_loopg [10, 29] k (fun kq v10 v29 W => ∃ (out : List S48) (x : Int), v29 = .int .i64 x ∧ Aside0 (impl_parts.l0 kq a b ws x out = some r) ∧ Aside0 (kq ≤ k) ∧ Aside0 (Kd.N k48 48 W w.heap.size (fun k_ => w.heap.size ≤ k_) v10 out) ∧ Aside0 (Kd.string.R 9 W w.heap.size (fun _ => True) (.slice Aa a.length ca) a) ∧ Aside0 (Kd.string.R 9 W w.heap.size (fun _ => True) (.slice Ab b.length cb) b) ∧ Aside0 (Kd.string.R 9 W w.heap.size (fun _ => True) (.slice Aw ws.length cw) ws) ∧ Aside0 (Below w.heap.size w W))
  case atStart => exact ⟨[], 0, rfl, H, ⟨Nat.le_refl _⟩, ⟨Kd.N_nil _ _ _ _ _⟩, SA, SB, SW, B5⟩
  case round =>
    clear H SA SB SW B5
    obtain ⟨out, x, rfl, HA, HK, HO, SA, SB, SW, HB⟩ := hrel
    cases gk with
    | zero => exact absurd HA.out (by simp [impl_parts.l0])
    | succ k1 =>
      have H := HA.out
      clear HA
      simp only [impl_parts.l0] at H
      by_cases c1 : x < (ws.length : Int)
      rotate_left
      · rw [if_neg c1] at H
        have c1b : decide (x < (ws.length : Int)) = false := decide_eq_false c1
        clear c1
        obtain rfl := Option.some.inj H
        clear H
        obtain ⟨Ao, co, eo⟩ := Kd.N_slice HO.out
        subst eo
        go_wp2
        go_ret
        exact ⟨_, rfl, HO.out, HB.out⟩
      rw [if_pos c1] at H
      by_cases c2 : 0 ≤ x
      rotate_left
      · rw [if_neg c2] at H
        exact absurd H (by simp)
      rw [if_pos c2] at H
      obtain ⟨⟨p1, p2⟩, hp, H⟩ := Option.bind_eq_some_iff.mp H
      obtain ⟨⟨q1, q2⟩, hq, H⟩ := Option.bind_eq_some_iff.mp H
      by_cases c3 : out.length < 1048576
      rotate_left
      · rw [if_neg c3] at H
        exact absurd H (by simp)
      rw [if_pos c3] at H
      have c1b : decide (x < (ws.length : Int)) = true := decide_eq_true c1
      obtain ⟨ad, ead, hx⟩ := Kd.at_string (Kd.R_reads' SW.out).2.2 x c2 c1
      subst ead
      have hmem : rdOf ByteArray.empty ws x ∈ ws := by
        unfold rdOf
        rw [List.getD_eq_getElem?_getD, List.getElem?_eq_getElem (by omega)]
        exact List.getElem_mem (by omega)
      have hsz := HWS.out _ hmem
      obtain ⟨s, hs⟩ : ∃ q, rdOf ByteArray.empty ws x = q := ⟨_, rfl⟩
      rw [hs] at hx hsz hp hq H
      have HP := Aside0.mk hp
      have HQ := Aside0.mk hq
      have HSZ := Aside0.mk hsz
      have H' := Aside0.mk H
      have LM := Aside0.mk c3
      clear hp hq hsz H c3 hs hmem
      obtain ⟨Ao, co, eo⟩ := Kd.N_slice HO.out
      subst eo
      have hcv := print_bytes (P := Try.prog) 9 22 5 Try.underlying9 Try.underlying22 Try.underlying5 s wr
      go_wp2_with (first | ((with_reducible refine gate_dst (N := 13) rfl ?_); refine box_event ?hg (N := 13) ?hd (cs := #[.slice none 0 0, .int .i64 0, .int .i64 0, .int .i64 0, .int .i64 0]) (t := 48) ?hr ?_; (case hd => rfl); (case hg => rfl); (case hr => first | (go_simp; done) | (go_simp; rfl)); intro g hg_ w6 hbx hb; have RD := Aside0.mk (show Srt.Rd wr w6 s g #[.slice none 0 0, .int .i64 0, .int .i64 0, .int .i64 0, .int .i64 0] from ⟨below_then (bytes_below (Below.refl wr.heap.size wr) (Nat.le_refl _) 5 s) (bytes_below (Below.refl wr.heap.size wr) (Nat.le_refl _) 5 s).size hb, hb.block _ (by rw [Lib.bytesWorld_size]; omega), hbx, by rw [hg_, Lib.bytesWorld_size]; omega⟩); clear hg_ hbx hb) | ((with_reducible refine gate_store (t := 48) (p := 13) (v := .tmp 35) rfl ?_); refine store_event (t := 48) (p := 13) (v := .tmp 35) (w1 := (World.setCell (World.setCell (World.setCell (World.setCell (World.setCell w6 ⟨g, 0, none⟩ (.slice (some ⟨wr.heap.size, 0, none⟩) s.size (grownCap wr s.size 0 5))) ⟨g, 1, none⟩ (.int .i64 0)) ⟨g, 2, none⟩ (.int .i64 0)) ⟨g, 3, none⟩ (.int .i64 0)) ⟨g, 4, none⟩ (.int .i64 0))) ?hg ?ho ?hn ?hr ?_; (case ho => rfl); (case hg => rfl); (case hn => rfl); (case hr => have c0_ : _ = some (Value.slice none 0 0) := (blk_cell RD.out.bx 0).trans rfl; have c1_ : _ = some (Value.int .i64 0) := (blk_cell RD.out.bx 1).trans rfl; have c2_ : _ = some (Value.int .i64 0) := (blk_cell RD.out.bx 2).trans rfl; have c3_ : _ = some (Value.int .i64 0) := (blk_cell RD.out.bx 3).trans rfl; have c4_ : _ = some (Value.int .i64 0) := (blk_cell RD.out.bx 4).trans rfl; have f0_ := blk_frozen RD.out.bx 0; have f1_ := blk_frozen RD.out.bx 1; have f2_ := blk_frozen RD.out.bx 2; have f3_ := blk_frozen RD.out.bx 3; have f4_ := blk_frozen RD.out.bx 4; first | (go_simp; done) | (go_simp; rfl)); intro w7 hw; replace RD := Aside0.mk (RD.out.set (W' := w7) (cs' := #[(.slice (some ⟨wr.heap.size, 0, none⟩) s.size (grownCap wr s.size 0 5)), .int .i64 0, .int .i64 0, .int .i64 0, .int .i64 0]) (by rw [hw]; exact Srt.grown_two (Srt.grown_two (Srt.grown_two (Srt.grown_two (Srt.grown_cell _ g 0 _) (Srt.grown_cell _ g 1 _)) (Srt.grown_cell _ g 2 _)) (Srt.grown_cell _ g 3 _)) (Srt.grown_cell _ g 4 _)) (by rw [hw]; exact blk_put (blk_put (blk_put (blk_put (blk_put RD.out.bx 0 _ rfl) 1 _ rfl) 2 _ rfl) 3 _ rfl) 4 _ rfl)); clear hw) | (go_at_call 77; (with_reducible refine (impl_headRows.calls k1 Aa ca a s p1 p2 w7 ?s1 ?s2 HP.out).mono ?_); (case s1 => exact Kd.C_below (Kd.R_reads' SA.out).2.2 RD.out.be); (case s2 => exact (Kd.R_reads' SA.out).2.1); rintro e w' ⟨rfl, ⟨nd, rfl⟩⟩; replace RD := Aside0.mk (RD.out.drew nd)) | ((with_reducible refine gate_store (t := 3) (p := 42) (v := .tmp 40) rfl ?_); refine store_event (t := 3) (p := 42) (v := .tmp 40) (w1 := (World.setCell (w7.drewN nd) ⟨g, 1, none⟩ (.int .i64 p1))) ?hg ?ho ?hn ?hr ?_; (case ho => rfl); (case hg => rfl); (case hn => rfl); (case hr => have c_ : _ = some (Value.int .i64 0) := (blk_cell RD.out.bx 1).trans rfl; have f_ := blk_frozen RD.out.bx 1; first | (go_simp; done) | (go_simp; rfl)); intro w8 hw; replace RD := Aside0.mk (RD.out.set (W' := w8) (cs' := #[(.slice (some ⟨wr.heap.size, 0, none⟩) s.size (grownCap wr s.size 0 5)), .int .i64 p1, .int .i64 0, .int .i64 0, .int .i64 0]) (by rw [hw]; exact Srt.grown_cell _ g 1 _) (by rw [hw]; exact blk_put RD.out.bx 1 _ rfl)); clear hw) | ((with_reducible refine gate_store (t := 3) (p := 43) (v := .tmp 41) rfl ?_); refine store_event (t := 3) (p := 43) (v := .tmp 41) (w1 := (World.setCell w8 ⟨g, 2, none⟩ (.int .i64 p2))) ?hg ?ho ?hn ?hr ?_; (case ho => rfl); (case hg => rfl); (case hn => rfl); (case hr => have c_ : _ = some (Value.int .i64 0) := (blk_cell RD.out.bx 2).trans rfl; have f_ := blk_frozen RD.out.bx 2; first | (go_simp; done) | (go_simp; rfl)); intro w9 hw; replace RD := Aside0.mk (RD.out.set (W' := w9) (cs' := #[(.slice (some ⟨wr.heap.size, 0, none⟩) s.size (grownCap wr s.size 0 5)), .int .i64 p1, .int .i64 p2, .int .i64 0, .int .i64 0]) (by rw [hw]; exact Srt.grown_cell _ g 2 _) (by rw [hw]; exact blk_put RD.out.bx 2 _ rfl)); clear hw) | (go_at_call 77; (with_reducible refine (impl_headRows.calls k1 Ab cb b s q1 q2 w9 ?s1 ?s2 HQ.out).mono ?_); (case s1 => exact Kd.C_below (Kd.R_reads' SB.out).2.2 RD.out.be); (case s2 => exact (Kd.R_reads' SB.out).2.1); rintro e w' ⟨rfl, ⟨ne, rfl⟩⟩; replace RD := Aside0.mk (RD.out.drew ne)) | ((with_reducible refine gate_store (t := 3) (p := 50) (v := .tmp 48) rfl ?_); refine store_event (t := 3) (p := 50) (v := .tmp 48) (w1 := (World.setCell (w9.drewN ne) ⟨g, 3, none⟩ (.int .i64 q1))) ?hg ?ho ?hn ?hr ?_; (case ho => rfl); (case hg => rfl); (case hn => rfl); (case hr => have c_ : _ = some (Value.int .i64 0) := (blk_cell RD.out.bx 3).trans rfl; have f_ := blk_frozen RD.out.bx 3; first | (go_simp; done) | (go_simp; rfl)); intro w10 hw; replace RD := Aside0.mk (RD.out.set (W' := w10) (cs' := #[(.slice (some ⟨wr.heap.size, 0, none⟩) s.size (grownCap wr s.size 0 5)), .int .i64 p1, .int .i64 p2, .int .i64 q1, .int .i64 0]) (by rw [hw]; exact Srt.grown_cell _ g 3 _) (by rw [hw]; exact blk_put RD.out.bx 3 _ rfl)); clear hw) | ((with_reducible refine gate_store (t := 3) (p := 51) (v := .tmp 49) rfl ?_); refine store_event (t := 3) (p := 51) (v := .tmp 49) (w1 := (World.setCell w10 ⟨g, 4, none⟩ (.int .i64 q2))) ?hg ?ho ?hn ?hr ?_; (case ho => rfl); (case hg => rfl); (case hn => rfl); (case hr => have c_ : _ = some (Value.int .i64 0) := (blk_cell RD.out.bx 4).trans rfl; have f_ := blk_frozen RD.out.bx 4; first | (go_simp; done) | (go_simp; rfl)); intro w11 hw; replace RD := Aside0.mk (RD.out.set (W' := w11) (cs' := #[(.slice (some ⟨wr.heap.size, 0, none⟩) s.size (grownCap wr s.size 0 5)), .int .i64 p1, .int .i64 p2, .int .i64 q1, .int .i64 q2]) (by rw [hw]; exact Srt.grown_cell _ g 4 _) (by rw [hw]; exact blk_put RD.out.bx 4 _ rfl)); clear hw; have d0 : _ = some (Value.slice (some ⟨wr.heap.size, 0, none⟩) s.size (grownCap wr s.size 0 5)) := (blk_cell RD.out.bx 0).trans rfl; have d1 : _ = some (Value.int .i64 p1) := (blk_cell RD.out.bx 1).trans rfl; have d2 : _ = some (Value.int .i64 p2) := (blk_cell RD.out.bx 2).trans rfl; have d3 : _ = some (Value.int .i64 q1) := (blk_cell RD.out.bx 3).trans rfl; have d4 : _ = some (Value.int .i64 q2) := (blk_cell RD.out.bx 4).trans rfl) | ((with_reducible refine gate_builtin (b := .append) (xs := #[.tmp 52, .tmp 54]) rfl ?_); at_builtin; refine Kd.N_append k48 (w0 := w) (W := w11) w.heap.size rfl (.tmp 52) (.tmp 54) 43 48 (.agg #[(.slice none 0 0), (.int .i64 0), (.int .i64 0), (.int .i64 0), (.int .i64 0)]) 56 rfl Try.underlying43 info48 rfl (by decide) (by omega) (.slice Ao out.length co) out (⟨bytesOf s, p1, p2, q1, q2⟩ : S48) [(.slice (some ⟨wr.heap.size, 0, none⟩) s.size (grownCap wr s.size 0 5)), .int .i64 p1, .int .i64 p2, .int .i64 q1, .int .i64 q2] (fun k_ => w.heap.size ≤ k_) (fun k_ => k_ = wr.heap.size) rfl rfl ?aP ?aK ?aF ?aO ?aB ?aS ?aL ?_; (case aP => rw [← bytesOf_length s]; exact k48_mkF w11 _ (⟨bytesOf s, p1, p2, q1, q2⟩ : S48) (grownCap_ge _ _ _ _) (impl_parts.bytesF s HSZ.out RD.out.by_)); (case aK => intro k_ hk_; subst hk_; exact ⟨HB.out.size, fun e => by have := Kd.N_lt HO.out _ e.symm; omega⟩); (case aF => intro k_ hk_; have := RD.out.be.size; have := HB.out.size; omega); (case aO => exact Kd.N_below HO.out RD.out.be); (case aB => exact below_then HB.out HB.out.size RD.out.be); (case aS => have := RD.out.be.size; have := HB.out.size; omega); (case aL => have := LM.out; omega); intro v12 w12 ho hb hg hat; have HO2 := Aside0.mk ho; have HB2 := Aside0.mk hb; have HG2 := Aside0.mk hg; clear ho hb hg hat))
      go_roundg k1
      case measure => have := HK.out; omega
      case rel =>
        have hty := Kd.N_typed (Kd.N_below HO.out RD.out.be)
        exact ⟨_, wrap64 (x + 1), by first | rfl | go_num, H', ⟨by have := HK.out; omega⟩, HO2, ⟨Kd.R_over' (Kd.R_below SA.out RD.out.be) hty (by decide) HG2.out⟩, ⟨Kd.R_over' (Kd.R_below SB.out RD.out.be) hty (by decide) HG2.out⟩, ⟨Kd.R_over' (Kd.R_below SW.out RD.out.be) hty (by decide) HG2.out⟩, HB2⟩

/-! ### impl_Parts: function 28 -/
def impl_Parts.f (k : Nat) (l0 : List Int) (l1 : List Int) (a2 : Int) : Option ((List (S48))) := (impl_isShared.f l0 l1 a2).bind fun t410 => (if t410 = true then ((impl_parts.f k l0 l1 a2).bind fun t411 => (some t411)) else (some ([] : List (S48))))
theorem impl_Parts.mono : ∀ a0 a1 a2 k, LeO (impl_Parts.f k a0 a1 a2) (impl_Parts.f (k + 1) a0 a1 a2) := by
 intro a0 a1 a2 k
 unfold impl_Parts.f
 repeat' first|(with_reducible first|exact impl_parts.mono _ _ _ _|exact LeO.refl _|exact LeO.none _|refine LeO.ite ?_ ?_|refine LeO.bind ?_ (fun _ => ?_))|exact LeO.none _|refine LeO.ite ?_ ?_|refine LeO.bind ?_ (fun _ => ?_)
set_option maxHeartbeats 8000000 in
set_option maxRecDepth 100000 in
theorem impl_Parts.calls (k : Nat) (A0 : Option Addr) (c0 : Nat) (l0 : List Int) (A1 : Option Addr) (c1 : Nat) (l1 : List Int) (a2 : Int) (r : List (S48)) (w : World) (hr0 : Kd.C (Kd.int .u8) w A0 l0.length l0) (hc0 : l0.length ≤ c0) (hr1 : Kd.C (Kd.int .u8) w A1 l1.length l1) (hc1 : l1.length ≤ c1) (h : impl_Parts.f k l0 l1 a2 = some r) :
  Calls Try.prog 28 #[.slice A0 l0.length c0, .slice A1 l1.length c1, .int .i64 a2] w fun e w' => ∃ v0_ : Value, e = .returned (v0_) ∧ Kd.N k48 48 w' w.heap.size (fun k_ => (w.heap.size ≤ k_)) v0_ r ∧ Below w.heap.size w w' := by
 have HR0:=mk0 hr0
 have HC0:=mk0 hc0
 clear hr0 hc0
 have HR1:=mk0 hr1
 have HC1:=mk0 hc1
 clear hr1 hc1
 have HB:=mk0 (Below.refl w.heap.size w)
 have H:((impl_isShared.f l0 l1 a2).bind fun t410=>(if t410 = true then ((impl_parts.f k l0 l1 a2).bind fun t411=>(some t411)) else (some ([]:List (S48))))) = some r:=h
 clear h
 replace H:=Option.bind_eq_some_iff.mp H
 obtain⟨t410,A40,H⟩:=H
 replace H:(if t410 = true then ((impl_parts.f k l0 l1 a2).bind fun t411=>(some t411)) else (some ([]:List (S48)))) = some r:=H
 have A4:=mk0 A40
 clear A40
 by_cases c5:t410 = true
 ·subst c5
  have H1:((impl_parts.f k l0 l1 a2).bind fun t411=>(some t411)) = some r:=by rw [if_pos rfl] at H;exact H
  clear H
  have H:=H1
  clear H1
  replace H:=Option.bind_eq_some_iff.mp H
  obtain⟨t411,A60,H⟩:=H
  replace H:(some t411) = some r:=H
  have A6:=mk0 A60
  clear A60
  obtain rfl:=Option.some.inj H
  go_enter Try.func28,Try.ntmps28
  go_wp2_with (first|((with_reducible refine gate_callee (f:=38) rfl ?_);refine gL (some 10) Try.func38 #[.slice A0 l0.length c0,.slice A1 l1.length c1,.int .i64 a2] ?_;(with_reducible refine (impl_isShared.calls _ _ l0 _ _ l1 a2 true _ ?side1 ?side2 ?side3 ?side4 A4.out).mono ?_);(case side1=>repeat (first|exact HR0.out|(with_reducible first|apply aC|apply nC|apply dC)));(case side2=>exact HC0.out);(case side3=>repeat (first|exact HR1.out|(with_reducible first|apply aC|apply nC|apply dC)));(case side4=>exact HC1.out);rintro e w' ⟨rfl,⟨nd,rfl⟩⟩;refine⟨_,rfl,?_⟩)|((with_reducible refine gate_callee (f:=55) rfl ?_);refine gL (some 15) Try.func55 #[.slice A0 l0.length c0,.slice A1 l1.length c1,.int .i64 a2] ?_;(with_reducible refine (impl_parts.calls k _ _ l0 _ _ l1 a2 t411 _ ?side1 ?side2 ?side3 ?side4 A6.out).mono ?_);(case side1=>repeat (first|exact HR0.out|(with_reducible first|apply aC|apply nC|apply dC)));(case side2=>exact HC0.out);(case side3=>repeat (first|exact HR1.out|(with_reducible first|apply aC|apply nC|apply dC)));(case side4=>exact HC1.out);rintro e w7 ⟨v412,rfl,ho0,hb⟩;refine⟨_,rfl,?_⟩;have HO413:=mk0 (Kd.N_lower (Kd.N_mono (ok':=fun k_=>(w.heap.size ≤ k_)) ho0 (fun k_ hk_=>(Nat.le_trans (kZ HB.out) hk_))) (kZ HB.out));replace HB:=mk0 (kS HB.out hb);(try clear hb);(try clear ho0)))
  go_ret
  exact⟨_,by first|rfl|(simp [errW_none,errW_some] <;> rfl)|(simp [*,errW_none,errW_some] <;> rfl),rN HO413.out,kB HB.out⟩
 ·replace c5:=Bool.eq_false_iff.mpr c5
  subst c5
  have H1:(some ([]:List (S48))) = some r:=by rw [if_neg (show ¬ (false = true) by decide)] at H;exact H
  clear H
  have H:=H1
  clear H1
  obtain rfl:=Option.some.inj H
  go_enter Try.func28,Try.ntmps28
  go_wp2_with (first|((with_reducible refine gate_callee (f:=38) rfl ?_);refine gL (some 10) Try.func38 #[.slice A0 l0.length c0,.slice A1 l1.length c1,.int .i64 a2] ?_;(with_reducible refine (impl_isShared.calls _ _ l0 _ _ l1 a2 false _ ?side1 ?side2 ?side3 ?side4 A4.out).mono ?_);(case side1=>repeat (first|exact HR0.out|(with_reducible first|apply aC|apply nC|apply dC)));(case side2=>exact HC0.out);(case side3=>repeat (first|exact HR1.out|(with_reducible first|apply aC|apply nC|apply dC)));(case side4=>exact HC1.out);rintro e w' ⟨rfl,⟨nd,rfl⟩⟩;refine⟨_,rfl,?_⟩))
  go_ret
  exact⟨_,by first|rfl|(simp [errW_none,errW_some] <;> rfl)|(simp [*,errW_none,errW_some] <;> rfl),by first|exact Kd.S_nil _ _ _ _ _|exact Kd.N_nil _ _ _ _ _|exact Kd.V_nil _ _ _ _ _|exact Kd.Q_nil _ _ _ _ _|exact Kd.R_nil _ _ _ _ _,kB HB.out⟩

/-! ### laws_bytesOf: function 29 -/
def laws_bytesOf.f (l0 : List Int) : Option (List Int) := (some (([] : List Int) : List Int)).bind fun y414 => (if y414.length + l0.length < 140737488355328 then (some (y414 ++ l0)) else (none))
set_option maxHeartbeats 8000000 in
set_option maxRecDepth 100000 in
theorem laws_bytesOf.calls (A0 : Option Addr) (c0 : Nat) (l0 : List Int) (r : List Int) (w : World) (hr0 : Kd.C (Kd.int .u8) w A0 l0.length l0) (hc0 : l0.length ≤ c0) (h : laws_bytesOf.f l0 = some r) :
  Calls Try.prog 29 #[.slice A0 l0.length c0] w fun e w' => ∃ v0_ : Value, e = .returned (v0_) ∧ Kd.R (Kd.int .u8) 5 w' w.heap.size (fun _ => True) v0_ r ∧ Below w.heap.size w w' := by
 have HR0:=mk0 hr0
 have HC0:=mk0 hc0
 clear hr0 hc0
 have HB:=mk0 (Below.refl w.heap.size w)
 have H:((some (([]:List Int):List Int)).bind fun y414=>(if y414.length + l0.length < 140737488355328 then (some (y414 ++ l0)) else (none))) = some r:=h
 clear h
 obtain⟨y414,hy414⟩:∃ y_:List Int,y_ = (([]:List Int)):=⟨_,rfl⟩
 replace H:(if y414.length + l0.length < 140737488355328 then (some (y414 ++ l0)) else (none)) = some r:=by first|(rw [hy414];with_reducible exact H)|(have H2_:=(Option.bind_some _ _).symm.trans H;rw [hy414];with_reducible exact H2_)|(have H2_:=(Option.bind_some _ _).symm.trans H;with_reducible exact H2_)|with_reducible exact H|(rw [hy414];exact H)|exact H
 have Ny414:=mk0 hy414
 clear hy414
 by_cases c2:y414.length + l0.length < 140737488355328
 ·rw [if_pos c2] at H
  have LMc2:=mk0 c2
  clear c2
  obtain⟨y417,hy417⟩:∃ y_:List Int,y_ = (y414 ++ l0):=⟨_,rfl⟩
  replace H:(some y417) = some r:=by first|(rw [hy417];with_reducible exact H)|(have H2_:=(Option.bind_some _ _).symm.trans H;rw [hy417];with_reducible exact H2_)|(have H2_:=(Option.bind_some _ _).symm.trans H;with_reducible exact H2_)|with_reducible exact H|(rw [hy417];exact H)|exact H
  have Ny417:=mk0 hy417
  clear hy417
  obtain rfl:=Option.some.inj H
  go_enter Try.func29,Try.ntmps29
  go_wp2_with (first|((with_reducible refine gate_dst (N:=3) rfl ?_);refine Kd.R_lit (Kd.int .u8) _ 5 ?hg (N:=3) ?hd (xs:=([]:List Int)) (inner:=[]) (ok:=fun _=>True) (okp:=fun _=>True) ?hr ?hp (fun _ hk=>hk) trivial (Below.refl _ _) (Nat.le_refl _) (by simp) ?_;(case hd=>rfl);(case hg=>rfl);(case hr=>first|(go_simp;done)|(go_simp;rfl));(case hp=>exact (Reps.none _ _));intro v415 w3 ho4 hb hg_ hnew_;clear hg_ hnew_;(first|rw [← Ny414.out] at ho4|(simp only [Int.reduceToNat] at ho4;rw [← Ny414.out] at ho4));have HO416:=mk0 (Kd.R_lower ho4 (kZ HB.out));replace HB:=mk0 (kS HB.out hb);clear hb ho4)|((with_reducible refine gate_builtin (b:=.append) (xs:=#[.tmp 3,.tmp 4]) rfl ?_);at_builtin;refine Kd.R_append_rows (Kd.int .u8) (w0:=w) w.heap.size rfl (.tmp 3) (.tmp 4) 22 5 (.int .u8 0) 1 rfl Try.underlying22 info5 rfl (by decide) (by omega) v415 y414 l0 _ _ _ (fun _=>True) (fun _=>False) rfl rfl ?aO ?aR (fun _ _ h=>h) (fun _ h=>h.elim) ?aF ?aB ?aS ?aL ?_;(case aR=>repeat (first|exact (Kd.C_below HR0.out HB.out)|(with_reducible first|apply aC|apply nC|apply dC)));(case aB=>exact (kB HB.out));(case aF=>exact (fun _ _=>trivial));(case aO=>exact (rR HO416.out));(case aS=>exact (kZ HB.out));(case aL=>have:=LMc2.out;omega);intro v418 w5 ho hb hg hat;rw [← Ny417.out] at ho;replace HB:=mk0 (hb);have HO419:=mk0 (ho);clear HO416 ho hb hg hat))
  go_ret
  exact⟨_,by first|rfl|(simp [errW_none,errW_some] <;> rfl)|(simp [*,errW_none,errW_some] <;> rfl),rR HO419.out,kB HB.out⟩
 ·rw [if_neg c2] at H
  exact absurd H (by simp)

/-! ### impl_PartsOk: function 31 -/
mutual
def impl_PartsOk.j0 : Nat → List Int → List Int → List (S48) → Bool → Option (Bool)
 | 0, _, _, _, _ => none
 | k + 1, x0, x1, x2, x19 => if x19 = true then (some false) else (impl_PartsOk.l0 k x0 x1 0 0 x2 (x2.length : Int) 0)
def impl_PartsOk.l0 : Nat → List Int → List Int → Int → Int → List (S48) → Int → Int → Option (Bool)
 | 0, _, _, _, _, _, _, _ => none
 | k + 1, x0, x1, x7, x8, x20, x21, x22 => if x22 < x21 then (if 0 ≤ x22 then (if x22 < (x20.length : Int) then (if ((rd_T48 x20 x22).f1) = x7 then (if ((rd_T48 x20 x22).f3) = x8 then (if ((rd_T48 x20 x22).f2) < ((rd_T48 x20 x22).f1) then (impl_PartsOk.j2 k x0 x1 x20 x21 x22 true ((rd_T48 x20 x22).f0) ((rd_T48 x20 x22).f1) ((rd_T48 x20 x22).f2) ((rd_T48 x20 x22).f3) ((rd_T48 x20 x22).f4)) else (impl_PartsOk.j2 k x0 x1 x20 x21 x22 (decide (((rd_T48 x20 x22).f4) < ((rd_T48 x20 x22).f3))) ((rd_T48 x20 x22).f0) ((rd_T48 x20 x22).f1) ((rd_T48 x20 x22).f2) ((rd_T48 x20 x22).f3) ((rd_T48 x20 x22).f4))) else (impl_PartsOk.j2 k x0 x1 x20 x21 x22 true ((rd_T48 x20 x22).f0) ((rd_T48 x20 x22).f1) ((rd_T48 x20 x22).f2) ((rd_T48 x20 x22).f3) ((rd_T48 x20 x22).f4))) else (impl_PartsOk.j2 k x0 x1 x20 x21 x22 true ((rd_T48 x20 x22).f0) ((rd_T48 x20 x22).f1) ((rd_T48 x20 x22).f2) ((rd_T48 x20 x22).f3) ((rd_T48 x20 x22).f4))) else (none)) else (none)) else (if x7 = (wrap64 ((x0.length : Int) + 1)) then (some (x8 == (wrap64 ((x1.length : Int) + 1)))) else (some false))
def impl_PartsOk.j2 : Nat → List Int → List Int → List (S48) → Int → Int → Bool → List Int → Int → Int → Int → Int → Option (Bool)
 | 0, _, _, _, _, _, _, _, _, _, _, _ => none
 | k + 1, x0, x1, x20, x21, x22, x49, x423000, x423001, x423002, x423003, x423004 => if x49 = true then (some false) else (impl_PartsOk.l0 k x0 x1 x423002 x423004 x20 x21 (wrap64 (x22 + 1)))
end
def impl_PartsOk.f (k : Nat) (l0 : List Int) (l1 : List Int) (l2 : List (S48)) : Option (Bool) := (impl_isShared.f l0 l1 0).bind fun t420 => (if t420 = true then (impl_PartsOk.j0 k l0 l1 l2 ((l2.length : Int) == 0)) else (impl_PartsOk.j0 k l0 l1 l2 true))
theorem impl_PartsOk.mono_l : ∀ k, (∀ y0 y1 y2 y3, LeO (impl_PartsOk.j0 k y0 y1 y2 y3) (impl_PartsOk.j0 (k + 1) y0 y1 y2 y3)) ∧ (∀ y0 y1 y2 y3 y4 y5 y6, LeO (impl_PartsOk.l0 k y0 y1 y2 y3 y4 y5 y6) (impl_PartsOk.l0 (k + 1) y0 y1 y2 y3 y4 y5 y6)) ∧ (∀ y0 y1 y2 y3 y4 y5 y6 y7 y8 y9 y10, LeO (impl_PartsOk.j2 k y0 y1 y2 y3 y4 y5 y6 y7 y8 y9 y10) (impl_PartsOk.j2 (k + 1) y0 y1 y2 y3 y4 y5 y6 y7 y8 y9 y10))
 | 0 => ⟨fun _ _ _ _ r h => by simp [impl_PartsOk.j0] at h, fun _ _ _ _ _ _ _ r h => by simp [impl_PartsOk.l0] at h, fun _ _ _ _ _ _ _ _ _ _ _ r h => by simp [impl_PartsOk.j2] at h⟩
 | k + 1 => by
  obtain ⟨ih0, ih1, ih2⟩ := impl_PartsOk.mono_l k
  refine ⟨?_, ?_, ?_⟩
  ·intro y0 y1 y2 y3
   unfold impl_PartsOk.j0
   repeat' first|(with_reducible first|exact ih0 _ _ _ _|exact ih1 _ _ _ _ _ _ _|exact ih2 _ _ _ _ _ _ _ _ _ _ _|exact LeO.refl _|exact LeO.none _|refine LeO.ite ?_ ?_|refine LeO.bind ?_ (fun _ => ?_))|exact LeO.none _|refine LeO.ite ?_ ?_|refine LeO.bind ?_ (fun _ => ?_)
  ·intro y0 y1 y2 y3 y4 y5 y6
   unfold impl_PartsOk.l0
   repeat' first|(with_reducible first|exact ih0 _ _ _ _|exact ih1 _ _ _ _ _ _ _|exact ih2 _ _ _ _ _ _ _ _ _ _ _|exact LeO.refl _|exact LeO.none _|refine LeO.ite ?_ ?_|refine LeO.bind ?_ (fun _ => ?_))|exact LeO.none _|refine LeO.ite ?_ ?_|refine LeO.bind ?_ (fun _ => ?_)
  ·intro y0 y1 y2 y3 y4 y5 y6 y7 y8 y9 y10
   unfold impl_PartsOk.j2
   repeat' first|(with_reducible first|exact ih0 _ _ _ _|exact ih1 _ _ _ _ _ _ _|exact ih2 _ _ _ _ _ _ _ _ _ _ _|exact LeO.refl _|exact LeO.none _|refine LeO.ite ?_ ?_|refine LeO.bind ?_ (fun _ => ?_))|exact LeO.none _|refine LeO.ite ?_ ?_|refine LeO.bind ?_ (fun _ => ?_)
theorem impl_PartsOk.mono : ∀ a0 a1 a2 k, LeO (impl_PartsOk.f k a0 a1 a2) (impl_PartsOk.f (k + 1) a0 a1 a2) := by
 intro a0 a1 a2 k
 obtain ⟨ih0, ih1, ih2⟩ := impl_PartsOk.mono_l k
 unfold impl_PartsOk.f
 repeat' first|(with_reducible first|exact ih0 _ _ _ _|exact ih1 _ _ _ _ _ _ _|exact ih2 _ _ _ _ _ _ _ _ _ _ _|exact LeO.refl _|exact LeO.none _|refine LeO.ite ?_ ?_|refine LeO.bind ?_ (fun _ => ?_))|exact LeO.none _|refine LeO.ite ?_ ?_|refine LeO.bind ?_ (fun _ => ?_)
set_option maxHeartbeats 8000000 in
set_option maxRecDepth 100000 in
theorem impl_PartsOk.calls (k : Nat) (A0 : Option Addr) (c0 : Nat) (l0 : List Int) (A1 : Option Addr) (c1 : Nat) (l1 : List Int) (A2 : Option Addr) (c2 : Nat) (l2 : List (S48)) (r : Bool) (w : World) (hr0 : Kd.C (Kd.int .u8) w A0 l0.length l0) (hc0 : l0.length ≤ c0) (hr1 : Kd.C (Kd.int .u8) w A1 l1.length l1) (hc1 : l1.length ≤ c1) (hr2 : Kd.C k48 w A2 l2.length l2) (hc2 : l2.length ≤ c2) (h : impl_PartsOk.f k l0 l1 l2 = some r) :
  Calls Try.prog 31 #[.slice A0 l0.length c0, .slice A1 l1.length c1, .slice A2 l2.length c2] w fun e w' => e = .returned (.bool r) ∧ Below w.heap.size w w' := by
 have hu48:=Try.underlying48
 have HR0:=mk0 hr0
 have HC0:=mk0 hc0
 clear hr0 hc0
 have HR1:=mk0 hr1
 have HC1:=mk0 hc1
 clear hr1 hc1
 have HR2:=mk0 hr2
 have HC2:=mk0 hc2
 clear hr2 hc2
 have HB:=mk0 (Below.refl w.heap.size w)
 have H:((impl_isShared.f l0 l1 0).bind fun t420=>(if t420 = true then (impl_PartsOk.j0 k l0 l1 l2 ((l2.length:Int) == 0)) else (impl_PartsOk.j0 k l0 l1 l2 true))) = some r:=h
 clear h
 have HC4:=mk0 H
 clear H
 go_enter Try.func31,Try.ntmps31
 go_upto_region 1 with (fail)
 repeat (go_quiet (fail);go_upto_region 1 with (fail))
 go_cut [19] (fun v19 wc=>∃ (kq:Nat) (x19_3:Bool),v19 = .bool x19_3 ∧ Aside0 (impl_PartsOk.j0 kq l0 l1 l2 x19_3 = some r) ∧ Aside0 (kq ≤ k) ∧ Aside0 (Below w.heap.size w wc))
 case first =>
  have H:=HC4.out
  clear HC4
  replace H:=Option.bind_eq_some_iff.mp H
  obtain⟨t420,A50,H⟩:=H
  replace H:(if t420 = true then (impl_PartsOk.j0 k l0 l1 l2 ((l2.length:Int) == 0)) else (impl_PartsOk.j0 k l0 l1 l2 true)) = some r:=H
  have A5:=mk0 A50
  clear A50
  by_cases c6:t420 = true
  ·subst c6
   have H1:(impl_PartsOk.j0 k l0 l1 l2 ((l2.length:Int) == 0)) = some r:=by rw [if_pos rfl] at H;exact H
   clear H
   have H:=H1
   clear H1
   have H':=mk0 H
   clear H
   go_wp2_with (first|(go_at_call 38;(with_reducible refine (impl_isShared.calls _ _ l0 _ _ l1 0 true _ ?side1 ?side2 ?side3 ?side4 A5.out).mono ?_);(case side1=>exact kC (Kd.C_below HR0.out HB.out));(case side2=>exact HC0.out);(case side3=>exact kC (Kd.C_below HR1.out HB.out));(case side4=>exact HC1.out);rintro e w' ⟨rfl,⟨nd,rfl⟩⟩;(try first|exact⟨rfl,_,World.drewN_drewN _ _ _⟩|exact⟨rfl,_,Eq.trans (World.drewN_drewN _ _ _) (congrArg (World.drewN _) (Nat.add_assoc _ _ _))⟩)))
   repeat (go_quiet (first|(go_at_call 38;(with_reducible refine (impl_isShared.calls _ _ l0 _ _ l1 0 true _ ?side1 ?side2 ?side3 ?side4 A5.out).mono ?_);(case side1=>exact kC (Kd.C_below HR0.out HB.out));(case side2=>exact HC0.out);(case side3=>exact kC (Kd.C_below HR1.out HB.out));(case side4=>exact HC1.out);rintro e w' ⟨rfl,⟨nd,rfl⟩⟩;(try first|exact⟨rfl,_,World.drewN_drewN _ _ _⟩|exact⟨rfl,_,Eq.trans (World.drewN_drewN _ _ _) (congrArg (World.drewN _) (Nat.add_assoc _ _ _))⟩)));try go_wp2_with (first|(go_at_call 38;(with_reducible refine (impl_isShared.calls _ _ l0 _ _ l1 0 true _ ?side1 ?side2 ?side3 ?side4 A5.out).mono ?_);(case side1=>exact kC (Kd.C_below HR0.out HB.out));(case side2=>exact HC0.out);(case side3=>exact kC (Kd.C_below HR1.out HB.out));(case side4=>exact HC1.out);rintro e w' ⟨rfl,⟨nd,rfl⟩⟩;(try first|exact⟨rfl,_,World.drewN_drewN _ _ _⟩|exact⟨rfl,_,Eq.trans (World.drewN_drewN _ _ _) (congrArg (World.drewN _) (Nat.add_assoc _ _ _))⟩))))
   go_meet
   case rel=>exact⟨_,(((l2.length:Int) == 0)),(by first|rfl|(simp;done)|(simp [*];done)),H',⟨by first|omega|exact Nat.le_refl _⟩,⟨kB HB.out⟩⟩
  replace c6:=Bool.eq_false_iff.mpr c6
  subst c6
  have H1:(impl_PartsOk.j0 k l0 l1 l2 true) = some r:=by rw [if_neg (show ¬ (false = true) by decide)] at H;exact H
  clear H
  have H:=H1
  clear H1
  have H':=mk0 H
  clear H
  go_wp2_with (first|(go_at_call 38;(with_reducible refine (impl_isShared.calls _ _ l0 _ _ l1 0 false _ ?side1 ?side2 ?side3 ?side4 A5.out).mono ?_);(case side1=>exact kC (Kd.C_below HR0.out HB.out));(case side2=>exact HC0.out);(case side3=>exact kC (Kd.C_below HR1.out HB.out));(case side4=>exact HC1.out);rintro e w' ⟨rfl,⟨nd,rfl⟩⟩;(try first|exact⟨rfl,_,World.drewN_drewN _ _ _⟩|exact⟨rfl,_,Eq.trans (World.drewN_drewN _ _ _) (congrArg (World.drewN _) (Nat.add_assoc _ _ _))⟩)))
  repeat (go_quiet (first|(go_at_call 38;(with_reducible refine (impl_isShared.calls _ _ l0 _ _ l1 0 false _ ?side1 ?side2 ?side3 ?side4 A5.out).mono ?_);(case side1=>exact kC (Kd.C_below HR0.out HB.out));(case side2=>exact HC0.out);(case side3=>exact kC (Kd.C_below HR1.out HB.out));(case side4=>exact HC1.out);rintro e w' ⟨rfl,⟨nd,rfl⟩⟩;(try first|exact⟨rfl,_,World.drewN_drewN _ _ _⟩|exact⟨rfl,_,Eq.trans (World.drewN_drewN _ _ _) (congrArg (World.drewN _) (Nat.add_assoc _ _ _))⟩)));try go_wp2_with (first|(go_at_call 38;(with_reducible refine (impl_isShared.calls _ _ l0 _ _ l1 0 false _ ?side1 ?side2 ?side3 ?side4 A5.out).mono ?_);(case side1=>exact kC (Kd.C_below HR0.out HB.out));(case side2=>exact HC0.out);(case side3=>exact kC (Kd.C_below HR1.out HB.out));(case side4=>exact HC1.out);rintro e w' ⟨rfl,⟨nd,rfl⟩⟩;(try first|exact⟨rfl,_,World.drewN_drewN _ _ _⟩|exact⟨rfl,_,Eq.trans (World.drewN_drewN _ _ _) (congrArg (World.drewN _) (Nat.add_assoc _ _ _))⟩))))
  go_meet
  case rel=>exact⟨_,(true),(by first|rfl|(simp;done)|(simp [*];done)),H',⟨by first|omega|exact Nat.le_refl _⟩,⟨kB HB.out⟩⟩
 case rest =>
  clear HC4
  try clear c1
  try clear c2
  try clear p2
  try clear c3
  try clear c6
  obtain⟨kq,x19_3,rfl,HA,HJ3,HB⟩:=hcut
  cases kq with
  | zero=>exact absurd HA.out (by simp [impl_PartsOk.j0])
  | succ kj3 =>
   have H:=HA.out
   clear HA
   simp only [impl_PartsOk.j0] at H
   by_cases c7:x19_3 = true
   ·subst c7
    have H1:(some false) = some r:=by rw [if_pos rfl] at H;exact H
    clear H
    have H:=H1
    clear H1
    obtain rfl:=Option.some.inj H
    go_wp2
    repeat (go_quiet (fail);try go_wp2)
    go_ret
    exact⟨by first|rfl|(simp [errW_none,errW_some] <;> rfl)|(simp [*,errW_none,errW_some] <;> rfl),kB HB.out⟩
   replace c7:=Bool.eq_false_iff.mpr c7
   subst c7
   have H1:(impl_PartsOk.l0 kj3 l0 l1 0 0 l2 (l2.length:Int) 0) = some r:=by rw [if_neg (show ¬ (false = true) by decide)] at H;exact H
   clear H
   have H:=H1
   clear H1
   have H':=mk0 H
   clear H
   go_wp2
   repeat (go_quiet (fail);try go_wp2)
   go_loopg [7,8,22] kj3 (fun kq v7 v8 v22 w'=>∃ (x7_2:Int) (x8_2:Int) (x22_2:Int),v7 = .int .i64 x7_2 ∧ v8 = .int .i64 x8_2 ∧ v22 = .int .i64 x22_2 ∧ Aside0 (impl_PartsOk.l0 kq l0 l1 x7_2 x8_2 l2 (l2.length:Int) x22_2 = some r) ∧ Aside0 (kq ≤ kj3) ∧ Aside0 (Below w.heap.size w w'))
   case atStart=>exact⟨(0),(0),(0),(by first|rfl|(simp;done)|(simp [*];done)),(by first|rfl|(simp;done)|(simp [*];done)),(by first|rfl|(simp;done)|(simp [*];done)),H',⟨Nat.le_refl _⟩,⟨kB HB.out⟩⟩
   case round =>
    clear H'
    try clear c1
    try clear c2
    try clear p2
    try clear c3
    try clear c6
    try clear c7
    try clear p2
    obtain⟨x7_2,x8_2,x22_2,rfl,rfl,rfl,HA,HK2,HB⟩:=hrel
    cases gk with
    | zero=>exact absurd HA.out (by simp [impl_PartsOk.l0])
    | succ k2 =>
     have H:=HA.out
     clear HA
     simp only [impl_PartsOk.l0] at H
     by_cases c8:x22_2 < (l2.length:Int)
     rotate_left
     ·rw [if_neg c8] at H
      have c8b0:decide (x22_2 < (l2.length:Int)) = false:=decide_eq_false c8
      (try simp only [hl421_0] at c8b0)
      clear c8
      by_cases c23:x7_2 = (wrap64 ((l0.length:Int) + 1))
      rotate_left
      ·rw [if_neg c23] at H
       have c23b0:(x7_2 == (wrap64 ((l0.length:Int) + 1))) = false:=beq_eq_false_iff_ne.mpr c23
       (try simp only [hl421_0] at c23b0)
       have c23b1:(x7_2 != (wrap64 ((l0.length:Int) + 1))) = true:=bne_iff_ne.mpr c23
       (try simp only [hl421_0] at c23b1)
       obtain rfl:=Option.some.inj H
       go_wp2
       repeat (go_quiet (fail);try go_wp2)
       go_ret
       exact⟨by first|rfl|(simp [errW_none,errW_some] <;> rfl)|(simp [*,errW_none,errW_some] <;> rfl),kB HB.out⟩

      rw [if_pos c23] at H
      have c23b0:(x7_2 == (wrap64 ((l0.length:Int) + 1))) = true:=beq_iff_eq.mpr c23
      (try simp only [hl421_0] at c23b0)
      have c23b1:(x7_2 != (wrap64 ((l0.length:Int) + 1))) = false:=bne_eq_false_iff_eq.mpr c23
      (try simp only [hl421_0] at c23b1)
      clear c23
      obtain rfl:=Option.some.inj H
      go_wp2
      repeat (go_quiet (fail);try go_wp2)
      go_ret
      exact⟨by first|rfl|(simp [errW_none,errW_some] <;> rfl)|(simp [*,errW_none,errW_some] <;> rfl),kB HB.out⟩
     rw [if_pos c8] at H
     have c8b0:decide (x22_2 < (l2.length:Int)) = true:=decide_eq_true c8
     (try simp only [hl421_0] at c8b0)
     clear c8
     by_cases c9:0 ≤ x22_2
     rotate_left
     ·rw [if_neg c9] at H
      exact absurd H (by simp)
     rw [if_pos c9] at H
     have c9b0:decide (0 ≤ x22_2) = true:=decide_eq_true c9
     clear c9
     by_cases c10:x22_2 < (l2.length:Int)
     rotate_left
     ·rw [if_neg c10] at H
      exact absurd H (by simp)
     rw [if_pos c10] at H
     have c10b0:decide (x22_2 < (l2.length:Int)) = true:=decide_eq_true c10
     (try simp only [hl421_0] at c10b0)
     clear c10
     have HC11:=mk0 H
     clear H
     have p421:0 ≤ (x22_2:Int):=of_decide_eq_true (by first|(with_reducible assumption)|assumption)
     have q421:x22_2 < (l2.length:Int):=of_decide_eq_true (by first|(with_reducible assumption)|assumption)
     obtain⟨ad421,A421_0,c421_0,e421,hx421_0,hx421_1,hx421_2,hx421_3,hx421_4,hl421_0,hi421_0⟩:=at_T48 HR2.out x22_2 p421 q421
     cases e421
     replace hx421_0:=(HB.out.cell (World.block_lt_of_cell? w _ hx421_0)).trans hx421_0
     replace hx421_1:=(HB.out.cell (World.block_lt_of_cell? w _ hx421_1)).trans hx421_1
     replace hx421_2:=(HB.out.cell (World.block_lt_of_cell? w _ hx421_2)).trans hx421_2
     replace hx421_3:=(HB.out.cell (World.block_lt_of_cell? w _ hx421_3)).trans hx421_3
     replace hx421_4:=(HB.out.cell (World.block_lt_of_cell? w _ hx421_4)).trans hx421_4
     have HR421_0:=mk0 hi421_0
     have HC421_0:=mk0 hl421_0
     clear hi421_0 hl421_0
     replace p421:=eq_true p421
     replace q421:=eq_true q421
     go_upto_region 7 with (first|((with_reducible refine gate_dst (N:=10) rfl ?_);(try (refine gate_guard (by rfl) ?_;dsimp only));refine box_event ?hg (N:=10) ?hd (cs:=#[.slice none 0 0,.int .i64 0,.int .i64 0,.int .i64 0,.int .i64 0]) (t:=48) ?hr ?_;(case hd=>rfl);(case hg=>rfl);(case hr=>first|(go_simp;done)|(go_simp;rfl));intro gb422 hg w12 hbox hb;have BK422:=mk0 (hbox);have GW422:=mk0 ((by rw [hg];exact (kZ HB.out):w.heap.size ≤ gb422));have GE422:=mk0 ((by rw [hg];exact (kZ HB.out):w.heap.size ≤ gb422));replace HB:=mk0 (kS HB.out hb);clear hb hbox hg;obtain⟨hcz13_0,hcz13_1,hcz13_2,hcz13_3,hcz13_4,hfz13_0,hfz13_1,hfz13_2,hfz13_3,hfz13_4⟩:=cz5 BK422.out))
     repeat (go_quiet (first|((with_reducible refine gate_dst (N:=10) rfl ?_);(try (refine gate_guard (by rfl) ?_;dsimp only));refine box_event ?hg (N:=10) ?hd (cs:=#[.slice none 0 0,.int .i64 0,.int .i64 0,.int .i64 0,.int .i64 0]) (t:=48) ?hr ?_;(case hd=>rfl);(case hg=>rfl);(case hr=>first|(go_simp;done)|(go_simp;rfl));intro gb422 hg w12 hbox hb;have BK422:=mk0 (hbox);have GW422:=mk0 ((by rw [hg];exact (kZ HB.out):w.heap.size ≤ gb422));have GE422:=mk0 ((by rw [hg];exact (kZ HB.out):w.heap.size ≤ gb422));replace HB:=mk0 (kS HB.out hb);clear hb hbox hg;obtain⟨hcz13_0,hcz13_1,hcz13_2,hcz13_3,hcz13_4,hfz13_0,hfz13_1,hfz13_2,hfz13_3,hfz13_4⟩:=cz5 BK422.out));go_upto_region 7 with (first|((with_reducible refine gate_dst (N:=10) rfl ?_);(try (refine gate_guard (by rfl) ?_;dsimp only));refine box_event ?hg (N:=10) ?hd (cs:=#[.slice none 0 0,.int .i64 0,.int .i64 0,.int .i64 0,.int .i64 0]) (t:=48) ?hr ?_;(case hd=>rfl);(case hg=>rfl);(case hr=>first|(go_simp;done)|(go_simp;rfl));intro gb422 hg w12 hbox hb;have BK422:=mk0 (hbox);have GW422:=mk0 ((by rw [hg];exact (kZ HB.out):w.heap.size ≤ gb422));have GE422:=mk0 ((by rw [hg];exact (kZ HB.out):w.heap.size ≤ gb422));replace HB:=mk0 (kS HB.out hb);clear hb hbox hg;obtain⟨hcz13_0,hcz13_1,hcz13_2,hcz13_3,hcz13_4,hfz13_0,hfz13_1,hfz13_2,hfz13_3,hfz13_4⟩:=cz5 BK422.out)))
     (try simp only [Act.put,sA,sO,sS])
     go_cut [49] (fun v49 wc=>∃ (kq:Nat) (x49_10:Bool),v49 = .bool x49_10 ∧ Aside0 (impl_PartsOk.j2 kq l0 l1 l2 (l2.length:Int) x22_2 x49_10 ((rd_T48 l2 x22_2).f0) ((rd_T48 l2 x22_2).f1) ((rd_T48 l2 x22_2).f2) ((rd_T48 l2 x22_2).f3) ((rd_T48 l2 x22_2).f4) = some r) ∧ Aside0 (kq ≤ k2) ∧ Aside0 (wc.heap[gb422]? = some (.cells #[(.slice A421_0 ((rd_T48 l2 x22_2).f0).length c421_0),.int .i64 ((rd_T48 l2 x22_2).f1),.int .i64 ((rd_T48 l2 x22_2).f2),.int .i64 ((rd_T48 l2 x22_2).f3),.int .i64 ((rd_T48 l2 x22_2).f4)] 48 (0,0))) ∧ Aside0 (Below w.heap.size w wc))
     case first =>
      have H:=HC11.out
      clear HC11
      by_cases c14:((rd_T48 l2 x22_2).f1) = x7_2
      rotate_left
      ·rw [if_neg c14] at H
       have c14b0:(((rd_T48 l2 x22_2).f1) == x7_2) = false:=beq_eq_false_iff_ne.mpr c14
       have c14b1:(((rd_T48 l2 x22_2).f1) != x7_2) = true:=bne_iff_ne.mpr c14
       (first|rw [c14b0]|(simp only [i64_w,i32_w];rw [c14b0])|skip)
       have H':=mk0 H
       clear H
       obtain⟨hcz20_0,hcz20_1,hcz20_2,hcz20_3,hcz20_4,hfz20_0,hfz20_1,hfz20_2,hfz20_3,hfz20_4⟩:=cz5 BK422.out
       go_wp2
       repeat (go_quiet (fail);try go_wp2)
       go_meet
       case rel=>exact⟨_,(true),(by first|rfl|(simp;done)|(simp [*];done)),H',⟨by have:=HJ3.out;have:=HK2.out;first|omega|exact Nat.le_refl _⟩,⟨by (with_reducible repeat (first|apply nB|apply dB|apply aB));refine blk_put (cs:=#[.slice A421_0 ((rd_T48 l2 x22_2).f0).length c421_0,.int .i64 ((rd_T48 l2 x22_2).f1),.int .i64 ((rd_T48 l2 x22_2).f2),.int .i64 ((rd_T48 l2 x22_2).f3),.int .i64 0]) ?_ 4 _ rfl;(with_reducible repeat (first|apply nB|apply dB|apply aB));refine blk_put (cs:=#[.slice A421_0 ((rd_T48 l2 x22_2).f0).length c421_0,.int .i64 ((rd_T48 l2 x22_2).f1),.int .i64 ((rd_T48 l2 x22_2).f2),.int .i64 0,.int .i64 0]) ?_ 3 _ rfl;(with_reducible repeat (first|apply nB|apply dB|apply aB));refine blk_put (cs:=#[.slice A421_0 ((rd_T48 l2 x22_2).f0).length c421_0,.int .i64 ((rd_T48 l2 x22_2).f1),.int .i64 0,.int .i64 0,.int .i64 0]) ?_ 2 _ rfl;(with_reducible repeat (first|apply nB|apply dB|apply aB));refine blk_put (cs:=#[.slice A421_0 ((rd_T48 l2 x22_2).f0).length c421_0,.int .i64 0,.int .i64 0,.int .i64 0,.int .i64 0]) ?_ 1 _ rfl;(with_reducible repeat (first|apply nB|apply dB|apply aB));refine blk_put (cs:=#[.slice none 0 0,.int .i64 0,.int .i64 0,.int .i64 0,.int .i64 0]) ?_ 0 _ rfl;(with_reducible repeat (first|apply nB|apply dB|apply aB));exact BK422.out⟩,⟨kB HB.out⟩⟩
      rw [if_pos c14] at H
      have c14b0:(((rd_T48 l2 x22_2).f1) == x7_2) = true:=beq_iff_eq.mpr c14
      have c14b1:(((rd_T48 l2 x22_2).f1) != x7_2) = false:=bne_eq_false_iff_eq.mpr c14
      clear c14
      (first|rw [c14b0]|(simp only [i64_w,i32_w];rw [c14b0])|skip)
      by_cases c15:((rd_T48 l2 x22_2).f3) = x8_2
      rotate_left
      ·rw [if_neg c15] at H
       have c15b0:(((rd_T48 l2 x22_2).f3) == x8_2) = false:=beq_eq_false_iff_ne.mpr c15
       have c15b1:(((rd_T48 l2 x22_2).f3) != x8_2) = true:=bne_iff_ne.mpr c15
       have H':=mk0 H
       clear H
       obtain⟨hcz19_0,hcz19_1,hcz19_2,hcz19_3,hcz19_4,hfz19_0,hfz19_1,hfz19_2,hfz19_3,hfz19_4⟩:=cz5 BK422.out
       go_wp2
       repeat (go_quiet (fail);try go_wp2)
       go_meet
       case rel=>exact⟨_,(true),(by first|rfl|(simp;done)|(simp [*];done)),H',⟨by have:=HJ3.out;have:=HK2.out;first|omega|exact Nat.le_refl _⟩,⟨by (with_reducible repeat (first|apply nB|apply dB|apply aB));refine blk_put (cs:=#[.slice A421_0 ((rd_T48 l2 x22_2).f0).length c421_0,.int .i64 ((rd_T48 l2 x22_2).f1),.int .i64 ((rd_T48 l2 x22_2).f2),.int .i64 ((rd_T48 l2 x22_2).f3),.int .i64 0]) ?_ 4 _ rfl;(with_reducible repeat (first|apply nB|apply dB|apply aB));refine blk_put (cs:=#[.slice A421_0 ((rd_T48 l2 x22_2).f0).length c421_0,.int .i64 ((rd_T48 l2 x22_2).f1),.int .i64 ((rd_T48 l2 x22_2).f2),.int .i64 0,.int .i64 0]) ?_ 3 _ rfl;(with_reducible repeat (first|apply nB|apply dB|apply aB));refine blk_put (cs:=#[.slice A421_0 ((rd_T48 l2 x22_2).f0).length c421_0,.int .i64 ((rd_T48 l2 x22_2).f1),.int .i64 0,.int .i64 0,.int .i64 0]) ?_ 2 _ rfl;(with_reducible repeat (first|apply nB|apply dB|apply aB));refine blk_put (cs:=#[.slice A421_0 ((rd_T48 l2 x22_2).f0).length c421_0,.int .i64 0,.int .i64 0,.int .i64 0,.int .i64 0]) ?_ 1 _ rfl;(with_reducible repeat (first|apply nB|apply dB|apply aB));refine blk_put (cs:=#[.slice none 0 0,.int .i64 0,.int .i64 0,.int .i64 0,.int .i64 0]) ?_ 0 _ rfl;(with_reducible repeat (first|apply nB|apply dB|apply aB));exact BK422.out⟩,⟨kB HB.out⟩⟩
      rw [if_pos c15] at H
      have c15b0:(((rd_T48 l2 x22_2).f3) == x8_2) = true:=beq_iff_eq.mpr c15
      have c15b1:(((rd_T48 l2 x22_2).f3) != x8_2) = false:=bne_eq_false_iff_eq.mpr c15
      clear c15
      by_cases c16:((rd_T48 l2 x22_2).f2) < ((rd_T48 l2 x22_2).f1)
      ·rw [if_pos c16] at H
       have c16b0:decide (((rd_T48 l2 x22_2).f2) < ((rd_T48 l2 x22_2).f1)) = true:=decide_eq_true c16
       clear c16
       have H':=mk0 H
       clear H
       obtain⟨hcz17_0,hcz17_1,hcz17_2,hcz17_3,hcz17_4,hfz17_0,hfz17_1,hfz17_2,hfz17_3,hfz17_4⟩:=cz5 BK422.out
       go_wp2
       repeat (go_quiet (fail);try go_wp2)
       go_meet
       case rel=>exact⟨_,(true),(by first|rfl|(simp;done)|(simp [*];done)),H',⟨by have:=HJ3.out;have:=HK2.out;first|omega|exact Nat.le_refl _⟩,⟨by (with_reducible repeat (first|apply nB|apply dB|apply aB));refine blk_put (cs:=#[.slice A421_0 ((rd_T48 l2 x22_2).f0).length c421_0,.int .i64 ((rd_T48 l2 x22_2).f1),.int .i64 ((rd_T48 l2 x22_2).f2),.int .i64 ((rd_T48 l2 x22_2).f3),.int .i64 0]) ?_ 4 _ rfl;(with_reducible repeat (first|apply nB|apply dB|apply aB));refine blk_put (cs:=#[.slice A421_0 ((rd_T48 l2 x22_2).f0).length c421_0,.int .i64 ((rd_T48 l2 x22_2).f1),.int .i64 ((rd_T48 l2 x22_2).f2),.int .i64 0,.int .i64 0]) ?_ 3 _ rfl;(with_reducible repeat (first|apply nB|apply dB|apply aB));refine blk_put (cs:=#[.slice A421_0 ((rd_T48 l2 x22_2).f0).length c421_0,.int .i64 ((rd_T48 l2 x22_2).f1),.int .i64 0,.int .i64 0,.int .i64 0]) ?_ 2 _ rfl;(with_reducible repeat (first|apply nB|apply dB|apply aB));refine blk_put (cs:=#[.slice A421_0 ((rd_T48 l2 x22_2).f0).length c421_0,.int .i64 0,.int .i64 0,.int .i64 0,.int .i64 0]) ?_ 1 _ rfl;(with_reducible repeat (first|apply nB|apply dB|apply aB));refine blk_put (cs:=#[.slice none 0 0,.int .i64 0,.int .i64 0,.int .i64 0,.int .i64 0]) ?_ 0 _ rfl;(with_reducible repeat (first|apply nB|apply dB|apply aB));exact BK422.out⟩,⟨kB HB.out⟩⟩
      rw [if_neg c16] at H
      have c16b0:decide (((rd_T48 l2 x22_2).f2) < ((rd_T48 l2 x22_2).f1)) = false:=decide_eq_false c16
      clear c16
      have H':=mk0 H
      clear H
      obtain⟨hcz18_0,hcz18_1,hcz18_2,hcz18_3,hcz18_4,hfz18_0,hfz18_1,hfz18_2,hfz18_3,hfz18_4⟩:=cz5 BK422.out
      go_wp2
      repeat (go_quiet (fail);try go_wp2)
      go_meet
      case rel=>exact⟨_,(decide (((rd_T48 l2 x22_2).f4) < ((rd_T48 l2 x22_2).f3))),(by first|rfl|(simp;done)|(simp [*];done)),H',⟨by have:=HJ3.out;have:=HK2.out;first|omega|exact Nat.le_refl _⟩,⟨by (with_reducible repeat (first|apply nB|apply dB|apply aB));refine blk_put (cs:=#[.slice A421_0 ((rd_T48 l2 x22_2).f0).length c421_0,.int .i64 ((rd_T48 l2 x22_2).f1),.int .i64 ((rd_T48 l2 x22_2).f2),.int .i64 ((rd_T48 l2 x22_2).f3),.int .i64 0]) ?_ 4 _ rfl;(with_reducible repeat (first|apply nB|apply dB|apply aB));refine blk_put (cs:=#[.slice A421_0 ((rd_T48 l2 x22_2).f0).length c421_0,.int .i64 ((rd_T48 l2 x22_2).f1),.int .i64 ((rd_T48 l2 x22_2).f2),.int .i64 0,.int .i64 0]) ?_ 3 _ rfl;(with_reducible repeat (first|apply nB|apply dB|apply aB));refine blk_put (cs:=#[.slice A421_0 ((rd_T48 l2 x22_2).f0).length c421_0,.int .i64 ((rd_T48 l2 x22_2).f1),.int .i64 0,.int .i64 0,.int .i64 0]) ?_ 2 _ rfl;(with_reducible repeat (first|apply nB|apply dB|apply aB));refine blk_put (cs:=#[.slice A421_0 ((rd_T48 l2 x22_2).f0).length c421_0,.int .i64 0,.int .i64 0,.int .i64 0,.int .i64 0]) ?_ 1 _ rfl;(with_reducible repeat (first|apply nB|apply dB|apply aB));refine blk_put (cs:=#[.slice none 0 0,.int .i64 0,.int .i64 0,.int .i64 0,.int .i64 0]) ?_ 0 _ rfl;(with_reducible repeat (first|apply nB|apply dB|apply aB));exact BK422.out⟩,⟨kB HB.out⟩⟩
     case rest =>
      clear HC11
      try clear c1
      try clear c2
      try clear p2
      try clear c3
      try clear c4
      try clear p4
      try clear q4
      try clear hx4
      try clear c6
      try clear c7
      try clear c8
      try clear c8b0
      try clear c9
      try clear c9b0
      try clear c10
      try clear c10b0
      try clear c14
      try clear c14b0
      try clear c14b1
      try clear c15
      try clear c15b0
      try clear c15b1
      try clear c16
      try clear c16b0
      try clear hcz13_0
      try clear hcz13_1
      try clear hcz13_2
      try clear hcz13_3
      try clear hcz13_4
      try clear hcz17_0
      try clear hcz17_1
      try clear hcz17_2
      try clear hcz17_3
      try clear hcz17_4
      try clear hcz18_0
      try clear hcz18_1
      try clear hcz18_2
      try clear hcz18_3
      try clear hcz18_4
      try clear hcz19_0
      try clear hcz19_1
      try clear hcz19_2
      try clear hcz19_3
      try clear hcz19_4
      try clear hcz20_0
      try clear hcz20_1
      try clear hcz20_2
      try clear hcz20_3
      try clear hcz20_4
      try clear hfz13_0
      try clear hfz13_1
      try clear hfz13_2
      try clear hfz13_3
      try clear hfz13_4
      try clear hfz17_0
      try clear hfz17_1
      try clear hfz17_2
      try clear hfz17_3
      try clear hfz17_4
      try clear hfz18_0
      try clear hfz18_1
      try clear hfz18_2
      try clear hfz18_3
      try clear hfz18_4
      try clear hfz19_0
      try clear hfz19_1
      try clear hfz19_2
      try clear hfz19_3
      try clear hfz19_4
      try clear hfz20_0
      try clear hfz20_1
      try clear hfz20_2
      try clear hfz20_3
      try clear hfz20_4
      try clear hx421_0
      try clear hx421_1
      try clear hx421_2
      try clear hx421_3
      try clear hx421_4
      try clear p2
      try clear p421
      try clear q421
      obtain⟨kq,x49_10,rfl,HA,HJ10,BK422,HB⟩:=hcut
      cases kq with
      | zero=>exact absurd HA.out (by simp [impl_PartsOk.j2])
      | succ kj10 =>
       have H:=HA.out
       clear HA
       simp only [impl_PartsOk.j2] at H
       by_cases c21:x49_10 = true
       ·subst c21
        have H1:(some false) = some r:=by rw [if_pos rfl] at H;exact H
        clear H
        have H:=H1
        clear H1
        obtain rfl:=Option.some.inj H
        go_wp2
        repeat (go_quiet (fail);try go_wp2)
        go_ret
        exact⟨by first|rfl|(simp [errW_none,errW_some] <;> rfl)|(simp [*,errW_none,errW_some] <;> rfl),kB HB.out⟩
       replace c21:=Bool.eq_false_iff.mpr c21
       subst c21
       have H1:(impl_PartsOk.l0 kj10 l0 l1 ((rd_T48 l2 x22_2).f2) ((rd_T48 l2 x22_2).f4) l2 (l2.length:Int) (wrap64 (x22_2 + 1))) = some r:=by rw [if_neg (show ¬ (false = true) by decide)] at H;exact H
       clear H
       have H:=H1
       clear H1
       have H':=mk0 H
       clear H
       obtain⟨hcz22_0,hcz22_1,hcz22_2,hcz22_3,hcz22_4,hfz22_0,hfz22_1,hfz22_2,hfz22_3,hfz22_4⟩:=cz5 BK422.out
       go_wp2
       repeat (go_quiet (fail);try go_wp2)
       go_roundg kj10
       case measure=>have:=HJ3.out;have:=HK2.out;have:=HJ10.out;omega
       case rel=>exact⟨(((rd_T48 l2 x22_2).f2)),(((rd_T48 l2 x22_2).f4)),(wrap64 (x22_2 + 1)),(by first|rfl|(simp;done)|(simp [*];done)),(by first|rfl|(simp;done)|(simp [*];done)),(by first|rfl|(simp;done)|(simp [*];done)),H',⟨by have:=HJ3.out;have:=HK2.out;have:=HJ10.out;omega⟩,⟨kB HB.out⟩⟩
end Go.Proofs.Ytadhngelhognaaa.QFnParts
