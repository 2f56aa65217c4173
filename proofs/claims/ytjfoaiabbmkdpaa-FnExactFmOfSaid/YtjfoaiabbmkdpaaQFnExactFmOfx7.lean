-- A walk, made by walk.py, a program of this session's.
import Derived.Test.YtjfoaiabbmkdpaaQFnExactFmOfx0
import Derived.Test.YtjfoaiabbmkdpaaSuf
import Derived.Test.YtjfoaiabbmkdpaaQFnExactFmOfx99
namespace Go.Proofs.Ytjfoaiabbmkdpaa.QFnExactFmOf
open Go.RowKit Go.Proofs.YtjfoaiabbmkdpaaW.PrintWords Go.Proofs.YtjfoaiabbmkdpaaW.PrintLast Go.Proofs.YtjfoaiabbmkdpaaW.PrintMore
attribute [local go_sem] max2_int min2_int max_two min_two max_three min_three max_four min_four   -- for this text's walks alone
set_option linter.unusedVariables false
set_option linter.unusedSimpArgs false
/-! ### slices_nextPowerOfTwo: function 83 -/
def slices_nextPowerOfTwo.f (k : Nat) (a0 : Int) : Option (Int) := (bits_Len.f k (IntKind.u64.wrap (a0))).bind fun t317 => (if 0 ≤ t317 then (some (shl .u64 1 t317)) else (none))
set_option maxHeartbeats 8000000 in
set_option maxRecDepth 100000 in
theorem slices_nextPowerOfTwo.calls (k : Nat) (a0 : Int) (r : Int) (w : World) (h : slices_nextPowerOfTwo.f k a0 = some r) :
  Calls Try.prog 83 #[.int .i64 a0] w fun e w' => e = .returned (.int .u64 r) ∧ Drawn0 w w' := by
 have H:((bits_Len.f k (IntKind.u64.wrap (a0))).bind fun t317=>(if 0 ≤ t317 then (some (shl .u64 1 t317)) else (none))) = some r:=h
 clear h
 replace H:=bE H
 obtain⟨t317,A2,H⟩:=H
 by_cases c3:0 ≤ t317
 ·rw [if_pos c3] at H
  have c3b0:=eq_true c3
  have c3b1:decide (0 ≤ t317) = true:=decide_eq_true c3
  clear c3
  obtain⟨ji4,hji4⟩:∃ j_:Int,(shl .u64 1 t317) = j_:=⟨_,rfl⟩
  first|rw [hji4] at H|simp only [hji4] at H
  (try rw [hji4] at A2)
  have hji4_:(IntKind.u64.wrap (1 * 2 ^ min t317.toNat 64)) = ji4:=hji4
  have hji4z:t317 ≤ 64 → (IntKind.u64.wrap (1 * 2 ^ t317.toNat)) = ji4:=shl_small hji4
  have hji4u:(IntKind.u64.wrap (2 ^ min t317.toNat 64)) = ji4:=by have h_:=hji4_;rw [Int.one_mul] at h_;exact h_
  have hji4v:t317 ≤ 64 → (IntKind.u64.wrap (2 ^ t317.toNat)) = ji4:=fun hle_=>by have h_:=hji4z hle_;rw [Int.one_mul] at h_;exact h_
  obtain rfl:=Option.some.inj H
  go_enter Try.func83,Try.ntmps83
  go_wp2_with (first|((with_reducible refine gate_callee (f:=65) rfl ?_);refine gL (some 5) Try.func65 #[.int .u64 (IntKind.u64.wrap (a0))] ?_;(with_reducible refine (bits_Len.calls k (IntKind.u64.wrap (a0)) t317 _ A2.out).mono ?_);rintro e w' ⟨rfl,⟨nd,rfl⟩⟩;refine⟨_,rfl,?_⟩))
  go_ret
  exact⟨by first|rfl|(simp;done)|(simp only [← hji4] <;> (first|rfl|simp))|(simp [*];done),by repeat (first|exact Drawn0.refl _|apply Drawn0.step)⟩
 ·rw [if_neg c3] at H
  exact nn H
/-! ### slices_SortFunc_58: slices.SortFunc at the literal 58, which compares suffixes of what it captures -/
def slices_SortFunc_58.f (l0 : List Int) (l1 : List Int) : Option (List Int) := if (l1.all Fv.isB && l0.all (fun x => decide (0 ≤ x ∧ x ≤ (l1.length : Int))) && decide (l0.length < 4611686018427387904)) = true then some (l0.mergeSort (Fv.sufLe l1)) else none
theorem slices_SortFunc_58.calls {g : Nat} (P0_ : Nat → Prop) (u9000_ : Value) (l0 : List Int) (A1 : Option Addr) (c1 : Nat) (l1 : List Int) (r : List Int) (w0 w : World) (hB : Below w0.heap.size w0 w) (ho0 : Kd.R (Kd.int .i64) 3 w w0.heap.size P0_ u9000_ l0)
    (hr1 : ∀ W', Kept w W' (fun k_ => P0_ k_) → Kd.C (Kd.int .u8) W' A1 l1.length l1) (hc1 : l1.length ≤ c1) (hb : w.heap[g]? = some (.cells #[.slice A1 l1.length c1] 22 (0, 0))) (h : slices_SortFunc_58.f l0 l1 = some r) :
    Calls Try.prog 57 #[u9000_, .func (.func 58) #[] #[.pointer (some ⟨g, 0, none⟩)]] w fun e w' => e = .returned (.tuple #[]) ∧ Kd.R (Kd.int .i64) 3 w' w0.heap.size (fun k_ => (P0_ k_ ∨ w.heap.size ≤ k_)) u9000_ r ∧ Below w0.heap.size w0 w' ∧ Kept w w' (fun k_ => P0_ k_) := by
  unfold slices_SortFunc_58.f at h
  split at h
  · rename_i hc
    obtain rfl := Option.some.inj h
    simp only [Bool.and_eq_true, List.all_eq_true, decide_eq_true_eq, Fv.isB] at hc
    exact Fv.sortSuf P0_ u9000_ l0 A1 c1 l1 w0 w hB ho0 hr1 hc1 hb hc.1.1 hc.1.2 hc.2
  · exact absurd h (by simp)
/-! ### impl_suffixRows: function 43 -/
def impl_suffixRows.l0 : Nat → List Int → Int → Int → List Int → Option (List Int)
 | 0, _, _, _, _ => none
 | k + 1, x3, x7, x8, x319000 => if x8 < x7 then (if x3.length < 17592186044416 then (impl_suffixRows.l0 k (x3 ++ [x8]) x7 (wrap64 (x8 + 1)) x319000) else (none)) else ((slices_SortFunc_58.f x3 x319000).bind fun t322 => (some t322))
def impl_suffixRows.f (k : Nat) (l0 : List Int) : Option (List Int) := impl_suffixRows.l0 k ([] : List Int) (wrap64 ((l0.length : Int) + 1)) 0 l0
set_option maxHeartbeats 8000000 in
set_option maxRecDepth 100000 in
theorem impl_suffixRows.calls (k : Nat) (A0 : Option Addr) (c0 : Nat) (l0 : List Int) (r : List Int) (w : World) (hr0 : Kd.C (Kd.int .u8) w A0 l0.length l0) (hc0 : l0.length ≤ c0) (h : impl_suffixRows.f k l0 = some r) :
  Calls Try.prog 43 #[.slice A0 l0.length c0] w fun e w' => ∃ v0_ : Value, e = .returned (v0_) ∧ Kd.R (Kd.int .i64) 3 w' w.heap.size (fun _ => True) v0_ r ∧ Below w.heap.size w w' := by
 have HR0:=mk0 hr0
 have HC0:=mk0 hc0
 clear hr0 hc0
 have HB:=mk0 (Below.refl w.heap.size w)
 have H:(impl_suffixRows.l0 k ([]:List Int) (wrap64 ((l0.length:Int) + 1)) 0 l0) = some r:=h
 clear h
 have H':=mk0 H
 clear H
 go_enter Try.func43,Try.ntmps43
 go_wp2_with (first|((with_reducible refine gate_dst (N:=1) rfl ?_);refine box_event ?hg (N:=1) ?hd (cs:=#[.slice A0 l0.length c0]) (t:=22) ?hr ?_;(case hd=>rfl);(case hg=>rfl);(case hr=>first|(go_simp;done)|(go_simp;rfl));intro gb318 hg w2 hbox hb;have BK318:=mk0 (hbox);have GW318:=mk0 ((by rw [hg];exact (kZ HB.out):w.heap.size ≤ gb318));have GE318:=mk0 ((by rw [hg];exact (kZ HB.out):w.heap.size ≤ gb318));replace HB:=mk0 (kS HB.out hb);clear hb hbox hg;have hcz3_0:w2.cell? ⟨gb318,0,none⟩ = some (.slice A0 l0.length c0):=(blk_cell BK318.out 0).trans rfl;have hfz3_0:=blk_frozen BK318.out 0))
 go_loopg [3,8] k (fun kq v3 v8 w'=>∃ (x3_1:List Int) (x8_1:Int),v8 = .int .i64 x8_1 ∧ Aside0 (impl_suffixRows.l0 kq x3_1 (wrap64 ((l0.length:Int) + 1)) x8_1 l0 = some r) ∧ Aside0 (kq ≤ k) ∧ Aside0 (Kd.R (Kd.int .i64) 3 w' w.heap.size (fun _=>True) v3 x3_1) ∧ Aside0 (w'.heap[gb318]? = some (.cells #[(.slice A0 l0.length c0)] 22 (0,0))) ∧ Aside0 (Below w.heap.size w w'))
 case atStart=>exact⟨(([]:List Int)),(0),eS,H',⟨Nat.le_refl _⟩,⟨by first|exact Kd.R_nil _ _ _ _ _|exact Kd.N_nil _ _ _ _ _|exact Kd.V_nil _ _ _ _ _|exact Kd.Q_nil _ _ _ _ _|exact Kd.S_nil _ _ _ _ _⟩,⟨kN BK318.out⟩,⟨kB HB.out⟩⟩
 case round =>
  clear H'
  try clear p2
  try clear hcz3_0
  try clear hfz3_0
  obtain⟨x3_1,x8_1,rfl,HA,HK1,HO_3,BK318,HB⟩:=hrel
  cases gk with
  | zero=>exact absurd HA.out (by simp [impl_suffixRows.l0])
  | succ k1 =>
   have H:=HA.out
   clear HA
   simp only [impl_suffixRows.l0] at H
   by_cases c4:x8_1 < (wrap64 ((l0.length:Int) + 1))
   ·rw [if_pos c4] at H
    have c4b0:decide (x8_1 < (wrap64 ((l0.length:Int) + 1))) = true:=decide_eq_true c4
    clear c4
    by_cases c5:x3_1.length < 17592186044416
    ·rw [if_pos c5] at H
     have LMc5:=mk0 c5
     clear c5
     obtain⟨y319,hy319⟩:∃ y_:List Int,y_ = (x3_1 ++ [x8_1]):=⟨_,rfl⟩
     first|(with_reducible replace H:=yB hy319 H)|rw [← hy319] at H|skip
     have Ny319:=mk0 hy319
     clear hy319
     have H':=mk0 H
     clear H
     go_wp2_with (first|((with_reducible refine gate_builtin (b:=.append) (xs:=#[.tmp 11,.tmp 13]) rfl ?_);at_builtin;refine Kd.R_append (Kd.int .i64) (w0:=w) w.heap.size rfl (.tmp 11) (.tmp 13) 23 3 (.int .i64 0) 8 rfl Try.underlying23 info3 rfl (by decide) (by omega) u3 x3_1 x8_1 [.int .i64 x8_1] (fun _=>True) (fun _=>False) rfl rfl ?aP (fun _ hk=>hk.elim) ?aF ?aO ?aB ?aS ?aL ?_;(case aP=>exact rfl);(case aB=>exact (kB HB.out));(case aF=>exact (fun _ _=>trivial));(case aO=>exact (rR HO_3.out));(case aS=>exact (kZ HB.out));(case aL=>have:=LMc5.out;omega);intro v320 w6 ho hb hg hat;rw [← Ny319.out] at ho;replace BK318:=mk0 (blk_grown (kN BK318.out) hg (Kd.R_ne HO_3.out BK318.out (by decide)));replace HB:=mk0 (hb);have HO321:=mk0 (ho);clear HO_3 ho hb hg hat))
     go_roundg k1
     case measure=>have:=HK1.out;omega
     case rel=>exact⟨(y319),(wrap64 (x8_1 + 1)),eS,H',⟨by have:=HK1.out;omega⟩,⟨rR HO321.out⟩,⟨kN BK318.out⟩,⟨kB HB.out⟩⟩
    ·rw [if_neg c5] at H
     exact nn H
   ·rw [if_neg c4] at H
    have c4b0:decide (x8_1 < (wrap64 ((l0.length:Int) + 1))) = false:=decide_eq_false c4
    clear c4
    replace H:=bE H
    obtain⟨t322,A7,H⟩:=H
    obtain rfl:=Option.some.inj H
    obtain⟨Ao8,co8,eo8⟩:=Kd.R_slice HO_3.out
    subst eo8
    go_wp2_with (first|((with_reducible refine gate_callee (f:=57) rfl ?_);refine gL (some 18) Try.func57 #[.slice Ao8 x3_1.length co8,.func (.func 58) #[] #[.pointer (some ⟨gb318,0,none⟩)]] ?_;(with_reducible refine (slices_SortFunc_58.calls (fun k_=>some k_ = (.slice Ao8 x3_1.length co8:Value).ownBlock) (.slice Ao8 x3_1.length co8) x3_1 A0 c0 l0 t322 w _ ?side1 ?side2 ?side3 ?side4 ?side5 A7.out).mono ?_);(case side1=>repeat (first|(with_reducible first|exact HB.out|apply aZ|apply nZ|apply dZ|refine sZ ?_ GE318.out)|exact HB.out));(case side2=>exact Kd.R_tight rfl HO_3.out);(case side3=>exact Kd.C_kept_came (Kd.heap_int .u8) HR0.out (kB HB.out) (fun k_ hs_=>(fun e_=>Kd.R_base HO_3.out k_ e_.symm) hs_));(case side4=>exact HC0.out);(case side5=>exact by (with_reducible repeat (first|apply nB|apply dB|apply aB));exact BK318.out);rintro e w9 ⟨rfl,hy0,hb,hkp⟩;refine⟨_,rfl,?_⟩;replace BK318:=mk0 (blk_kept (kN BK318.out) hkp (fun hs_=>(fun e_=>(Kd.R_ne HO_3.out BK318.out (by decide)) e_) hs_));replace HO_3:=mk0 (Kd.R_reok rfl hy0 (fun k_ e_=>HO_3.out.1 k_ e_));replace HB:=mk0 (hb);(try clear hb);(try clear hkp);(try clear hy0)))
    go_ret
    exact⟨_,eR,rR HO_3.out,kB HB.out⟩
/-! ### impl_bwtOf: function 44 -/
def impl_bwtOf.l0 : Nat → List Int → List Int → List Int → Int → Int → Option (List Int)
 | 0, _, _, _, _, _ => none
 | k + 1, x0, x3, x7, x8, x9 => if x9 < x8 then (if 0 ≤ x9 then (if x9 < (x7.length : Int) then (if (rd x7 x9) = 0 then (if x3.length < 17592186044416 then (impl_bwtOf.l0 k x0 (x3 ++ [0]) x7 x8 (wrap64 (x9 + 1))) else (none)) else (if 0 ≤ (wrap64 ((rd x7 x9) - 1)) then (if (wrap64 ((rd x7 x9) - 1)) < (x0.length : Int) then (if x3.length < 17592186044416 then (impl_bwtOf.l0 k x0 (x3 ++ [wrap64 ((wrap64 (rd x0 (wrap64 ((rd x7 x9) - 1)))) + 1)]) x7 x8 (wrap64 (x9 + 1))) else (none)) else (none)) else (none))) else (none)) else (none)) else (some x3)
def impl_bwtOf.f (k : Nat) (l0 : List Int) : Option (List Int) := (impl_suffixRows.f k l0).bind fun t323 => (impl_bwtOf.l0 k l0 ([] : List Int) t323 (t323.length : Int) 0)
set_option maxHeartbeats 8000000 in
set_option maxRecDepth 100000 in
theorem impl_bwtOf.calls (k : Nat) (A0 : Option Addr) (c0 : Nat) (l0 : List Int) (r : List Int) (w : World) (hr0 : Kd.C (Kd.int .u8) w A0 l0.length l0) (hc0 : l0.length ≤ c0) (h : impl_bwtOf.f k l0 = some r) :
  Calls Try.prog 44 #[.slice A0 l0.length c0] w fun e w' => ∃ v0_ : Value, e = .returned (v0_) ∧ Kd.R (Kd.int .i64) 3 w' w.heap.size (fun _ => True) v0_ r ∧ Below w.heap.size w w' := by
 have HR0:=mk0 hr0
 have HC0:=mk0 hc0
 clear hr0 hc0
 have HB:=mk0 (Below.refl w.heap.size w)
 have H:((impl_suffixRows.f k l0).bind fun t323=>(impl_bwtOf.l0 k l0 ([]:List Int) t323 (t323.length:Int) 0)) = some r:=h
 clear h
 replace H:=bE H
 obtain⟨t323,A2,H⟩:=H
 have H':=mk0 H
 clear H
 go_enter Try.func44,Try.ntmps44
 go_wp2_with (first|((with_reducible refine gate_callee (f:=43) rfl ?_);refine gL (some 7) Try.func43 #[.slice A0 l0.length c0] ?_;(with_reducible refine (impl_suffixRows.calls k _ _ l0 t323 _ ?side1 ?side2 A2.out).mono ?_);(case side1=>exact kC HR0.out);(case side2=>exact HC0.out);rintro e w3 ⟨v324,rfl,ho0,hb⟩;refine⟨_,rfl,?_⟩;have HO325:=mk0 (Kd.R_lower ho0 (kZ HB.out));replace HB:=mk0 (kS HB.out hb);(try clear hb);(try clear ho0);obtain⟨Ao4,co4,eo4⟩:=Kd.R_slice HO325.out;subst eo4))
 go_loopg [3,9] k (fun kq v3 v9 w'=>∃ (x3_1:List Int) (x9_1:Int),v9 = .int .i64 x9_1 ∧ Aside0 (impl_bwtOf.l0 kq l0 x3_1 t323 (t323.length:Int) x9_1 = some r) ∧ Aside0 (kq ≤ k) ∧ Aside0 (Kd.R (Kd.int .i64) 3 w' w.heap.size (fun k_=>some k_ ≠ ((.slice Ao4 t323.length co4):Value).ownBlock) v3 x3_1) ∧ Aside0 (Kd.R (Kd.int .i64) 3 w' w.heap.size (fun k_=>some k_ ≠ (v3:Value).ownBlock) (.slice Ao4 t323.length co4) t323) ∧ Aside0 (Below w.heap.size w w'))
 case atStart=>exact⟨(([]:List Int)),(0),eS,H',⟨Nat.le_refl _⟩,⟨by first|exact Kd.R_nil _ _ _ _ _|exact Kd.N_nil _ _ _ _ _|exact Kd.V_nil _ _ _ _ _|exact Kd.Q_nil _ _ _ _ _|exact Kd.S_nil _ _ _ _ _⟩,⟨by (with_reducible repeat (first|apply aR|apply nR|apply dR));exact Kd.R_mono HO325.out (fun _ hk=>(by simp [Value.ownBlock]))⟩,⟨kB HB.out⟩⟩
 case round =>
  clear H'
  try clear p2
  try clear c4
  obtain⟨x3_1,x9_1,rfl,HA,HK1,HO_3,HO_7,HB⟩:=hrel
  cases gk with
  | zero=>exact absurd HA.out (by simp [impl_bwtOf.l0])
  | succ k1 =>
   have H:=HA.out
   clear HA
   simp only [impl_bwtOf.l0] at H
   by_cases c5:x9_1 < (t323.length:Int)
   ·rw [if_pos c5] at H
    have c5b0:decide (x9_1 < (t323.length:Int)) = true:=decide_eq_true c5
    clear c5
    by_cases c6:0 ≤ x9_1
    ·rw [if_pos c6] at H
     have c6b0:decide (0 ≤ x9_1) = true:=decide_eq_true c6
     clear c6
     by_cases c7:x9_1 < (t323.length:Int)
     ·rw [if_pos c7] at H
      have c7b0:decide (x9_1 < (t323.length:Int)) = true:=decide_eq_true c7
      clear c7
      by_cases c8:(rd t323 x9_1) = 0
      ·rw [if_pos c8] at H
       have c8b0:((rd t323 x9_1) == 0) = true:=beq_iff_eq.mpr c8
       have c8b1:((rd t323 x9_1) != 0) = false:=bne_eq_false_iff_eq.mpr c8
       clear c8
       by_cases c9:x3_1.length < 17592186044416
       ·rw [if_pos c9] at H
        have LMc9:=mk0 c9
        clear c9
        obtain⟨y327,hy327⟩:∃ y_:List Int,y_ = (x3_1 ++ [0]):=⟨_,rfl⟩
        first|(with_reducible replace H:=yB hy327 H)|rw [← hy327] at H|skip
        have Ny327:=mk0 hy327
        clear hy327
        have H':=mk0 H
        clear H
        have p326:0 ≤ (x9_1:Int):=oD
        have q326:x9_1 < (t323.length:Int):=oD
        obtain⟨ad326,e326,hx326_0⟩:=Kd.at_int (Kd.R_reads' HO_7.out).2.2 x9_1 p326 q326
        cases e326
        replace p326:=eq_true p326
        replace q326:=eq_true q326
        go_wp2_with (first|((with_reducible refine gate_builtin (b:=.append) (xs:=#[.tmp 15,.tmp 16]) rfl ?_);at_builtin;refine Kd.R_append (Kd.int .i64) (w0:=w) w.heap.size rfl (.tmp 15) (.tmp 16) 23 3 (.int .i64 0) 8 rfl Try.underlying23 info3 rfl (by decide) (by omega) u3 x3_1 0 [.int .i64 0] (fun k_=>some k_ ≠ (.slice (some ad326) t323.length co4:Value).ownBlock) (fun _=>False) rfl rfl ?aP (fun _ hk=>hk.elim) ?aF ?aO ?aB ?aS ?aL ?_;(case aP=>exact rfl);(case aB=>exact (kB HB.out));(case aF=>exact (fun k_ hk=>Kd.fresh' (Kd.R_lt (rR HO_7.out)) k_ hk));(case aO=>exact (rR HO_3.out));(case aS=>exact (kZ HB.out));(case aL=>have:=LMc9.out;omega);intro v328 w10 ho hb hg hat;rw [← Ny327.out] at ho;replace HO_7:=mk0 (Kd.R_after (ok:=(fun _=>True)) (rR (Kd.R_mono HO_7.out (fun _ hk=>⟨trivial,hk⟩))) hg hat);replace HB:=mk0 (hb);have HO329:=mk0 (ho);clear HO_3 ho hb hg hat))
        go_roundg k1
        case measure=>have:=HK1.out;omega
        case rel=>exact⟨(y327),(wrap64 (x9_1 + 1)),eS,H',⟨by have:=HK1.out;omega⟩,⟨rR HO329.out⟩,⟨rR (Kd.R_mono HO_7.out (fun _ hk=>hk.2))⟩,⟨kB HB.out⟩⟩
       ·rw [if_neg c9] at H
        exact nn H
      ·rw [if_neg c8] at H
       have c8b0:((rd t323 x9_1) == 0) = false:=beq_eq_false_iff_ne.mpr c8
       have c8b1:((rd t323 x9_1) != 0) = true:=bne_iff_ne.mpr c8
       obtain⟨ji11,hji11⟩:∃ j_:Int,(wrap64 ((rd t323 x9_1) - 1)) = j_:=⟨_,rfl⟩
       first|rw [hji11] at H|simp only [hji11] at H
       have hji11w:(IntKind.i64.wrap ((rd t323 x9_1) - 1)) = ji11:=(i64_w _).trans hji11
       by_cases c12:0 ≤ (ji11)
       ·rw [if_pos c12] at H
        have c12b0:decide (0 ≤ (ji11)) = true:=decide_eq_true c12
        clear c12
        by_cases c13:(ji11) < (l0.length:Int)
        ·rw [if_pos c13] at H
         have c13b0:decide ((ji11) < (l0.length:Int)) = true:=decide_eq_true c13
         clear c13
         by_cases c14:x3_1.length < 17592186044416
         ·rw [if_pos c14] at H
          have LMc14:=mk0 c14
          clear c14
          obtain⟨y331,hy331⟩:∃ y_:List Int,y_ = (x3_1 ++ [wrap64 ((wrap64 (rd l0 (ji11))) + 1)]):=⟨_,rfl⟩
          first|(with_reducible replace H:=yB hy331 H)|rw [← hy331] at H|skip
          have Ny331:=mk0 hy331
          clear hy331
          have H':=mk0 H
          clear H
          have p326:0 ≤ (x9_1:Int):=oD
          have q326:x9_1 < (t323.length:Int):=oD
          obtain⟨ad326,e326,hx326_0⟩:=Kd.at_int (Kd.R_reads' HO_7.out).2.2 x9_1 p326 q326
          cases e326
          replace p326:=eq_true p326
          replace q326:=eq_true q326
          have p330:0 ≤ ((ji11):Int):=oD
          have q330:(ji11) < (l0.length:Int):=oD
          obtain⟨ad330,e330,hx330_0⟩:=Kd.at_int HR0.out (ji11) p330 q330
          cases e330
          replace hx330_0:=(HB.out.cell (World.block_lt_of_cell? w _ hx330_0)).trans hx330_0
          replace p330:=eq_true p330
          replace q330:=eq_true q330
          go_wp2_with (first|((with_reducible refine gate_builtin (b:=.append) (xs:=#[.tmp 18,.tmp 26]) rfl ?_);at_builtin;refine Kd.R_append (Kd.int .i64) (w0:=w) w.heap.size rfl (.tmp 18) (.tmp 26) 23 3 (.int .i64 0) 8 rfl Try.underlying23 info3 rfl (by decide) (by omega) u3 x3_1 (wrap64 ((wrap64 (rd l0 (ji11))) + 1)) [.int .i64 (wrap64 ((wrap64 (rd l0 (ji11))) + 1))] (fun k_=>some k_ ≠ (.slice (some ad326) t323.length co4:Value).ownBlock) (fun _=>False) rfl rfl ?aP (fun _ hk=>hk.elim) ?aF ?aO ?aB ?aS ?aL ?_;(case aP=>exact rfl);(case aB=>exact (kB HB.out));(case aF=>exact (fun k_ hk=>Kd.fresh' (Kd.R_lt (rR HO_7.out)) k_ hk));(case aO=>exact (rR HO_3.out));(case aS=>exact (kZ HB.out));(case aL=>have:=LMc14.out;omega);intro v332 w15 ho hb hg hat;rw [← Ny331.out] at ho;replace HO_7:=mk0 (Kd.R_after (ok:=(fun _=>True)) (rR (Kd.R_mono HO_7.out (fun _ hk=>⟨trivial,hk⟩))) hg hat);replace HB:=mk0 (hb);have HO333:=mk0 (ho);clear HO_3 ho hb hg hat))
          go_roundg k1
          case measure=>have:=HK1.out;omega
          case rel=>exact⟨(y331),(wrap64 (x9_1 + 1)),eS,H',⟨by have:=HK1.out;omega⟩,⟨rR HO333.out⟩,⟨rR (Kd.R_mono HO_7.out (fun _ hk=>hk.2))⟩,⟨kB HB.out⟩⟩
         ·rw [if_neg c14] at H
          exact nn H
        ·rw [if_neg c13] at H
         exact nn H
       ·rw [if_neg c12] at H
        exact nn H
     ·rw [if_neg c7] at H
      exact nn H
    ·rw [if_neg c6] at H
     exact nn H
   ·rw [if_neg c5] at H
    have c5b0:decide (x9_1 < (t323.length:Int)) = false:=decide_eq_false c5
    clear c5
    obtain rfl:=Option.some.inj H
    go_wp2
    go_ret
    exact⟨_,eR,rR (Kd.R_mono HO_3.out (fun _ hk=>trivial)),kB HB.out⟩
end Go.Proofs.Ytjfoaiabbmkdpaa.QFnExactFmOf
