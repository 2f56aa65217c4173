-- A walk, made by walk.py, a program of this session's.
import Derived.Test.YtoinagnieobbpaaQFnStretchWordsx0
import Derived.Test.YtoinagnieobbpaaQFnStretchWordsx5
import Derived.Test.YtoinagnieobbpaaQFnStretchWordsx6
namespace Go.Proofs.Ytoinagnieobbpaa.QFnStretchWords
open Go.RowKit Go.Proofs.YtoinagnieobbpaaW.PrintWords Go.Proofs.YtoinagnieobbpaaW.PrintLast Go.Proofs.YtoinagnieobbpaaW.PrintMore
attribute [local go_sem] max2_int min2_int max_two min_two max_three min_three max_four min_four   -- for this text's walks alone
set_option linter.unusedVariables false
set_option linter.unusedSimpArgs false

-- NOT PRINTED: function 92 (slices_insertionSortCmpFunc_int)

-- NOT PRINTED: function 113 (slices_siftDownCmpFunc_int)

-- NOT PRINTED: function 93 (slices_heapSortCmpFunc_int)

-- NOT PRINTED: function 100 (bits_Len32)

-- NOT PRINTED: function 101 (bits_Len64)

-- NOT PRINTED: function 80 (bits_Len)

-- NOT PRINTED: function 114 (slices_nextPowerOfTwo)

-- NOT PRINTED: function 115 (slices_xorshift_Next)

-- NOT PRINTED: function 94 (slices_breakPatternsCmpFunc_int)

-- NOT PRINTED: function 121 (slices_order2CmpFunc_int)

-- NOT PRINTED: function 117 (slices_medianCmpFunc_int)

-- NOT PRINTED: function 116 (slices_medianAdjacentCmpFunc_int)

-- NOT PRINTED: function 95 (slices_choosePivotCmpFunc_int)

-- NOT PRINTED: function 96 (slices_reverseRangeCmpFunc_int)

-- NOT PRINTED: function 97 (slices_partialInsertionSortCmpFunc_int)

-- NOT PRINTED: function 98 (slices_partitionEqualCmpFunc_int)

-- NOT PRINTED: function 99 (slices_partitionCmpFunc_int)

-- NOT PRINTED: function 79 (slices_pdqsortCmpFunc_int)

-- NOT PRINTED: function 65 (slices_SortFunc_int_int)


/-! ### slices_SortFunc_66: slices.SortFunc at the literal 66, which compares suffixes of what it captures -/
def slices_SortFunc_66.f (l0 : List Int) (l1 : List Int) : Option (List Int) := if (l1.all Fv.isB && l0.all (fun x => decide (0 ≤ x ∧ x ≤ (l1.length : Int))) && decide (l0.length < 4611686018427387904)) = true then some (l0.mergeSort (Fv.sufLe l1)) else none
theorem slices_SortFunc_66.calls {g : Nat} (P0_ : Nat → Prop) (u9000_ : Value) (l0 : List Int) (A1 : Option Addr) (c1 : Nat) (l1 : List Int) (r : List Int) (w0 w : World) (hB : Below w0.heap.size w0 w) (ho0 : Kd.R (Kd.int .i64) 3 w w0.heap.size P0_ u9000_ l0)
    (hr1 : ∀ W', Kept w W' (fun k_ => P0_ k_) → Kd.C (Kd.int .u8) W' A1 l1.length l1) (hc1 : l1.length ≤ c1) (hb : w.heap[g]? = some (.cells #[.slice A1 l1.length c1] 22 (0, 0))) (h : slices_SortFunc_66.f l0 l1 = some r) :
    Calls Try.prog 65 #[u9000_, .func (.func 66) #[] #[.pointer (some ⟨g, 0, none⟩)]] w fun e w' => e = .returned (.tuple #[]) ∧ Kd.R (Kd.int .i64) 3 w' w0.heap.size (fun k_ => (P0_ k_ ∨ w.heap.size ≤ k_)) u9000_ r ∧ Below w0.heap.size w0 w' ∧ Kept w w' (fun k_ => P0_ k_) := by
  unfold slices_SortFunc_66.f at h
  split at h
  · rename_i hc
    obtain rfl := Option.some.inj h
    simp only [Bool.and_eq_true, List.all_eq_true, decide_eq_true_eq, Fv.isB] at hc
    exact Fv.sortSuf P0_ u9000_ l0 A1 c1 l1 w0 w hB ho0 hr1 hc1 hb hc.1.1 hc.1.2 hc.2
  · exact absurd h (by simp)

/-! ### impl_suffixRows: function 44 -/
def impl_suffixRows.l0 : Nat → List Int → Int → Int → List Int → Option (List Int)
 | 0, _, _, _, _ => none
 | k + 1, x3, x7, x8, x178000 => if x8 < x7 then (if x3.length < 17592186044416 then (impl_suffixRows.l0 k (x3 ++ [x8]) x7 (wrap64 (x8 + 1)) x178000) else (none)) else ((slices_SortFunc_66.f x3 x178000).bind fun t181 => (some t181))
def impl_suffixRows.f (k : Nat) (l0 : List Int) : Option (List Int) := impl_suffixRows.l0 k ([] : List Int) (wrap64 ((l0.length : Int) + 1)) 0 l0
theorem impl_suffixRows.mono_l : ∀ k, (∀ y0 y1 y2 y3, LeO (impl_suffixRows.l0 k y0 y1 y2 y3) (impl_suffixRows.l0 (k + 1) y0 y1 y2 y3))
 | 0 => fun _ _ _ _ r h => by simp [impl_suffixRows.l0] at h
 | k + 1 => by
  have ih0 := impl_suffixRows.mono_l k
  ·intro y0 y1 y2 y3
   unfold impl_suffixRows.l0
   repeat' first|(with_reducible first|exact ih0 _ _ _ _|exact LeO.refl _|exact LeO.none _|refine LeO.ite ?_ ?_|refine LeO.bind ?_ (fun _ => ?_))|exact LeO.none _|refine LeO.ite ?_ ?_|refine LeO.bind ?_ (fun _ => ?_)
theorem impl_suffixRows.mono : ∀ a0 k, LeO (impl_suffixRows.f k a0) (impl_suffixRows.f (k + 1) a0) := by
 intro a0 k
 have ih0 := impl_suffixRows.mono_l k
 unfold impl_suffixRows.f
 repeat' first|(with_reducible first|exact ih0 _ _ _ _|exact LeO.refl _|exact LeO.none _|refine LeO.ite ?_ ?_|refine LeO.bind ?_ (fun _ => ?_))|exact LeO.none _|refine LeO.ite ?_ ?_|refine LeO.bind ?_ (fun _ => ?_)
set_option maxHeartbeats 8000000 in
set_option maxRecDepth 100000 in
theorem impl_suffixRows.calls (k : Nat) (A0 : Option Addr) (c0 : Nat) (l0 : List Int) (r : List Int) (w : World) (hr0 : Kd.C (Kd.int .u8) w A0 l0.length l0) (hc0 : l0.length ≤ c0) (h : impl_suffixRows.f k l0 = some r) :
  Calls Try.prog 44 #[.slice A0 l0.length c0] w fun e w' => ∃ v0_ : Value, e = .returned (v0_) ∧ Kd.R (Kd.int .i64) 3 w' w.heap.size (fun _ => True) v0_ r ∧ Below w.heap.size w w' := by
 have HR0:=mk0 hr0
 have HC0:=mk0 hc0
 clear hr0 hc0
 have HB:=mk0 (Below.refl w.heap.size w)
 have H:(impl_suffixRows.l0 k ([]:List Int) (wrap64 ((l0.length:Int) + 1)) 0 l0) = some r:=h
 clear h
 have H':=mk0 H
 clear H
 go_enter Try.func44,Try.ntmps44
 go_wp2_with (first|((with_reducible refine gate_dst (N:=1) rfl ?_);refine box_event ?hg (N:=1) ?hd (cs:=#[.slice A0 l0.length c0]) (t:=22) ?hr ?_;(case hd=>rfl);(case hg=>rfl);(case hr=>first|(go_simp;done)|(go_simp;rfl));intro gb177 hg w2 hbox hb;have BK177:=mk0 (hbox);have GW177:=mk0 ((by rw [hg];exact (kZ HB.out):w.heap.size ≤ gb177));have GE177:=mk0 ((by rw [hg];exact (kZ HB.out):w.heap.size ≤ gb177));replace HB:=mk0 (kS HB.out hb);clear hb hbox hg;have hcz3_0:w2.cell? ⟨gb177,0,none⟩ = some (.slice A0 l0.length c0):=(blk_cell BK177.out 0).trans rfl;have hfz3_0:=blk_frozen BK177.out 0))
 go_loopg [3,8] k (fun kq v3 v8 w'=>∃ (x3_1:List Int) (x8_1:Int),v8 = .int .i64 x8_1 ∧ Aside0 (impl_suffixRows.l0 kq x3_1 (wrap64 ((l0.length:Int) + 1)) x8_1 l0 = some r) ∧ Aside0 (kq ≤ k) ∧ Aside0 (Kd.R (Kd.int .i64) 3 w' w.heap.size (fun _=>True) v3 x3_1) ∧ Aside0 (w'.heap[gb177]? = some (.cells #[(.slice A0 l0.length c0)] 22 (0,0))) ∧ Aside0 (Below w.heap.size w w'))
 case atStart=>exact⟨(([]:List Int)),(0),(by first|rfl|(simp;done)|(simp [*];done)),H',⟨Nat.le_refl _⟩,⟨by first|exact Kd.R_nil _ _ _ _ _|exact Kd.N_nil _ _ _ _ _|exact Kd.V_nil _ _ _ _ _|exact Kd.Q_nil _ _ _ _ _|exact Kd.S_nil _ _ _ _ _⟩,⟨kN BK177.out⟩,⟨kB HB.out⟩⟩
 case round =>
  clear H'
  try clear p2
  try clear hcz3_0
  try clear hfz3_0
  obtain⟨x3_1,x8_1,rfl,HA,HK1,HO_3,BK177,HB⟩:=hrel
  cases gk with
  | zero=>exact absurd HA.out (by simp [impl_suffixRows.l0])
  | succ k1 =>
   have H:=HA.out
   clear HA
   simp only [impl_suffixRows.l0] at H
   by_cases c4:x8_1 < (wrap64 ((l0.length:Int) + 1))
   ·rw [if_pos c4] at H
    have c4b0:decide (x8_1 < (wrap64 ((l0.length:Int) + 1))) = true:=decide_eq_true c4
    clear c4
    by_cases c5:x3_1.length < 17592186044416
    ·rw [if_pos c5] at H
     have LMc5:=mk0 c5
     clear c5
     obtain⟨y178,hy178⟩:∃ y_:List Int,y_ = (x3_1 ++ [x8_1]):=⟨_,rfl⟩
     replace H:(impl_suffixRows.l0 k1 y178 (wrap64 ((l0.length:Int) + 1)) (wrap64 (x8_1 + 1)) l0) = some r:=by first|(rw [hy178];with_reducible exact H)|(have H2_:=(Option.bind_some _ _).symm.trans H;rw [hy178];with_reducible exact H2_)|(have H2_:=(Option.bind_some _ _).symm.trans H;with_reducible exact H2_)|with_reducible exact H|(rw [hy178];exact H)|exact H
     have Ny178:=mk0 hy178
     clear hy178
     have H':=mk0 H
     clear H
     go_wp2_with (first|((with_reducible refine gate_builtin (b:=.append) (xs:=#[.tmp 11,.tmp 13]) rfl ?_);at_builtin;refine Kd.R_append (Kd.int .i64) (w0:=w) w.heap.size rfl (.tmp 11) (.tmp 13) 48 3 (.int .i64 0) 8 rfl Try.underlying48 info3 rfl (by decide) (by omega) u3 x3_1 x8_1 [.int .i64 x8_1] (fun _=>True) (fun _=>False) rfl rfl ?aP (fun _ hk=>hk.elim) ?aF ?aO ?aB ?aS ?aL ?_;(case aP=>exact rfl);(case aB=>exact (kB HB.out));(case aF=>exact (fun _ _=>trivial));(case aO=>exact (rR HO_3.out));(case aS=>exact (kZ HB.out));(case aL=>have:=LMc5.out;omega);intro v179 w6 ho hb hg hat;rw [← Ny178.out] at ho;replace BK177:=mk0 (blk_grown (kN BK177.out) hg (Kd.R_ne HO_3.out BK177.out (by decide)));replace HB:=mk0 (hb);have HO180:=mk0 (ho);clear HO_3 ho hb hg hat))
     go_roundg k1
     case measure=>have:=HK1.out;omega
     case rel=>exact⟨(y178),(wrap64 (x8_1 + 1)),(by first|rfl|(simp;done)|(simp [*];done)),H',⟨by have:=HK1.out;omega⟩,⟨rR HO180.out⟩,⟨kN BK177.out⟩,⟨kB HB.out⟩⟩
    ·rw [if_neg c5] at H
     exact absurd H (by simp)
   ·rw [if_neg c4] at H
    have c4b0:decide (x8_1 < (wrap64 ((l0.length:Int) + 1))) = false:=decide_eq_false c4
    clear c4
    replace H:=Option.bind_eq_some_iff.mp H
    obtain⟨t181,A70,H⟩:=H
    replace H:(some t181) = some r:=H
    have A7:=mk0 A70
    clear A70
    obtain rfl:=Option.some.inj H
    obtain⟨Ao8,co8,eo8⟩:=Kd.R_slice HO_3.out
    subst eo8
    go_wp2_with (first|((with_reducible refine gate_callee (f:=65) rfl ?_);refine goesL_ (some 18) rfl rfl Try.func65 (by kernel_rfl) rfl #[.slice Ao8 x3_1.length co8,.func (.func 66) #[] #[.pointer (some ⟨gb177,0,none⟩)]] rfl (by (try simp only [mA,mC,mN]);first|done|rfl|(simp only [lD,lT];done)|(simp only [lD,lT];rfl)) ?_;(with_reducible refine (slices_SortFunc_66.calls (fun k_=>some k_ = (.slice Ao8 x3_1.length co8:Value).ownBlock) (.slice Ao8 x3_1.length co8) x3_1 A0 c0 l0 t181 w _ ?side1 ?side2 ?side3 ?side4 ?side5 A7.out).mono ?_);(case side1=>repeat (first|(with_reducible first|exact HB.out|apply aZ|apply nZ|apply dZ|refine sZ ?_ GE177.out)|exact HB.out));(case side2=>exact Kd.R_tight rfl HO_3.out);(case side3=>exact Kd.C_kept_came (Kd.heap_int .u8) HR0.out (kB HB.out) (fun k_ hs_=>(fun e_=>Kd.R_base HO_3.out k_ e_.symm) hs_));(case side4=>exact HC0.out);(case side5=>exact by (with_reducible repeat (first|apply nB|apply dB|apply aB));exact BK177.out);rintro e w9 ⟨rfl,hy0,hb,hkp⟩;refine⟨_,rfl,?_⟩;replace BK177:=mk0 (blk_kept (kN BK177.out) hkp (fun hs_=>(fun e_=>(Kd.R_ne HO_3.out BK177.out (by decide)) e_) hs_));replace HO_3:=mk0 (Kd.R_reok rfl hy0 (fun k_ e_=>HO_3.out.1 k_ e_));replace HB:=mk0 (hb);(try clear hb);(try clear hkp);(try clear hy0)))
    go_ret
    exact⟨_,by first|rfl|(simp [errW_none,errW_some] <;> rfl)|(simp [*,errW_none,errW_some] <;> rfl),rR HO_3.out,kB HB.out⟩

/-! ### impl_common: function 63 -/
def impl_common.l0 : Nat → List Int → List Int → Int → Option (Int)
 | 0, _, _, _ => none
 | k + 1, x0, x1, x5 => if x5 < (mn (x0.length : Int) (x1.length : Int)) then (if 0 ≤ x5 then (if x5 < (x0.length : Int) then (if x5 < (x1.length : Int) then (if (rd x0 x5) = (rd x1 x5) then (impl_common.l0 k x0 x1 (wrap64 (x5 + 1))) else (some x5)) else (none)) else (none)) else (none)) else (some x5)
def impl_common.f (k : Nat) (l0 : List Int) (l1 : List Int) : Option (Int) := impl_common.l0 k l0 l1 0
theorem impl_common.mono_l : ∀ k, (∀ y0 y1 y2, LeO (impl_common.l0 k y0 y1 y2) (impl_common.l0 (k + 1) y0 y1 y2))
 | 0 => fun _ _ _ r h => by simp [impl_common.l0] at h
 | k + 1 => by
  have ih0 := impl_common.mono_l k
  ·intro y0 y1 y2
   unfold impl_common.l0
   repeat' first|(with_reducible first|exact ih0 _ _ _|exact LeO.refl _|exact LeO.none _|refine LeO.ite ?_ ?_|refine LeO.bind ?_ (fun _ => ?_))|exact LeO.none _|refine LeO.ite ?_ ?_|refine LeO.bind ?_ (fun _ => ?_)
theorem impl_common.mono : ∀ a0 a1 k, LeO (impl_common.f k a0 a1) (impl_common.f (k + 1) a0 a1) := by
 intro a0 a1 k
 have ih0 := impl_common.mono_l k
 unfold impl_common.f
 repeat' first|(with_reducible first|exact ih0 _ _ _|exact LeO.refl _|exact LeO.none _|refine LeO.ite ?_ ?_|refine LeO.bind ?_ (fun _ => ?_))|exact LeO.none _|refine LeO.ite ?_ ?_|refine LeO.bind ?_ (fun _ => ?_)
set_option maxHeartbeats 8000000 in
set_option maxRecDepth 100000 in
theorem impl_common.calls (k : Nat) (A0 : Option Addr) (c0 : Nat) (l0 : List Int) (A1 : Option Addr) (c1 : Nat) (l1 : List Int) (r : Int) (w : World) (hr0 : Kd.C (Kd.int .u8) w A0 l0.length l0) (hc0 : l0.length ≤ c0) (hr1 : Kd.C (Kd.int .u8) w A1 l1.length l1) (hc1 : l1.length ≤ c1) (h : impl_common.f k l0 l1 = some r) :
  Calls Try.prog 63 #[.slice A0 l0.length c0, .slice A1 l1.length c1] w fun e w' => e = .returned (.int .i64 r) ∧ Below w.heap.size w w' := by
 have HR0:=mk0 hr0
 have HC0:=mk0 hc0
 clear hr0 hc0
 have HR1:=mk0 hr1
 have HC1:=mk0 hc1
 clear hr1 hc1
 have HB:=mk0 (Below.refl w.heap.size w)
 have H:(impl_common.l0 k l0 l1 0) = some r:=h
 clear h
 have H':=mk0 H
 clear H
 go_enter Try.func63,Try.ntmps63
 go_wp2
 repeat (go_quiet (fail);try go_wp2)
 go_loopg [5] k (fun kq v5 w'=>∃ (x5_1:Int),v5 = .int .i64 x5_1 ∧ Aside0 (impl_common.l0 kq l0 l1 x5_1 = some r) ∧ Aside0 (kq ≤ k) ∧ Aside0 (Below w.heap.size w w'))
 case atStart=>exact⟨(0),(by first|rfl|(simp;done)|(simp [*];done)),H',⟨Nat.le_refl _⟩,⟨kB HB.out⟩⟩
 case round =>
  clear H'
  try clear c1
  try clear p2
  obtain⟨x5_1,rfl,HA,HK1,HB⟩:=hrel
  cases gk with
  | zero=>exact absurd HA.out (by simp [impl_common.l0])
  | succ k1 =>
   have H:=HA.out
   clear HA
   simp only [impl_common.l0] at H
   obtain⟨ji3,hji3⟩:∃ j_:Int,(mn (l0.length:Int) (l1.length:Int)) = j_:=⟨_,rfl⟩
   replace H:(if x5_1 < (ji3) then (if 0 ≤ x5_1 then (if x5_1 < (l0.length:Int) then (if x5_1 < (l1.length:Int) then (if (rd l0 x5_1) = (rd l1 x5_1) then (impl_common.l0 k1 l0 l1 (wrap64 (x5_1 + 1))) else (some x5_1)) else (none)) else (none)) else (none)) else (some x5_1)) = some r:=by first|(rw [hji3] at H;exact H)|(simp only [hji3] at H ⊢;exact H)
   have hji3_:(if (l1.length:Int) < (l0.length:Int) then (l1.length:Int) else (l0.length:Int)) = ji3:=hji3
   have hji3n : (if l1.length < l0.length then (l1.length : Int) else (l0.length : Int)) = ji3 := by have e_ := hji3_; simp only [Int.ofNat_lt] at e_; exact e_
   by_cases c4:x5_1 < (ji3)
   ·rw [if_pos c4] at H
    have c4b0:decide (x5_1 < (ji3)) = true:=decide_eq_true c4
    clear c4
    by_cases c5:0 ≤ x5_1
    ·rw [if_pos c5] at H
     have c5b0:decide (0 ≤ x5_1) = true:=decide_eq_true c5
     clear c5
     by_cases c6:x5_1 < (l0.length:Int)
     ·rw [if_pos c6] at H
      have c6b0:decide (x5_1 < (l0.length:Int)) = true:=decide_eq_true c6
      clear c6
      by_cases c7:x5_1 < (l1.length:Int)
      ·rw [if_pos c7] at H
       have c7b0:decide (x5_1 < (l1.length:Int)) = true:=decide_eq_true c7
       clear c7
       by_cases c8:(rd l0 x5_1) = (rd l1 x5_1)
       ·rw [if_pos c8] at H
        have c8b0:((rd l0 x5_1) == (rd l1 x5_1)) = true:=beq_iff_eq.mpr c8
        have c8b1:((rd l0 x5_1) != (rd l1 x5_1)) = false:=bne_eq_false_iff_eq.mpr c8
        clear c8
        have H':=mk0 H
        clear H
        have p182:0 ≤ (x5_1:Int):=of_decide_eq_true (by first|(with_reducible assumption)|assumption)
        have q182:x5_1 < (l0.length:Int):=of_decide_eq_true (by first|(with_reducible assumption)|assumption)
        obtain⟨ad182,e182,hx182_0⟩:=Kd.at_int HR0.out x5_1 p182 q182
        cases e182
        replace hx182_0:=(HB.out.cell (World.block_lt_of_cell? w _ hx182_0)).trans hx182_0
        replace p182:=eq_true p182
        replace q182:=eq_true q182
        have p183:0 ≤ (x5_1:Int):=of_decide_eq_true (by first|(with_reducible assumption)|assumption)
        have q183:x5_1 < (l1.length:Int):=of_decide_eq_true (by first|(with_reducible assumption)|assumption)
        obtain⟨ad183,e183,hx183_0⟩:=Kd.at_int HR1.out x5_1 p183 q183
        cases e183
        replace hx183_0:=(HB.out.cell (World.block_lt_of_cell? w _ hx183_0)).trans hx183_0
        replace p183:=eq_true p183
        replace q183:=eq_true q183
        go_wp2
        repeat (go_quiet (fail);try go_wp2)
        go_roundg k1
        case measure=>have:=HK1.out;omega
        case rel=>exact⟨(wrap64 (x5_1 + 1)),(by first|rfl|(simp;done)|(simp [*];done)),H',⟨by have:=HK1.out;omega⟩,⟨kB HB.out⟩⟩
       ·rw [if_neg c8] at H
        have c8b0:((rd l0 x5_1) == (rd l1 x5_1)) = false:=beq_eq_false_iff_ne.mpr c8
        have c8b1:((rd l0 x5_1) != (rd l1 x5_1)) = true:=bne_iff_ne.mpr c8
        obtain rfl:=Option.some.inj H
        have p182:0 ≤ (x5_1:Int):=of_decide_eq_true (by first|(with_reducible assumption)|assumption)
        have q182:x5_1 < (l0.length:Int):=of_decide_eq_true (by first|(with_reducible assumption)|assumption)
        obtain⟨ad182,e182,hx182_0⟩:=Kd.at_int HR0.out x5_1 p182 q182
        cases e182
        replace hx182_0:=(HB.out.cell (World.block_lt_of_cell? w _ hx182_0)).trans hx182_0
        replace p182:=eq_true p182
        replace q182:=eq_true q182
        have p183:0 ≤ (x5_1:Int):=of_decide_eq_true (by first|(with_reducible assumption)|assumption)
        have q183:x5_1 < (l1.length:Int):=of_decide_eq_true (by first|(with_reducible assumption)|assumption)
        obtain⟨ad183,e183,hx183_0⟩:=Kd.at_int HR1.out x5_1 p183 q183
        cases e183
        replace hx183_0:=(HB.out.cell (World.block_lt_of_cell? w _ hx183_0)).trans hx183_0
        replace p183:=eq_true p183
        replace q183:=eq_true q183
        go_wp2
        repeat (go_quiet (fail);try go_wp2)
        go_ret
        exact⟨by first|rfl|(simp [errW_none,errW_some] <;> rfl)|(simp only [← hji3];first|rfl|(simp [errW_none,errW_some] <;> rfl))|(simp [*,errW_none,errW_some] <;> rfl),kB HB.out⟩
      ·rw [if_neg c7] at H
       exact absurd H (by simp)
     ·rw [if_neg c6] at H
      exact absurd H (by simp)
    ·rw [if_neg c5] at H
     exact absurd H (by simp)
   ·rw [if_neg c4] at H
    have c4b0:decide (x5_1 < (ji3)) = false:=decide_eq_false c4
    clear c4
    obtain rfl:=Option.some.inj H
    go_wp2
    repeat (go_quiet (fail);try go_wp2)
    go_ret
    exact⟨by first|rfl|(simp [errW_none,errW_some] <;> rfl)|(simp only [← hji3];first|rfl|(simp [errW_none,errW_some] <;> rfl))|(simp [*,errW_none,errW_some] <;> rfl),kB HB.out⟩

/-! ### impl_lcpRows: function 41 -/
def impl_lcpRows.l0 : Nat → List Int → Int → List Int → List Int → Option (List Int)
 | 0, _, _, _, _ => none
 | k + 1, x0, x5, x7, x10 => if x5 < (x7.length : Int) then (if 0 ≤ (wrap64 (x5 - 1)) then (if (wrap64 (x5 - 1)) < (x7.length : Int) then (if 0 ≤ (rd x7 (wrap64 (x5 - 1))) then (if (rd x7 (wrap64 (x5 - 1))) ≤ (x0.length : Int) then (if 0 ≤ x5 then (if 0 ≤ (rd x7 x5) then (if (rd x7 x5) ≤ (x0.length : Int) then ((impl_common.f k (x0.drop ((rd x7 (wrap64 (x5 - 1))) : Int).toNat) (x0.drop ((rd x7 x5) : Int).toNat)).bind fun t194 => (if x5 < (x10.length : Int) then (impl_lcpRows.l0 k x0 (wrap64 (x5 + 1)) x7 (x10.set (x5 : Int).toNat t194)) else (none))) else (none)) else (none)) else (none)) else (none)) else (none)) else (none)) else (none)) else (some x10)
def impl_lcpRows.f (k : Nat) (l0 : List Int) : Option (List Int) := (impl_suffixRows.f k l0).bind fun t184 => (if 0 ≤ (t184.length : Int) then (if ((t184.length : Int) : Int).toNat ≤ 35184372088832 then (impl_lcpRows.l0 k l0 1 t184 (List.replicate ((t184.length : Int) : Int).toNat 0)) else (none)) else (none))
theorem impl_lcpRows.mono_l : ∀ k, (∀ y0 y1 y2 y3, LeO (impl_lcpRows.l0 k y0 y1 y2 y3) (impl_lcpRows.l0 (k + 1) y0 y1 y2 y3))
 | 0 => fun _ _ _ _ r h => by simp [impl_lcpRows.l0] at h
 | k + 1 => by
  have ih0 := impl_lcpRows.mono_l k
  ·intro y0 y1 y2 y3
   unfold impl_lcpRows.l0
   repeat' first|(with_reducible first|exact ih0 _ _ _ _|exact impl_common.mono _ _ _|exact impl_suffixRows.mono _ _|exact LeO.refl _|exact LeO.none _|refine LeO.ite ?_ ?_|refine LeO.bind ?_ (fun _ => ?_))|exact LeO.none _|refine LeO.ite ?_ ?_|refine LeO.bind ?_ (fun _ => ?_)
theorem impl_lcpRows.mono : ∀ a0 k, LeO (impl_lcpRows.f k a0) (impl_lcpRows.f (k + 1) a0) := by
 intro a0 k
 have ih0 := impl_lcpRows.mono_l k
 unfold impl_lcpRows.f
 repeat' first|(with_reducible first|exact ih0 _ _ _ _|exact impl_common.mono _ _ _|exact impl_suffixRows.mono _ _|exact LeO.refl _|exact LeO.none _|refine LeO.ite ?_ ?_|refine LeO.bind ?_ (fun _ => ?_))|exact LeO.none _|refine LeO.ite ?_ ?_|refine LeO.bind ?_ (fun _ => ?_)
def impl_lcpRows.T6 : Bool × List (List Nat × List Nat) := (true, [([], []), ([], []), ([], []), ([], []), ([], []), ([4], [4]), ([3, 5], [3, 5]), ([6], [6]), ([2, 7], [2, 7]), ([], []), ([], []), ([], []), ([10, 11], [10, 11]), ([12], [12]), ([9, 13], [9, 13]), ([8, 14], [8, 14]), ([0, 1, 0, 1, 2, 3, 4, 5, 6, 7, 8, 9, 10, 11, 12, 13, 14, 15], [0, 1]), ([16, 15, 15, 0, 1, 2, 3, 4, 5, 6, 7, 8, 9, 10, 11, 12, 13, 14, 15], [15, 16])])
def impl_lcpRows.B6 : List Nat := [0, 0, 0, 0, 0, 16, 56, 120, 252, 0, 0, 0, 3072, 7168, 15872, 32764, 65535, 131071]
theorem impl_lcpRows.tab6 : rtab .any (opsOf Try.f41 6) = impl_lcpRows.T6 := by kernel_rfl
theorem impl_lcpRows.bits6 : waitsOk impl_lcpRows.T6.2 impl_lcpRows.B6 = true := by kernel_rfl
abbrev impl_lcpRows.m0 : Array Bool := #[F,F,F,F,F,F,F,F,F,F,F,F,F,F,F,F,F,F]
abbrev impl_lcpRows.m1 : Array Bool := #[T,F,F,F,F,F,F,F,F,F,F,F,F,F,F,F,F,F]
abbrev impl_lcpRows.m2 : Array Bool := #[T,T,F,F,F,F,F,F,F,F,F,F,F,F,F,F,F,F]
abbrev impl_lcpRows.m3 : Array Bool := #[T,T,T,F,F,F,F,F,F,F,F,F,F,F,F,F,F,F]
abbrev impl_lcpRows.m4 : Array Bool := #[T,T,T,T,F,F,F,F,F,F,F,F,F,F,F,F,F,F]
abbrev impl_lcpRows.m5 : Array Bool := #[T,T,T,T,T,F,F,F,F,F,F,F,F,F,F,F,F,F]
abbrev impl_lcpRows.m6 : Array Bool := #[T,T,T,T,T,T,F,F,F,F,F,F,F,F,F,F,F,F]
abbrev impl_lcpRows.m7 : Array Bool := #[T,T,T,T,T,T,T,F,F,F,F,F,F,F,F,F,F,F]
abbrev impl_lcpRows.m8 : Array Bool := #[T,T,T,T,T,T,T,F,F,T,F,F,F,F,F,F,F,F]
abbrev impl_lcpRows.m9 : Array Bool := #[T,T,T,T,T,T,T,F,F,T,T,F,F,F,F,F,F,F]
abbrev impl_lcpRows.m10 : Array Bool := #[T,T,T,T,T,T,T,F,F,T,T,T,F,F,F,F,F,F]
abbrev impl_lcpRows.m11 : Array Bool := #[T,T,T,T,T,T,T,F,F,T,T,T,T,F,F,F,F,F]
abbrev impl_lcpRows.m12 : Array Bool := #[T,T,T,T,T,T,T,T,F,T,T,T,T,F,F,F,F,F]
abbrev impl_lcpRows.m13 : Array Bool := #[T,T,T,T,T,T,T,T,T,T,T,T,T,F,F,F,F,F]
abbrev impl_lcpRows.m14 : Array Bool := #[T,T,T,T,T,T,T,T,T,T,T,T,T,T,F,F,F,F]
abbrev impl_lcpRows.m15 : Array Bool := #[T,T,T,T,T,T,T,T,T,T,T,T,T,T,T,F,F,F]
abbrev impl_lcpRows.m16 : Array Bool := #[T,T,T,T,T,T,T,T,T,T,T,T,T,T,T,T,F,F]
abbrev impl_lcpRows.m17 : Array Bool := #[T,T,T,T,T,T,T,T,T,T,T,T,T,T,T,T,T,F]
abbrev impl_lcpRows.m18 : Array Bool := #[T,T,T,T,T,T,T,T,T,T,T,T,T,T,T,T,T,T]
set_option maxHeartbeats 8000000 in
set_option maxRecDepth 100000 in
theorem impl_lcpRows.calls (k : Nat) (A0 : Option Addr) (c0 : Nat) (l0 : List Int) (r : List Int) (w : World) (hr0 : Kd.C (Kd.int .u8) w A0 l0.length l0) (hc0 : l0.length ≤ c0) (h : impl_lcpRows.f k l0 = some r) :
  Calls Try.prog 41 #[.slice A0 l0.length c0] w fun e w' => ∃ v0_ : Value, e = .returned (v0_) ∧ Kd.R (Kd.int .i64) 3 w' w.heap.size (fun _ => True) v0_ r ∧ Below w.heap.size w w' := by
 have HR0:=mk0 hr0
 have HC0:=mk0 hc0
 clear hr0 hc0
 have HB:=mk0 (Below.refl w.heap.size w)
 have H:((impl_suffixRows.f k l0).bind fun t184=>(if 0 ≤ (t184.length:Int) then (if ((t184.length:Int):Int).toNat ≤ 35184372088832 then (impl_lcpRows.l0 k l0 1 t184 (List.replicate ((t184.length:Int):Int).toNat 0)) else (none)) else (none))) = some r:=h
 clear h
 replace H:=Option.bind_eq_some_iff.mp H
 obtain⟨t184,A20,H⟩:=H
 replace H:(if 0 ≤ (t184.length:Int) then (if ((t184.length:Int):Int).toNat ≤ 35184372088832 then (impl_lcpRows.l0 k l0 1 t184 (List.replicate ((t184.length:Int):Int).toNat 0)) else (none)) else (none)) = some r:=H
 have A2:=mk0 A20
 clear A20
 by_cases c3:0 ≤ (t184.length:Int)
 rotate_left
 ·rw [if_neg c3] at H
  exact absurd H (by simp)

 rw [if_pos c3] at H
 have c3b0:=eq_true c3
 have c3b1:decide (0 ≤ (t184.length:Int)) = true:=decide_eq_true c3
 clear c3
 by_cases c4:((t184.length:Int):Int).toNat ≤ 35184372088832
 rotate_left
 ·rw [if_neg c4] at H
  exact absurd H (by simp)
 rw [if_pos c4] at H
 have c4b0:=eq_true c4
 have c4b1:decide (((t184.length:Int):Int).toNat ≤ 35184372088832) = true:=decide_eq_true c4
 clear c4
 obtain⟨y187,hy187⟩:∃ y_:List Int,y_ = (List.replicate ((t184.length:Int):Int).toNat 0):=⟨_,rfl⟩
 replace H:(impl_lcpRows.l0 k l0 1 t184 y187) = some r:=by first|(rw [hy187];with_reducible exact H)|(have H2_:=(Option.bind_some _ _).symm.trans H;rw [hy187];with_reducible exact H2_)|(have H2_:=(Option.bind_some _ _).symm.trans H;with_reducible exact H2_)|with_reducible exact H|(rw [hy187];exact H)|exact H
 have Ny187:=mk0 hy187
 clear hy187
 have H':=mk0 H
 clear H
 go_enter Try.func41,Try.ntmps41
 go_wp2_with (first|((with_reducible refine gate_callee (f:=44) rfl ?_);refine goesL_ (some 7) rfl rfl Try.func44 (by kernel_rfl) rfl #[.slice A0 l0.length c0] rfl (by (try simp only [mA,mC,mN]);first|done|rfl|(simp only [lD,lT];done)|(simp only [lD,lT];rfl)) ?_;(with_reducible refine (impl_suffixRows.calls k _ _ l0 t184 _ ?side1 ?side2 A2.out).mono ?_);(case side1=>repeat (first|exact HR0.out|(with_reducible first|apply aC|apply nC|apply dC)));(case side2=>exact HC0.out);rintro e w5 ⟨v185,rfl,ho0,hb⟩;refine⟨_,rfl,?_⟩;have HO186:=mk0 (Kd.R_lower ho0 (kZ HB.out));replace HB:=mk0 (kS HB.out hb);(try clear hb);(try clear ho0);obtain⟨Ao6,co6,eo6⟩:=Kd.R_slice HO186.out;subst eo6)|((with_reducible refine gate_dst (N:=10) rfl ?_);refine Kd.R_make (Kd.int .i64) _ 3 rfl (N:=10) rfl 48 _ _ rfl (t184.length:Int) rfl rfl Try.underlying48 (.int .i64 0) 8 info3 rfl (by decide) (by omega) 0 (ok:=fun _=>True) (okp:=fun _=>True) rfl (fun _ hk=>hk) trivial (of_decide_eq_true (by first|(with_reducible assumption)|assumption)) (Nat.le_trans (Nat.mul_le_mul_right _ (of_decide_eq_true (by first|(with_reducible assumption)|assumption):(t184.length:Int).toNat ≤ 35184372088832)) (by omega)) (Below.refl _ _) (Nat.le_refl _) ?_;intro v188 w7 ho8 hb hg_ hnew_;clear hg_ hnew_;(first|rw [← Ny187.out] at ho8|(simp only [Int.reduceToNat] at ho8;rw [← Ny187.out] at ho8));have HO189:=mk0 (Kd.R_lower (Kd.R_new' ho8 (Kd.R_lt (rR HO186.out))) (kZ HB.out));replace HO186:=mk0 (Kd.R_elder' (rR HO186.out) (Kd.R_base ho8) hb);replace HB:=mk0 (kS HB.out hb);clear hb ho8))
 go_loopg [5] k (fun kq v5 w'=>∃ (x5_1:Int) (x10_1:List Int),v5 = .int .i64 x5_1 ∧ Aside0 (impl_lcpRows.l0 kq l0 x5_1 t184 x10_1 = some r) ∧ Aside0 (kq ≤ k) ∧ Aside0 (Kd.R (Kd.int .i64) 3 w' w.heap.size (fun k_=>some k_ ≠ (v188:Value).ownBlock) (.slice Ao6 t184.length co6) t184) ∧ Aside0 (Kd.R (Kd.int .i64) 3 w' w.heap.size (fun k_=>some k_ ≠ ((.slice Ao6 t184.length co6):Value).ownBlock) v188 x10_1) ∧ Aside0 (Below w.heap.size w w'))
 case atStart=>exact⟨(1),(y187),(by first|rfl|(simp;done)|(simp [*];done)),H',⟨Nat.le_refl _⟩,⟨rR (Kd.R_mono HO186.out (fun _ hk=>hk.2))⟩,⟨rR (Kd.R_mono HO189.out (fun _ hk=>hk.2))⟩,⟨kB HB.out⟩⟩
 case round =>
  clear H'
  try clear p2
  try clear c3
  try clear c3b0
  try clear c3b1
  try clear c4
  try clear c4b0
  try clear c4b1
  obtain⟨x5_1,x10_1,rfl,HA,HK1,HO_7,HO_10,HB⟩:=hrel
  cases gk with
  | zero=>exact absurd HA.out (by simp [impl_lcpRows.l0])
  | succ k1 =>
   have H:=HA.out
   clear HA
   simp only [impl_lcpRows.l0] at H
   by_cases c9:x5_1 < (t184.length:Int)
   rotate_left
   ·rw [if_neg c9] at H
    have c9b0:decide (x5_1 < (t184.length:Int)) = false:=decide_eq_false c9
    clear c9
    obtain rfl:=Option.some.inj H
    go_wp2
    go_ret
    exact⟨_,by first|rfl|(simp [errW_none,errW_some] <;> rfl)|(simp [*,errW_none,errW_some] <;> rfl),rR (Kd.R_mono HO_10.out (fun _ hk=>trivial)),kB HB.out⟩
   rw [if_pos c9] at H
   have c9b0:decide (x5_1 < (t184.length:Int)) = true:=decide_eq_true c9
   clear c9
   obtain⟨ji10,hji10⟩:∃ j_:Int,(wrap64 (x5_1 - 1)) = j_:=⟨_,rfl⟩
   replace H:(if 0 ≤ (ji10) then (if (ji10) < (t184.length:Int) then (if 0 ≤ (rd t184 (ji10)) then (if (rd t184 (ji10)) ≤ (l0.length:Int) then (if 0 ≤ x5_1 then (if 0 ≤ (rd t184 x5_1) then (if (rd t184 x5_1) ≤ (l0.length:Int) then ((impl_common.f k1 (l0.drop ((rd t184 (ji10)):Int).toNat) (l0.drop ((rd t184 x5_1):Int).toNat)).bind fun t194=>(if x5_1 < (x10_1.length:Int) then (impl_lcpRows.l0 k1 l0 (wrap64 (x5_1 + 1)) t184 (x10_1.set (x5_1:Int).toNat t194)) else (none))) else (none)) else (none)) else (none)) else (none)) else (none)) else (none)) else (none)) = some r:=by first|(rw [hji10] at H;exact H)|(simp only [hji10] at H ⊢;exact H)
   have hji10w:(IntKind.i64.wrap (x5_1 - 1)) = ji10:=(i64_w _).trans hji10
   by_cases c11:0 ≤ (ji10)
   rotate_left
   ·rw [if_neg c11] at H
    exact absurd H (by simp)
   rw [if_pos c11] at H
   have c11b0:decide (0 ≤ (ji10)) = true:=decide_eq_true c11
   clear c11
   by_cases c12:(ji10) < (t184.length:Int)
   rotate_left
   ·rw [if_neg c12] at H
    exact absurd H (by simp)
   rw [if_pos c12] at H
   have c12b0:decide ((ji10) < (t184.length:Int)) = true:=decide_eq_true c12
   clear c12
   by_cases c13:0 ≤ (rd t184 (ji10))
   rotate_left
   ·rw [if_neg c13] at H
    exact absurd H (by simp)
   rw [if_pos c13] at H
   have c13b0:=eq_true c13
   have c13b1:decide (0 ≤ (rd t184 (ji10))) = true:=decide_eq_true c13
   clear c13
   by_cases c14:(rd t184 (ji10)) ≤ (l0.length:Int)
   rotate_left
   ·rw [if_neg c14] at H
    exact absurd H (by simp)
   rw [if_pos c14] at H
   have c14b0:=eq_true c14
   have c14b1:decide ((rd t184 (ji10)) ≤ (l0.length:Int)) = true:=decide_eq_true c14
   clear c14
   by_cases c15:0 ≤ x5_1
   rotate_left
   ·rw [if_neg c15] at H
    exact absurd H (by simp)
   rw [if_pos c15] at H
   have c15b0:decide (0 ≤ x5_1) = true:=decide_eq_true c15
   clear c15
   by_cases c16:0 ≤ (rd t184 x5_1)
   rotate_left
   ·rw [if_neg c16] at H
    exact absurd H (by simp)
   rw [if_pos c16] at H
   have c16b0:=eq_true c16
   have c16b1:decide (0 ≤ (rd t184 x5_1)) = true:=decide_eq_true c16
   clear c16
   by_cases c17:(rd t184 x5_1) ≤ (l0.length:Int)
   rotate_left
   ·rw [if_neg c17] at H
    exact absurd H (by simp)
   rw [if_pos c17] at H
   have c17b0:=eq_true c17
   have c17b1:decide ((rd t184 x5_1) ≤ (l0.length:Int)) = true:=decide_eq_true c17
   clear c17
   replace H:=Option.bind_eq_some_iff.mp H
   obtain⟨t194,A180,H⟩:=H
   replace H:(if x5_1 < (x10_1.length:Int) then (impl_lcpRows.l0 k1 l0 (wrap64 (x5_1 + 1)) t184 (x10_1.set (x5_1:Int).toNat t194)) else (none)) = some r:=H
   have A18:=mk0 A180
   clear A180
   by_cases c19:x5_1 < (x10_1.length:Int)
   rotate_left
   ·rw [if_neg c19] at H
    exact absurd H (by simp)
   rw [if_pos c19] at H
   have c19b0:decide (x5_1 < (x10_1.length:Int)) = true:=decide_eq_true c19
   clear c19
   obtain⟨y195,hy195⟩:∃ y_:List Int,y_ = (x10_1.set (x5_1:Int).toNat t194):=⟨_,rfl⟩
   replace H:(impl_lcpRows.l0 k1 l0 (wrap64 (x5_1 + 1)) t184 y195) = some r:=by first|(rw [hy195];with_reducible exact H)|(have H2_:=(Option.bind_some _ _).symm.trans H;rw [hy195];with_reducible exact H2_)|(have H2_:=(Option.bind_some _ _).symm.trans H;with_reducible exact H2_)|with_reducible exact H|(rw [hy195];exact H)|exact H
   have Ny195:=mk0 hy195
   clear hy195
   have H':=mk0 H
   clear H
   try go_wp2
   replace HO_7:=mk0 (dR HO_7.out)
   replace HO_10:=mk0 (dR HO_10.out)
   replace HB:=mk0 (dZ HB.out)
   have p190:0 ≤ ((ji10):Int):=of_decide_eq_true (by first|(with_reducible assumption)|assumption)
   have q190:(ji10) < (t184.length:Int):=of_decide_eq_true (by first|(with_reducible assumption)|assumption)
   obtain⟨ad190,e190,hx190_0⟩:=Kd.at_int (Kd.R_reads' HO_7.out).2.2 (ji10) p190 q190
   cases e190
   replace p190:=eq_true p190
   replace q190:=eq_true q190
   obtain⟨i022,hi022,_,hsz22,_⟩:=info_parts info5
   obtain⟨A22,hcut22,hA22,hC22⟩:=print_drop_of (P:=Try.prog) (Value.int .u8) 0 22 5 .i64 Try.underlying22 hi022 hsz22 A0 c0 l0 (rd t184 (ji10)) (of_decide_eq_true (by first|(with_reducible assumption)|assumption)) (of_decide_eq_true (by first|(with_reducible assumption)|assumption)) HC0.out
   have HR191:=mk0 (Kd.C_of_reads (h1:=fun _=>rfl) (hA22 _ (Kd.reads_of_C HR0.out)))
   have HC191:=mk0 hC22
   clear hA22 hC22 hi022 hsz22
   have p192:0 ≤ (x5_1:Int):=of_decide_eq_true (by first|(with_reducible assumption)|assumption)
   have q192:x5_1 < (t184.length:Int):=of_decide_eq_true (by first|(with_reducible assumption)|assumption)
   obtain⟨ad192,e192,hx192_0⟩:=Kd.at_int (Kd.R_reads' HO_7.out).2.2 x5_1 p192 q192
   obtain rfl:ad190 = ad192:=(by injection e192)
   replace p192:=eq_true p192
   replace q192:=eq_true q192
   obtain⟨i023,hi023,_,hsz23,_⟩:=info_parts info5
   obtain⟨A23,hcut23,hA23,hC23⟩:=print_drop_of (P:=Try.prog) (Value.int .u8) 0 22 5 .i64 Try.underlying22 hi023 hsz23 A0 c0 l0 (rd t184 x5_1) (of_decide_eq_true (by first|(with_reducible assumption)|assumption)) (of_decide_eq_true (by first|(with_reducible assumption)|assumption)) HC0.out
   have HR193:=mk0 (Kd.C_of_reads (h1:=fun _=>rfl) (hA23 _ (Kd.reads_of_C HR0.out)))
   have HC193:=mk0 hC23
   clear hA23 hC23 hi023 hsz23
   refine start_ (n:=18) (S:=fun w'=>w'.cell? (ad190.add ((ji10)).toNat) = some (.int .i64 (rd t184 (ji10))) ∧ w'.cell? (ad190.add (x5_1).toNat) = some (.int .i64 (rd t184 x5_1))) (ds:=[17]) impl_lcpRows.m0 (by kernel_rfl) rfl rfl ⟨hx190_0,hx192_0⟩ (fun hHeld=>?_);refine with_tabW impl_lcpRows.tab6 impl_lcpRows.bits6 (fun HT_ HW_=>?_)
   generalize wr.drew = w21 at HO_7 HO_10 HB HR191 HR193 hx190_0 hx192_0 hHeld ⊢
   refine pure_ (i:=0) (N:=some 17) (v:=?_) (a':=?_) impl_lcpRows.m1 rfl rfl (any_of HT_.out (by kernel_rfl)) (fun _ _ _ h=>h) (Or.inl ⟨by rfl,?_⟩) ?_ ?_
   rotate_left
   ·intro w'
    go_simp
    with_reducible rfl
   rotate_left
   ·simp only [Act.put,sA,sO,sS,i64_w,i32_w]
    rfl
   refine pure_ (i:=1) (N:=some 18) (v:=?_) (a':=?_) impl_lcpRows.m2 rfl rfl (any_of HT_.out (by kernel_rfl)) (fun _ _ _ h=>h) (Or.inl ⟨by rfl,?_⟩) ?_ ?_
   rotate_left
   ·intro w'
    go_simp
    with_reducible rfl
   rotate_left
   ·simp only [Act.put,sA,sO,sS,i64_w,i32_w]
    rfl
   refine pure_ (i:=2) (N:=some 19) (v:=?_) (a':=?_) impl_lcpRows.m3 rfl rfl (any_of HT_.out (by kernel_rfl)) (fun _ _ _ h=>h) (Or.inl ⟨by rfl,?_⟩) ?_ ?_
   rotate_left
   ·intro w'
    go_simp
    with_reducible rfl
   rotate_left
   ·simp only [Act.put,sA,sO,sS,i64_w,i32_w]
    rfl
   refine pure_ (i:=3) (N:=some 20) (v:=?_) (a':=?_) impl_lcpRows.m4 rfl rfl (any_of HT_.out (by kernel_rfl)) (fun _ _ _ h=>h) (Or.inl ⟨by rfl,?_⟩) ?_ ?_
   rotate_left
   ·intro w'
    go_simp
    with_reducible rfl
   rotate_left
   ·simp only [Act.put,sA,sO,sS,i64_w,i32_w]
    rfl
   refine pure_ (i:=4) (N:=some 21) (v:=?_) (a':=?_) impl_lcpRows.m5 rfl rfl (any_of HT_.out (by kernel_rfl)) (fun _ _ _ h=>h) (Or.inl ⟨by rfl,?_⟩) ?_ ?_
   rotate_left
   ·intro w'
    go_simp
    with_reducible rfl
   rotate_left
   ·simp only [Act.put,sA,sO,sS,i64_w,i32_w]
    rfl
   refine pure_ (i:=5) (N:=some 22) (v:=?_) (a':=?_) impl_lcpRows.m6 rfl rfl (any_of HT_.out (by kernel_rfl)) (fun _ _ _ h=>h) (Or.inl ⟨by rfl,?_⟩) ?_ ?_
   rotate_left
   ·intro w'
    go_simp
    with_reducible rfl
   rotate_left
   ·simp only [Act.put,sA,sO,sS,i64_w,i32_w]
    rfl
   refine pure_ (i:=6) (N:=some 23) (v:=?_) (a':=?_) impl_lcpRows.m7 rfl rfl (any_of HT_.out (by kernel_rfl)) (fun _ _ _ h=>h) (Or.inl ⟨by rfl,?_⟩) ?_ ?_
   rotate_left
   ·intro w'
    go_simp
    with_reducible rfl
   rotate_left
   ·simp only [Act.put,sA,sO,sS,i64_w,i32_w]
    rfl
   refine pure_ (i:=9) (N:=some 26) (v:=?_) (a':=?_) impl_lcpRows.m8 rfl rfl (any_of HT_.out (by kernel_rfl)) (fun _ _ _ h=>h) (Or.inl ⟨by rfl,?_⟩) ?_ ?_
   rotate_left
   ·intro w'
    go_simp
    with_reducible rfl
   rotate_left
   ·simp only [Act.put,sA,sO,sS,i64_w,i32_w]
    rfl
   refine pure_ (i:=10) (N:=some 27) (v:=?_) (a':=?_) impl_lcpRows.m9 rfl rfl (any_of HT_.out (by kernel_rfl)) (fun _ _ _ h=>h) (Or.inl ⟨by rfl,?_⟩) ?_ ?_
   rotate_left
   ·intro w'
    go_simp
    with_reducible rfl
   rotate_left
   ·simp only [Act.put,sA,sO,sS,i64_w,i32_w]
    rfl
   refine pure_ (i:=11) (N:=some 28) (v:=?_) (a':=?_) impl_lcpRows.m10 rfl rfl (any_of HT_.out (by kernel_rfl)) (fun _ _ _ h=>h) (Or.inl ⟨by rfl,?_⟩) ?_ ?_
   rotate_left
   ·intro w'
    go_simp
    with_reducible rfl
   rotate_left
   ·simp only [Act.put,sA,sO,sS,i64_w,i32_w]
    rfl
   refine pure_ (i:=12) (N:=some 29) (v:=?_) (a':=?_) impl_lcpRows.m11 rfl rfl (any_of HT_.out (by kernel_rfl)) (fun _ _ _ h=>h) (Or.inl ⟨by rfl,?_⟩) ?_ ?_
   rotate_left
   ·intro w'
    go_simp
    with_reducible rfl
   rotate_left
   ·simp only [Act.put,sA,sO,sS,i64_w,i32_w]
    rfl
   refine take_ (i:=7) (N:=some 24) (v:=?_) (a':=?_) impl_lcpRows.m12 rfl rfl (take_ofW HT_.out HW_.out (by kernel_rfl)) (fun _ _ _ h=>h) (Or.inl ⟨by rfl,?_⟩) hHeld ?_ ?_
   rotate_left
   ·rintro w' ⟨s0,s1⟩
    go_simp
    with_reducible rfl
   rotate_left
   ·simp only [Act.put,sA,sO,sS,i64_w,i32_w]
    rfl
   refine pure_ (i:=8) (N:=some 25) (v:=?_) (a':=?_) impl_lcpRows.m13 rfl rfl (any_of HT_.out (by kernel_rfl)) (fun _ _ _ h=>h) (Or.inl ⟨by rfl,?_⟩) ?_ ?_
   rotate_left
   ·intro w'
    go_simp
    with_reducible rfl
   rotate_left
   ·simp only [Act.put,sA,sO,sS,i64_w,i32_w]
    rfl
   refine take_ (i:=13) (N:=some 30) (v:=?_) (a':=?_) impl_lcpRows.m14 rfl rfl (take_ofW HT_.out HW_.out (by kernel_rfl)) (fun _ _ _ h=>h) (Or.inl ⟨by rfl,?_⟩) hHeld ?_ ?_
   rotate_left
   ·rintro w' ⟨s0,s1⟩
    go_simp
    with_reducible rfl
   rotate_left
   ·simp only [Act.put,sA,sO,sS,i64_w,i32_w]
    rfl
   refine pure_ (i:=14) (N:=some 31) (v:=?_) (a':=?_) impl_lcpRows.m15 rfl rfl (any_of HT_.out (by kernel_rfl)) (fun _ _ _ h=>h) (Or.inl ⟨by rfl,?_⟩) ?_ ?_
   rotate_left
   ·intro w'
    go_simp
    with_reducible rfl
   rotate_left
   ·simp only [Act.put,sA,sO,sS,i64_w,i32_w]
    rfl
   refine one_ (i:=15) (N:=some 32) impl_lcpRows.m16 rfl rfl (one_of HT_.out (by kernel_rfl)) (by decide) (fun K hK=>?_)
   refine goes_ Try.func63 (by kernel_rfl) rfl #[.slice A22 (l0.drop ((rd t184 (ji10)):Int).toNat).length (c0 - (rd t184 (ji10)).toNat),.slice A23 (l0.drop ((rd t184 x5_1):Int).toNat).length (c0 - (rd t184 x5_1).toNat)] (by rfl) rfl rfl (by (try simp only [mA,mC,mN]);first|done|(rw [show (l0.drop ((rd t184 (ji10)):Int).toNat).length = (l0.length - (rd t184 (ji10)).toNat) from List.length_drop] <;> rfl)|(rw [show (l0.drop ((rd t184 x5_1):Int).toNat).length = (l0.length - (rd t184 x5_1).toNat) from List.length_drop] <;> rfl)|(simp only [hji10];rfl)|rfl|(simp only [lD,lT];done)|(simp only [lD,lT];rfl)) ?_
   with_reducible refine (impl_common.calls k1 _ _ (l0.drop ((rd t184 (ji10)):Int).toNat) _ _ (l0.drop ((rd t184 x5_1):Int).toNat) t194 _ ?side1 ?side2 ?side3 ?side4 A18.out).mono ?_
   (case side1=>exact kC (Kd.C_below HR191.out HB.out))
   (case side2=>exact HC191.out)
   (case side3=>exact kC (Kd.C_below HR193.out HB.out))
   (case side4=>exact HC193.out)
   rintro e w24 ⟨rfl,hb⟩
   have HS0_:=(hb.cell (World.block_lt_of_cell? _ _ (hHeld.1))).trans (hHeld.1)
   have HS1_:=(hb.cell (World.block_lt_of_cell? _ _ (hHeld.2))).trans (hHeld.2)
   refine⟨_,rfl,?_⟩
   replace HO_7:=mk0 (bR HO_7.out hb)
   replace HO_10:=mk0 (bR HO_10.out hb)
   replace HB:=mk0 (kS HB.out hb)
   (try clear hb)
   have p20:0 ≤ (x5_1:Int):=of_decide_eq_true (by first|(with_reducible assumption)|assumption)
   have q20:(x5_1:Int) < ((x10_1.length:Int):Int):=of_decide_eq_true (by first|(with_reducible assumption)|assumption)
   obtain⟨go20,co20,eo20,gb20,gl20,cl20,HG20⟩:=Kd.R_form HO_10.out (by omega)
   (first|cases eo20|(injection eo20 with ea_ en_ ec_;(first|subst ea_|(injection ea_ with ea_;subst ea_));subst ec_;clear en_))
   have GB20:=mk0 gb20
   have GG20:=mk0 HG20
   clear gb20 gl20 HG20
   obtain⟨hx20_0,hf20_0⟩:=Kd.R_celln 0 HO_10.out (x5_1:Int) p20 q20
   replace p20:=eq_true p20
   replace q20:=eq_true q20
   have HP25:=Kd.R_putn HO_10.out (x5_1:Int) t194
   rw [← Ny195.out] at HP25
   have HQ25:=mk0 HP25
   clear HP25
   refine hK.out _ _ ⟨HS0_,HS1_⟩ (fun hHeld=>?_)
   clear hK K
   refine norm_ (a':=?_) ?_ ?_
   rotate_left
   ·show Act.put _ (some 32) _ = _
    simp only [Act.put,sA,sO,sS,i64_w,i32_w]
    rfl
   refine pure_ (i:=16) (N:=some 33) (v:=?_) (a':=?_) impl_lcpRows.m17 rfl rfl (any_of HT_.out (by kernel_rfl)) (fun _ _ _ h=>h) (Or.inl ⟨by rfl,?_⟩) ?_ ?_
   rotate_left
   ·intro w'
    go_simp
    with_reducible rfl
   rotate_left
   ·simp only [Act.put,sA,sO,sS,i64_w,i32_w]
    rfl
   refine last_ (i:=17) (N:=none) impl_lcpRows.m18 rfl rfl (one_of HT_.out (by kernel_rfl)) (by decide) (fun K hK=>?_)
   refine skip_ (w1:=?_) (by rfl) rfl ?_ ?_
   rotate_left
   ·go_simp
    rfl
   refine hK.out _ _ ?_
   clear hK K
   refine done_ (done_of HT_.out (by kernel_rfl)) ?_
   try go_wp2
   go_roundg k1
   case measure=>have:=HK1.out;omega
   case rel=>exact⟨(wrap64 (x5_1 + 1)),(y195),(by first|rfl|(simp;done)|(simp [*];done)),H',⟨by have:=HK1.out;omega⟩,⟨by (with_reducible repeat (first|apply aR|apply nR|apply dR));exact Kd.R_mono (Kd.R_far (p:=⟨go20,(x5_1:Int).toNat,none⟩) (Kd.R_mono HO_7.out (fun k_ hk=>(⟨hk,fun e_=>hk (by rw [e_];rfl)⟩:_ ∧ k_ ≠ go20))) (fun _ hk=>hk.2) (.int .i64 t194)) (fun _ hk=>hk.1)⟩,⟨rR HQ25.out⟩,⟨kB HB.out⟩⟩
/-! ### impl_StretchOk: function 14 -/
def impl_StretchOk.f (k : Nat) (l0 : List Int) (a1_0 : Int) (a1_1 : Int) (a1_2 : Int) : Option (Bool) := (impl_TextOk.f l0).bind fun t197 => (if t197 = true then ((impl_lcpRows.f k l0).bind fun t198 => ((impl_isStretch.f k t198 a1_0 a1_1 a1_2).bind fun t201 => (some t201))) else (some false))
theorem impl_StretchOk.mono : ∀ a0 a1 a2 a3 k, LeO (impl_StretchOk.f k a0 a1 a2 a3) (impl_StretchOk.f (k + 1) a0 a1 a2 a3) := by
 intro a0 a1 a2 a3 k
 unfold impl_StretchOk.f
 repeat' first|(with_reducible first|exact impl_isStretch.mono _ _ _ _ _|exact impl_lcpRows.mono _ _|exact LeO.refl _|exact LeO.none _|refine LeO.ite ?_ ?_|refine LeO.bind ?_ (fun _ => ?_))|exact LeO.none _|refine LeO.ite ?_ ?_|refine LeO.bind ?_ (fun _ => ?_)
def impl_StretchOk.T1 : Bool × List (List Nat × List Nat) := (true, [([], []), ([0], [0]), ([1, 1], [1]), ([2], [2]), ([3, 2, 2], [2, 3]), ([2], [2]), ([4, 5, 4, 2], [2, 4, 5]), ([2, 6], [2, 6]), ([7, 6, 0, 1, 2, 3, 4, 5, 6, 7], [7])])
def impl_StretchOk.B1 : List Nat := [0, 1, 3, 7, 15, 7, 63, 127, 255]
theorem impl_StretchOk.tab1 : rtab .any (opsOf Try.f14 1) = impl_StretchOk.T1 := by kernel_rfl
theorem impl_StretchOk.bits1 : waitsOk impl_StretchOk.T1.2 impl_StretchOk.B1 = true := by kernel_rfl
abbrev impl_StretchOk.m0 : Array Bool := #[F,F,F,F,F,F,F,F,F]
abbrev impl_StretchOk.m1 : Array Bool := #[T,F,F,F,F,F,F,F,F]
abbrev impl_StretchOk.m2 : Array Bool := #[T,T,F,F,F,F,F,F,F]
abbrev impl_StretchOk.m3 : Array Bool := #[T,T,T,F,F,F,F,F,F]
abbrev impl_StretchOk.m4 : Array Bool := #[T,T,T,T,F,F,F,F,F]
abbrev impl_StretchOk.m5 : Array Bool := #[T,T,T,T,F,T,F,F,F]
abbrev impl_StretchOk.m6 : Array Bool := #[T,T,T,T,T,T,F,F,F]
abbrev impl_StretchOk.m7 : Array Bool := #[T,T,T,T,T,T,T,F,F]
abbrev impl_StretchOk.m8 : Array Bool := #[T,T,T,T,T,T,T,T,F]
abbrev impl_StretchOk.m9 : Array Bool := #[T,T,T,T,T,T,T,T,T]
abbrev impl_StretchOk.m10 : Array Bool := #[T,T,T,T,T,F,F,F,F]
set_option maxHeartbeats 8000000 in
set_option maxRecDepth 100000 in
theorem impl_StretchOk.calls (k : Nat) (A0 : Option Addr) (c0 : Nat) (l0 : List Int) (a1_0 : Int) (a1_1 : Int) (a1_2 : Int) (r : Bool) (w : World) (hr0 : Kd.C (Kd.int .u8) w A0 l0.length l0) (hc0 : l0.length ≤ c0) (h : impl_StretchOk.f k l0 a1_0 a1_1 a1_2 = some r) :
  Calls Try.prog 14 #[.slice A0 l0.length c0, .agg #[.int .i64 a1_0, .int .i64 a1_1, .int .i64 a1_2]] w fun e w' => e = .returned (.bool r) ∧ Below w.heap.size w w' := by
 have hu27:=Try.underlying27
 have HR0:=mk0 hr0
 have HC0:=mk0 hc0
 clear hr0 hc0
 have HB:=mk0 (Below.refl w.heap.size w)
 have H:((impl_TextOk.f l0).bind fun t197=>(if t197 = true then ((impl_lcpRows.f k l0).bind fun t198=>((impl_isStretch.f k t198 a1_0 a1_1 a1_2).bind fun t201=>(some t201))) else (some false))) = some r:=h
 clear h
 replace H:=Option.bind_eq_some_iff.mp H
 obtain⟨t197,A30,H⟩:=H
 replace H:(if t197 = true then ((impl_lcpRows.f k l0).bind fun t198=>((impl_isStretch.f k t198 a1_0 a1_1 a1_2).bind fun t201=>(some t201))) else (some false)) = some r:=H
 have A3:=mk0 A30
 clear A30
 by_cases c4:t197 = true
 ·subst c4
  have H1:((impl_lcpRows.f k l0).bind fun t198=>((impl_isStretch.f k t198 a1_0 a1_1 a1_2).bind fun t201=>(some t201))) = some r:=by rw [if_pos rfl] at H;exact H
  clear H
  have H:=H1
  clear H1
  replace H:=Option.bind_eq_some_iff.mp H
  obtain⟨t198,A50,H⟩:=H
  replace H:((impl_isStretch.f k t198 a1_0 a1_1 a1_2).bind fun t201=>(some t201)) = some r:=H
  have A5:=mk0 A50
  clear A50
  replace H:=Option.bind_eq_some_iff.mp H
  obtain⟨t201,A60,H⟩:=H
  replace H:(some t201) = some r:=H
  have A6:=mk0 A60
  clear A60
  obtain rfl:=Option.some.inj H
  go_enter Try.func14,Try.ntmps14
  try go_wp2_with (first|((with_reducible refine gate_dst (N:=3) rfl ?_);refine box_event ?hg (N:=3) ?hd (cs:=#[.int .i64 a1_0,.int .i64 a1_1,.int .i64 a1_2]) (t:=27) ?hr ?_;(case hd=>rfl);(case hg=>rfl);(case hr=>first|(go_simp;done)|(go_simp;rfl));intro gb196 hg w7 hbox hb;have BK196:=mk0 (hbox);have GW196:=mk0 ((by rw [hg];exact (kZ HB.out):w.heap.size ≤ gb196));have GE196:=mk0 ((by rw [hg];exact (kZ HB.out):w.heap.size ≤ gb196));replace HB:=mk0 (kS HB.out hb);clear hb hbox hg))
  replace BK196:=mk0 (dB BK196.out)
  replace HB:=mk0 (dZ HB.out)
  refine start_ (n:=9) (S:=fun w'=>w'.cell? ⟨gb196,0,none⟩ = some (.int .i64 a1_0) ∧ w'.cell? ⟨gb196,1,none⟩ = some (.int .i64 a1_1) ∧ w'.cell? ⟨gb196,2,none⟩ = some (.int .i64 a1_2)) (ds:=[]) impl_StretchOk.m0 (by kernel_rfl) rfl rfl (ck3 BK196.out) (fun hHeld=>?_);refine with_tabW impl_StretchOk.tab1 impl_StretchOk.bits1 (fun HT_ HW_=>?_)
  generalize w7.drew = w8 at BK196 HB hHeld ⊢
  refine pure_ (i:=0) (N:=some 5) (v:=?_) (a':=?_) impl_StretchOk.m1 rfl rfl (any_of HT_.out (by kernel_rfl)) (fun _ _ _ h=>h) (Or.inl ⟨by rfl,?_⟩) ?_ ?_
  rotate_left
  ·intro w'
   go_simp
   with_reducible rfl
  rotate_left
  ·simp only [Act.put,sA,sO,sS,i64_w,i32_w]
   rfl
  refine one_ (i:=1) (N:=some 6) impl_StretchOk.m2 rfl rfl (one_of HT_.out (by kernel_rfl)) (by decide) (fun K hK=>?_)
  refine goes_ Try.func39 (by kernel_rfl) rfl #[.slice A0 l0.length c0] (by rfl) rfl rfl (by (try simp only [mA,mC,mN]);first|done|rfl|(simp only [lD,lT];done)|(simp only [lD,lT];rfl)) ?_
  with_reducible refine (impl_TextOk.calls _ _ l0 true _ ?side1 ?side2 A3.out).mono ?_
  (case side1=>exact kC (Kd.C_below HR0.out HB.out))
  (case side2=>exact HC0.out)
  rintro e w' ⟨rfl,⟨nd,rfl⟩⟩
  refine⟨_,rfl,?_⟩
  refine hK.out _ _ (ck3 BK196.out) (fun hHeld=>?_)
  clear hK K
  refine norm_ (a':=?_) ?_ ?_
  rotate_left
  ·show Act.put _ (some 6) _ = _
   simp only [Act.put,sA,sO,sS,i64_w,i32_w]
   rfl
  refine pure_ (i:=2) (N:=some 7) (v:=?_) (a':=?_) impl_StretchOk.m3 rfl rfl (any_of HT_.out (by kernel_rfl)) (fun _ _ _ h=>h) (Or.inl ⟨by rfl,?_⟩) ?_ ?_
  rotate_left
  ·intro w'
   go_simp
   with_reducible rfl
  rotate_left
  ·simp only [Act.put,sA,sO,sS,i64_w,i32_w]
   rfl
  refine pure_ (i:=3) (N:=some 8) (v:=?_) (a':=?_) impl_StretchOk.m4 rfl rfl (any_of HT_.out (by kernel_rfl)) (fun _ _ _ h=>h) (Or.inl ⟨by rfl,?_⟩) ?_ ?_
  rotate_left
  ·intro w'
   go_simp
   with_reducible rfl
  rotate_left
  ·simp only [Act.put,sA,sO,sS,i64_w,i32_w]
   rfl
  refine take_ (i:=5) (N:=some 10) (v:=?_) (a':=?_) impl_StretchOk.m5 rfl rfl (take_ofW HT_.out HW_.out (by kernel_rfl)) (fun _ _ _ h=>h) (Or.inl ⟨by rfl,?_⟩) hHeld ?_ ?_
  rotate_left
  ·rintro w' ⟨s0,s1,s2⟩
   go_simp
   with_reducible rfl
  rotate_left
  ·simp only [Act.put,sA,sO,sS,i64_w,i32_w]
   rfl
  refine one_ (i:=4) (N:=some 9) impl_StretchOk.m6 rfl rfl (one_of HT_.out (by kernel_rfl)) (by decide) (fun K hK=>?_)
  refine goes_ Try.func41 (by kernel_rfl) rfl #[.slice A0 l0.length c0] (by rfl) rfl rfl (by (try simp only [mA,mC,mN]);first|done|rfl|(simp only [lD,lT];done)|(simp only [lD,lT];rfl)) ?_
  with_reducible refine (impl_lcpRows.calls k _ _ l0 t198 _ ?side1 ?side2 A5.out).mono ?_
  (case side1=>repeat (first|exact (Kd.C_below HR0.out (kB HB.out))|(with_reducible first|apply aC|apply nC|apply dC)))
  (case side2=>exact HC0.out)
  rintro e w9 ⟨v199,rfl,ho0,hb⟩
  refine⟨_,rfl,?_⟩
  have HO200:=mk0 (Kd.R_lower ho0 (kZ HB.out))
  replace BK196:=mk0 (kK BK196.out hb)
  replace HB:=mk0 (kS HB.out hb)
  (try clear hb)
  (try clear ho0)
  obtain⟨Ao10,co10,eo10⟩:=Kd.R_slice HO200.out
  (first|subst eo10|(injection eo10 with f1_ f2_ f3_;have f4_:=f1_.symm;have f5_:=f3_.symm;clear f1_ f2_ f3_;subst f4_;subst f5_))
  refine hK.out _ _ (ck3 BK196.out) (fun hHeld=>?_)
  clear hK K
  refine norm_ (a':=?_) ?_ ?_
  rotate_left
  ·show Act.put _ (some 9) _ = _
   simp only [Act.put,sA,sO,sS,i64_w,i32_w]
   rfl
  refine one_ (i:=6) (N:=some 11) impl_StretchOk.m7 rfl rfl (one_of HT_.out (by kernel_rfl)) (by decide) (fun K hK=>?_)
  refine goes_ Try.func40 (by kernel_rfl) rfl #[.slice Ao10 t198.length co10,.agg #[.int .i64 a1_0,.int .i64 a1_1,.int .i64 a1_2]] (by rfl) rfl rfl (by (try simp only [mA,mC,mN]);first|done|rfl|(simp only [lD,lT];done)|(simp only [lD,lT];rfl)) ?_
  with_reducible refine (impl_isStretch.calls k _ _ t198 a1_0 a1_1 a1_2 t201 _ ?side1 ?side2 A6.out).mono ?_
  (case side1=>exact kC (Kd.R_reads' HO200.out).2.2)
  (case side2=>exact (Kd.R_reads' HO200.out).2.1)
  rintro e w11 ⟨rfl,hb⟩
  refine⟨_,rfl,?_⟩
  replace HO200:=mk0 (bR HO200.out hb)
  replace BK196:=mk0 (kK BK196.out hb)
  replace HB:=mk0 (kS HB.out hb)
  (try clear hb)
  refine hK.out _ _ (ck3 BK196.out) (fun hHeld=>?_)
  clear hK K
  refine norm_ (a':=?_) ?_ ?_
  rotate_left
  ·show Act.put _ (some 11) _ = _
   simp only [Act.put,sA,sO,sS,i64_w,i32_w]
   rfl
  refine pure_ (i:=7) (N:=some 12) (v:=?_) (a':=?_) impl_StretchOk.m8 rfl rfl (any_of HT_.out (by kernel_rfl)) (fun _ _ _ h=>h) (Or.inl ⟨by rfl,?_⟩) ?_ ?_
  rotate_left
  ·intro w'
   go_simp
   with_reducible rfl
  rotate_left
  ·simp only [Act.put,sA,sO,sS,i64_w,i32_w]
   rfl
  refine pure_ (i:=8) (N:=some 4) (v:=?_) (a':=?_) impl_StretchOk.m9 rfl rfl (any_of HT_.out (by kernel_rfl)) (fun _ _ _ h=>h) (Or.inl ⟨by rfl,?_⟩) ?_ ?_
  rotate_left
  ·intro w'
   go_simp
   with_reducible rfl
  rotate_left
  ·simp only [Act.put,sA,sO,sS,i64_w,i32_w]
   rfl
  refine done_ (done_of HT_.out (by kernel_rfl)) ?_
  try go_wp2
  go_ret
  exact⟨by first|rfl|(simp [errW_none,errW_some] <;> rfl)|(simp [*,errW_none,errW_some] <;> rfl),kB HB.out⟩
 ·replace c4:=Bool.eq_false_iff.mpr c4
  subst c4
  have H1:(some false) = some r:=by rw [if_neg (show ¬ (false = true) by decide)] at H;exact H
  clear H
  have H:=H1
  clear H1
  obtain rfl:=Option.some.inj H
  go_enter Try.func14,Try.ntmps14
  try go_wp2_with (first|((with_reducible refine gate_dst (N:=3) rfl ?_);refine box_event ?hg (N:=3) ?hd (cs:=#[.int .i64 a1_0,.int .i64 a1_1,.int .i64 a1_2]) (t:=27) ?hr ?_;(case hd=>rfl);(case hg=>rfl);(case hr=>first|(go_simp;done)|(go_simp;rfl));intro gb196 hg w12 hbox hb;have BK196:=mk0 (hbox);have GW196:=mk0 ((by rw [hg];exact (kZ HB.out):w.heap.size ≤ gb196));have GE196:=mk0 ((by rw [hg];exact (kZ HB.out):w.heap.size ≤ gb196));replace HB:=mk0 (kS HB.out hb);clear hb hbox hg))
  replace BK196:=mk0 (dB BK196.out)
  replace HB:=mk0 (dZ HB.out)
  refine start_ (n:=9) (S:=fun w'=>True) (ds:=[]) impl_StretchOk.m0 (by kernel_rfl) rfl rfl trivial (fun hHeld=>?_);refine with_tabW impl_StretchOk.tab1 impl_StretchOk.bits1 (fun HT_ HW_=>?_)
  generalize w12.drew = w13 at BK196 HB hHeld ⊢
  refine pure_ (i:=0) (N:=some 5) (v:=?_) (a':=?_) impl_StretchOk.m1 rfl rfl (any_of HT_.out (by kernel_rfl)) (fun _ _ _ h=>h) (Or.inl ⟨by rfl,?_⟩) ?_ ?_
  rotate_left
  ·intro w'
   go_simp
   with_reducible rfl
  rotate_left
  ·simp only [Act.put,sA,sO,sS,i64_w,i32_w]
   rfl
  refine one_ (i:=1) (N:=some 6) impl_StretchOk.m2 rfl rfl (one_of HT_.out (by kernel_rfl)) (by decide) (fun K hK=>?_)
  refine goes_ Try.func39 (by kernel_rfl) rfl #[.slice A0 l0.length c0] (by rfl) rfl rfl (by (try simp only [mA,mC,mN]);first|done|rfl|(simp only [lD,lT];done)|(simp only [lD,lT];rfl)) ?_
  with_reducible refine (impl_TextOk.calls _ _ l0 false _ ?side1 ?side2 A3.out).mono ?_
  (case side1=>exact kC (Kd.C_below HR0.out HB.out))
  (case side2=>exact HC0.out)
  rintro e w' ⟨rfl,⟨nd,rfl⟩⟩
  refine⟨_,rfl,?_⟩
  refine hK.out _ _ trivial (fun hHeld=>?_)
  clear hK K
  refine norm_ (a':=?_) ?_ ?_
  rotate_left
  ·show Act.put _ (some 6) _ = _
   simp only [Act.put,sA,sO,sS,i64_w,i32_w]
   rfl
  refine pure_ (i:=2) (N:=some 7) (v:=?_) (a':=?_) impl_StretchOk.m3 rfl rfl (any_of HT_.out (by kernel_rfl)) (fun _ _ _ h=>h) (Or.inl ⟨by rfl,?_⟩) ?_ ?_
  rotate_left
  ·intro w'
   go_simp
   with_reducible rfl
  rotate_left
  ·simp only [Act.put,sA,sO,sS,i64_w,i32_w]
   rfl
  refine pure_ (i:=3) (N:=some 8) (v:=undef) (a':=?_) impl_StretchOk.m4 rfl rfl (any_of HT_.out (by kernel_rfl)) (fun _ _ _ h=>h) (Or.inr ⟨by rfl,rfl⟩) ?_ ?_
  rotate_left
  ·simp only [Act.put,sA,sO,sS,i64_w,i32_w]
   rfl
  refine pure_ (i:=4) (N:=some 9) (v:=undef) (a':=?_) impl_StretchOk.m10 rfl rfl (any_of HT_.out (by kernel_rfl)) (fun _ _ _ h=>h) (Or.inr ⟨by rfl,rfl⟩) ?_ ?_
  rotate_left
  ·simp only [Act.put,sA,sO,sS,i64_w,i32_w]
   rfl
  refine pure_ (i:=5) (N:=some 10) (v:=undef) (a':=?_) impl_StretchOk.m6 rfl rfl (any_of HT_.out (by kernel_rfl)) (fun _ _ _ h=>h) (Or.inr ⟨by rfl,rfl⟩) ?_ ?_
  rotate_left
  ·simp only [Act.put,sA,sO,sS,i64_w,i32_w]
   rfl
  refine pure_ (i:=6) (N:=some 11) (v:=undef) (a':=?_) impl_StretchOk.m7 rfl rfl (any_of HT_.out (by kernel_rfl)) (fun _ _ _ h=>h) (Or.inr ⟨by rfl,rfl⟩) ?_ ?_
  rotate_left
  ·simp only [Act.put,sA,sO,sS,i64_w,i32_w]
   rfl
  refine pure_ (i:=7) (N:=some 12) (v:=?_) (a':=?_) impl_StretchOk.m8 rfl rfl (any_of HT_.out (by kernel_rfl)) (fun _ _ _ h=>h) (Or.inl ⟨by rfl,?_⟩) ?_ ?_
  rotate_left
  ·intro w'
   go_simp
   with_reducible rfl
  rotate_left
  ·simp only [Act.put,sA,sO,sS,i64_w,i32_w]
   rfl
  refine pure_ (i:=8) (N:=some 4) (v:=?_) (a':=?_) impl_StretchOk.m9 rfl rfl (any_of HT_.out (by kernel_rfl)) (fun _ _ _ h=>h) (Or.inl ⟨by rfl,?_⟩) ?_ ?_
  rotate_left
  ·intro w'
   go_simp
   with_reducible rfl
  rotate_left
  ·simp only [Act.put,sA,sO,sS,i64_w,i32_w]
   rfl
  refine done_ (done_of HT_.out (by kernel_rfl)) ?_
  try go_wp2
  go_ret
  exact⟨by first|rfl|(simp [errW_none,errW_some] <;> rfl)|(simp [*,errW_none,errW_some] <;> rfl),kB HB.out⟩

end Go.Proofs.Ytoinagnieobbpaa.QFnStretchWords
