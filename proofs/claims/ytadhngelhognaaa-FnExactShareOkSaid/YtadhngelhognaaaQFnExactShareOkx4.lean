-- A walk, made by walk.py, a program of this session's.
import Derived.Test.YtadhngelhognaaaQFnExactShareOkx0
import Derived.Test.YtadhngelhognaaaQFnExactShareOkx3
namespace Go.Proofs.Ytadhngelhognaaa.QFnExactShareOk
open Go.RowKit Go.Proofs.YtadhngelhognaaaW.PrintWords Go.Proofs.YtadhngelhognaaaW.PrintLast Go.Proofs.YtadhngelhognaaaW.PrintMore
attribute [local go_sem] max2_int min2_int max_two min_two max_three min_three max_four min_four   -- for this text's walks alone
set_option linter.unusedVariables false
set_option linter.unusedSimpArgs false

/-! ### impl_suffixRows: function 64 -/
def impl_suffixRows.l0 : Nat → List Int → Int → Int → List Int → Option (List Int)
 | 0, _, _, _, _ => none
 | k + 1, x3, x7, x8, x184000 => if x8 < x7 then (if x3.length < 17592186044416 then (impl_suffixRows.l0 k (x3 ++ [x8]) x7 (wrap64 (x8 + 1)) x184000) else (none)) else ((slices_SortFunc_79.f x3 x184000).bind fun t187 => (some t187))
def impl_suffixRows.f (k : Nat) (l0 : List Int) : Option (List Int) := impl_suffixRows.l0 k ([] : List Int) (wrap64 ((l0.length : Int) + 1)) 0 l0
theorem impl_suffixRows.mono_l : ∀ k, (∀ y0 y1 y2 y3, LeO (impl_suffixRows.l0 k y0 y1 y2 y3) (impl_suffixRows.l0 (k + 1) y0 y1 y2 y3))
 | 0 => fun _ _ _ _ r h => by simp [impl_suffixRows.l0] at h
 | k + 1 => by
  have ih0 := impl_suffixRows.mono_l k
  ·intro y0 y1 y2 y3
   unfold impl_suffixRows.l0
   repeat' first|(with_reducible first|exact ih0 _ _ _ _|exact LeO.refl _|exact LeO.none _|refine LeO.ite ?_ ?_|refine LeO.bind ?_ (fun _ => ?_))|exact LeO.none _|refine LeO.ite ?_ ?_|refine LeO.bind ?_ (fun _ => ?_)
theorem impl_suffixRows.mono : ∀ a0 k, LeO (impl_suffixRows.f k a0) (impl_suffixRows.f (k + 1) a0) := by
 intro a0 k
 have ih0 := impl_suffixRows.mono_l k
 unfold impl_suffixRows.f
 repeat' first|(with_reducible first|exact ih0 _ _ _ _|exact LeO.refl _|exact LeO.none _|refine LeO.ite ?_ ?_|refine LeO.bind ?_ (fun _ => ?_))|exact LeO.none _|refine LeO.ite ?_ ?_|refine LeO.bind ?_ (fun _ => ?_)
set_option maxHeartbeats 8000000 in
set_option maxRecDepth 100000 in
theorem impl_suffixRows.calls (k : Nat) (A0 : Option Addr) (c0 : Nat) (l0 : List Int) (r : List Int) (w : World) (hr0 : Kd.C (Kd.int .u8) w A0 l0.length l0) (hc0 : l0.length ≤ c0) (h : impl_suffixRows.f k l0 = some r) :
  Calls Try.prog 64 #[.slice A0 l0.length c0] w fun e w' => ∃ v0_ : Value, e = .returned (v0_) ∧ Kd.R (Kd.int .i64) 3 w' w.heap.size (fun _ => True) v0_ r ∧ Below w.heap.size w w' := by
 have HR0:=mk0 hr0
 have HC0:=mk0 hc0
 clear hr0 hc0
 have HB:=mk0 (Below.refl w.heap.size w)
 have H:(impl_suffixRows.l0 k ([]:List Int) (wrap64 ((l0.length:Int) + 1)) 0 l0) = some r:=h
 clear h
 have H':=mk0 H
 clear H
 go_enter Try.func64,Try.ntmps64
 go_wp2_with (first|((with_reducible refine gate_dst (N:=1) rfl ?_);refine box_event ?hg (N:=1) ?hd (cs:=#[.slice A0 l0.length c0]) (t:=22) ?hr ?_;(case hd=>rfl);(case hg=>rfl);(case hr=>first|(go_simp;done)|(go_simp;rfl));intro gb183 hg w2 hbox hb;have BK183:=mk0 (hbox);have GW183:=mk0 ((by rw [hg];exact (kZ HB.out):w.heap.size ≤ gb183));have GE183:=mk0 ((by rw [hg];exact (kZ HB.out):w.heap.size ≤ gb183));replace HB:=mk0 (kS HB.out hb);clear hb hbox hg;have hcz3_0:w2.cell? ⟨gb183,0,none⟩ = some (.slice A0 l0.length c0):=(blk_cell BK183.out 0).trans rfl;have hfz3_0:=blk_frozen BK183.out 0))
 go_loopg [3,8] k (fun kq v3 v8 w'=>∃ (x3_1:List Int) (x8_1:Int),v8 = .int .i64 x8_1 ∧ Aside0 (impl_suffixRows.l0 kq x3_1 (wrap64 ((l0.length:Int) + 1)) x8_1 l0 = some r) ∧ Aside0 (kq ≤ k) ∧ Aside0 (Kd.R (Kd.int .i64) 3 w' w.heap.size (fun _=>True) v3 x3_1) ∧ Aside0 (w'.heap[gb183]? = some (.cells #[(.slice A0 l0.length c0)] 22 (0,0))) ∧ Aside0 (Below w.heap.size w w'))
 case atStart=>exact⟨(([]:List Int)),(0),(by first|rfl|(simp;done)|(simp [*];done)),H',⟨Nat.le_refl _⟩,⟨by first|exact Kd.R_nil _ _ _ _ _|exact Kd.N_nil _ _ _ _ _|exact Kd.V_nil _ _ _ _ _|exact Kd.Q_nil _ _ _ _ _|exact Kd.S_nil _ _ _ _ _⟩,⟨kN BK183.out⟩,⟨kB HB.out⟩⟩
 case round =>
  clear H'
  try clear p2
  try clear hcz3_0
  try clear hfz3_0
  obtain⟨x3_1,x8_1,rfl,HA,HK1,HO_3,BK183,HB⟩:=hrel
  cases gk with
  | zero=>exact absurd HA.out (by simp [impl_suffixRows.l0])
  | succ k1 =>
   have H:=HA.out
   clear HA
   simp only [impl_suffixRows.l0] at H
   by_cases c4:x8_1 < (wrap64 ((l0.length:Int) + 1))
   ·rw [if_pos c4] at H
    have c4b0:decide (x8_1 < (wrap64 ((l0.length:Int) + 1))) = true:=decide_eq_true c4
    clear c4
    by_cases c5:x3_1.length < 17592186044416
    ·rw [if_pos c5] at H
     have LMc5:=mk0 c5
     clear c5
     obtain⟨y184,hy184⟩:∃ y_:List Int,y_ = (x3_1 ++ [x8_1]):=⟨_,rfl⟩
     replace H:(impl_suffixRows.l0 k1 y184 (wrap64 ((l0.length:Int) + 1)) (wrap64 (x8_1 + 1)) l0) = some r:=by first|(rw [hy184];with_reducible exact H)|(have H2_:=(Option.bind_some _ _).symm.trans H;rw [hy184];with_reducible exact H2_)|(have H2_:=(Option.bind_some _ _).symm.trans H;with_reducible exact H2_)|with_reducible exact H|(rw [hy184];exact H)|exact H
     have Ny184:=mk0 hy184
     clear hy184
     have H':=mk0 H
     clear H
     go_wp2_with (first|((with_reducible refine gate_builtin (b:=.append) (xs:=#[.tmp 11,.tmp 13]) rfl ?_);at_builtin;refine Kd.R_append (Kd.int .i64) (w0:=w) w.heap.size rfl (.tmp 11) (.tmp 13) 45 3 (.int .i64 0) 8 rfl Try.underlying45 info3 rfl (by decide) (by omega) u3 x3_1 x8_1 [.int .i64 x8_1] (fun _=>True) (fun _=>False) rfl rfl ?aP (fun _ hk=>hk.elim) ?aF ?aO ?aB ?aS ?aL ?_;(case aP=>exact rfl);(case aB=>exact (kB HB.out));(case aF=>exact (fun _ _=>trivial));(case aO=>exact (rR HO_3.out));(case aS=>exact (kZ HB.out));(case aL=>have:=LMc5.out;omega);intro v185 w6 ho hb hg hat;rw [← Ny184.out] at ho;replace BK183:=mk0 (blk_grown (kN BK183.out) hg (Kd.R_ne HO_3.out BK183.out (by decide)));replace HB:=mk0 (hb);have HO186:=mk0 (ho);clear HO_3 ho hb hg hat))
     go_roundg k1
     case measure=>have:=HK1.out;omega
     case rel=>exact⟨(y184),(wrap64 (x8_1 + 1)),(by first|rfl|(simp;done)|(simp [*];done)),H',⟨by have:=HK1.out;omega⟩,⟨rR HO186.out⟩,⟨kN BK183.out⟩,⟨kB HB.out⟩⟩
    ·rw [if_neg c5] at H
     exact absurd H (by simp)
   ·rw [if_neg c4] at H
    have c4b0:decide (x8_1 < (wrap64 ((l0.length:Int) + 1))) = false:=decide_eq_false c4
    clear c4
    replace H:=Option.bind_eq_some_iff.mp H
    obtain⟨t187,A70,H⟩:=H
    replace H:(some t187) = some r:=H
    have A7:=mk0 A70
    clear A70
    obtain rfl:=Option.some.inj H
    obtain⟨Ao8,co8,eo8⟩:=Kd.R_slice HO_3.out
    subst eo8
    go_wp2_with (first|((with_reducible refine gate_callee (f:=78) rfl ?_);refine goesL_ (some 18) rfl rfl Try.func78 (by kernel_rfl) rfl #[.slice Ao8 x3_1.length co8,.func (.func 79) #[] #[.pointer (some ⟨gb183,0,none⟩)]] rfl (by (try simp only [mA,mC,mN]);first|done|rfl|(simp only [List.length_drop,List.length_take];done)|(simp only [List.length_drop,List.length_take];rfl)) ?_;(with_reducible refine (slices_SortFunc_79.calls (fun k_=>some k_ = (.slice Ao8 x3_1.length co8:Value).ownBlock) (.slice Ao8 x3_1.length co8) x3_1 A0 c0 l0 t187 w _ ?side1 ?side2 ?side3 ?side4 ?side5 A7.out).mono ?_);(case side1=>repeat (first|(with_reducible first|exact HB.out|apply aZ|apply nZ|apply dZ|refine sZ ?_ GE183.out)|exact HB.out));(case side2=>exact Kd.R_tight rfl HO_3.out);(case side3=>exact Kd.C_kept_came (Kd.heap_int .u8) HR0.out (kB HB.out) (fun k_ hs_=>(fun e_=>Kd.R_base HO_3.out k_ e_.symm) hs_));(case side4=>exact HC0.out);(case side5=>exact by (with_reducible repeat (first|apply nB|apply dB|apply aB));exact BK183.out);rintro e w9 ⟨rfl,hy0,hb,hkp⟩;refine⟨_,rfl,?_⟩;replace BK183:=mk0 (blk_kept (kN BK183.out) hkp (fun hs_=>(fun e_=>(Kd.R_ne HO_3.out BK183.out (by decide)) e_) hs_));replace HO_3:=mk0 (Kd.R_reok rfl hy0 (fun k_ e_=>HO_3.out.1 k_ e_));replace HB:=mk0 (hb);(try clear hb);(try clear hkp);(try clear hy0)))
    go_ret
    exact⟨_,by first|rfl|(simp [errW_none,errW_some] <;> rfl)|(simp [*,errW_none,errW_some] <;> rfl),rR HO_3.out,kB HB.out⟩

/-! ### impl_bwtOf: function 40 -/
def impl_bwtOf.l0 : Nat → List Int → List Int → List Int → Int → Int → Option (List Int)
 | 0, _, _, _, _, _ => none
 | k + 1, x0, x3, x7, x8, x9 => if x9 < x8 then (if 0 ≤ x9 then (if x9 < (x7.length : Int) then (if (rd x7 x9) = 0 then (if x3.length < 17592186044416 then (impl_bwtOf.l0 k x0 (x3 ++ [0]) x7 x8 (wrap64 (x9 + 1))) else (none)) else (if 0 ≤ (wrap64 ((rd x7 x9) - 1)) then (if (wrap64 ((rd x7 x9) - 1)) < (x0.length : Int) then (if x3.length < 17592186044416 then (impl_bwtOf.l0 k x0 (x3 ++ [wrap64 ((wrap64 (rd x0 (wrap64 ((rd x7 x9) - 1)))) + 1)]) x7 x8 (wrap64 (x9 + 1))) else (none)) else (none)) else (none))) else (none)) else (none)) else (some x3)
def impl_bwtOf.f (k : Nat) (l0 : List Int) : Option (List Int) := (impl_suffixRows.f k l0).bind fun t188 => (impl_bwtOf.l0 k l0 ([] : List Int) t188 (t188.length : Int) 0)
theorem impl_bwtOf.mono_l : ∀ k, (∀ y0 y1 y2 y3 y4, LeO (impl_bwtOf.l0 k y0 y1 y2 y3 y4) (impl_bwtOf.l0 (k + 1) y0 y1 y2 y3 y4))
 | 0 => fun _ _ _ _ _ r h => by simp [impl_bwtOf.l0] at h
 | k + 1 => by
  have ih0 := impl_bwtOf.mono_l k
  ·intro y0 y1 y2 y3 y4
   unfold impl_bwtOf.l0
   repeat' first|(with_reducible first|exact ih0 _ _ _ _ _|exact impl_suffixRows.mono _ _|exact LeO.refl _|exact LeO.none _|refine LeO.ite ?_ ?_|refine LeO.bind ?_ (fun _ => ?_))|exact LeO.none _|refine LeO.ite ?_ ?_|refine LeO.bind ?_ (fun _ => ?_)
theorem impl_bwtOf.mono : ∀ a0 k, LeO (impl_bwtOf.f k a0) (impl_bwtOf.f (k + 1) a0) := by
 intro a0 k
 have ih0 := impl_bwtOf.mono_l k
 unfold impl_bwtOf.f
 repeat' first|(with_reducible first|exact ih0 _ _ _ _ _|exact impl_suffixRows.mono _ _|exact LeO.refl _|exact LeO.none _|refine LeO.ite ?_ ?_|refine LeO.bind ?_ (fun _ => ?_))|exact LeO.none _|refine LeO.ite ?_ ?_|refine LeO.bind ?_ (fun _ => ?_)
set_option maxHeartbeats 8000000 in
set_option maxRecDepth 100000 in
theorem impl_bwtOf.calls (k : Nat) (A0 : Option Addr) (c0 : Nat) (l0 : List Int) (r : List Int) (w : World) (hr0 : Kd.C (Kd.int .u8) w A0 l0.length l0) (hc0 : l0.length ≤ c0) (h : impl_bwtOf.f k l0 = some r) :
  Calls Try.prog 40 #[.slice A0 l0.length c0] w fun e w' => ∃ v0_ : Value, e = .returned (v0_) ∧ Kd.R (Kd.int .i64) 3 w' w.heap.size (fun _ => True) v0_ r ∧ Below w.heap.size w w' := by
 have HR0:=mk0 hr0
 have HC0:=mk0 hc0
 clear hr0 hc0
 have HB:=mk0 (Below.refl w.heap.size w)
 have H:((impl_suffixRows.f k l0).bind fun t188=>(impl_bwtOf.l0 k l0 ([]:List Int) t188 (t188.length:Int) 0)) = some r:=h
 clear h
 replace H:=Option.bind_eq_some_iff.mp H
 obtain⟨t188,A20,H⟩:=H
 replace H:(impl_bwtOf.l0 k l0 ([]:List Int) t188 (t188.length:Int) 0) = some r:=H
 have A2:=mk0 A20
 clear A20
 have H':=mk0 H
 clear H
 go_enter Try.func40,Try.ntmps40
 go_wp2_with (first|((with_reducible refine gate_callee (f:=64) rfl ?_);refine goesL_ (some 7) rfl rfl Try.func64 (by kernel_rfl) rfl #[.slice A0 l0.length c0] rfl (by (try simp only [mA,mC,mN]);first|done|rfl|(simp only [List.length_drop,List.length_take];done)|(simp only [List.length_drop,List.length_take];rfl)) ?_;(with_reducible refine (impl_suffixRows.calls k _ _ l0 t188 _ ?side1 ?side2 A2.out).mono ?_);(case side1=>repeat (first|exact HR0.out|(with_reducible first|apply aC|apply nC|apply dC)));(case side2=>exact HC0.out);rintro e w3 ⟨v189,rfl,ho0,hb⟩;refine⟨_,rfl,?_⟩;have HO190:=mk0 (Kd.R_lower ho0 (kZ HB.out));replace HB:=mk0 (kS HB.out hb);(try clear hb);(try clear ho0);obtain⟨Ao4,co4,eo4⟩:=Kd.R_slice HO190.out;subst eo4))
 go_loopg [3,9] k (fun kq v3 v9 w'=>∃ (x3_1:List Int) (x9_1:Int),v9 = .int .i64 x9_1 ∧ Aside0 (impl_bwtOf.l0 kq l0 x3_1 t188 (t188.length:Int) x9_1 = some r) ∧ Aside0 (kq ≤ k) ∧ Aside0 (Kd.R (Kd.int .i64) 3 w' w.heap.size (fun k_=>some k_ ≠ ((.slice Ao4 t188.length co4):Value).ownBlock) v3 x3_1) ∧ Aside0 (Kd.R (Kd.int .i64) 3 w' w.heap.size (fun k_=>some k_ ≠ (v3:Value).ownBlock) (.slice Ao4 t188.length co4) t188) ∧ Aside0 (Below w.heap.size w w'))
 case atStart=>exact⟨(([]:List Int)),(0),(by first|rfl|(simp;done)|(simp [*];done)),H',⟨Nat.le_refl _⟩,⟨by first|exact Kd.R_nil _ _ _ _ _|exact Kd.N_nil _ _ _ _ _|exact Kd.V_nil _ _ _ _ _|exact Kd.Q_nil _ _ _ _ _|exact Kd.S_nil _ _ _ _ _⟩,⟨by (with_reducible repeat (first|apply aR|apply nR|apply dR));exact Kd.R_mono HO190.out (fun _ hk=>(by simp [Value.ownBlock]))⟩,⟨kB HB.out⟩⟩
 case round =>
  clear H'
  try clear p2
  try clear c4
  obtain⟨x3_1,x9_1,rfl,HA,HK1,HO_3,HO_7,HB⟩:=hrel
  cases gk with
  | zero=>exact absurd HA.out (by simp [impl_bwtOf.l0])
  | succ k1 =>
   have H:=HA.out
   clear HA
   simp only [impl_bwtOf.l0] at H
   by_cases c5:x9_1 < (t188.length:Int)
   ·rw [if_pos c5] at H
    have c5b0:decide (x9_1 < (t188.length:Int)) = true:=decide_eq_true c5
    clear c5
    by_cases c6:0 ≤ x9_1
    ·rw [if_pos c6] at H
     have c6b0:decide (0 ≤ x9_1) = true:=decide_eq_true c6
     clear c6
     by_cases c7:x9_1 < (t188.length:Int)
     ·rw [if_pos c7] at H
      have c7b0:decide (x9_1 < (t188.length:Int)) = true:=decide_eq_true c7
      clear c7
      by_cases c8:(rd t188 x9_1) = 0
      ·rw [if_pos c8] at H
       have c8b0:((rd t188 x9_1) == 0) = true:=beq_iff_eq.mpr c8
       have c8b1:((rd t188 x9_1) != 0) = false:=bne_eq_false_iff_eq.mpr c8
       clear c8
       by_cases c9:x3_1.length < 17592186044416
       ·rw [if_pos c9] at H
        have LMc9:=mk0 c9
        clear c9
        obtain⟨y192,hy192⟩:∃ y_:List Int,y_ = (x3_1 ++ [0]):=⟨_,rfl⟩
        replace H:(impl_bwtOf.l0 k1 l0 y192 t188 (t188.length:Int) (wrap64 (x9_1 + 1))) = some r:=by first|(rw [hy192];with_reducible exact H)|(have H2_:=(Option.bind_some _ _).symm.trans H;rw [hy192];with_reducible exact H2_)|(have H2_:=(Option.bind_some _ _).symm.trans H;with_reducible exact H2_)|with_reducible exact H|(rw [hy192];exact H)|exact H
        have Ny192:=mk0 hy192
        clear hy192
        have H':=mk0 H
        clear H
        have p191:0 ≤ (x9_1:Int):=of_decide_eq_true (by first|(with_reducible assumption)|assumption)
        have q191:x9_1 < (t188.length:Int):=of_decide_eq_true (by first|(with_reducible assumption)|assumption)
        obtain⟨ad191,e191,hx191_0⟩:=Kd.at_int (Kd.R_reads' HO_7.out).2.2 x9_1 p191 q191
        cases e191
        replace p191:=eq_true p191
        replace q191:=eq_true q191
        go_wp2_with (first|((with_reducible refine gate_builtin (b:=.append) (xs:=#[.tmp 15,.tmp 16]) rfl ?_);at_builtin;refine Kd.R_append (Kd.int .i64) (w0:=w) w.heap.size rfl (.tmp 15) (.tmp 16) 45 3 (.int .i64 0) 8 rfl Try.underlying45 info3 rfl (by decide) (by omega) u3 x3_1 0 [.int .i64 0] (fun k_=>some k_ ≠ (.slice (some ad191) t188.length co4:Value).ownBlock) (fun _=>False) rfl rfl ?aP (fun _ hk=>hk.elim) ?aF ?aO ?aB ?aS ?aL ?_;(case aP=>exact rfl);(case aB=>exact (kB HB.out));(case aF=>exact (fun k_ hk=>Kd.fresh' (Kd.R_lt (rR HO_7.out)) k_ hk));(case aO=>exact (rR HO_3.out));(case aS=>exact (kZ HB.out));(case aL=>have:=LMc9.out;omega);intro v193 w10 ho hb hg hat;rw [← Ny192.out] at ho;replace HO_7:=mk0 (Kd.R_after (ok:=(fun _=>True)) (rR (Kd.R_mono HO_7.out (fun _ hk=>⟨trivial,hk⟩))) hg hat);replace HB:=mk0 (hb);have HO194:=mk0 (ho);clear HO_3 ho hb hg hat))
        go_roundg k1
        case measure=>have:=HK1.out;omega
        case rel=>exact⟨(y192),(wrap64 (x9_1 + 1)),(by first|rfl|(simp;done)|(simp [*];done)),H',⟨by have:=HK1.out;omega⟩,⟨rR HO194.out⟩,⟨rR (Kd.R_mono HO_7.out (fun _ hk=>hk.2))⟩,⟨kB HB.out⟩⟩
       ·rw [if_neg c9] at H
        exact absurd H (by simp)
      ·rw [if_neg c8] at H
       have c8b0:((rd t188 x9_1) == 0) = false:=beq_eq_false_iff_ne.mpr c8
       have c8b1:((rd t188 x9_1) != 0) = true:=bne_iff_ne.mpr c8
       obtain⟨ji11,hji11⟩:∃ j_:Int,(wrap64 ((rd t188 x9_1) - 1)) = j_:=⟨_,rfl⟩
       replace H:(if 0 ≤ (ji11) then (if (ji11) < (l0.length:Int) then (if x3_1.length < 17592186044416 then (impl_bwtOf.l0 k1 l0 (x3_1 ++ [wrap64 ((wrap64 (rd l0 (ji11))) + 1)]) t188 (t188.length:Int) (wrap64 (x9_1 + 1))) else (none)) else (none)) else (none)) = some r:=by first|(rw [hji11] at H;exact H)|(simp only [hji11] at H ⊢;exact H)
       have hji11w:(IntKind.i64.wrap ((rd t188 x9_1) - 1)) = ji11:=(i64_w _).trans hji11
       by_cases c12:0 ≤ (ji11)
       ·rw [if_pos c12] at H
        have c12b0:decide (0 ≤ (ji11)) = true:=decide_eq_true c12
        clear c12
        by_cases c13:(ji11) < (l0.length:Int)
        ·rw [if_pos c13] at H
         have c13b0:decide ((ji11) < (l0.length:Int)) = true:=decide_eq_true c13
         clear c13
         by_cases c14:x3_1.length < 17592186044416
         ·rw [if_pos c14] at H
          have LMc14:=mk0 c14
          clear c14
          obtain⟨y196,hy196⟩:∃ y_:List Int,y_ = (x3_1 ++ [wrap64 ((wrap64 (rd l0 (ji11))) + 1)]):=⟨_,rfl⟩
          replace H:(impl_bwtOf.l0 k1 l0 y196 t188 (t188.length:Int) (wrap64 (x9_1 + 1))) = some r:=by first|(rw [hy196];with_reducible exact H)|(have H2_:=(Option.bind_some _ _).symm.trans H;rw [hy196];with_reducible exact H2_)|(have H2_:=(Option.bind_some _ _).symm.trans H;with_reducible exact H2_)|with_reducible exact H|(rw [hy196];exact H)|exact H
          have Ny196:=mk0 hy196
          clear hy196
          have H':=mk0 H
          clear H
          have p191:0 ≤ (x9_1:Int):=of_decide_eq_true (by first|(with_reducible assumption)|assumption)
          have q191:x9_1 < (t188.length:Int):=of_decide_eq_true (by first|(with_reducible assumption)|assumption)
          obtain⟨ad191,e191,hx191_0⟩:=Kd.at_int (Kd.R_reads' HO_7.out).2.2 x9_1 p191 q191
          cases e191
          replace p191:=eq_true p191
          replace q191:=eq_true q191
          have p195:0 ≤ ((ji11):Int):=of_decide_eq_true (by first|(with_reducible assumption)|assumption)
          have q195:(ji11) < (l0.length:Int):=of_decide_eq_true (by first|(with_reducible assumption)|assumption)
          obtain⟨ad195,e195,hx195_0⟩:=Kd.at_int HR0.out (ji11) p195 q195
          cases e195
          replace hx195_0:=(HB.out.cell (World.block_lt_of_cell? w _ hx195_0)).trans hx195_0
          replace p195:=eq_true p195
          replace q195:=eq_true q195
          go_wp2_with (first|((with_reducible refine gate_builtin (b:=.append) (xs:=#[.tmp 18,.tmp 26]) rfl ?_);at_builtin;refine Kd.R_append (Kd.int .i64) (w0:=w) w.heap.size rfl (.tmp 18) (.tmp 26) 45 3 (.int .i64 0) 8 rfl Try.underlying45 info3 rfl (by decide) (by omega) u3 x3_1 (wrap64 ((wrap64 (rd l0 (ji11))) + 1)) [.int .i64 (wrap64 ((wrap64 (rd l0 (ji11))) + 1))] (fun k_=>some k_ ≠ (.slice (some ad191) t188.length co4:Value).ownBlock) (fun _=>False) rfl rfl ?aP (fun _ hk=>hk.elim) ?aF ?aO ?aB ?aS ?aL ?_;(case aP=>exact rfl);(case aB=>exact (kB HB.out));(case aF=>exact (fun k_ hk=>Kd.fresh' (Kd.R_lt (rR HO_7.out)) k_ hk));(case aO=>exact (rR HO_3.out));(case aS=>exact (kZ HB.out));(case aL=>have:=LMc14.out;omega);intro v197 w15 ho hb hg hat;rw [← Ny196.out] at ho;replace HO_7:=mk0 (Kd.R_after (ok:=(fun _=>True)) (rR (Kd.R_mono HO_7.out (fun _ hk=>⟨trivial,hk⟩))) hg hat);replace HB:=mk0 (hb);have HO198:=mk0 (ho);clear HO_3 ho hb hg hat))
          go_roundg k1
          case measure=>have:=HK1.out;omega
          case rel=>exact⟨(y196),(wrap64 (x9_1 + 1)),(by first|rfl|(simp;done)|(simp [*];done)),H',⟨by have:=HK1.out;omega⟩,⟨rR HO198.out⟩,⟨rR (Kd.R_mono HO_7.out (fun _ hk=>hk.2))⟩,⟨kB HB.out⟩⟩
         ·rw [if_neg c14] at H
          exact absurd H (by simp)
        ·rw [if_neg c13] at H
         exact absurd H (by simp)
       ·rw [if_neg c12] at H
        exact absurd H (by simp)
     ·rw [if_neg c7] at H
      exact absurd H (by simp)
    ·rw [if_neg c6] at H
     exact absurd H (by simp)
   ·rw [if_neg c5] at H
    have c5b0:decide (x9_1 < (t188.length:Int)) = false:=decide_eq_false c5
    clear c5
    obtain rfl:=Option.some.inj H
    go_wp2
    go_ret
    exact⟨_,by first|rfl|(simp [errW_none,errW_some] <;> rfl)|(simp [*,errW_none,errW_some] <;> rfl),rR (Kd.R_mono HO_3.out (fun _ hk=>trivial)),kB HB.out⟩

/-! ### impl_areListed: function 62 -/
def impl_areListed.f (l0 : List Int) (l1 : List Int) : Option (Bool) := if (l0.length : Int) ≤ 301 then (some (decide ((l1.length : Int) ≤ 301))) else (some false)
set_option maxHeartbeats 8000000 in
set_option maxRecDepth 100000 in
theorem impl_areListed.calls (A0 : Option Addr) (c0 : Nat) (l0 : List Int) (A1 : Option Addr) (c1 : Nat) (l1 : List Int) (r : Bool) (w : World) (hr0 : Kd.C (Kd.int .i64) w A0 l0.length l0) (hc0 : l0.length ≤ c0) (hr1 : Kd.C (Kd.int .i64) w A1 l1.length l1) (hc1 : l1.length ≤ c1) (h : impl_areListed.f l0 l1 = some r) :
  Calls Try.prog 62 #[.slice A0 l0.length c0, .slice A1 l1.length c1] w fun e w' => e = .returned (.bool r) ∧ Drawn0 w w' := by
 have HR0:=mk0 hr0
 have HC0:=mk0 hc0
 clear hr0 hc0
 have HR1:=mk0 hr1
 have HC1:=mk0 hc1
 clear hr1 hc1
 have H:(if (l0.length:Int) ≤ 301 then (some (decide ((l1.length:Int) ≤ 301))) else (some false)) = some r:=h
 clear h
 by_cases c3:(l0.length:Int) ≤ 301
 ·rw [if_pos c3] at H
  have c3b0:decide ((l0.length:Int) ≤ 301) = true:=decide_eq_true c3
  have c3b1:decide (l0.length ≤ 301) = true:=decide_eq_true (by omega)
  clear c3
  obtain rfl:=Option.some.inj H
  go_enter Try.func62,Try.ntmps62
  go_wp2
  go_ret
  exact⟨by first|rfl|(simp;done)|(simp [*];done),by repeat (first|exact Drawn0.refl _|apply Drawn0.step)⟩
 ·rw [if_neg c3] at H
  have c3b0:decide ((l0.length:Int) ≤ 301) = false:=decide_eq_false c3
  have c3b1:decide (l0.length ≤ 301) = false:=decide_eq_false (by omega)
  clear c3
  obtain rfl:=Option.some.inj H
  go_enter Try.func62,Try.ntmps62
  go_wp2
  go_ret
  exact⟨by first|rfl|(simp;done)|(simp [*];done),by repeat (first|exact Drawn0.refl _|apply Drawn0.step)⟩

end Go.Proofs.Ytadhngelhognaaa.QFnExactShareOk
