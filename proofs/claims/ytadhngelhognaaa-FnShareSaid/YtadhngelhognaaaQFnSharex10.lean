-- A walk, made by walk.py, a program of this session's.
import Derived.Test.YtadhngelhognaaaQFnSharex0
import Derived.Test.YtadhngelhognaaaQFnSharex8
import Derived.Test.YtadhngelhognaaaQFnSharex9
namespace Go.Proofs.Ytadhngelhognaaa.QFnShare
open Go.RowKit Go.Proofs.YtadhngelhognaaaW.PrintWords Go.Proofs.YtadhngelhognaaaW.PrintLast Go.Proofs.YtadhngelhognaaaW.PrintMore
attribute [local go_sem] max2_int min2_int max_two min_two max_three min_three max_four min_four   -- for this text's walks alone
set_option linter.unusedVariables false
set_option linter.unusedSimpArgs false
/-! ### impl_CommonLen: function 39 -/
def impl_CommonLen.f (k : Nat) (l0 : List Int) (l1 : List Int) : Option (Int) := (impl_areListed.f l0 l1).bind fun t372 => (if t372 = true then ((impl_commonTable.f k l0 l1).bind fun t373 => (if 0 < (t373.length : Int) then (if 0 < ((rd_L4 t373 0).length : Int) then (some (rd (rd_L4 t373 0) 0)) else (none)) else (none))) else (some (-1)))
set_option maxHeartbeats 8000000 in
set_option maxRecDepth 100000 in
theorem impl_CommonLen.calls (k : Nat) (A0 : Option Addr) (c0 : Nat) (l0 : List Int) (A1 : Option Addr) (c1 : Nat) (l1 : List Int) (r : Int) (w : World) (hr0 : Kd.C (Kd.int .i64) w A0 l0.length l0) (hc0 : l0.length ≤ c0) (hr1 : Kd.C (Kd.int .i64) w A1 l1.length l1) (hc1 : l1.length ≤ c1) (h : impl_CommonLen.f k l0 l1 = some r) :
  Calls Try.prog 39 #[.slice A0 l0.length c0, .slice A1 l1.length c1] w fun e w' => e = .returned (.int .i64 r) ∧ Below w.heap.size w w' := by
 have HR0:=mk0 hr0
 have HC0:=mk0 hc0
 clear hr0 hc0
 have HR1:=mk0 hr1
 have HC1:=mk0 hc1
 clear hr1 hc1
 have HB:=mk0 (Below.refl w.heap.size w)
 have H:((impl_areListed.f l0 l1).bind fun t372=>(if t372 = true then ((impl_commonTable.f k l0 l1).bind fun t373=>(if 0 < (t373.length:Int) then (if 0 < ((rd_L4 t373 0).length:Int) then (some (rd (rd_L4 t373 0) 0)) else (none)) else (none))) else (some (-1)))) = some r:=h
 clear h
 replace H:=bE H
 obtain⟨t372,A3,H⟩:=H
 by_cases c4:t372 = true
 ·subst c4
  replace H:=iT H
  replace H:=bE H
  obtain⟨t373,A5,H⟩:=H
  by_cases c6:0 < (t373.length:Int)
  ·rw [if_pos c6] at H
   have c6b0:decide (0 < (t373.length:Int)) = true:=decide_eq_true c6
   (try simp only [hl376_0] at c6b0)
   have c6b1:decide (0 < t373.length) = true:=decide_eq_true (by omega)
   (try simp only [hl376_0] at c6b1)
   clear c6
   by_cases c7:0 < ((rd_L4 t373 0).length:Int)
   ·rw [if_pos c7] at H
    have c7b0:decide (0 < ((rd_L4 t373 0).length:Int)) = true:=decide_eq_true c7
    (try simp only [hl376_0] at c7b0)
    have c7b1:decide (0 < (rd_L4 t373 0).length) = true:=decide_eq_true (by omega)
    (try simp only [hl376_0] at c7b1)
    clear c7
    obtain rfl:=Option.some.inj H
    go_enter Try.func39,Try.ntmps39
    go_wp2_with (first|((with_reducible refine gate_callee (f:=62) rfl ?_);refine gL (some 7) Try.func62 #[.slice A0 l0.length c0,.slice A1 l1.length c1] ?_;(with_reducible refine (impl_areListed.calls _ _ l0 _ _ l1 true _ ?side1 ?side2 ?side3 ?side4 A3.out).mono ?_);(case side1=>exact kC HR0.out);(case side2=>exact HC0.out);(case side3=>exact kC HR1.out);(case side4=>exact HC1.out);rintro e w' ⟨rfl,⟨nd,rfl⟩⟩;refine⟨_,rfl,?_⟩)|((with_reducible refine gate_callee (f:=63) rfl ?_);refine gL (some 11) Try.func63 #[.slice A0 l0.length c0,.slice A1 l1.length c1] ?_;(with_reducible refine (impl_commonTable.calls k _ _ l0 _ _ l1 t373 _ ?side1 ?side2 ?side3 ?side4 A5.out).mono ?_);(case side1=>exact kC HR0.out);(case side2=>exact HC0.out);(case side3=>exact kC HR1.out);(case side4=>exact HC1.out);rintro e w8 ⟨v374,rfl,ho0,hb⟩;refine⟨_,rfl,?_⟩;have HO375:=mk0 (Kd.S_lower ho0 (kZ HB.out));replace HB:=mk0 (kS HB.out hb);(try clear hb);(try clear ho0);obtain⟨Ao9,co9,eo9⟩:=Kd.S_slice HO375.out;subst eo9;have p376:0 ≤ (0:Int):=(by omega);have q376:0 < (t373.length:Int):=oD;obtain⟨ad376,A376_0,c376_0,e376,hx376_0,hl376_0,hi376_0⟩:=at_L4 (Kd.S_reads' HO375.out).2.2 0 p376 q376;cases e376;obtain⟨ce376,hce376,hMe376,hcc376⟩:=Kd.S_get HO375.out [] 0 p376 (by first|exact q376|exact oD|(have e_:=(Kd.S_reads' HO375.out).1;omega));obtain⟨ve376_0,rfl,ge376_0⟩:=hMe376;have hv376_0:=hcc376 0 _ rfl;rw [Nat.add_zero,show ((Kd.slice 3 (Kd.int .i64))).sz = 1 from rfl,Nat.mul_one] at hv376_0;replace hv376_0:=Option.some.inj (hv376_0.symm.trans hx376_0);rw [hv376_0] at ge376_0;have HL376_0:=mk0 (show Kd.R (Kd.int .i64) 3 _ _ _ _ (rd_L4 t373 0) from ge376_0);clear hv376_0 ge376_0 hcc376 hce376;have qi376:(0 < t373.length) = True:=eq_true (by omega);(try rw [show ((0:Int)).toNat = 0 from rfl] at hx376_0);(try rw [Addr.add_zero'] at hx376_0);have HR376_0:=mk0 hi376_0;have HC376_0:=mk0 hl376_0;clear hi376_0 hl376_0;replace p376:=eq_true p376;replace q376:=eq_true q376;have p377:0 ≤ (0:Int):=(by omega);have q377:0 < ((rd_L4 t373 0).length:Int):=oD;obtain⟨ad377,e377,hx377_0⟩:=Kd.at_int (by repeat (first|(with_reducible exact HR376_0.out)|(with_reducible first|apply aC|apply nC|apply dC)|exact HR376_0.out|exact (Kd.V_reads' HL376_0.out).2.2)) 0 p377 q377;cases e377;have qi377:(0 < (rd_L4 t373 0).length) = True:=eq_true (by omega);(try rw [show ((0:Int)).toNat = 0 from rfl] at hx377_0);(try rw [Addr.add_zero'] at hx377_0);replace p377:=eq_true p377;replace q377:=eq_true q377))
    go_ret
    exact⟨eR,kB HB.out⟩
   ·rw [if_neg c7] at H
    exact nn H
  ·rw [if_neg c6] at H
   exact nn H
 ·replace c4:=Bool.eq_false_iff.mpr c4
  subst c4
  replace H:=iF H
  obtain rfl:=Option.some.inj H
  go_enter Try.func39,Try.ntmps39
  go_wp2_with (first|((with_reducible refine gate_callee (f:=62) rfl ?_);refine gL (some 7) Try.func62 #[.slice A0 l0.length c0,.slice A1 l1.length c1] ?_;(with_reducible refine (impl_areListed.calls _ _ l0 _ _ l1 false _ ?side1 ?side2 ?side3 ?side4 A3.out).mono ?_);(case side1=>exact kC HR0.out);(case side2=>exact HC0.out);(case side3=>exact kC HR1.out);(case side4=>exact HC1.out);rintro e w' ⟨rfl,⟨nd,rfl⟩⟩;refine⟨_,rfl,?_⟩))
  go_ret
  exact⟨eR,kB HB.out⟩
/-! ### slices_SortFunc_79: slices.SortFunc at the literal 79, which compares suffixes of what it captures -/
def slices_SortFunc_79.f (l0 : List Int) (l1 : List Int) : Option (List Int) := if (l1.all Fv.isB && l0.all (fun x => decide (0 ≤ x ∧ x ≤ (l1.length : Int))) && decide (l0.length < 4611686018427387904)) = true then some (l0.mergeSort (Fv.sufLe l1)) else none
theorem slices_SortFunc_79.calls {g : Nat} (P0_ : Nat → Prop) (u9000_ : Value) (l0 : List Int) (A1 : Option Addr) (c1 : Nat) (l1 : List Int) (r : List Int) (w0 w : World) (hB : Below w0.heap.size w0 w) (ho0 : Kd.R (Kd.int .i64) 3 w w0.heap.size P0_ u9000_ l0)
    (hr1 : ∀ W', Kept w W' (fun k_ => P0_ k_) → Kd.C (Kd.int .u8) W' A1 l1.length l1) (hc1 : l1.length ≤ c1) (hb : w.heap[g]? = some (.cells #[.slice A1 l1.length c1] 22 (0, 0))) (h : slices_SortFunc_79.f l0 l1 = some r) :
    Calls Try.prog 78 #[u9000_, .func (.func 79) #[] #[.pointer (some ⟨g, 0, none⟩)]] w fun e w' => e = .returned (.tuple #[]) ∧ Kd.R (Kd.int .i64) 3 w' w0.heap.size (fun k_ => (P0_ k_ ∨ w.heap.size ≤ k_)) u9000_ r ∧ Below w0.heap.size w0 w' ∧ Kept w w' (fun k_ => P0_ k_) := by
  unfold slices_SortFunc_79.f at h
  split at h
  · rename_i hc
    obtain rfl := Option.some.inj h
    simp only [Bool.and_eq_true, List.all_eq_true, decide_eq_true_eq, Fv.isB] at hc
    exact Fv.sortSuf P0_ u9000_ l0 A1 c1 l1 w0 w hB ho0 hr1 hc1 hb hc.1.1 hc.1.2 hc.2
  · exact absurd h (by simp)
/-! ### impl_suffixRows: function 64 -/
def impl_suffixRows.l0 : Nat → List Int → Int → Int → List Int → Option (List Int)
 | 0, _, _, _, _ => none
 | k + 1, x3, x7, x8, x379000 => if x8 < x7 then (if x3.length < 17592186044416 then (impl_suffixRows.l0 k (x3 ++ [x8]) x7 (wrap64 (x8 + 1)) x379000) else (none)) else ((slices_SortFunc_79.f x3 x379000).bind fun t382 => (some t382))
def impl_suffixRows.f (k : Nat) (l0 : List Int) : Option (List Int) := impl_suffixRows.l0 k ([] : List Int) (wrap64 ((l0.length : Int) + 1)) 0 l0
set_option maxHeartbeats 8000000 in
set_option maxRecDepth 100000 in
theorem impl_suffixRows.calls (k : Nat) (A0 : Option Addr) (c0 : Nat) (l0 : List Int) (r : List Int) (w : World) (hr0 : Kd.C (Kd.int .u8) w A0 l0.length l0) (hc0 : l0.length ≤ c0) (h : impl_suffixRows.f k l0 = some r) :
  Calls Try.prog 64 #[.slice A0 l0.length c0] w fun e w' => ∃ v0_ : Value, e = .returned (v0_) ∧ Kd.R (Kd.int .i64) 3 w' w.heap.size (fun _ => True) v0_ r ∧ Below w.heap.size w w' := by
 have HR0:=mk0 hr0
 have HC0:=mk0 hc0
 clear hr0 hc0
 have HB:=mk0 (Below.refl w.heap.size w)
 have H:(impl_suffixRows.l0 k ([]:List Int) (wrap64 ((l0.length:Int) + 1)) 0 l0) = some r:=h
 clear h
 have H':=mk0 H
 clear H
 go_enter Try.func64,Try.ntmps64
 go_wp2_with (first|((with_reducible refine gate_dst (N:=1) rfl ?_);refine box_event ?hg (N:=1) ?hd (cs:=#[.slice A0 l0.length c0]) (t:=22) ?hr ?_;(case hd=>rfl);(case hg=>rfl);(case hr=>first|(go_simp;done)|(go_simp;rfl));intro gb378 hg w2 hbox hb;have BK378:=mk0 (hbox);have GW378:=mk0 ((by rw [hg];exact (kZ HB.out):w.heap.size ≤ gb378));have GE378:=mk0 ((by rw [hg];exact (kZ HB.out):w.heap.size ≤ gb378));replace HB:=mk0 (kS HB.out hb);clear hb hbox hg;have hcz3_0:w2.cell? ⟨gb378,0,none⟩ = some (.slice A0 l0.length c0):=(blk_cell BK378.out 0).trans rfl;have hfz3_0:=blk_frozen BK378.out 0))
 go_loopg [3,8] k (fun kq v3 v8 w'=>∃ (x3_1:List Int) (x8_1:Int),v8 = .int .i64 x8_1 ∧ Aside0 (impl_suffixRows.l0 kq x3_1 (wrap64 ((l0.length:Int) + 1)) x8_1 l0 = some r) ∧ Aside0 (kq ≤ k) ∧ Aside0 (Kd.R (Kd.int .i64) 3 w' w.heap.size (fun _=>True) v3 x3_1) ∧ Aside0 (w'.heap[gb378]? = some (.cells #[(.slice A0 l0.length c0)] 22 (0,0))) ∧ Aside0 (Below w.heap.size w w'))
 case atStart=>exact⟨(([]:List Int)),(0),eS,H',⟨Nat.le_refl _⟩,⟨by first|exact Kd.R_nil _ _ _ _ _|exact Kd.N_nil _ _ _ _ _|exact Kd.V_nil _ _ _ _ _|exact Kd.Q_nil _ _ _ _ _|exact Kd.S_nil _ _ _ _ _⟩,⟨kN BK378.out⟩,⟨kB HB.out⟩⟩
 case round =>
  clear H'
  try clear p2
  try clear hcz3_0
  try clear hfz3_0
  obtain⟨x3_1,x8_1,rfl,HA,HK1,HO_3,BK378,HB⟩:=hrel
  cases gk with
  | zero=>exact absurd HA.out (by simp [impl_suffixRows.l0])
  | succ k1 =>
   have H:=HA.out
   clear HA
   simp only [impl_suffixRows.l0] at H
   by_cases c4:x8_1 < (wrap64 ((l0.length:Int) + 1))
   ·rw [if_pos c4] at H
    have c4b0:decide (x8_1 < (wrap64 ((l0.length:Int) + 1))) = true:=decide_eq_true c4
    clear c4
    by_cases c5:x3_1.length < 17592186044416
    ·rw [if_pos c5] at H
     have LMc5:=mk0 c5
     clear c5
     obtain⟨y379,hy379⟩:∃ y_:List Int,y_ = (x3_1 ++ [x8_1]):=⟨_,rfl⟩
     first|(with_reducible replace H:=yB hy379 H)|rw [← hy379] at H|skip
     have Ny379:=mk0 hy379
     clear hy379
     have H':=mk0 H
     clear H
     go_wp2_with (first|((with_reducible refine gate_builtin (b:=.append) (xs:=#[.tmp 11,.tmp 13]) rfl ?_);at_builtin;refine Kd.R_append (Kd.int .i64) (w0:=w) w.heap.size rfl (.tmp 11) (.tmp 13) 45 3 (.int .i64 0) 8 rfl Try.underlying45 info3 rfl (by decide) (by omega) u3 x3_1 x8_1 [.int .i64 x8_1] (fun _=>True) (fun _=>False) rfl rfl ?aP (fun _ hk=>hk.elim) ?aF ?aO ?aB ?aS ?aL ?_;(case aP=>exact rfl);(case aB=>exact (kB HB.out));(case aF=>exact (fun _ _=>trivial));(case aO=>exact (rR HO_3.out));(case aS=>exact (kZ HB.out));(case aL=>have:=LMc5.out;omega);intro v380 w6 ho hb hg hat;rw [← Ny379.out] at ho;replace BK378:=mk0 (blk_grown (kN BK378.out) hg (Kd.R_ne HO_3.out BK378.out (by decide)));replace HB:=mk0 (hb);have HO381:=mk0 (ho);clear HO_3 ho hb hg hat))
     go_roundg k1
     case measure=>have:=HK1.out;omega
     case rel=>exact⟨(y379),(wrap64 (x8_1 + 1)),eS,H',⟨by have:=HK1.out;omega⟩,⟨rR HO381.out⟩,⟨kN BK378.out⟩,⟨kB HB.out⟩⟩
    ·rw [if_neg c5] at H
     exact nn H
   ·rw [if_neg c4] at H
    have c4b0:decide (x8_1 < (wrap64 ((l0.length:Int) + 1))) = false:=decide_eq_false c4
    clear c4
    replace H:=bE H
    obtain⟨t382,A7,H⟩:=H
    obtain rfl:=Option.some.inj H
    obtain⟨Ao8,co8,eo8⟩:=Kd.R_slice HO_3.out
    subst eo8
    go_wp2_with (first|((with_reducible refine gate_callee (f:=78) rfl ?_);refine gL (some 18) Try.func78 #[.slice Ao8 x3_1.length co8,.func (.func 79) #[] #[.pointer (some ⟨gb378,0,none⟩)]] ?_;(with_reducible refine (slices_SortFunc_79.calls (fun k_=>some k_ = (.slice Ao8 x3_1.length co8:Value).ownBlock) (.slice Ao8 x3_1.length co8) x3_1 A0 c0 l0 t382 w _ ?side1 ?side2 ?side3 ?side4 ?side5 A7.out).mono ?_);(case side1=>repeat (first|(with_reducible first|exact HB.out|apply aZ|apply nZ|apply dZ|refine sZ ?_ GE378.out)|exact HB.out));(case side2=>exact Kd.R_tight rfl HO_3.out);(case side3=>exact Kd.C_kept_came (Kd.heap_int .u8) HR0.out (kB HB.out) (fun k_ hs_=>(fun e_=>Kd.R_base HO_3.out k_ e_.symm) hs_));(case side4=>exact HC0.out);(case side5=>exact by (with_reducible repeat (first|apply nB|apply dB|apply aB));exact BK378.out);rintro e w9 ⟨rfl,hy0,hb,hkp⟩;refine⟨_,rfl,?_⟩;replace BK378:=mk0 (blk_kept (kN BK378.out) hkp (fun hs_=>(fun e_=>(Kd.R_ne HO_3.out BK378.out (by decide)) e_) hs_));replace HO_3:=mk0 (Kd.R_reok rfl hy0 (fun k_ e_=>HO_3.out.1 k_ e_));replace HB:=mk0 (hb);(try clear hb);(try clear hkp);(try clear hy0)))
    go_ret
    exact⟨_,eR,rR HO_3.out,kB HB.out⟩
/-! ### impl_bwtOf: function 40 -/
def impl_bwtOf.l0 : Nat → List Int → List Int → List Int → Int → Int → Option (List Int)
 | 0, _, _, _, _, _ => none
 | k + 1, x0, x3, x7, x8, x9 => if x9 < x8 then (if 0 ≤ x9 then (if x9 < (x7.length : Int) then (if (rd x7 x9) = 0 then (if x3.length < 17592186044416 then (impl_bwtOf.l0 k x0 (x3 ++ [0]) x7 x8 (wrap64 (x9 + 1))) else (none)) else (if 0 ≤ (wrap64 ((rd x7 x9) - 1)) then (if (wrap64 ((rd x7 x9) - 1)) < (x0.length : Int) then (if x3.length < 17592186044416 then (impl_bwtOf.l0 k x0 (x3 ++ [wrap64 ((wrap64 (rd x0 (wrap64 ((rd x7 x9) - 1)))) + 1)]) x7 x8 (wrap64 (x9 + 1))) else (none)) else (none)) else (none))) else (none)) else (none)) else (some x3)
def impl_bwtOf.f (k : Nat) (l0 : List Int) : Option (List Int) := (impl_suffixRows.f k l0).bind fun t383 => (impl_bwtOf.l0 k l0 ([] : List Int) t383 (t383.length : Int) 0)
set_option maxHeartbeats 8000000 in
set_option maxRecDepth 100000 in
theorem impl_bwtOf.calls (k : Nat) (A0 : Option Addr) (c0 : Nat) (l0 : List Int) (r : List Int) (w : World) (hr0 : Kd.C (Kd.int .u8) w A0 l0.length l0) (hc0 : l0.length ≤ c0) (h : impl_bwtOf.f k l0 = some r) :
  Calls Try.prog 40 #[.slice A0 l0.length c0] w fun e w' => ∃ v0_ : Value, e = .returned (v0_) ∧ Kd.R (Kd.int .i64) 3 w' w.heap.size (fun _ => True) v0_ r ∧ Below w.heap.size w w' := by
 have HR0:=mk0 hr0
 have HC0:=mk0 hc0
 clear hr0 hc0
 have HB:=mk0 (Below.refl w.heap.size w)
 have H:((impl_suffixRows.f k l0).bind fun t383=>(impl_bwtOf.l0 k l0 ([]:List Int) t383 (t383.length:Int) 0)) = some r:=h
 clear h
 replace H:=bE H
 obtain⟨t383,A2,H⟩:=H
 have H':=mk0 H
 clear H
 go_enter Try.func40,Try.ntmps40
 go_wp2_with (first|((with_reducible refine gate_callee (f:=64) rfl ?_);refine gL (some 7) Try.func64 #[.slice A0 l0.length c0] ?_;(with_reducible refine (impl_suffixRows.calls k _ _ l0 t383 _ ?side1 ?side2 A2.out).mono ?_);(case side1=>exact kC HR0.out);(case side2=>exact HC0.out);rintro e w3 ⟨v384,rfl,ho0,hb⟩;refine⟨_,rfl,?_⟩;have HO385:=mk0 (Kd.R_lower ho0 (kZ HB.out));replace HB:=mk0 (kS HB.out hb);(try clear hb);(try clear ho0);obtain⟨Ao4,co4,eo4⟩:=Kd.R_slice HO385.out;subst eo4))
 go_loopg [3,9] k (fun kq v3 v9 w'=>∃ (x3_1:List Int) (x9_1:Int),v9 = .int .i64 x9_1 ∧ Aside0 (impl_bwtOf.l0 kq l0 x3_1 t383 (t383.length:Int) x9_1 = some r) ∧ Aside0 (kq ≤ k) ∧ Aside0 (Kd.R (Kd.int .i64) 3 w' w.heap.size (fun k_=>some k_ ≠ ((.slice Ao4 t383.length co4):Value).ownBlock) v3 x3_1) ∧ Aside0 (Kd.R (Kd.int .i64) 3 w' w.heap.size (fun k_=>some k_ ≠ (v3:Value).ownBlock) (.slice Ao4 t383.length co4) t383) ∧ Aside0 (Below w.heap.size w w'))
 case atStart=>exact⟨(([]:List Int)),(0),eS,H',⟨Nat.le_refl _⟩,⟨by first|exact Kd.R_nil _ _ _ _ _|exact Kd.N_nil _ _ _ _ _|exact Kd.V_nil _ _ _ _ _|exact Kd.Q_nil _ _ _ _ _|exact Kd.S_nil _ _ _ _ _⟩,⟨by (with_reducible repeat (first|apply aR|apply nR|apply dR));exact Kd.R_mono HO385.out (fun _ hk=>(by simp [Value.ownBlock]))⟩,⟨kB HB.out⟩⟩
 case round =>
  clear H'
  try clear p2
  try clear c4
  obtain⟨x3_1,x9_1,rfl,HA,HK1,HO_3,HO_7,HB⟩:=hrel
  cases gk with
  | zero=>exact absurd HA.out (by simp [impl_bwtOf.l0])
  | succ k1 =>
   have H:=HA.out
   clear HA
   simp only [impl_bwtOf.l0] at H
   by_cases c5:x9_1 < (t383.length:Int)
   ·rw [if_pos c5] at H
    have c5b0:decide (x9_1 < (t383.length:Int)) = true:=decide_eq_true c5
    clear c5
    by_cases c6:0 ≤ x9_1
    ·rw [if_pos c6] at H
     have c6b0:decide (0 ≤ x9_1) = true:=decide_eq_true c6
     clear c6
     by_cases c7:x9_1 < (t383.length:Int)
     ·rw [if_pos c7] at H
      have c7b0:decide (x9_1 < (t383.length:Int)) = true:=decide_eq_true c7
      clear c7
      by_cases c8:(rd t383 x9_1) = 0
      ·rw [if_pos c8] at H
       have c8b0:((rd t383 x9_1) == 0) = true:=beq_iff_eq.mpr c8
       have c8b1:((rd t383 x9_1) != 0) = false:=bne_eq_false_iff_eq.mpr c8
       clear c8
       by_cases c9:x3_1.length < 17592186044416
       ·rw [if_pos c9] at H
        have LMc9:=mk0 c9
        clear c9
        obtain⟨y387,hy387⟩:∃ y_:List Int,y_ = (x3_1 ++ [0]):=⟨_,rfl⟩
        first|(with_reducible replace H:=yB hy387 H)|rw [← hy387] at H|skip
        have Ny387:=mk0 hy387
        clear hy387
        have H':=mk0 H
        clear H
        have p386:0 ≤ (x9_1:Int):=oD
        have q386:x9_1 < (t383.length:Int):=oD
        obtain⟨ad386,e386,hx386_0⟩:=Kd.at_int (Kd.R_reads' HO_7.out).2.2 x9_1 p386 q386
        cases e386
        replace p386:=eq_true p386
        replace q386:=eq_true q386
        go_wp2_with (first|((with_reducible refine gate_builtin (b:=.append) (xs:=#[.tmp 15,.tmp 16]) rfl ?_);at_builtin;refine Kd.R_append (Kd.int .i64) (w0:=w) w.heap.size rfl (.tmp 15) (.tmp 16) 45 3 (.int .i64 0) 8 rfl Try.underlying45 info3 rfl (by decide) (by omega) u3 x3_1 0 [.int .i64 0] (fun k_=>some k_ ≠ (.slice (some ad386) t383.length co4:Value).ownBlock) (fun _=>False) rfl rfl ?aP (fun _ hk=>hk.elim) ?aF ?aO ?aB ?aS ?aL ?_;(case aP=>exact rfl);(case aB=>exact (kB HB.out));(case aF=>exact (fun k_ hk=>Kd.fresh' (Kd.R_lt (rR HO_7.out)) k_ hk));(case aO=>exact (rR HO_3.out));(case aS=>exact (kZ HB.out));(case aL=>have:=LMc9.out;omega);intro v388 w10 ho hb hg hat;rw [← Ny387.out] at ho;replace HO_7:=mk0 (Kd.R_after (ok:=(fun _=>True)) (rR (Kd.R_mono HO_7.out (fun _ hk=>⟨trivial,hk⟩))) hg hat);replace HB:=mk0 (hb);have HO389:=mk0 (ho);clear HO_3 ho hb hg hat))
        go_roundg k1
        case measure=>have:=HK1.out;omega
        case rel=>exact⟨(y387),(wrap64 (x9_1 + 1)),eS,H',⟨by have:=HK1.out;omega⟩,⟨rR HO389.out⟩,⟨rR (Kd.R_mono HO_7.out (fun _ hk=>hk.2))⟩,⟨kB HB.out⟩⟩
       ·rw [if_neg c9] at H
        exact nn H
      ·rw [if_neg c8] at H
       have c8b0:((rd t383 x9_1) == 0) = false:=beq_eq_false_iff_ne.mpr c8
       have c8b1:((rd t383 x9_1) != 0) = true:=bne_iff_ne.mpr c8
       obtain⟨ji11,hji11⟩:∃ j_:Int,(wrap64 ((rd t383 x9_1) - 1)) = j_:=⟨_,rfl⟩
       first|rw [hji11] at H|simp only [hji11] at H
       have hji11w:(IntKind.i64.wrap ((rd t383 x9_1) - 1)) = ji11:=(i64_w _).trans hji11
       by_cases c12:0 ≤ (ji11)
       ·rw [if_pos c12] at H
        have c12b0:decide (0 ≤ (ji11)) = true:=decide_eq_true c12
        clear c12
        by_cases c13:(ji11) < (l0.length:Int)
        ·rw [if_pos c13] at H
         have c13b0:decide ((ji11) < (l0.length:Int)) = true:=decide_eq_true c13
         clear c13
         by_cases c14:x3_1.length < 17592186044416
         ·rw [if_pos c14] at H
          have LMc14:=mk0 c14
          clear c14
          obtain⟨y391,hy391⟩:∃ y_:List Int,y_ = (x3_1 ++ [wrap64 ((wrap64 (rd l0 (ji11))) + 1)]):=⟨_,rfl⟩
          first|(with_reducible replace H:=yB hy391 H)|rw [← hy391] at H|skip
          have Ny391:=mk0 hy391
          clear hy391
          have H':=mk0 H
          clear H
          have p386:0 ≤ (x9_1:Int):=oD
          have q386:x9_1 < (t383.length:Int):=oD
          obtain⟨ad386,e386,hx386_0⟩:=Kd.at_int (Kd.R_reads' HO_7.out).2.2 x9_1 p386 q386
          cases e386
          replace p386:=eq_true p386
          replace q386:=eq_true q386
          have p390:0 ≤ ((ji11):Int):=oD
          have q390:(ji11) < (l0.length:Int):=oD
          obtain⟨ad390,e390,hx390_0⟩:=Kd.at_int HR0.out (ji11) p390 q390
          cases e390
          replace hx390_0:=(HB.out.cell (World.block_lt_of_cell? w _ hx390_0)).trans hx390_0
          replace p390:=eq_true p390
          replace q390:=eq_true q390
          go_wp2_with (first|((with_reducible refine gate_builtin (b:=.append) (xs:=#[.tmp 18,.tmp 26]) rfl ?_);at_builtin;refine Kd.R_append (Kd.int .i64) (w0:=w) w.heap.size rfl (.tmp 18) (.tmp 26) 45 3 (.int .i64 0) 8 rfl Try.underlying45 info3 rfl (by decide) (by omega) u3 x3_1 (wrap64 ((wrap64 (rd l0 (ji11))) + 1)) [.int .i64 (wrap64 ((wrap64 (rd l0 (ji11))) + 1))] (fun k_=>some k_ ≠ (.slice (some ad386) t383.length co4:Value).ownBlock) (fun _=>False) rfl rfl ?aP (fun _ hk=>hk.elim) ?aF ?aO ?aB ?aS ?aL ?_;(case aP=>exact rfl);(case aB=>exact (kB HB.out));(case aF=>exact (fun k_ hk=>Kd.fresh' (Kd.R_lt (rR HO_7.out)) k_ hk));(case aO=>exact (rR HO_3.out));(case aS=>exact (kZ HB.out));(case aL=>have:=LMc14.out;omega);intro v392 w15 ho hb hg hat;rw [← Ny391.out] at ho;replace HO_7:=mk0 (Kd.R_after (ok:=(fun _=>True)) (rR (Kd.R_mono HO_7.out (fun _ hk=>⟨trivial,hk⟩))) hg hat);replace HB:=mk0 (hb);have HO393:=mk0 (ho);clear HO_3 ho hb hg hat))
          go_roundg k1
          case measure=>have:=HK1.out;omega
          case rel=>exact⟨(y391),(wrap64 (x9_1 + 1)),eS,H',⟨by have:=HK1.out;omega⟩,⟨rR HO393.out⟩,⟨rR (Kd.R_mono HO_7.out (fun _ hk=>hk.2))⟩,⟨kB HB.out⟩⟩
         ·rw [if_neg c14] at H
          exact nn H
        ·rw [if_neg c13] at H
         exact nn H
       ·rw [if_neg c12] at H
        exact nn H
     ·rw [if_neg c7] at H
      exact nn H
    ·rw [if_neg c6] at H
     exact nn H
   ·rw [if_neg c5] at H
    have c5b0:decide (x9_1 < (t383.length:Int)) = false:=decide_eq_false c5
    clear c5
    obtain rfl:=Option.some.inj H
    go_wp2
    go_ret
    exact⟨_,eR,rR (Kd.R_mono HO_3.out (fun _ hk=>trivial)),kB HB.out⟩
/-! ### impl_heads: function 72 -/
def impl_heads.l0 : Nat → List Int → Int → List ByteArray → List Int → Int → Int → Option (List ByteArray)
 | 0, _, _, _, _, _, _ => none
 | k + 1, x0, x1, x5, x9, x10, x11 => if x11 < x10 then (if 0 ≤ x11 then (if x11 < (x9.length : Int) then (if 0 ≤ (rd x9 x11) then (if (rd x9 x11) ≤ (mn (wrap64 ((rd x9 x11) + x1)) (x0.length : Int)) then (if (mn (wrap64 ((rd x9 x11) + x1)) (x0.length : Int)) ≤ (x0.length : Int) then (if x5.length < 8796093022208 then (impl_heads.l0 k x0 x1 (x5 ++ [strOfNums ((x0.take ((mn (wrap64 ((rd x9 x11) + x1)) (x0.length : Int)) : Int).toNat).drop ((rd x9 x11) : Int).toNat)]) x9 x10 (wrap64 (x11 + 1))) else (none)) else (none)) else (none)) else (none)) else (none)) else (none)) else (some x5)
def impl_heads.f (k : Nat) (l0 : List Int) (a1 : Int) : Option (List ByteArray) := (impl_suffixRows.f k l0).bind fun t394 => (impl_heads.l0 k l0 a1 ([] : List ByteArray) t394 (t394.length : Int) 0)
set_option maxHeartbeats 8000000 in
set_option maxRecDepth 100000 in
theorem impl_heads.calls (k : Nat) (A0 : Option Addr) (c0 : Nat) (l0 : List Int) (a1 : Int) (r : List ByteArray) (w : World) (hr0 : Kd.C (Kd.int .u8) w A0 l0.length l0) (hc0 : l0.length ≤ c0) (h : impl_heads.f k l0 a1 = some r) :
  Calls Try.prog 72 #[.slice A0 l0.length c0, .int .i64 a1] w fun e w' => ∃ v0_ : Value, e = .returned (v0_) ∧ Kd.R Kd.string 9 w' w.heap.size (fun _ => True) v0_ r ∧ Below w.heap.size w w' := by
 have HR0:=mk0 hr0
 have HC0:=mk0 hc0
 clear hr0 hc0
 have HB:=mk0 (Below.refl w.heap.size w)
 have H:((impl_suffixRows.f k l0).bind fun t394=>(impl_heads.l0 k l0 a1 ([]:List ByteArray) t394 (t394.length:Int) 0)) = some r:=h
 clear h
 replace H:=bE H
 obtain⟨t394,A3,H⟩:=H
 have H':=mk0 H
 clear H
 go_enter Try.func72,Try.ntmps72
 go_wp2_with (first|((with_reducible refine gate_callee (f:=64) rfl ?_);refine gL (some 9) Try.func64 #[.slice A0 l0.length c0] ?_;(with_reducible refine (impl_suffixRows.calls k _ _ l0 t394 _ ?side1 ?side2 A3.out).mono ?_);(case side1=>exact kC HR0.out);(case side2=>exact HC0.out);rintro e w4 ⟨v395,rfl,ho0,hb⟩;refine⟨_,rfl,?_⟩;have HO396:=mk0 (Kd.R_lower ho0 (kZ HB.out));replace HB:=mk0 (kS HB.out hb);(try clear hb);(try clear ho0);obtain⟨Ao5,co5,eo5⟩:=Kd.R_slice HO396.out;subst eo5))
 go_loopg [5,11] k (fun kq v5 v11 w'=>∃ (x5_1:List ByteArray) (x11_1:Int),v11 = .int .i64 x11_1 ∧ Aside0 (impl_heads.l0 kq l0 a1 x5_1 t394 (t394.length:Int) x11_1 = some r) ∧ Aside0 (kq ≤ k) ∧ Aside0 (Kd.R Kd.string 9 w' w.heap.size (fun _=>True) v5 x5_1) ∧ Aside0 (Kd.R (Kd.int .i64) 3 w' w.heap.size (fun _=>True) (.slice Ao5 t394.length co5) t394) ∧ Aside0 (Below w.heap.size w w'))
 case atStart=>exact⟨(([]:List ByteArray)),(0),eS,H',⟨Nat.le_refl _⟩,⟨by first|exact Kd.R_nil _ _ _ _ _|exact Kd.N_nil _ _ _ _ _|exact Kd.V_nil _ _ _ _ _|exact Kd.Q_nil _ _ _ _ _|exact Kd.S_nil _ _ _ _ _⟩,⟨rR HO396.out⟩,⟨kB HB.out⟩⟩
 case round =>
  clear H'
  try clear p2
  obtain⟨x5_1,x11_1,rfl,HA,HK1,HO_5,HO_9,HB⟩:=hrel
  cases gk with
  | zero=>exact absurd HA.out (by simp [impl_heads.l0])
  | succ k1 =>
   have H:=HA.out
   clear HA
   simp only [impl_heads.l0] at H
   by_cases c6:x11_1 < (t394.length:Int)
   ·rw [if_pos c6] at H
    have c6b0:decide (x11_1 < (t394.length:Int)) = true:=decide_eq_true c6
    clear c6
    by_cases c7:0 ≤ x11_1
    ·rw [if_pos c7] at H
     have c7b0:decide (0 ≤ x11_1) = true:=decide_eq_true c7
     clear c7
     by_cases c8:x11_1 < (t394.length:Int)
     ·rw [if_pos c8] at H
      have c8b0:decide (x11_1 < (t394.length:Int)) = true:=decide_eq_true c8
      clear c8
      obtain⟨ji9,hji9⟩:∃ j_:Int,(mn (wrap64 ((rd t394 x11_1) + a1)) (l0.length:Int)) = j_:=⟨_,rfl⟩
      first|rw [hji9] at H|simp only [hji9] at H
      have hji9_:(if (l0.length:Int) < (wrap64 ((rd t394 x11_1) + a1)) then (l0.length:Int) else (wrap64 ((rd t394 x11_1) + a1))) = ji9:=hji9
      by_cases c10:0 ≤ (rd t394 x11_1)
      ·rw [if_pos c10] at H
       have c10b0:=eq_true c10
       have c10b1:decide (0 ≤ (rd t394 x11_1)) = true:=decide_eq_true c10
       clear c10
       by_cases c11:(rd t394 x11_1) ≤ (ji9)
       ·rw [if_pos c11] at H
        have c11b0:=eq_true c11
        have c11b1:decide ((rd t394 x11_1) ≤ (ji9)) = true:=decide_eq_true c11
        clear c11
        by_cases c12:(ji9) ≤ (l0.length:Int)
        ·rw [if_pos c12] at H
         have c12b0:=eq_true c12
         have c12b1:decide ((ji9) ≤ (l0.length:Int)) = true:=decide_eq_true c12
         clear c12
         by_cases c13:x5_1.length < 8796093022208
         ·rw [if_pos c13] at H
          have LMc13:=mk0 c13
          clear c13
          obtain⟨y399,hy399⟩:∃ y_:List ByteArray,y_ = (x5_1 ++ [strOfNums ((l0.take ((ji9):Int).toNat).drop ((rd t394 x11_1):Int).toNat)]):=⟨_,rfl⟩
          first|(with_reducible replace H:=yB hy399 H)|rw [← hy399] at H|skip
          have Ny399:=mk0 hy399
          clear hy399
          have H':=mk0 H
          clear H
          have p397:0 ≤ (x11_1:Int):=oD
          have q397:x11_1 < (t394.length:Int):=oD
          obtain⟨ad397,e397,hx397_0⟩:=Kd.at_int (Kd.R_reads' HO_9.out).2.2 x11_1 p397 q397
          cases e397
          replace p397:=eq_true p397
          replace q397:=eq_true q397
          obtain⟨i014,hi014,_,hsz14,_⟩:=info_parts info5
          obtain⟨A14,hcut14,hA14,hC14⟩:=print_mid_of (P:=Try.prog) (Value.int .u8) 0 22 5 .i64 .i64 Try.underlying22 hi014 hsz14 A0 c0 l0 (rd t394 x11_1) (ji9) (oD) (by first|omega|exact oD) (oD) HC0.out
          have HR398:=mk0 (Kd.C_of_reads (h1:=fun _=>rfl) (hA14 _ (Kd.reads_of_C HR0.out)))
          have HC398:=mk0 hC14
          clear hA14 hC14 hi014 hsz14
          have hcv15:=Kd.C_string (P:=Try.prog) (A:=A14) (c:=(c0 - (rd t394 x11_1).toNat)) Try.underlying22 Try.underlying5 Try.underlying9 (Kd.C_below HR398.out HB.out)
          (try rw [show ((l0.take ((ji9) : Int).toNat).drop ((rd t394 x11_1) : Int).toNat).length = ((ji9) : Int).toNat - ((rd t394 x11_1) : Int).toNat from by have h_ := of_decide_eq_true (show decide (((ji9) : Int) ≤ (l0.length : Int)) = true by first | (with_reducible assumption) | assumption); rw [List.length_drop, List.length_take]; omega] at hcv15)
          go_wp2_with (first|((with_reducible refine gate_builtin (b:=.append) (xs:=#[.tmp 15,.tmp 26]) rfl ?_);at_builtin;refine Kd.R_append Kd.string (w0:=w) w.heap.size rfl (.tmp 15) (.tmp 26) 82 9 (.string ⟨#[]⟩) 16 rfl Try.underlying82 info9 rfl (by decide) (by omega) u5 x5_1 (strOfNums ((l0.take ((ji9):Int).toNat).drop ((rd t394 x11_1):Int).toNat)) [.string (strOfNums ((l0.take ((ji9):Int).toNat).drop ((rd t394 x11_1):Int).toNat))] (fun _=>True) (fun _=>False) rfl rfl ?aP (fun _ hk=>hk.elim) ?aF ?aO ?aB ?aS ?aL ?_;(case aP=>exact rfl);(case aB=>exact (kB HB.out));(case aF=>exact (fun _ _=>trivial));(case aO=>exact (rR HO_5.out));(case aS=>exact (kZ HB.out));(case aL=>have:=LMc13.out;omega);intro v400 w16 ho hb hg hat;rw [← Ny399.out] at ho;replace HO_9:=mk0 (Kd.R_over' (rR HO_9.out) (Kd.R_typed (rR HO_5.out)) (by decide) hg);replace HB:=mk0 (hb);have HO401:=mk0 (ho);clear HO_5 ho hb hg hat))
          go_roundg k1
          case measure=>have:=HK1.out;omega
          case rel=>exact⟨(y399),(wrap64 (x11_1 + 1)),eS,H',⟨by have:=HK1.out;omega⟩,⟨rR HO401.out⟩,⟨rR HO_9.out⟩,⟨kB HB.out⟩⟩
         ·rw [if_neg c13] at H
          exact nn H
        ·rw [if_neg c12] at H
         exact nn H
       ·rw [if_neg c11] at H
        exact nn H
      ·rw [if_neg c10] at H
       exact nn H
     ·rw [if_neg c8] at H
      exact nn H
    ·rw [if_neg c7] at H
     exact nn H
   ·rw [if_neg c6] at H
    have c6b0:decide (x11_1 < (t394.length:Int)) = false:=decide_eq_false c6
    clear c6
    obtain rfl:=Option.some.inj H
    go_wp2
    go_ret
    exact⟨_,eR,rR HO_5.out,kB HB.out⟩
/-! ### cmp_isNaN_string: function 114 -/
def cmp_isNaN_string.f (a0 : ByteArray) : Option (Bool) := some (a0.toList != a0.toList)
set_option maxHeartbeats 8000000 in
set_option maxRecDepth 100000 in
theorem cmp_isNaN_string.calls (a0 : ByteArray) (r : Bool) (w : World) (h : cmp_isNaN_string.f a0 = some r) :
  Calls Try.prog 114 #[.string a0] w fun e w' => e = .returned (.bool r) ∧ Drawn0 w w' := by
 have H:(some (a0.toList != a0.toList)) = some r:=h
 clear h
 obtain rfl:=Option.some.inj H
 go_enter Try.func114,Try.ntmps114
 go_wp2
 go_ret
 exact⟨by first|rfl|(simp;done)|(simp [*];done),by repeat (first|exact Drawn0.refl _|apply Drawn0.step)⟩
/-! ### cmp_Less_string: function 94 -/
def cmp_Less_string.f (a0 : ByteArray) (a1 : ByteArray) : Option (Bool) := (cmp_isNaN_string.f a0).bind fun t402 => (if t402 = true then ((cmp_isNaN_string.f a1).bind fun t403 => (if t403 = true then (some (Op.bytesLess a0.toList a1.toList)) else (some true))) else (some (Op.bytesLess a0.toList a1.toList)))
set_option maxHeartbeats 8000000 in
set_option maxRecDepth 100000 in
theorem cmp_Less_string.calls (a0 : ByteArray) (a1 : ByteArray) (r : Bool) (w : World) (h : cmp_Less_string.f a0 a1 = some r) :
  Calls Try.prog 94 #[.string a0, .string a1] w fun e w' => e = .returned (.bool r) ∧ Drawn0 w w' := by
 have H:((cmp_isNaN_string.f a0).bind fun t402=>(if t402 = true then ((cmp_isNaN_string.f a1).bind fun t403=>(if t403 = true then (some (Op.bytesLess a0.toList a1.toList)) else (some true))) else (some (Op.bytesLess a0.toList a1.toList)))) = some r:=h
 clear h
 replace H:=bE H
 obtain⟨t402,A3,H⟩:=H
 by_cases c4:t402 = true
 ·subst c4
  replace H:=iT H
  replace H:=bE H
  obtain⟨t403,A5,H⟩:=H
  by_cases c6:t403 = true
  ·subst c6
   replace H:=iT H
   obtain rfl:=Option.some.inj H
   go_enter Try.func94,Try.ntmps94
   go_wp2_with (first|((with_reducible refine gate_callee (f:=114) rfl ?_);refine gL (some 6) Try.func114 #[.string a0] ?_;(with_reducible refine (cmp_isNaN_string.calls a0 true _ A3.out).mono ?_);rintro e w' ⟨rfl,⟨nd,rfl⟩⟩;refine⟨_,rfl,?_⟩)|(go_at_call 114;(with_reducible refine (cmp_isNaN_string.calls a1 true _ A5.out).mono ?_);rintro e w' ⟨rfl,⟨nd,rfl⟩⟩))
   go_ret
   exact⟨by first|rfl|(simp;done)|(simp [*];done),by repeat (first|exact Drawn0.refl _|apply Drawn0.step)⟩
  ·replace c6:=Bool.eq_false_iff.mpr c6
   subst c6
   replace H:=iF H
   obtain rfl:=Option.some.inj H
   go_enter Try.func94,Try.ntmps94
   go_wp2_with (first|((with_reducible refine gate_callee (f:=114) rfl ?_);refine gL (some 6) Try.func114 #[.string a0] ?_;(with_reducible refine (cmp_isNaN_string.calls a0 true _ A3.out).mono ?_);rintro e w' ⟨rfl,⟨nd,rfl⟩⟩;refine⟨_,rfl,?_⟩)|(go_at_call 114;(with_reducible refine (cmp_isNaN_string.calls a1 false _ A5.out).mono ?_);rintro e w' ⟨rfl,⟨nd,rfl⟩⟩))
   go_ret
   exact⟨by first|rfl|(simp;done)|(simp [*];done),by repeat (first|exact Drawn0.refl _|apply Drawn0.step)⟩
 ·replace c4:=Bool.eq_false_iff.mpr c4
  subst c4
  replace H:=iF H
  obtain rfl:=Option.some.inj H
  go_enter Try.func94,Try.ntmps94
  go_wp2_with (first|((with_reducible refine gate_callee (f:=114) rfl ?_);refine gL (some 6) Try.func114 #[.string a0] ?_;(with_reducible refine (cmp_isNaN_string.calls a0 false _ A3.out).mono ?_);rintro e w' ⟨rfl,⟨nd,rfl⟩⟩;refine⟨_,rfl,?_⟩))
  go_ret
  exact⟨by first|rfl|(simp;done)|(simp [*];done),by repeat (first|exact Drawn0.refl _|apply Drawn0.step)⟩
/-! ### slices_Grow_nil82: slices.Grow of nil, function 86 (by hand) -/
def slices_Grow_nil82.f (a0 : Int) : Option (List ByteArray) := if 0 ≤ a0 ∧ a0 ≤ 1048576 then some [] else none
theorem slices_Grow_nil82.info : (Try.prog.info? 9).map (fun i => (i.zero, i.size, i.bytes)) = some (some (.string ⟨#[]⟩), 1, 16) := by kernel_rfl
set_option maxHeartbeats 8000000 in
set_option maxRecDepth 100000 in
theorem slices_Grow_nil82.calls (a0 : Int) (r : List ByteArray) (w : World) (h : slices_Grow_nil82.f a0 = some r) :
    Calls Try.prog 86 #[.slice none 0 0, .int .i64 a0] w fun e w' => ∃ v0_ : Value, e = .returned (v0_) ∧ Kd.R (Kd.string) 9 w' w.heap.size (fun _ => True) v0_ r ∧ Below w.heap.size w w' := by
  unfold slices_Grow_nil82.f at h
  by_cases hm : 0 ≤ a0 ∧ a0 ≤ 1048576
  · rw [if_pos hm] at h
    obtain rfl := Option.some.inj h
    clear h
    have HB := Aside0.mk (Below.refl w.heap.size w)
    have hw1 : IntKind.i64.wrap a0 = a0 := by rw [i64_w]; unfold wrap64; omega
    have hcap : ∀ (ty : TypeId) (w_ : World), (Builtin.cap_ #[82] ty #[.slice none 0 0]).run Try.prog w_ = .ok (.int .i64 0) w_ := fun _ _ => by kernel_rfl
    have b0 : decide (a0 < 0) = false := decide_eq_false (by omega)
    obtain ⟨i0, hi0, _, hsz, _⟩ := info_parts slices_Grow_nil82.info
    have hcut0 := cut_to (P := Try.prog) 82 9 .i64 Try.underlying82 hi0 none 0 0 0 (by omega) (by omega) (by omega)
    by_cases hp : 0 < a0
    · have b1 : decide (0 < a0) = true := decide_eq_true hp
      have LM := Aside0.mk hm
      clear hm hp
      go_enter Try.func86, Try.ntmps86
      go_wp2_with (at_builtin; refine Kd.R_append_zeros (Kd.string) (w0 := w) w.heap.size rfl (.tmp 20) (.tmp 21) 82 3 9 (.string ⟨#[]⟩) 16 rfl Try.underlying82 Try.underlying3 slices_Grow_nil82.info rfl (by decide) (by omega) (.slice none 0 0) ([] : List ByteArray) ByteArray.empty (a0 : Int) (fun _ => True) rfl rfl rfl ?aF ?aO ?aN ?aB ?aS ?aL ?_; (case aF => exact (fun _ _ => trivial)); (case aO => exact (Kd.R_nil _ _ _ _ _)); (case aN => exact LM.out.1); (case aB => exact (by repeat (first | (with_reducible first | exact HB.out | apply below_alloc | apply pw_below_drewN | apply below_drew1) | exact HB.out))); (case aS => exact (below_size (by repeat (first | (with_reducible first | exact HB.out | apply below_alloc | apply pw_below_drewN | apply below_drew1) | exact HB.out)))); (case aL => have := LM.out; simp only [List.length_nil, Nat.zero_add]; omega); intro v1 w1 ho hb hg hat; obtain ⟨A1, c1, e1⟩ := Kd.R_slice ho; subst e1; have hroom := (Kd.R_reads' ho).2.1; have hcut1 := cut_to (P := Try.prog) 82 9 .i64 Try.underlying82 hi0 A1 ([] ++ List.replicate a0.toNat ByteArray.empty).length c1 0 (by omega) (by omega) hroom; rw [show (0 : Int).toNat = 0 from rfl] at hcut1; have n1_ := Aside0.mk hb; have n2_ := Aside0.mk (Kd.R_take (m := 0) ho (Nat.zero_le _)); clear HB; have HB := n1_; have HO1 := n2_; clear n1_ n2_; clear ho hb hg hat hroom)
      go_ret
      exact ⟨_, by first | rfl | (simp; done), by (with_reducible repeat (first | apply Kd.R_alloc | apply Kd.R_drewN | apply Kd.R_drew)); exact HO1.out, by repeat (first | (with_reducible first | exact HB.out | apply below_alloc | apply pw_below_drewN | apply below_drew1) | exact HB.out)⟩
    · have b1 : decide (0 < a0) = false := decide_eq_false hp
      clear hm hp
      go_enter Try.func86, Try.ntmps86
      go_wp2
      go_ret
      exact ⟨_, by first | rfl | (simp; done), Kd.R_nil _ _ _ _ _, HB.out⟩
  · rw [if_neg hm] at h
    exact absurd h (by simp)
/-! ### slices_Concat_string_string: function 76 -/
mutual
def slices_Concat_string_string.l0 : Nat → List (List ByteArray) → Int → List (List ByteArray) → Int → Int → Option (List ByteArray)
 | 0, _, _, _, _, _ => none
 | k + 1, x0, x3, x9, x10, x11 => if x11 < x10 then (if 0 ≤ x11 then (if x11 < (x9.length : Int) then (if (wrap64 (x3 + ((rd_L7 x9 x11).length : Int))) < 0 then (none) else (slices_Concat_string_string.l0 k x0 (wrap64 (x3 + ((rd_L7 x9 x11).length : Int))) x9 x10 (wrap64 (x11 + 1)))) else (none)) else (none)) else ((slices_Grow_nil82.f x3).bind fun t405 => (slices_Concat_string_string.l1 k t405 x0 (x0.length : Int) 0))
def slices_Concat_string_string.l1 : Nat → List ByteArray → List (List ByteArray) → Int → Int → Option (List ByteArray)
 | 0, _, _, _, _ => none
 | k + 1, x6, x25, x26, x27 => if x27 < x26 then (if 0 ≤ x27 then (if x27 < (x25.length : Int) then (if x6.length + (rd_L7 x25 x27).length < 8796093022208 then (slices_Concat_string_string.l1 k (x6 ++ (rd_L7 x25 x27)) x25 x26 (wrap64 (x27 + 1))) else (none)) else (none)) else (none)) else (some x6)
end
def slices_Concat_string_string.f (k : Nat) (l0 : List (List ByteArray)) : Option (List ByteArray) := slices_Concat_string_string.l0 k l0 0 l0 (l0.length : Int) 0
set_option maxHeartbeats 8000000 in
set_option maxRecDepth 100000 in
theorem slices_Concat_string_string.calls (k : Nat) (A0 : Option Addr) (c0 : Nat) (l0 : List (List ByteArray)) (r : List ByteArray) (w : World) (hr0 : Kd.C (Kd.slice 9 Kd.string) w A0 l0.length l0) (hc0 : l0.length ≤ c0) (h : slices_Concat_string_string.f k l0 = some r) :
  Calls Try.prog 76 #[.slice A0 l0.length c0] w fun e w' => ∃ v0_ : Value, e = .returned (v0_) ∧ Kd.R Kd.string 9 w' w.heap.size (fun _ => True) v0_ r ∧ Below w.heap.size w w' := by
 have HR0:=mk0 hr0
 have HC0:=mk0 hc0
 clear hr0 hc0
 have HB:=mk0 (Below.refl w.heap.size w)
 have H:(slices_Concat_string_string.l0 k l0 0 l0 (l0.length:Int) 0) = some r:=h
 clear h
 have H':=mk0 H
 clear H
 go_enter Try.func76,Try.ntmps76
 go_wp2
 go_loopg [3,11] k (fun kq v3 v11 w'=>∃ (x3_1:Int) (x11_1:Int),v3 = .int .i64 x3_1 ∧ v11 = .int .i64 x11_1 ∧ Aside0 (slices_Concat_string_string.l0 kq l0 x3_1 l0 (l0.length:Int) x11_1 = some r) ∧ Aside0 (kq ≤ k) ∧ Aside0 (Below w.heap.size w w'))
 case atStart=>exact⟨(0),(0),eS,eS,H',⟨Nat.le_refl _⟩,⟨kB HB.out⟩⟩
 case round =>
  clear H'
  obtain⟨x3_1,x11_1,rfl,rfl,HA,HK1,HB⟩:=hrel
  cases gk with
  | zero=>exact absurd HA.out (by simp [slices_Concat_string_string.l0])
  | succ k1 =>
   have H:=HA.out
   clear HA
   simp only [slices_Concat_string_string.l0] at H
   by_cases c2:x11_1 < (l0.length:Int)
   ·rw [if_pos c2] at H
    have c2b0:decide (x11_1 < (l0.length:Int)) = true:=decide_eq_true c2
    (try simp only [hl404_0] at c2b0)
    (try simp only [hl408_0] at c2b0)
    clear c2
    by_cases c3:0 ≤ x11_1
    ·rw [if_pos c3] at H
     have c3b0:decide (0 ≤ x11_1) = true:=decide_eq_true c3
     clear c3
     by_cases c4:x11_1 < (l0.length:Int)
     ·rw [if_pos c4] at H
      have c4b0:decide (x11_1 < (l0.length:Int)) = true:=decide_eq_true c4
      (try simp only [hl404_0] at c4b0)
      (try simp only [hl408_0] at c4b0)
      clear c4
      by_cases c5:(wrap64 (x3_1 + ((rd_L7 l0 x11_1).length:Int))) < 0
      ·rw [if_pos c5] at H
       exact nn H
      ·rw [if_neg c5] at H
       have c5b0:decide ((wrap64 (x3_1 + ((rd_L7 l0 x11_1).length:Int))) < 0) = false:=decide_eq_false c5
       (try simp only [hl404_0] at c5b0)
       (try simp only [hl408_0] at c5b0)
       clear c5
       have H':=mk0 H
       clear H
       have p404:0 ≤ (x11_1:Int):=oD
       have q404:x11_1 < (l0.length:Int):=oD
       obtain⟨ad404,A404_0,c404_0,e404,hx404_0,hl404_0,hi404_0⟩:=at_L7 HR0.out x11_1 p404 q404
       cases e404
       replace hx404_0:=(HB.out.cell (World.block_lt_of_cell? w _ hx404_0)).trans hx404_0
       have HR404_0:=mk0 hi404_0
       have HC404_0:=mk0 hl404_0
       clear hi404_0 hl404_0
       replace p404:=eq_true p404
       replace q404:=eq_true q404
       go_wp2
       go_roundg k1
       case measure=>have:=HK1.out;omega
       case rel=>exact⟨(wrap64 (x3_1 + ((rd_L7 l0 x11_1).length:Int))),(wrap64 (x11_1 + 1)),eS,eS,H',⟨by have:=HK1.out;omega⟩,⟨kB HB.out⟩⟩
     ·rw [if_neg c4] at H
      exact nn H
    ·rw [if_neg c3] at H
     exact nn H
   ·rw [if_neg c2] at H
    have c2b0:decide (x11_1 < (l0.length:Int)) = false:=decide_eq_false c2
    (try simp only [hl404_0] at c2b0)
    (try simp only [hl408_0] at c2b0)
    clear c2
    replace H:=bE H
    obtain⟨t405,A6,H⟩:=H
    have H':=mk0 H
    clear H
    go_wp2_with (first|((with_reducible refine gate_callee (f:=86) rfl ?_);refine gL (some 24) Try.func86 #[.slice none 0 0,.int .i64 x3_1] ?_;(with_reducible refine (slices_Grow_nil82.calls x3_1 t405 _ A6.out).mono ?_);rintro e w7 ⟨v406,rfl,ho0,hb⟩;refine⟨_,rfl,?_⟩;have HO407:=mk0 (Kd.R_lower ho0 (kZ HB.out));replace HB:=mk0 (kS HB.out hb);(try clear hb);(try clear ho0)))
    go_loopg [6,27] k1 (fun kq v6 v27 w'=>∃ (x6_2:List ByteArray) (x27_2:Int),v27 = .int .i64 x27_2 ∧ Aside0 (slices_Concat_string_string.l1 kq x6_2 l0 (l0.length:Int) x27_2 = some r) ∧ Aside0 (kq ≤ k1) ∧ Aside0 (Kd.R Kd.string 9 w' w.heap.size (fun _=>True) v6 x6_2) ∧ Aside0 (Below w.heap.size w w'))
    case atStart=>exact⟨(t405),(0),eS,H',⟨Nat.le_refl _⟩,⟨rR HO407.out⟩,⟨kB HB.out⟩⟩
    case round =>
     clear H'
     try clear c2
     try clear c2b0
     try clear p2
     try clear c3
     try clear c3b0
     try clear c4
     try clear c4b0
     try clear p4
     try clear q4
     try clear hx4
     try clear c5
     try clear c5b0
     try clear p6
     try clear c7
     try clear hx404_0
     try clear p404
     try clear q404
     obtain⟨x6_2,x27_2,rfl,HA,HK2,HO_6,HB⟩:=hrel
     cases gk with
     | zero=>exact absurd HA.out (by simp [slices_Concat_string_string.l1])
     | succ k2 =>
      have H:=HA.out
      clear HA
      simp only [slices_Concat_string_string.l1] at H
      by_cases c8:x27_2 < (l0.length:Int)
      ·rw [if_pos c8] at H
       have c8b0:decide (x27_2 < (l0.length:Int)) = true:=decide_eq_true c8
       (try simp only [hl404_0] at c8b0)
       (try simp only [hl408_0] at c8b0)
       clear c8
       by_cases c9:0 ≤ x27_2
       ·rw [if_pos c9] at H
        have c9b0:decide (0 ≤ x27_2) = true:=decide_eq_true c9
        clear c9
        by_cases c10:x27_2 < (l0.length:Int)
        ·rw [if_pos c10] at H
         have c10b0:decide (x27_2 < (l0.length:Int)) = true:=decide_eq_true c10
         (try simp only [hl404_0] at c10b0)
         (try simp only [hl408_0] at c10b0)
         clear c10
         by_cases c11:x6_2.length + (rd_L7 l0 x27_2).length < 8796093022208
         ·rw [if_pos c11] at H
          have LMc11:=mk0 c11
          clear c11
          obtain⟨y409,hy409⟩:∃ y_:List ByteArray,y_ = (x6_2 ++ (rd_L7 l0 x27_2)):=⟨_,rfl⟩
          first|(with_reducible replace H:=yB hy409 H)|rw [← hy409] at H|skip
          have Ny409:=mk0 hy409
          clear hy409
          have H':=mk0 H
          clear H
          have p408:0 ≤ (x27_2:Int):=oD
          have q408:x27_2 < (l0.length:Int):=oD
          obtain⟨ad408,A408_0,c408_0,e408,hx408_0,hl408_0,hi408_0⟩:=at_L7 HR0.out x27_2 p408 q408
          cases e408
          replace hx408_0:=(HB.out.cell (World.block_lt_of_cell? w _ hx408_0)).trans hx408_0
          have HR408_0:=mk0 hi408_0
          have HC408_0:=mk0 hl408_0
          clear hi408_0 hl408_0
          replace p408:=eq_true p408
          replace q408:=eq_true q408
          go_wp2_with (first|((with_reducible refine gate_builtin (b:=.append) (xs:=#[.tmp 31,.tmp 32]) rfl ?_);at_builtin;refine Kd.R_append_rows Kd.string (w0:=w) w.heap.size rfl (.tmp 31) (.tmp 32) 82 9 (.string ⟨#[]⟩) 16 rfl Try.underlying82 info9 rfl (by decide) (by omega) u6 x6_2 (rd_L7 l0 x27_2) _ _ _ (fun _=>True) (fun _=>False) rfl rfl ?aO ?aR (fun _ _ h=>h) (fun _ h=>h.elim) ?aF ?aB ?aS ?aL ?_;(case aR=>repeat (first|exact (Kd.C_below HR408_0.out HB.out)|(with_reducible first|apply aC|apply nC|apply dC)));(case aB=>exact (kB HB.out));(case aF=>exact (fun _ _=>trivial));(case aO=>exact (rR HO_6.out));(case aS=>exact (kZ HB.out));(case aL=>have:=LMc11.out;omega);intro v410 w12 ho hb hg hat;rw [← Ny409.out] at ho;replace HB:=mk0 (hb);have HO411:=mk0 (ho);clear HO_6 ho hb hg hat))
          go_roundg k2
          case measure=>have:=HK1.out;have:=HK2.out;omega
          case rel=>exact⟨(y409),(wrap64 (x27_2 + 1)),eS,H',⟨by have:=HK1.out;have:=HK2.out;omega⟩,⟨rR HO411.out⟩,⟨kB HB.out⟩⟩
         ·rw [if_neg c11] at H
          exact nn H
        ·rw [if_neg c10] at H
         exact nn H
       ·rw [if_neg c9] at H
        exact nn H
      ·rw [if_neg c8] at H
       have c8b0:decide (x27_2 < (l0.length:Int)) = false:=decide_eq_false c8
       (try simp only [hl404_0] at c8b0)
       (try simp only [hl408_0] at c8b0)
       clear c8
       obtain rfl:=Option.some.inj H
       go_wp2
       go_ret
       exact⟨_,eR,rR HO_6.out,kB HB.out⟩
/-! ### slices_isNaN_string: function 95 -/
def slices_isNaN_string.f (a0 : ByteArray) : Option (Bool) := some (a0.toList != a0.toList)
set_option maxHeartbeats 8000000 in
set_option maxRecDepth 100000 in
theorem slices_isNaN_string.calls (a0 : ByteArray) (r : Bool) (w : World) (h : slices_isNaN_string.f a0 = some r) :
  Calls Try.prog 95 #[.string a0] w fun e w' => e = .returned (.bool r) ∧ Drawn0 w w' := by
 have H:(some (a0.toList != a0.toList)) = some r:=h
 clear h
 obtain rfl:=Option.some.inj H
 go_enter Try.func95,Try.ntmps95
 go_wp2
 go_ret
 exact⟨by first|rfl|(simp;done)|(simp [*];done),by repeat (first|exact Drawn0.refl _|apply Drawn0.step)⟩
end Go.Proofs.Ytadhngelhognaaa.QFnShare
