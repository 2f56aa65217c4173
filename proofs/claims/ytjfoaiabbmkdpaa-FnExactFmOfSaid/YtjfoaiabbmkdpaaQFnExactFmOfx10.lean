-- A walk, made by walk.py, a program of this session's.
import Derived.Test.YtjfoaiabbmkdpaaQFnExactFmOfx0
import Derived.Test.YtjfoaiabbmkdpaaQFnExactFmOfx6
import Derived.Test.YtjfoaiabbmkdpaaQFnExactFmOfx7
import Derived.Test.YtjfoaiabbmkdpaaQFnExactFmOfx8
namespace Go.Proofs.Ytjfoaiabbmkdpaa.QFnExactFmOf
open Go.RowKit Go.Proofs.YtjfoaiabbmkdpaaW.PrintWords Go.Proofs.YtjfoaiabbmkdpaaW.PrintLast Go.Proofs.YtjfoaiabbmkdpaaW.PrintMore
attribute [local go_sem] max2_int min2_int max_two min_two max_three min_three max_four min_four   -- for this text's walks alone
set_option linter.unusedVariables false
set_option linter.unusedSimpArgs false
/-! ### impl_digits: function 64 -/
def impl_digits.l0 : Nat → Int → List Int → Int → Int → Option (List Int)
 | 0, _, _, _, _ => none
 | k + 1, x0, x5, x6, x7 => if x7 < x6 then (if x5.length < 17592186044416 then (impl_digits.l0 k (x0 / 2) (x5 ++ [Go.bits .and .i64 x0 1]) x6 (wrap64 (x7 + 1))) else (none)) else (some x5)
def impl_digits.f (k : Nat) (a0 : Int) (a1 : Int) : Option (List Int) := impl_digits.l0 k a0 ([] : List Int) a1 0
set_option maxHeartbeats 8000000 in
set_option maxRecDepth 100000 in
theorem impl_digits.calls (k : Nat) (a0 : Int) (a1 : Int) (r : List Int) (w : World) (h : impl_digits.f k a0 a1 = some r) :
  Calls Try.prog 64 #[.int .i64 a0, .int .i64 a1] w fun e w' => ∃ v0_ : Value, e = .returned (v0_) ∧ Kd.R (Kd.int .i64) 3 w' w.heap.size (fun _ => True) v0_ r ∧ Below w.heap.size w w' := by
 have HB:=mk0 (Below.refl w.heap.size w)
 have H:(impl_digits.l0 k a0 ([]:List Int) a1 0) = some r:=h
 clear h
 have H':=mk0 H
 clear H
 go_enter Try.func64,Try.ntmps64
 go_wp2
 go_loopg [0,5,7] k (fun kq v0 v5 v7 w'=>∃ (x0_1:Int) (x5_1:List Int) (x7_1:Int),v0 = .int .i64 x0_1 ∧ v7 = .int .i64 x7_1 ∧ Aside0 (impl_digits.l0 kq x0_1 x5_1 a1 x7_1 = some r) ∧ Aside0 (kq ≤ k) ∧ Aside0 (Kd.R (Kd.int .i64) 3 w' w.heap.size (fun _=>True) v5 x5_1) ∧ Aside0 (Below w.heap.size w w'))
 case atStart=>exact⟨(a0),(([]:List Int)),(0),eS,eS,H',⟨Nat.le_refl _⟩,⟨by first|exact Kd.R_nil _ _ _ _ _|exact Kd.N_nil _ _ _ _ _|exact Kd.V_nil _ _ _ _ _|exact Kd.Q_nil _ _ _ _ _|exact Kd.S_nil _ _ _ _ _⟩,⟨kB HB.out⟩⟩
 case round =>
  clear H'
  try clear p2
  obtain⟨x0_1,x5_1,x7_1,rfl,rfl,HA,HK1,HO_5,HB⟩:=hrel
  cases gk with
  | zero=>exact absurd HA.out (by simp [impl_digits.l0])
  | succ k1 =>
   have H:=HA.out
   clear HA
   simp only [impl_digits.l0] at H
   by_cases c3:x7_1 < a1
   ·rw [if_pos c3] at H
    have c3b0:decide (x7_1 < a1) = true:=decide_eq_true c3
    clear c3
    by_cases c4:x5_1.length < 17592186044416
    ·rw [if_pos c4] at H
     have LMc4:=mk0 c4
     clear c4
     obtain⟨y393,hy393⟩:∃ y_:List Int,y_ = (x5_1 ++ [Go.bits .and .i64 x0_1 1]):=⟨_,rfl⟩
     first|(with_reducible replace H:=yB hy393 H)|rw [← hy393] at H|skip
     have Ny393:=mk0 hy393
     clear hy393
     have H':=mk0 H
     clear H
     go_wp2_with (first|((with_reducible refine gate_builtin (b:=.append) (xs:=#[.tmp 9,.tmp 12]) rfl ?_);at_builtin;refine Kd.R_append (Kd.int .i64) (w0:=w) w.heap.size rfl (.tmp 9) (.tmp 12) 23 3 (.int .i64 0) 8 rfl Try.underlying23 info3 rfl (by decide) (by omega) u5 x5_1 (Go.bits .and .i64 x0_1 1) [.int .i64 (Go.bits .and .i64 x0_1 1)] (fun _=>True) (fun _=>False) rfl rfl ?aP (fun _ hk=>hk.elim) ?aF ?aO ?aB ?aS ?aL ?_;(case aP=>exact rfl);(case aB=>exact (kB HB.out));(case aF=>exact (fun _ _=>trivial));(case aO=>exact (rR HO_5.out));(case aS=>exact (kZ HB.out));(case aL=>have:=LMc4.out;omega);intro v394 w5 ho hb hg hat;rw [← Ny393.out] at ho;replace HB:=mk0 (hb);have HO395:=mk0 (ho);clear HO_5 ho hb hg hat))
     go_roundg k1
     case measure=>have:=HK1.out;omega
     case rel=>exact⟨(x0_1 / 2),(y393),(wrap64 (x7_1 + 1)),eS,eS,H',⟨by have:=HK1.out;omega⟩,⟨rR HO395.out⟩,⟨kB HB.out⟩⟩
    ·rw [if_neg c4] at H
     exact nn H
   ·rw [if_neg c3] at H
    have c3b0:decide (x7_1 < a1) = false:=decide_eq_false c3
    clear c3
    obtain rfl:=Option.some.inj H
    go_wp2
    go_ret
    exact⟨_,eR,rR HO_5.out,kB HB.out⟩
/-! ### impl_areAll_63: areAll at the literal 63, which captures a number -/
def impl_areAll_63.f (l0 : List Int) (a1 : Int) : Option (Bool) := if l0.length ≤ maxLen ∧ Fv.ok63 a1 then some (l0.all (Fv.p63 a1)) else none
theorem impl_areAll_63.calls {g : Nat} (A0 : Option Addr) (c0 : Nat) (l0 : List Int) (a1 : Int) (r : Bool) (w : World) (hr0 : Kd.C (Kd.int .i64) w A0 l0.length l0) (hc0 : l0.length ≤ c0) (hb : w.heap[g]? = some (.cells #[.int .i64 a1] 3)) (h : impl_areAll_63.f l0 a1 = some r) :
    Calls Try.prog 60 #[.slice A0 l0.length c0, .func (.func 63) #[] #[.pointer (some ⟨g, 0, none⟩)]] w fun e w' => e = .returned (.bool r) ∧ Below w.heap.size w w' := by
  unfold impl_areAll_63.f at h
  by_cases hm : l0.length ≤ maxLen ∧ Fv.ok63 a1
  · rw [if_pos hm] at h
    obtain rfl := Option.some.inj h
    exact Fv.areAll 63 _ _ (enters_of Try.func63 (by kernel_rfl) rfl) A0 c0 l0 w hr0 hc0 hm.1 (Fv.tells63 g a1 w hb hm.2)
  · rw [if_neg hm] at h
    exact absurd h (by simp)
/-! ### impl_PackOf: function 49 -/
mutual
def impl_PackOf.j0 : Nat → List Int → Bool → Int → Option (Int × Int × Int × List Int × Bool)
 | 0, _, _, _ => none
 | k + 1, x0, x29, x397000 => if x29 = true then (some (0, 0, 0, ([] : List Int), false)) else (impl_PackOf.l0 k x0 ([] : List Int) x0 (x0.length : Int) 0 x397000)
def impl_PackOf.l0 : Nat → List Int → List Int → List Int → Int → Int → Int → Option (Int × Int × Int × List Int × Bool)
 | 0, _, _, _, _, _, _ => none
 | k + 1, x0, x6, x31, x32, x33, x397000 => if x33 < x32 then (if 0 ≤ x33 then (if x33 < (x31.length : Int) then ((impl_digits.f k (rd x31 x33) x397000).bind fun t401 => (if x6.length + t401.length < 17592186044416 then (impl_PackOf.l0 k x0 (x6 ++ t401) x31 x32 (wrap64 (x33 + 1)) x397000) else (none))) else (none)) else (none)) else ((impl_bitsOf.f k x6).bind fun bt407 => (some (x397000, (x0.length : Int), bt407.1, bt407.2, true)))
end
def impl_PackOf.f (k : Nat) (l0 : List Int) (a1 : Int) : Option (Int × Int × Int × List Int × Bool) := (impl_within.f a1 0 32).bind fun t398 => (if t398 = true then (if (l0.length : Int) > 5000 then (impl_PackOf.j0 k l0 true a1) else (if (wrap64 ((l0.length : Int) * a1)) > 5000 then (impl_PackOf.j0 k l0 true a1) else ((impl_areAll_63.f l0 a1).bind fun t399 => (impl_PackOf.j0 k l0 (!t399) a1)))) else (impl_PackOf.j0 k l0 true a1))
def impl_PackOf.T9 : Bool × List (List Nat × List Nat) := (true, [([], []), ([], []), ([1], [1]), ([], []), ([3], [3]), ([0, 2, 4], [0, 2, 4]), ([5, 4, 0, 1, 2, 3, 4, 5], [5]), ([6, 0, 1, 2, 3, 4, 5, 6], [])])
def impl_PackOf.B9 : List Nat := [0, 0, 2, 0, 8, 31, 63, 127]
theorem impl_PackOf.tab9 : rtab .any (opsOf Try.f49 9) = impl_PackOf.T9 := by kernel_rfl
theorem impl_PackOf.bits9 : waitsOk impl_PackOf.T9.2 impl_PackOf.B9 = true := by kernel_rfl
set_option maxHeartbeats 8000000 in
set_option maxRecDepth 100000 in
theorem impl_PackOf.calls (k : Nat) (A0 : Option Addr) (c0 : Nat) (l0 : List Int) (a1 : Int) (r1 : Int) (r2 : Int) (r3 : Int) (r4 : List Int) (r5 : Bool) (w : World) (hr0 : Kd.C (Kd.int .i64) w A0 l0.length l0) (hc0 : l0.length ≤ c0) (h : impl_PackOf.f k l0 a1 = some (r1, r2, r3, r4, r5)) :
  Calls Try.prog 49 #[.slice A0 l0.length c0, .int .i64 a1] w fun e w' => ∃ v3_ : Value, e = .returned (.tuple #[.agg #[.int .i64 r1, .int .i64 r2, .int .i64 r3, v3_], .bool r5]) ∧ Kd.R (Kd.int .u64) 67 w' w.heap.size (fun _ => True) v3_ r4 ∧ Below w.heap.size w w' := by
 have hu31:=Try.underlying31
 have HR0:=mk0 hr0
 have HC0:=mk0 hc0
 clear hr0 hc0
 have HB:=mk0 (Below.refl w.heap.size w)
 have H:((impl_within.f a1 0 32).bind fun t398=>(if t398 = true then (if (l0.length:Int) > 5000 then (impl_PackOf.j0 k l0 true a1) else (if (wrap64 ((l0.length:Int) * a1)) > 5000 then (impl_PackOf.j0 k l0 true a1) else ((impl_areAll_63.f l0 a1).bind fun t399=>(impl_PackOf.j0 k l0 (!t399) a1)))) else (impl_PackOf.j0 k l0 true a1))) = some (r1,r2,r3,r4,r5):=h
 clear h
 have HC3:=mk0 H
 clear H
 go_enter Try.func49,Try.ntmps49
 go_upto_region 1 with (first|((with_reducible refine gate_dst (N:=3) rfl ?_);(try (refine gate_guard (by rfl) ?_;dsimp only));refine box_event ?hg (N:=3) ?hd (cs:=#[.int .i64 a1]) (t:=3) ?hr ?_;(case hd=>rfl);(case hg=>rfl);(case hr=>first|(go_simp;done)|(go_simp;rfl));intro gb396 hg w4 hbox hb;have BK396:=mk0 (hbox);have GW396:=mk0 ((by rw [hg];exact (kZ HB.out):w.heap.size ≤ gb396));have GE396:=mk0 ((by rw [hg];exact (kZ HB.out):w.heap.size ≤ gb396));replace HB:=mk0 (kS HB.out hb);clear hb hbox hg)|((with_reducible refine gate_dst (N:=4) rfl ?_);(try (refine gate_guard (by rfl) ?_;dsimp only));refine box_event ?hg (N:=4) ?hd (cs:=#[.int .i64 0,.int .i64 0,.int .i64 0,.slice none 0 0]) (t:=31) ?hr ?_;(case hd=>rfl);(case hg=>rfl);(case hr=>first|(go_simp;done)|(go_simp;rfl));intro gb397 hg w5 hbox hb;have BK397:=mk0 (hbox);have GW397:=mk0 ((by rw [hg];exact (kZ HB.out):w.heap.size ≤ gb397));have GE397:=mk0 ((by rw [hg];exact (kZ HB.out):w.heap.size ≤ gb397));replace HB:=mk0 (kS HB.out hb);have NB396_397:=mk0 ((by rw [hg];exact Nat.ne_of_lt (kL BK396.out):gb396 ≠ gb397));have NB397_396:=mk0 ((by rw [hg];exact Nat.ne_of_gt (kL BK396.out):gb397 ≠ gb396));replace BK396:=mk0 (kK BK396.out hb);clear hb hbox hg))
 (try simp only [Act.put,sA,sO,sS])
 go_cut [29] (fun v29 wc=>∃ (kq:Nat) (x29_2:Bool),v29 = .bool x29_2 ∧ Aside0 (impl_PackOf.j0 kq l0 x29_2 a1 = some (r1,r2,r3,r4,r5)) ∧ Aside0 (kq ≤ k) ∧ Aside0 (wc.heap[gb396]? = some (.cells #[.int .i64 a1] 3 (0,0))) ∧ Aside0 (wc.heap[gb397]? = some (.cells #[.int .i64 0,.int .i64 0,.int .i64 0,(.slice none 0 0)] 31 (0,0))) ∧ Aside0 (Below w.heap.size w wc))
 case first =>
  have H:=HC3.out
  clear HC3
  replace H:=bE H
  obtain⟨t398,A6,H⟩:=H
  by_cases c7:t398 = true
  rotate_left
  ·replace c7:=Bool.eq_false_iff.mpr c7
   subst c7
   replace H:=iF H
   have H':=mk0 H
   clear H
   have hnb18:=NB396_397.out
   have hnc18:=NB397_396.out
   have hcz19_0:w5.cell? ⟨gb396,0,none⟩ = some (.int .i64 a1):=(blk_cell BK396.out 0).trans rfl
   have hfz19_0:=blk_frozen BK396.out 0
   go_wp2_with (first|((with_reducible refine gate_callee (f:=42) rfl ?_);refine gL (some 10) Try.func42 #[.int .i64 a1,.int .i64 0,.int .i64 32] ?_;(with_reducible refine (impl_within.calls a1 0 32 false _ A6.out).mono ?_);rintro e w' ⟨rfl,⟨nd,rfl⟩⟩;refine⟨_,rfl,?_⟩))
   go_meet
   case rel=>exact⟨_,(true),eS,H',⟨by first|omega|exact Nat.le_refl _⟩,⟨kN BK396.out⟩,⟨kN BK397.out⟩,⟨kB HB.out⟩⟩
  subst c7
  replace H:=iT H
  by_cases c8:(l0.length:Int) > 5000
  ·rw [if_pos c8] at H
   have c8b0:decide (5000 < (l0.length:Int)) = true:=decide_eq_true c8
   have c8b1:decide (5000 < l0.length) = true:=decide_eq_true (by omega)
   clear c8
   (first|rw [c8b0]|(simp only [i64_w,i32_w];rw [c8b0])|skip)
   have H':=mk0 H
   clear H
   have hnb9:=NB396_397.out
   have hnc9:=NB397_396.out
   have hcz10_0:w5.cell? ⟨gb396,0,none⟩ = some (.int .i64 a1):=(blk_cell BK396.out 0).trans rfl
   have hfz10_0:=blk_frozen BK396.out 0
   go_wp2_with (first|((with_reducible refine gate_callee (f:=42) rfl ?_);refine gL (some 10) Try.func42 #[.int .i64 a1,.int .i64 0,.int .i64 32] ?_;(with_reducible refine (impl_within.calls a1 0 32 true _ A6.out).mono ?_);rintro e w' ⟨rfl,⟨nd,rfl⟩⟩;refine⟨_,rfl,?_⟩))
   go_meet
   case rel=>exact⟨_,(true),eS,H',⟨by first|omega|exact Nat.le_refl _⟩,⟨kN BK396.out⟩,⟨kN BK397.out⟩,⟨kB HB.out⟩⟩
  rw [if_neg c8] at H
  have c8b0:decide (5000 < (l0.length:Int)) = false:=decide_eq_false c8
  have c8b1:decide (5000 < l0.length) = false:=decide_eq_false (by omega)
  clear c8
  (first|rw [c8b0]|(simp only [i64_w,i32_w];rw [c8b0])|skip)
  by_cases c11:(wrap64 ((l0.length:Int) * a1)) > 5000
  ·rw [if_pos c11] at H
   have c11b0:decide (5000 < (wrap64 ((l0.length:Int) * a1))) = true:=decide_eq_true c11
   clear c11
   have H':=mk0 H
   clear H
   have hnb12:=NB396_397.out
   have hnc12:=NB397_396.out
   have hcz13_0:w5.cell? ⟨gb396,0,none⟩ = some (.int .i64 a1):=(blk_cell BK396.out 0).trans rfl
   have hfz13_0:=blk_frozen BK396.out 0
   go_wp2_with (first|((with_reducible refine gate_callee (f:=42) rfl ?_);refine gL (some 10) Try.func42 #[.int .i64 a1,.int .i64 0,.int .i64 32] ?_;(with_reducible refine (impl_within.calls a1 0 32 true _ A6.out).mono ?_);rintro e w' ⟨rfl,⟨nd,rfl⟩⟩;refine⟨_,rfl,?_⟩))
   go_meet
   case rel=>exact⟨_,(true),eS,H',⟨by first|omega|exact Nat.le_refl _⟩,⟨kN BK396.out⟩,⟨kN BK397.out⟩,⟨kB HB.out⟩⟩
  rw [if_neg c11] at H
  have c11b0:decide (5000 < (wrap64 ((l0.length:Int) * a1))) = false:=decide_eq_false c11
  clear c11
  replace H:=bE H
  obtain⟨t399,A14,H⟩:=H
  have H':=mk0 H
  clear H
  have hnb15:=NB396_397.out
  have hnc15:=NB397_396.out
  have hcz16_0:w5.cell? ⟨gb396,0,none⟩ = some (.int .i64 a1):=(blk_cell BK396.out 0).trans rfl
  have hfz16_0:=blk_frozen BK396.out 0
  go_wp2_with (first|((with_reducible refine gate_callee (f:=42) rfl ?_);refine gL (some 10) Try.func42 #[.int .i64 a1,.int .i64 0,.int .i64 32] ?_;(with_reducible refine (impl_within.calls a1 0 32 true _ A6.out).mono ?_);rintro e w' ⟨rfl,⟨nd,rfl⟩⟩;refine⟨_,rfl,?_⟩)|(go_at_call 60;(with_reducible refine (impl_areAll_63.calls _ _ l0 a1 t399 _ ?side1 ?side2 ?side3 A14.out).mono ?_);(case side1=>repeat (first|exact (Kd.C_below HR0.out (kB HB.out))|(with_reducible first|apply aC|apply nC|apply dC)));(case side2=>exact HC0.out);(case side3=>exact by (with_reducible repeat (first|apply nB|apply dB|apply aB));exact BK396.out);rintro e w17 ⟨rfl,hb⟩;replace BK396:=mk0 (kK BK396.out hb);replace BK397:=mk0 (kK BK397.out hb);replace HB:=mk0 (kS HB.out hb);(try clear hb)))
  go_meet
  case rel=>exact⟨_,(!t399),eS,H',⟨by first|omega|exact Nat.le_refl _⟩,⟨kN BK396.out⟩,⟨kN BK397.out⟩,⟨kB HB.out⟩⟩
 case rest =>
  clear HC3
  try clear c1
  try clear p2
  try clear c4
  try clear p6
  try clear c7
  try clear c8
  try clear c8b0
  try clear c8b1
  try clear c9
  try clear c11
  try clear c11b0
  try clear c12
  try clear c15
  try clear c18
  try clear hcz10_0
  try clear hcz13_0
  try clear hcz16_0
  try clear hcz19_0
  try clear hfz10_0
  try clear hfz13_0
  try clear hfz16_0
  try clear hfz19_0
  obtain⟨kq,x29_2,rfl,HA,HJ2,BK396,BK397,HB⟩:=hcut
  cases kq with
  | zero=>exact absurd HA.out (by simp [impl_PackOf.j0])
  | succ kj2 =>
   have H:=HA.out
   clear HA
   simp only [impl_PackOf.j0] at H
   by_cases c20:x29_2 = true
   ·subst c20
    replace H:=iT H
    simp only [Option.some.injEq,Prod.mk.injEq] at H
    obtain⟨rfl,rfl,rfl,rfl,rfl⟩:=H
    have hnb21:=NB397_396.out
    have hnc21:=NB396_397.out
    obtain⟨hcz22_0,hcz22_1,hcz22_2,hcz22_3,hfz22_0,hfz22_1,hfz22_2,hfz22_3⟩:=cz4 BK397.out
    go_wp2
    refine bodyPost_ret (results_ct rfl _ _ gb397 31 #[.int .i64 0,.int .i64 0,.int .i64 0,.slice none 0 0] (0,0) _ rfl (by (with_reducible repeat (first|apply nB|apply dB|apply aB));refine blk_put (cs:=#[.int .i64 0,.int .i64 0,.int .i64 0,.slice none 0 0]) ?_ 3 _ rfl;(with_reducible repeat (first|apply nB|apply dB|apply aB));refine blk_put (cs:=#[.int .i64 0,.int .i64 0,.int .i64 0,.slice none 0 0]) ?_ 2 _ rfl;(with_reducible repeat (first|apply nB|apply dB|apply aB));refine blk_put (cs:=#[.int .i64 0,.int .i64 0,.int .i64 0,.slice none 0 0]) ?_ 1 _ rfl;(with_reducible repeat (first|apply nB|apply dB|apply aB));refine blk_put (cs:=#[.int .i64 0,.int .i64 0,.int .i64 0,.slice none 0 0]) ?_ 0 _ rfl;(with_reducible repeat (first|apply nB|apply dB|apply aB));exact BK397.out) Try.underlying31 rfl (by kernel_rfl)) rfl ?_
    exact⟨_,eR,by first|exact Kd.R_nil _ _ _ _ _|exact Kd.N_nil _ _ _ _ _|exact Kd.V_nil _ _ _ _ _|exact Kd.Q_nil _ _ _ _ _|exact Kd.S_nil _ _ _ _ _,kB HB.out⟩
   replace c20:=Bool.eq_false_iff.mpr c20
   subst c20
   replace H:=iF H
   have H':=mk0 H
   clear H
   go_wp2
   go_loopg [6,33] kj2 (fun kq v6 v33 w'=>∃ (x6_2:List Int) (x33_2:Int),v33 = .int .i64 x33_2 ∧ Aside0 (impl_PackOf.l0 kq l0 x6_2 l0 (l0.length:Int) x33_2 a1 = some (r1,r2,r3,r4,r5)) ∧ Aside0 (kq ≤ kj2) ∧ Aside0 (Kd.R (Kd.int .i64) 3 w' w.heap.size (fun k_=>k_ ≠ gb396) v6 x6_2) ∧ Aside0 (w'.heap[gb396]? = some (.cells #[.int .i64 a1] 3 (0,0))) ∧ Aside0 (w'.heap[gb397]? = some (.cells #[.int .i64 0,.int .i64 0,.int .i64 0,(.slice none 0 0)] 31 (0,0))) ∧ Aside0 (Below w.heap.size w w'))
   case atStart=>exact⟨(([]:List Int)),(0),eS,H',⟨Nat.le_refl _⟩,⟨by first|exact Kd.R_nil _ _ _ _ _|exact Kd.N_nil _ _ _ _ _|exact Kd.V_nil _ _ _ _ _|exact Kd.Q_nil _ _ _ _ _|exact Kd.S_nil _ _ _ _ _⟩,⟨kN BK396.out⟩,⟨kN BK397.out⟩,⟨kB HB.out⟩⟩
   case round =>
    clear H'
    try clear c1
    try clear c2
    try clear p2
    try clear c4
    try clear p6
    try clear c7
    try clear c8
    try clear c8b0
    try clear c8b1
    try clear c9
    try clear c11
    try clear c11b0
    try clear c12
    try clear c15
    try clear c18
    try clear c20
    try clear c21
    try clear hcz10_0
    try clear hcz13_0
    try clear hcz16_0
    try clear hcz19_0
    try clear hcz22_0
    try clear hcz22_1
    try clear hcz22_2
    try clear hcz22_3
    try clear hfz10_0
    try clear hfz13_0
    try clear hfz16_0
    try clear hfz19_0
    try clear hfz22_0
    try clear hfz22_1
    try clear hfz22_2
    try clear hfz22_3
    try clear p2
    try clear p6
    obtain⟨x6_2,x33_2,rfl,HA,HK2,HO_6,BK396,BK397,HB⟩:=hrel
    cases gk with
    | zero=>exact absurd HA.out (by simp [impl_PackOf.l0])
    | succ k2 =>
     have H:=HA.out
     clear HA
     simp only [impl_PackOf.l0] at H
     by_cases c23:x33_2 < (l0.length:Int)
     ·rw [if_pos c23] at H
      have c23b0:decide (x33_2 < (l0.length:Int)) = true:=decide_eq_true c23
      clear c23
      by_cases c24:0 ≤ x33_2
      rotate_left
      ·rw [if_neg c24] at H
       exact nn H
      rw [if_pos c24] at H
      have c24b0:decide (0 ≤ x33_2) = true:=decide_eq_true c24
      clear c24
      by_cases c25:x33_2 < (l0.length:Int)
      rotate_left
      ·rw [if_neg c25] at H
       exact nn H
      rw [if_pos c25] at H
      have c25b0:decide (x33_2 < (l0.length:Int)) = true:=decide_eq_true c25
      clear c25
      replace H:=bE H
      obtain⟨t401,A26,H⟩:=H
      by_cases c27:x6_2.length + t401.length < 17592186044416
      rotate_left
      ·rw [if_neg c27] at H
       exact nn H
      rw [if_pos c27] at H
      have LMc27:=mk0 c27
      clear c27
      obtain⟨y404,hy404⟩:∃ y_:List Int,y_ = (x6_2 ++ t401):=⟨_,rfl⟩
      first|(with_reducible replace H:=yB hy404 H)|rw [← hy404] at H|skip
      have Ny404:=mk0 hy404
      clear hy404
      have H':=mk0 H
      clear H
      have p400:0 ≤ (x33_2:Int):=oD
      have q400:x33_2 < (l0.length:Int):=oD
      obtain⟨ad400,e400,hx400_0⟩:=Kd.at_int HR0.out x33_2 p400 q400
      cases e400
      replace hx400_0:=(HB.out.cell (World.block_lt_of_cell? w _ hx400_0)).trans hx400_0
      replace p400:=eq_true p400
      replace q400:=eq_true q400
      have hnb28:=NB396_397.out
      have hnc28:=NB397_396.out
      have hcz29_0:wr.cell? ⟨gb396,0,none⟩ = some (.int .i64 a1):=(blk_cell BK396.out 0).trans rfl
      have hfz29_0:=blk_frozen BK396.out 0
      go_wp2_with (first|((with_reducible refine gate_callee (f:=64) rfl ?_);refine gL (some 40) Try.func64 #[.int .i64 (rd l0 x33_2),.int .i64 a1] ?_;(with_reducible refine (impl_digits.calls k2 (rd l0 x33_2) a1 t401 _ A26.out).mono ?_);rintro e w30 ⟨v402,rfl,ho0,hb⟩;refine⟨_,rfl,?_⟩;have HO403:=mk0 (Kd.R_lower (Kd.R_newB (Kd.R_new' ho0 (Kd.R_lt (rR HO_6.out))) (g:=gb396) (o:=.cells #[.int .i64 a1] 3 (0,0)) (kN BK396.out)) (kZ HB.out));replace HO_6:=mk0 (Kd.R_elder' (rR HO_6.out) (Kd.R_base ho0) hb);replace BK396:=mk0 (kK BK396.out hb);replace BK397:=mk0 (kK BK397.out hb);replace HB:=mk0 (kS HB.out hb);(try clear hb);(try clear ho0);obtain⟨Ao32,co32,eo32⟩:=Kd.R_slice HO403.out;subst eo32)|((with_reducible refine gate_builtin (b:=.append) (xs:=#[.tmp 37,.tmp 40]) rfl ?_);(try (refine gate_guard (by rfl) ?_;dsimp only));at_builtin;refine Kd.R_append_rows (Kd.int .i64) (w0:=w) w.heap.size rfl (.tmp 37) (.tmp 40) 23 3 (.int .i64 0) 8 rfl Try.underlying23 info3 rfl (by decide) (by omega) u6 x6_2 t401 _ _ _ (fun k_=>some k_ ≠ (.slice Ao32 t401.length co32:Value).ownBlock ∧ k_ ≠ gb396) (fun _=>False) rfl rfl ?aO ?aR (fun _ _ h=>h) (fun _ h=>h.elim) ?aF ?aB ?aS ?aL ?_;(case aR=>repeat (first|exact (Kd.R_reads' HO403.out).2.2|(with_reducible first|apply aC|apply nC|apply dC)));(case aB=>exact (kB HB.out));(case aF=>exact (fun k_ hk=>⟨Kd.fresh' (Kd.R_lt (rR HO403.out)) k_ hk,Kd.freshB (g:=gb396) (kN BK396.out) k_ hk⟩));(case aO=>exact (rR (Kd.R_mono HO_6.out (fun _ hk=>⟨hk.2,hk.1⟩))));(case aS=>exact (kZ HB.out));(case aL=>have:=LMc27.out;omega);intro v405 w31 ho hb hg hat;rw [← Ny404.out] at ho;replace BK396:=mk0 (blk_grown (kN BK396.out) hg (Kd.R_away HO_6.out (fun _ hk=>hk.1)));replace BK397:=mk0 (blk_grown (kN BK397.out) hg (Kd.R_ne HO_6.out BK397.out (by decide)));replace HO403:=mk0 (Kd.R_after (ok:=(fun k_=>k_ ≠ gb396)) (rR (Kd.R_mono HO403.out (fun _ hk=>⟨hk.2,hk.1.2⟩))) hg hat);replace HB:=mk0 (hb);have HO406:=mk0 (ho);clear HO_6 ho hb hg hat))
      go_roundg k2
      case measure=>have:=HJ2.out;have:=HK2.out;omega
      case rel=>exact⟨(y404),(wrap64 (x33_2 + 1)),eS,H',⟨by have:=HJ2.out;have:=HK2.out;omega⟩,⟨rR (Kd.R_mono HO406.out (fun _ hk=>hk.2))⟩,⟨kN BK396.out⟩,⟨kN BK397.out⟩,⟨kB HB.out⟩⟩
     rw [if_neg c23] at H
     have c23b0:decide (x33_2 < (l0.length:Int)) = false:=decide_eq_false c23
     clear c23
     replace H:=bE H
     obtain⟨⟨t407,t408⟩,A33,H⟩:=H
     dsimp only at H
     simp only [Option.some.injEq,Prod.mk.injEq] at H
     obtain⟨rfl,rfl,rfl,rfl,rfl⟩:=H
     try go_wp2
     replace HO_6:=mk0 (dR HO_6.out)
     replace BK396:=mk0 (dB BK396.out)
     replace BK397:=mk0 (dB BK397.out)
     replace HB:=mk0 (dZ HB.out)
     obtain⟨Ao35,co35,eo35⟩:=Kd.R_slice HO_6.out
     (first|subst eo35|(injection eo35 with f1_ f2_ f3_;have f4_:=f1_.symm;have f5_:=f3_.symm;clear f1_ f2_ f3_;subst f4_;subst f5_))
     refine start_ (n:=8) (S:=fun w'=>w'.cell? ⟨gb396,0,none⟩ = some (.int .i64 a1)) (ds:=[]) (bm 8 0) (by kernel_rfl) rfl (by kernel_rfl) ((blk_cell BK396.out 0).trans rfl) (fun hHeld=>?_);refine with_tabW impl_PackOf.tab9 impl_PackOf.bits9 (fun HT_ HW_=>?_)
     generalize wr.drew = w34 at HO_6 BK396 BK397 HB hHeld ⊢
     refine pU 1 (some 44) (bm 8 2) HT_ ?_
     refine pU 2 (some 45) (bm 8 6) HT_ ?_
     refine pU 3 (some 46) (bm 8 14) HT_ ?_
     refine take_ (i:=0) (N:=some 43) (v:=?_) (a':=?_) (bm 8 15) rfl rfl (take_ofW HT_.out HW_.out (by kernel_rfl)) (fun _ _ _ h=>h) (Or.inl ⟨by rfl,?_⟩) hHeld ?_ ?_
     rotate_left
     ·intro w' s0
      go_simp
      with_reducible rfl
     rotate_left
     ·simp only [Act.put,sA,sO,sS,i64_w,i32_w]
      rfl
     refine pO 4 (some 47) (bm 8 31) HT_ (fun K hK=>?_)
     refine gO Try.func48 #[.slice Ao35 x6_2.length co35] ?_
     with_reducible refine (impl_bitsOf.calls k2 _ _ x6_2 t407 t408 _ ?side1 ?side2 A33.out).mono ?_
     (case side1=>exact kC (Kd.R_reads' HO_6.out).2.2)
     (case side2=>exact (Kd.R_reads' HO_6.out).2.1)
     rintro e w36 ⟨v409,rfl,ho0,hb⟩
     refine⟨_,rfl,?_⟩
     replace HO_6:=mk0 (bR HO_6.out hb)
     have HO410:=mk0 (Kd.R_lower ho0 (kZ HB.out))
     replace BK396:=mk0 (kK BK396.out hb)
     replace BK397:=mk0 (kK BK397.out hb)
     replace HB:=mk0 (kS HB.out hb)
     (try clear hb)
     (try clear ho0)
     obtain⟨Ao37,co37,eo37⟩:=Kd.R_slice HO410.out
     (first|subst eo37|(injection eo37 with f1_ f2_ f3_;have f4_:=f1_.symm;have f5_:=f3_.symm;clear f1_ f2_ f3_;subst f4_;subst f5_))
     refine hK.out _ _ ((blk_cell BK396.out 0).trans rfl) (fun hHeld=>?_)
     clear hK K
     refine pN (some 47) ?_
     refine pU 5 (some 48) #[true,true,true,true,true,true,false,false] HT_ ?_
     refine pO 6 none #[true,true,true,true,true,true,true,false] HT_ (fun K hK=>?_)
     have hs38:w36.cell? ⟨gb397,0,none⟩ = some (.int .i64 0):=(blk_cell BK397.out 0).trans rfl
     have hfs38:=blk_frozen BK397.out 0
     have hns38_0:=NB396_397.out
     have hms38_0:=NB397_396.out
     have hs39:w36.cell? ⟨gb397,1,none⟩ = some (.int .i64 0):=(blk_cell BK397.out 1).trans rfl
     have hfs39:=blk_frozen BK397.out 1
     have hns39_0:=NB396_397.out
     have hms39_0:=NB397_396.out
     have hs40:w36.cell? ⟨gb397,2,none⟩ = some (.int .i64 0):=(blk_cell BK397.out 2).trans rfl
     have hfs40:=blk_frozen BK397.out 2
     have hns40_0:=NB396_397.out
     have hms40_0:=NB397_396.out
     have hs41:w36.cell? ⟨gb397,3,none⟩ = some (.slice none 0 0):=(blk_cell BK397.out 3).trans rfl
     have hfs41:=blk_frozen BK397.out 3
     have hns41_0:=NB396_397.out
     have hms41_0:=NB397_396.out
     refine skip_ (w1:=?_) (by rfl) rfl ?_ ?_
     rotate_left
     ·go_simp
      rfl
     refine hK.out _ _ (((cell_far (p:=⟨gb397,_,none⟩) NB396_397.out _).trans (((cell_far (p:=⟨gb397,_,none⟩) NB396_397.out _).trans (((cell_far (p:=⟨gb397,_,none⟩) NB396_397.out _).trans (((cell_far (p:=⟨gb397,_,none⟩) NB396_397.out _).trans (hHeld))))))))) (fun hHeld=>?_)
     clear hK K
     refine pU 7 (some 5) #[true,true,true,true,true,true,true,true] HT_ ?_
     refine pD HT_ ?_
     try go_wp2
     refine bodyPost_ret (results_ct rfl _ _ gb397 31 #[.int .i64 a1,.int .i64 (l0.length:Int),.int .i64 t407,.slice Ao37 t408.length co37] (0,0) _ rfl (by (with_reducible repeat (first|apply nB|apply dB|apply aB));refine blk_put (cs:=#[.int .i64 a1,.int .i64 (l0.length:Int),.int .i64 t407,.slice none 0 0]) ?_ 3 _ rfl;(with_reducible repeat (first|apply nB|apply dB|apply aB));refine blk_put (cs:=#[.int .i64 a1,.int .i64 (l0.length:Int),.int .i64 0,.slice none 0 0]) ?_ 2 _ rfl;(with_reducible repeat (first|apply nB|apply dB|apply aB));refine blk_put (cs:=#[.int .i64 a1,.int .i64 0,.int .i64 0,.slice none 0 0]) ?_ 1 _ rfl;(with_reducible repeat (first|apply nB|apply dB|apply aB));refine blk_put (cs:=#[.int .i64 0,.int .i64 0,.int .i64 0,.slice none 0 0]) ?_ 0 _ rfl;(with_reducible repeat (first|apply nB|apply dB|apply aB));exact BK397.out) Try.underlying31 rfl (by kernel_rfl)) rfl ?_
     exact⟨_,eR,by (with_reducible repeat (first|apply aR|apply nR|apply dR));exact Kd.R_mono (Kd.R_far (p:=⟨gb397,3,none⟩) (Kd.R_far (p:=⟨gb397,2,none⟩) (Kd.R_far (p:=⟨gb397,1,none⟩) (Kd.R_far (p:=⟨gb397,0,none⟩) (Kd.R_types HO410.out BK397.out (by decide)) (fun _ hk=>hk.2) (.int .i64 a1)) (fun _ hk=>hk.2) (.int .i64 (l0.length:Int))) (fun _ hk=>hk.2) (.int .i64 t407)) (fun _ hk=>hk.2) (.slice Ao37 t408.length co37)) (fun _ hk=>trivial),kB HB.out⟩
/-! ### impl_WidthOf: function 50 -/
def impl_WidthOf.f (k : Nat) (a0 : Int) : Option (Int) := if a0 < 0 then (some (-1)) else ((bits_Len.f k (IntKind.u64.wrap (a0))).bind fun t411 => (some t411))
set_option maxHeartbeats 8000000 in
set_option maxRecDepth 100000 in
theorem impl_WidthOf.calls (k : Nat) (a0 : Int) (r : Int) (w : World) (h : impl_WidthOf.f k a0 = some r) :
  Calls Try.prog 50 #[.int .i64 a0] w fun e w' => e = .returned (.int .i64 r) ∧ Drawn0 w w' := by
 have H:(if a0 < 0 then (some (-1)) else ((bits_Len.f k (IntKind.u64.wrap (a0))).bind fun t411=>(some t411))) = some r:=h
 clear h
 by_cases c2:a0 < 0
 ·rw [if_pos c2] at H
  have c2b0:decide (a0 < 0) = true:=decide_eq_true c2
  clear c2
  obtain rfl:=Option.some.inj H
  go_enter Try.func50,Try.ntmps50
  go_wp2
  go_ret
  exact⟨by first|rfl|(simp;done)|(simp [*];done),by repeat (first|exact Drawn0.refl _|apply Drawn0.step)⟩
 ·rw [if_neg c2] at H
  have c2b0:decide (a0 < 0) = false:=decide_eq_false c2
  clear c2
  replace H:=bE H
  obtain⟨t411,A3,H⟩:=H
  obtain rfl:=Option.some.inj H
  go_enter Try.func50,Try.ntmps50
  go_wp2_with (first|((with_reducible refine gate_callee (f:=65) rfl ?_);refine gL (some 7) Try.func65 #[.int .u64 (IntKind.u64.wrap (a0))] ?_;(with_reducible refine (bits_Len.calls k (IntKind.u64.wrap (a0)) t411 _ A3.out).mono ?_);rintro e w' ⟨rfl,⟨nd,rfl⟩⟩;refine⟨_,rfl,?_⟩))
  go_ret
  exact⟨by first|rfl|(simp;done)|(simp [*];done),by repeat (first|exact Drawn0.refl _|apply Drawn0.step)⟩
end Go.Proofs.Ytjfoaiabbmkdpaa.QFnExactFmOf
