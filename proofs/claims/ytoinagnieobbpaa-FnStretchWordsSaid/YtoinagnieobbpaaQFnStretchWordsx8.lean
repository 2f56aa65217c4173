-- A walk, made by walk.py, a program of this session's.
import Derived.Test.YtoinagnieobbpaaQFnStretchWordsx0
import Derived.Test.YtoinagnieobbpaaQFnStretchWordsx5
import Derived.Test.YtoinagnieobbpaaQFnStretchWordsx7
namespace Go.Proofs.Ytoinagnieobbpaa.QFnStretchWords
open Go.RowKit Go.Proofs.YtoinagnieobbpaaW.PrintWords Go.Proofs.YtoinagnieobbpaaW.PrintLast Go.Proofs.YtoinagnieobbpaaW.PrintMore
attribute [local go_sem] max2_int min2_int max_two min_two max_three min_three max_four min_four   -- for this text's walks alone
set_option linter.unusedVariables false
set_option linter.unusedSimpArgs false


/-! ### bytes_Clone: function 43 (by hand) -/
def bytes_Clone.f (l0 : List Int) : Option (List Int) := if l0.length < 17592186044416 then some l0 else none
theorem bytes_Clone.info : (Try.prog.info? 5).map (fun i => (i.zero, i.size, i.bytes)) = some (some (.int .u8 0), 1, 1) := by kernel_rfl
set_option maxHeartbeats 8000000 in
set_option maxRecDepth 100000 in
theorem bytes_Clone.calls (A0 : Option Addr) (c0 : Nat) (l0 : List Int) (r : List Int) (w : World) (hr0 : Kd.C (Kd.int .u8) w A0 l0.length l0) (hc0 : l0.length ≤ c0) (h : bytes_Clone.f l0 = some r) :
    Calls Try.prog 43 #[.slice A0 l0.length c0] w fun e w' => ∃ v0_ : Value, e = .returned (v0_) ∧ Kd.R (Kd.int .u8) 5 w' w.heap.size (fun _ => True) v0_ r ∧ Below w.heap.size w w' := by
  unfold bytes_Clone.f at h
  by_cases hm : l0.length < 17592186044416
  · rw [if_pos hm] at h
    obtain rfl := Option.some.inj h
    clear h
    have HB := Aside0.mk (Below.refl w.heap.size w)
    cases A0 with
    | none =>
      have hl : l0 = [] := by
        rcases Nat.eq_zero_or_pos l0.length with h0 | h0
        · exact List.length_eq_zero_iff.1 h0
        · obtain ⟨ad, e, _⟩ := hr0.2.2 h0
          cases e
      subst hl
      clear hr0 hc0 hm
      have he_ : ∀ w_ : World, (binOp .eql 22 (.slice none 0 c0) (.slice none 0 0)).run Try.prog w_ = .ok (.bool true) w_ := fun w_ => _root_.Go.Lib.run_eql_slice_nil w_ 22 5 none 0 c0 0 0 Try.underlying22
      go_enter Try.func43, Try.ntmps43
      go_wp2
      go_ret
      exact ⟨_, by first | rfl | (simp; done), Kd.R_nil _ _ _ _ _, HB.out⟩
    | some ad =>
      have HR0 := Aside0.mk hr0
      have HC0 := Aside0.mk hc0
      have LM := Aside0.mk hm
      clear hr0 hc0 hm
      have he_ : ∀ w_ : World, (binOp .eql 22 (.slice (some ad) l0.length c0) (.slice none 0 0)).run Try.prog w_ = .ok (.bool false) w_ := fun w_ => _root_.Go.Lib.run_eql_slice_nil w_ 22 5 (some ad) l0.length c0 0 0 Try.underlying22
      go_enter Try.func43, Try.ntmps43
      go_wp2_with (first | ((with_reducible refine gate_dst (N := 5) rfl ?_); refine Kd.R_lit (Kd.int .u8) _ 5 ?hg (N := 5) ?hd (xs := ([] : List Int)) (inner := []) (ok := fun _ => True) (okp := fun _ => True) ?hr ?hp (fun _ hk => hk) trivial (Below.refl _ _) (Nat.le_refl _) (by simp) ?_; (case hd => rfl); (case hg => rfl); (case hr => first | (go_simp; done) | (go_simp; rfl)); (case hp => exact (Reps.none _ _)); intro v138 w18 ho19 hb hg_ hnew_; clear hg_ hnew_; have n0_ := Aside0.mk (Kd.R_lower ho19 (below_size (by repeat (first | (with_reducible first | exact HB.out | apply below_alloc | apply pw_below_drewN | apply below_drew1) | exact HB.out)))); have n2_ := Aside0.mk (below_step (by repeat (first | (with_reducible first | exact HB.out | apply below_alloc | apply pw_below_drewN | apply below_drew1) | exact HB.out)) hb); clear HB; have HO139 := n0_; have HB := n2_; clear n0_ n2_; clear hb ho19) | ((with_reducible refine gate_builtin (b := .append) (xs := #[.tmp 5, .tmp 6]) rfl ?_); at_builtin; refine Kd.R_append_rows (Kd.int .u8) (w0 := w) w.heap.size rfl (.tmp 5) (.tmp 6) 22 5 (.int .u8 0) 1 rfl Try.underlying22 bytes_Clone.info rfl (by decide) (by omega) v138 ([] : List Int) l0 _ _ _ (fun _ => True) (fun _ => False) rfl rfl ?aO ?aR (fun _ _ h => h) (fun _ h => h.elim) ?aF ?aB ?aS ?aL ?_; (case aR => repeat (first | exact (Kd.C_below HR0.out HB.out) | (with_reducible refine Kd.C_alloc ?_ _) | (with_reducible refine Kd.C_drewN ?_ _) | (with_reducible refine Kd.C_drew ?_))); (case aB => exact (by repeat (first | (with_reducible first | exact HB.out | apply below_alloc | apply pw_below_drewN | apply below_drew1) | exact HB.out))); (case aF => exact (fun _ _ => trivial)); (case aO => exact (by (with_reducible repeat (first | apply Kd.R_alloc | apply Kd.R_drewN | apply Kd.R_drew)); exact HO139.out)); (case aS => exact (below_size (by repeat (first | (with_reducible first | exact HB.out | apply below_alloc | apply pw_below_drewN | apply below_drew1) | exact HB.out)))); (case aL => have := LM.out; simp only [List.length_nil, Nat.zero_add]; omega); intro v142 w22 ho hb hg hat; rw [List.nil_append] at ho; have n1_ := Aside0.mk (hb); have n2_ := Aside0.mk (ho); clear HB; clear HO139; have HB := n1_; have HO143 := n2_; clear n1_ n2_; clear ho hb hg hat))
      go_ret
      exact ⟨_, by first | rfl | (simp; done), by (with_reducible repeat (first | apply Kd.R_alloc | apply Kd.R_drewN | apply Kd.R_drew)); exact HO143.out, by repeat (first | (with_reducible first | exact HB.out | apply below_alloc | apply pw_below_drewN | apply below_drew1) | exact HB.out)⟩
  · rw [if_neg hm] at h
    exact absurd h (by simp)

/-! ### impl_StretchWord: function 17 -/
def impl_StretchWord.f (k : Nat) (l0 : List Int) (a1_0 : Int) (a1_1 : Int) (a1_2 : Int) : Option (List Int) := (impl_StretchOk.f k l0 a1_0 a1_1 a1_2).bind fun t203 => (if t203 = true then ((impl_suffixRows.f k l0).bind fun t204 => (if 0 ≤ a1_0 then (if a1_0 < (t204.length : Int) then (if 0 ≤ (rd t204 a1_0) then (if (rd t204 a1_0) ≤ (l0.length : Int) then (if 0 ≤ a1_2 then (if a1_2 ≤ ((l0.drop ((rd t204 a1_0) : Int).toNat).length : Int) then ((bytes_Clone.f ((l0.drop ((rd t204 a1_0) : Int).toNat).take (a1_2 : Int).toNat)).bind fun t210 => (some t210)) else (none)) else (none)) else (none)) else (none)) else (none)) else (none))) else (some ([] : List Int)))
theorem impl_StretchWord.mono : ∀ a0 a1 a2 a3 k, LeO (impl_StretchWord.f k a0 a1 a2 a3) (impl_StretchWord.f (k + 1) a0 a1 a2 a3) := by
 intro a0 a1 a2 a3 k
 unfold impl_StretchWord.f
 repeat' first|(with_reducible first|exact impl_StretchOk.mono _ _ _ _ _|exact impl_suffixRows.mono _ _|exact LeO.refl _|exact LeO.none _|refine LeO.ite ?_ ?_|refine LeO.bind ?_ (fun _ => ?_))|exact LeO.none _|refine LeO.ite ?_ ?_|refine LeO.bind ?_ (fun _ => ?_)
def impl_StretchWord.T3 : Bool × List (List Nat × List Nat) := (true, [([], []), ([], []), ([1], [1]), ([], []), ([3], [3]), ([2, 4], [2, 4]), ([5], [5]), ([0, 6], [0, 6]), ([], []), ([8], [8]), ([7, 9], [7, 9]), ([10, 2], [10]), ([11, 11, 0, 1, 2, 3, 4, 5, 6, 7, 8, 9, 10, 11], [11])])
def impl_StretchWord.B3 : List Nat := [0, 0, 2, 0, 8, 30, 62, 127, 0, 256, 1023, 2047, 4095]
theorem impl_StretchWord.tab3 : rtab .any (opsOf Try.f17 3) = impl_StretchWord.T3 := by kernel_rfl
theorem impl_StretchWord.bits3 : waitsOk impl_StretchWord.T3.2 impl_StretchWord.B3 = true := by kernel_rfl
abbrev impl_StretchWord.m0 : Array Bool := #[F,F,F,F,F,F,F,F,F,F,F,F,F]
abbrev impl_StretchWord.m1 : Array Bool := #[T,F,F,F,F,F,F,F,F,F,F,F,F]
abbrev impl_StretchWord.m2 : Array Bool := #[T,T,F,F,F,F,F,F,F,F,F,F,F]
abbrev impl_StretchWord.m3 : Array Bool := #[T,T,F,T,F,F,F,F,F,F,F,F,F]
abbrev impl_StretchWord.m4 : Array Bool := #[T,T,F,T,F,F,F,F,T,F,F,F,F]
abbrev impl_StretchWord.m5 : Array Bool := #[T,T,F,T,T,F,F,F,T,F,F,F,F]
abbrev impl_StretchWord.m6 : Array Bool := #[T,T,F,T,T,F,F,F,T,T,F,F,F]
abbrev impl_StretchWord.m7 : Array Bool := #[T,T,T,T,T,F,F,F,T,T,F,F,F]
abbrev impl_StretchWord.m8 : Array Bool := #[T,T,T,T,T,T,F,F,T,T,F,F,F]
abbrev impl_StretchWord.m9 : Array Bool := #[T,T,T,T,T,T,T,F,T,T,F,F,F]
abbrev impl_StretchWord.m10 : Array Bool := #[T,T,T,T,T,T,T,T,T,T,F,F,F]
abbrev impl_StretchWord.m11 : Array Bool := #[T,T,T,T,T,T,T,T,T,T,T,F,F]
abbrev impl_StretchWord.m12 : Array Bool := #[T,T,T,T,T,T,T,T,T,T,T,T,F]
abbrev impl_StretchWord.m13 : Array Bool := #[T,T,T,T,T,T,T,T,T,T,T,T,T]
set_option maxHeartbeats 8000000 in
set_option maxRecDepth 100000 in
theorem impl_StretchWord.calls (k : Nat) (A0 : Option Addr) (c0 : Nat) (l0 : List Int) (a1_0 : Int) (a1_1 : Int) (a1_2 : Int) (r : List Int) (w : World) (hr0 : Kd.C (Kd.int .u8) w A0 l0.length l0) (hc0 : l0.length ≤ c0) (h : impl_StretchWord.f k l0 a1_0 a1_1 a1_2 = some r) :
  Calls Try.prog 17 #[.slice A0 l0.length c0, .agg #[.int .i64 a1_0, .int .i64 a1_1, .int .i64 a1_2]] w fun e w' => ∃ v0_ : Value, e = .returned (v0_) ∧ Kd.R (Kd.int .u8) 5 w' w.heap.size (fun _ => True) v0_ r ∧ Below w.heap.size w w' := by
 have hu27:=Try.underlying27
 have HR0:=mk0 hr0
 have HC0:=mk0 hc0
 clear hr0 hc0
 have HB:=mk0 (Below.refl w.heap.size w)
 have H:((impl_StretchOk.f k l0 a1_0 a1_1 a1_2).bind fun t203=>(if t203 = true then ((impl_suffixRows.f k l0).bind fun t204=>(if 0 ≤ a1_0 then (if a1_0 < (t204.length:Int) then (if 0 ≤ (rd t204 a1_0) then (if (rd t204 a1_0) ≤ (l0.length:Int) then (if 0 ≤ a1_2 then (if a1_2 ≤ ((l0.drop ((rd t204 a1_0):Int).toNat).length:Int) then ((bytes_Clone.f ((l0.drop ((rd t204 a1_0):Int).toNat).take (a1_2:Int).toNat)).bind fun t210=>(some t210)) else (none)) else (none)) else (none)) else (none)) else (none)) else (none))) else (some ([]:List Int)))) = some r:=h
 clear h
 replace H:=Option.bind_eq_some_iff.mp H
 obtain⟨t203,A30,H⟩:=H
 replace H:(if t203 = true then ((impl_suffixRows.f k l0).bind fun t204=>(if 0 ≤ a1_0 then (if a1_0 < (t204.length:Int) then (if 0 ≤ (rd t204 a1_0) then (if (rd t204 a1_0) ≤ (l0.length:Int) then (if 0 ≤ a1_2 then (if a1_2 ≤ ((l0.drop ((rd t204 a1_0):Int).toNat).length:Int) then ((bytes_Clone.f ((l0.drop ((rd t204 a1_0):Int).toNat).take (a1_2:Int).toNat)).bind fun t210=>(some t210)) else (none)) else (none)) else (none)) else (none)) else (none)) else (none))) else (some ([]:List Int))) = some r:=H
 have A3:=mk0 A30
 clear A30
 by_cases c4:t203 = true
 rotate_left
 ·replace c4:=Bool.eq_false_iff.mpr c4
  subst c4
  have H1:(some ([]:List Int)) = some r:=by rw [if_neg (show ¬ (false = true) by decide)] at H;exact H
  clear H
  have H:=H1
  clear H1
  obtain rfl:=Option.some.inj H
  go_enter Try.func17,Try.ntmps17
  go_wp2_with (first|((with_reducible refine gate_dst (N:=3) rfl ?_);refine box_event ?hg (N:=3) ?hd (cs:=#[.int .i64 a1_0,.int .i64 a1_1,.int .i64 a1_2]) (t:=27) ?hr ?_;(case hd=>rfl);(case hg=>rfl);(case hr=>first|(go_simp;done)|(go_simp;rfl));intro gb202 hg w21 hbox hb;have BK202:=mk0 (hbox);have GW202:=mk0 ((by rw [hg];exact (kZ HB.out):w.heap.size ≤ gb202));have GE202:=mk0 ((by rw [hg];exact (kZ HB.out):w.heap.size ≤ gb202));replace HB:=mk0 (kS HB.out hb);clear hb hbox hg;obtain⟨hcz22_0,hcz22_1,hcz22_2,hfz22_0,hfz22_1,hfz22_2⟩:=cz3 BK202.out)|((with_reducible refine gate_callee (f:=14) rfl ?_);refine goesL_ (some 7) rfl rfl Try.func14 (by kernel_rfl) rfl #[.slice A0 l0.length c0,.agg #[.int .i64 a1_0,.int .i64 a1_1,.int .i64 a1_2]] rfl (by (try simp only [mA,mC,mN]);first|done|rfl|(simp only [lD,lT];done)|(simp only [lD,lT];rfl)) ?_;(with_reducible refine (impl_StretchOk.calls k _ _ l0 a1_0 a1_1 a1_2 false _ ?side1 ?side2 A3.out).mono ?_);(case side1=>exact kC (Kd.C_below HR0.out HB.out));(case side2=>exact HC0.out);rintro e w23 ⟨rfl,hb⟩;refine⟨_,rfl,?_⟩;replace BK202:=mk0 (kK BK202.out hb);replace HB:=mk0 (kS HB.out hb);(try clear hb)))
  go_ret
  exact⟨_,by first|rfl|(simp [errW_none,errW_some] <;> rfl)|(simp [*,errW_none,errW_some] <;> rfl),by first|exact Kd.R_nil _ _ _ _ _|exact Kd.N_nil _ _ _ _ _|exact Kd.V_nil _ _ _ _ _|exact Kd.Q_nil _ _ _ _ _|exact Kd.S_nil _ _ _ _ _,kB HB.out⟩

 subst c4
 have H1:((impl_suffixRows.f k l0).bind fun t204=>(if 0 ≤ a1_0 then (if a1_0 < (t204.length:Int) then (if 0 ≤ (rd t204 a1_0) then (if (rd t204 a1_0) ≤ (l0.length:Int) then (if 0 ≤ a1_2 then (if a1_2 ≤ ((l0.drop ((rd t204 a1_0):Int).toNat).length:Int) then ((bytes_Clone.f ((l0.drop ((rd t204 a1_0):Int).toNat).take (a1_2:Int).toNat)).bind fun t210=>(some t210)) else (none)) else (none)) else (none)) else (none)) else (none)) else (none))) = some r:=by rw [if_pos rfl] at H;exact H
 clear H
 have H:=H1
 clear H1
 replace H:=Option.bind_eq_some_iff.mp H
 obtain⟨t204,A50,H⟩:=H
 replace H:(if 0 ≤ a1_0 then (if a1_0 < (t204.length:Int) then (if 0 ≤ (rd t204 a1_0) then (if (rd t204 a1_0) ≤ (l0.length:Int) then (if 0 ≤ a1_2 then (if a1_2 ≤ ((l0.drop ((rd t204 a1_0):Int).toNat).length:Int) then ((bytes_Clone.f ((l0.drop ((rd t204 a1_0):Int).toNat).take (a1_2:Int).toNat)).bind fun t210=>(some t210)) else (none)) else (none)) else (none)) else (none)) else (none)) else (none)) = some r:=H
 have A5:=mk0 A50
 clear A50
 by_cases c6:0 ≤ a1_0
 rotate_left
 ·rw [if_neg c6] at H
  exact absurd H (by simp)
 rw [if_pos c6] at H
 have c6b0:decide (0 ≤ a1_0) = true:=decide_eq_true c6
 clear c6
 by_cases c7:a1_0 < (t204.length:Int)
 rotate_left
 ·rw [if_neg c7] at H
  exact absurd H (by simp)
 rw [if_pos c7] at H
 have c7b0:decide (a1_0 < (t204.length:Int)) = true:=decide_eq_true c7
 clear c7
 by_cases c8:0 ≤ (rd t204 a1_0)
 rotate_left
 ·rw [if_neg c8] at H
  exact absurd H (by simp)
 rw [if_pos c8] at H
 have c8b0:=eq_true c8
 have c8b1:decide (0 ≤ (rd t204 a1_0)) = true:=decide_eq_true c8
 clear c8
 by_cases c9:(rd t204 a1_0) ≤ (l0.length:Int)
 rotate_left
 ·rw [if_neg c9] at H
  exact absurd H (by simp)
 rw [if_pos c9] at H
 have c9b0:=eq_true c9
 have c9b1:decide ((rd t204 a1_0) ≤ (l0.length:Int)) = true:=decide_eq_true c9
 clear c9
 by_cases c10:0 ≤ a1_2
 rotate_left
 ·rw [if_neg c10] at H
  exact absurd H (by simp)
 rw [if_pos c10] at H
 have c10b0:=eq_true c10
 have c10b1:decide (0 ≤ a1_2) = true:=decide_eq_true c10
 clear c10
 by_cases c11:a1_2 ≤ ((l0.drop ((rd t204 a1_0):Int).toNat).length:Int)
 rotate_left
 ·rw [if_neg c11] at H
  exact absurd H (by simp)
 rw [if_pos c11] at H
 have c11b0:=eq_true c11
 have c11b1:decide (a1_2 ≤ ((l0.drop ((rd t204 a1_0):Int).toNat).length:Int)) = true:=decide_eq_true c11
 clear c11
 replace H:=Option.bind_eq_some_iff.mp H
 obtain⟨t210,A120,H⟩:=H
 replace H:(some t210) = some r:=H
 have A12:=mk0 A120
 clear A120
 obtain rfl:=Option.some.inj H
 go_enter Try.func17,Try.ntmps17
 try go_wp2_with (first|((with_reducible refine gate_dst (N:=3) rfl ?_);refine box_event ?hg (N:=3) ?hd (cs:=#[.int .i64 a1_0,.int .i64 a1_1,.int .i64 a1_2]) (t:=27) ?hr ?_;(case hd=>rfl);(case hg=>rfl);(case hr=>first|(go_simp;done)|(go_simp;rfl));intro gb202 hg w13 hbox hb;have BK202:=mk0 (hbox);have GW202:=mk0 ((by rw [hg];exact (kZ HB.out):w.heap.size ≤ gb202));have GE202:=mk0 ((by rw [hg];exact (kZ HB.out):w.heap.size ≤ gb202));replace HB:=mk0 (kS HB.out hb);clear hb hbox hg;obtain⟨hcz14_0,hcz14_1,hcz14_2,hfz14_0,hfz14_1,hfz14_2⟩:=cz3 BK202.out)|((with_reducible refine gate_callee (f:=14) rfl ?_);refine goesL_ (some 7) rfl rfl Try.func14 (by kernel_rfl) rfl #[.slice A0 l0.length c0,.agg #[.int .i64 a1_0,.int .i64 a1_1,.int .i64 a1_2]] rfl (by (try simp only [mA,mC,mN]);first|done|rfl|(simp only [lD,lT];done)|(simp only [lD,lT];rfl)) ?_;(with_reducible refine (impl_StretchOk.calls k _ _ l0 a1_0 a1_1 a1_2 true _ ?side1 ?side2 A3.out).mono ?_);(case side1=>exact kC (Kd.C_below HR0.out HB.out));(case side2=>exact HC0.out);rintro e w15 ⟨rfl,hb⟩;refine⟨_,rfl,?_⟩;replace BK202:=mk0 (kK BK202.out hb);replace HB:=mk0 (kS HB.out hb);(try clear hb)))
 have pi207:(0 ≤ (a1_0:Int)) = True:=eq_true (of_decide_eq_true (by first|(with_reducible assumption)|assumption))
 have qi207:(a1_0 < (t204.length:Int)) = True:=eq_true (of_decide_eq_true (by first|(with_reducible assumption)|assumption))
 replace BK202:=mk0 (dB BK202.out)
 replace HB:=mk0 (dZ HB.out)
 refine start_ (n:=13) (S:=fun w'=>w'.cell? ⟨gb202,0,none⟩ = some (.int .i64 a1_0) ∧ w'.cell? ⟨gb202,1,none⟩ = some (.int .i64 a1_1) ∧ w'.cell? ⟨gb202,2,none⟩ = some (.int .i64 a1_2)) (ds:=[]) impl_StretchWord.m0 (by kernel_rfl) rfl rfl (ck3 BK202.out) (fun hHeld=>?_);refine with_tabW impl_StretchWord.tab3 impl_StretchWord.bits3 (fun HT_ HW_=>?_)
 generalize w15.drew = w16 at BK202 HB hHeld ⊢
 refine pure_ (i:=0) (N:=some 9) (v:=?_) (a':=?_) impl_StretchWord.m1 rfl rfl (any_of HT_.out (by kernel_rfl)) (fun _ _ _ h=>h) (Or.inl ⟨by rfl,?_⟩) ?_ ?_
 rotate_left
 ·intro w'
  go_simp
  with_reducible rfl
 rotate_left
 ·simp only [Act.put,sA,sO,sS,i64_w,i32_w]
  rfl
 refine pure_ (i:=1) (N:=some 10) (v:=?_) (a':=?_) impl_StretchWord.m2 rfl rfl (any_of HT_.out (by kernel_rfl)) (fun _ _ _ h=>h) (Or.inl ⟨by rfl,?_⟩) ?_ ?_
 rotate_left
 ·intro w'
  go_simp
  with_reducible rfl
 rotate_left
 ·simp only [Act.put,sA,sO,sS,i64_w,i32_w]
  rfl
 refine pure_ (i:=3) (N:=some 12) (v:=?_) (a':=?_) impl_StretchWord.m3 rfl rfl (any_of HT_.out (by kernel_rfl)) (fun _ _ _ h=>h) (Or.inl ⟨by rfl,?_⟩) ?_ ?_
 rotate_left
 ·intro w'
  go_simp
  with_reducible rfl
 rotate_left
 ·simp only [Act.put,sA,sO,sS,i64_w,i32_w]
  rfl
 refine pure_ (i:=8) (N:=some 17) (v:=?_) (a':=?_) impl_StretchWord.m4 rfl rfl (any_of HT_.out (by kernel_rfl)) (fun _ _ _ h=>h) (Or.inl ⟨by rfl,?_⟩) ?_ ?_
 rotate_left
 ·intro w'
  go_simp
  with_reducible rfl
 rotate_left
 ·simp only [Act.put,sA,sO,sS,i64_w,i32_w]
  rfl
 refine take_ (i:=4) (N:=some 13) (v:=?_) (a':=?_) impl_StretchWord.m5 rfl rfl (take_ofW HT_.out HW_.out (by kernel_rfl)) (fun _ _ _ h=>h) (Or.inl ⟨by rfl,?_⟩) hHeld ?_ ?_
 rotate_left
 ·rintro w' ⟨s0,s1,s2⟩
  go_simp
  with_reducible rfl
 rotate_left
 ·simp only [Act.put,sA,sO,sS,i64_w,i32_w]
  rfl
 refine take_ (i:=9) (N:=some 18) (v:=?_) (a':=?_) impl_StretchWord.m6 rfl rfl (take_ofW HT_.out HW_.out (by kernel_rfl)) (fun _ _ _ h=>h) (Or.inl ⟨by rfl,?_⟩) hHeld ?_ ?_
 rotate_left
 ·rintro w' ⟨s0,s1,s2⟩
  go_simp
  with_reducible rfl
 rotate_left
 ·simp only [Act.put,sA,sO,sS,i64_w,i32_w]
  rfl
 refine one_ (i:=2) (N:=some 11) impl_StretchWord.m7 rfl rfl (one_of HT_.out (by kernel_rfl)) (by decide) (fun K hK=>?_)
 refine goes_ Try.func44 (by kernel_rfl) rfl #[.slice A0 l0.length c0] (by rfl) rfl rfl (by (try simp only [mA,mC,mN]);first|done|rfl|(simp only [lD,lT];done)|(simp only [lD,lT];rfl)) ?_
 with_reducible refine (impl_suffixRows.calls k _ _ l0 t204 _ ?side1 ?side2 A5.out).mono ?_
 (case side1=>exact kC (Kd.C_below HR0.out HB.out))
 (case side2=>exact HC0.out)
 rintro e w17 ⟨v205,rfl,ho0,hb⟩
 refine⟨_,rfl,?_⟩
 have HO206:=mk0 (Kd.R_lower ho0 (kZ HB.out))
 replace BK202:=mk0 (kK BK202.out hb)
 replace HB:=mk0 (kS HB.out hb)
 (try clear hb)
 (try clear ho0)
 obtain⟨Aob207,cob207,eob207⟩:=Kd.R_slice HO206.out
 subst eob207
 obtain⟨adb207,eb207,hxb207⟩:=Kd.at_int (Kd.R_reads' HO206.out).2.2 a1_0 (of_eq_true pi207) (of_eq_true qi207)
 cases eb207
 clear hxb207
 obtain⟨i018,hi018,_,hsz18,_⟩:=info_parts info5
 obtain⟨A18,hcut18,hA18,hC18⟩:=print_drop_of (P:=Try.prog) (Value.int .u8) 0 22 5 .i64 Try.underlying22 hi018 hsz18 A0 c0 l0 (rd t204 a1_0) (of_decide_eq_true (by first|(with_reducible assumption)|assumption)) (of_decide_eq_true (by first|(with_reducible assumption)|assumption)) HC0.out
 have HR208:=mk0 (Kd.C_of_reads (h1:=fun _=>rfl) (hA18 _ (Kd.reads_of_C HR0.out)))
 have HC208:=mk0 hC18
 clear hA18 hC18 hi018 hsz18
 obtain⟨i019,hi019,_,hsz19,_⟩:=info_parts info5
 obtain⟨hcut19,hA19,hC19⟩:=print_take_of (P:=Try.prog) (Value.int .u8) 0 22 5 .i64 Try.underlying22 hi019 hsz19 A18 (c0 - (rd t204 a1_0).toNat) (l0.drop ((rd t204 a1_0):Int).toNat) a1_2 (of_decide_eq_true (by first|(with_reducible assumption)|assumption)) (of_decide_eq_true (by first|(with_reducible assumption)|assumption)) HC208.out
 have hcut19n:=hcut19
 (try simp only [List.length_drop] at hcut19n)
 have HR209:=mk0 (Kd.C_of_reads (h1:=fun _=>rfl) (hA19 _ (Kd.reads_of_C HR208.out)))
 have HC209:=mk0 hC19
 clear hA19 hC19 hi019 hsz19
 refine hK.out _ _ (ck3 BK202.out) (fun hHeld=>?_)
 clear hK K
 refine norm_ (a':=?_) ?_ ?_
 rotate_left
 ·show Act.put _ (some 11) _ = _
  simp only [Act.put,sA,sO,sS,i64_w,i32_w]
  rfl
 refine one_ (i:=5) (N:=some 14) impl_StretchWord.m8 rfl rfl (one_of HT_.out (by kernel_rfl)) (by decide) (fun K hK=>?_)
 (obtain⟨ad207,e207,hx207_0⟩:=Kd.at_int (Kd.R_reads' HO206.out).2.2 a1_0 (of_eq_true pi207) (of_eq_true qi207);obtain rfl:adb207 = ad207:=(by injection e207))
 refine value_ (w1:=?_) (v:=?_) (by rfl) rfl ?_ ?_
 rotate_left 2
 ·go_simp
  constructor
  ·rfl
  ·rfl
 skip
 refine hK.out _ _ (ck3 BK202.out) (fun hHeld=>?_)
 clear hK K
 refine norm_ (a':=?_) ?_ ?_
 rotate_left
 ·show Act.put _ (some 14) _ = _
  simp only [Act.put,sA,sO,sS,i64_w,i32_w]
  rfl
 refine one_ (i:=6) (N:=some 15) impl_StretchWord.m9 rfl rfl (one_of HT_.out (by kernel_rfl)) (by decide) (fun K hK=>?_)
 skip
 refine value_ (w1:=?_) (v:=?_) (by rfl) rfl ?_ ?_
 rotate_left 2
 ·go_simp
  constructor
  ·rfl
  ·rfl
 clear hx207_0
 refine hK.out _ _ (ck3 BK202.out) (fun hHeld=>?_)
 clear hK K
 refine norm_ (a':=?_) ?_ ?_
 rotate_left
 ·show Act.put _ (some 15) _ = _
  simp only [Act.put,sA,sO,sS,i64_w,i32_w]
  rfl
 refine pure_ (i:=7) (N:=some 16) (v:=?_) (a':=?_) impl_StretchWord.m10 rfl rfl (any_of HT_.out (by kernel_rfl)) (fun _ _ _ h=>h) (Or.inl ⟨by rfl,?_⟩) ?_ ?_
 rotate_left
 ·intro w'
  go_simp
  with_reducible rfl
 rotate_left
 ·simp only [Act.put,sA,sO,sS,i64_w,i32_w]
  rfl
 refine pure_ (i:=10) (N:=some 19) (v:=?_) (a':=?_) impl_StretchWord.m11 rfl rfl (any_of HT_.out (by kernel_rfl)) (fun _ _ _ h=>h) (Or.inl ⟨by rfl,?_⟩) ?_ ?_
 rotate_left
 ·intro w'
  go_simp
  with_reducible rfl
 rotate_left
 ·simp only [Act.put,sA,sO,sS,i64_w,i32_w]
  rfl
 refine one_ (i:=11) (N:=some 20) impl_StretchWord.m12 rfl rfl (one_of HT_.out (by kernel_rfl)) (by decide) (fun K hK=>?_)
 refine goes_ Try.func43 (by kernel_rfl) rfl #[.slice A18 ((l0.drop ((rd t204 a1_0):Int).toNat).take (a1_2:Int).toNat).length (c0 - (rd t204 a1_0).toNat)] (by rfl) rfl rfl (by (try simp only [mA,mC,mN]);first|done|(rw [show ((l0.drop ((rd t204 a1_0):Int).toNat).take (a1_2:Int).toNat).length = a1_2.toNat from (by rw [List.length_take];have h_:(a1_2:Int) ≤ ((l0.drop ((rd t204 a1_0):Int).toNat).length:Int):=of_decide_eq_true (by first|(with_reducible assumption)|assumption);omega)] <;> rfl)|rfl|(simp only [lD,lT];done)|(simp only [lD,lT];rfl)) ?_
 with_reducible refine (bytes_Clone.calls _ _ ((l0.drop ((rd t204 a1_0):Int).toNat).take (a1_2:Int).toNat) t210 _ ?side1 ?side2 A12.out).mono ?_
 (case side1=>exact kC (Kd.C_below HR209.out HB.out))
 (case side2=>exact HC209.out)
 rintro e w20 ⟨v211,rfl,ho0,hb⟩
 refine⟨_,rfl,?_⟩
 replace HO206:=mk0 (bR HO206.out hb)
 have HO212:=mk0 (Kd.R_lower ho0 (kZ HB.out))
 replace BK202:=mk0 (kK BK202.out hb)
 replace HB:=mk0 (kS HB.out hb)
 (try clear hb)
 (try clear ho0)
 refine hK.out _ _ (ck3 BK202.out) (fun hHeld=>?_)
 clear hK K
 refine norm_ (a':=?_) ?_ ?_
 rotate_left
 ·show Act.put _ (some 20) _ = _
  simp only [Act.put,sA,sO,sS,i64_w,i32_w]
  rfl
 refine pure_ (i:=12) (N:=some 4) (v:=?_) (a':=?_) impl_StretchWord.m13 rfl rfl (any_of HT_.out (by kernel_rfl)) (fun _ _ _ h=>h) (Or.inl ⟨by rfl,?_⟩) ?_ ?_
 rotate_left
 ·intro w'
  go_simp
  with_reducible rfl
 rotate_left
 ·simp only [Act.put,sA,sO,sS,i64_w,i32_w]
  rfl
 refine done_ (done_of HT_.out (by kernel_rfl)) ?_
 try go_wp2
 go_ret
 exact⟨_,by first|rfl|(simp [errW_none,errW_some] <;> rfl)|(simp [*,errW_none,errW_some] <;> rfl),rR HO212.out,kB HB.out⟩
-- NOT PRINTED: function 81 (bytealg_Compare)


/-! ### bytes_Compare: function 67 (by hand) -/
def bytes_Compare.f (l0 : List Int) (l1 : List Int) : Option (Int) := if (l0.all Fv.isB && l1.all Fv.isB) = true then some (Fv.cmpB l0 l1) else none
theorem bytes_Compare.calls (A0 : Option Addr) (c0 : Nat) (l0 : List Int) (A1 : Option Addr) (c1 : Nat) (l1 : List Int) (r : Int) (w : World) (hr0 : Kd.C (Kd.int .u8) w A0 l0.length l0) (hc0 : l0.length ≤ c0) (hr1 : Kd.C (Kd.int .u8) w A1 l1.length l1) (hc1 : l1.length ≤ c1) (h : bytes_Compare.f l0 l1 = some r) :
    Calls Try.prog 67 #[.slice A0 l0.length c0, .slice A1 l1.length c1] w fun e w' => e = .returned (.int .i64 r) ∧ Drawn0 w w' := by
  unfold bytes_Compare.f at h
  split at h
  · rename_i hc
    obtain rfl := Option.some.inj h
    simp only [Bool.and_eq_true, List.all_eq_true, decide_eq_true_eq, Fv.isB] at hc
    exact Fv.bytesCompare A0 A1 c0 c1 l0 l1 w hr0 hr1 hc.1 hc.2
  · exact absurd h (by simp)

/-! ### bytes_Equal: function 85 -/
def bytes_Equal.f (l0 : List Int) (l1 : List Int) : Option (Bool) := some ((strOfNums l0).toList == (strOfNums l1).toList)
set_option maxHeartbeats 8000000 in
set_option maxRecDepth 100000 in
theorem bytes_Equal.calls (A0 : Option Addr) (c0 : Nat) (l0 : List Int) (A1 : Option Addr) (c1 : Nat) (l1 : List Int) (r : Bool) (w : World) (hr0 : Kd.C (Kd.int .u8) w A0 l0.length l0) (hc0 : l0.length ≤ c0) (hr1 : Kd.C (Kd.int .u8) w A1 l1.length l1) (hc1 : l1.length ≤ c1) (h : bytes_Equal.f l0 l1 = some r) :
  Calls Try.prog 85 #[.slice A0 l0.length c0, .slice A1 l1.length c1] w fun e w' => e = .returned (.bool r) ∧ Drawn0 w w' := by
 have HR0:=mk0 hr0
 have HC0:=mk0 hc0
 clear hr0 hc0
 have HR1:=mk0 hr1
 have HC1:=mk0 hc1
 clear hr1 hc1
 have H:(some ((strOfNums l0).toList == (strOfNums l1).toList)) = some r:=h
 clear h
 obtain rfl:=Option.some.inj H
 have hcv3:=Kd.C_string (P:=Try.prog) (A:=A0) (c:=c0) Try.underlying22 Try.underlying5 Try.underlying9 HR0.out
 have hcv4:=Kd.C_string (P:=Try.prog) (A:=A1) (c:=c1) Try.underlying22 Try.underlying5 Try.underlying9 HR1.out
 go_enter Try.func85,Try.ntmps85
 go_wp2
 go_ret
 exact⟨by first|rfl|(simp;done)|(simp [*];done),by repeat (first|exact Drawn0.refl _|apply Drawn0.step)⟩

/-! ### bytes_HasPrefix: function 83 -/
def bytes_HasPrefix.f (l0 : List Int) (l1 : List Int) : Option (Bool) := if (l0.length : Int) ≥ (l1.length : Int) then (if 0 ≤ (l1.length : Int) then (if (l1.length : Int) ≤ (l0.length : Int) then ((bytes_Equal.f (l0.take ((l1.length : Int) : Int).toNat) l1).bind fun t214 => (some t214)) else (none)) else (none)) else (some false)
set_option maxHeartbeats 8000000 in
set_option maxRecDepth 100000 in
theorem bytes_HasPrefix.calls (A0 : Option Addr) (c0 : Nat) (l0 : List Int) (A1 : Option Addr) (c1 : Nat) (l1 : List Int) (r : Bool) (w : World) (hr0 : Kd.C (Kd.int .u8) w A0 l0.length l0) (hc0 : l0.length ≤ c0) (hr1 : Kd.C (Kd.int .u8) w A1 l1.length l1) (hc1 : l1.length ≤ c1) (h : bytes_HasPrefix.f l0 l1 = some r) :
  Calls Try.prog 83 #[.slice A0 l0.length c0, .slice A1 l1.length c1] w fun e w' => e = .returned (.bool r) ∧ Drawn0 w w' := by
 have HR0:=mk0 hr0
 have HC0:=mk0 hc0
 clear hr0 hc0
 have HR1:=mk0 hr1
 have HC1:=mk0 hc1
 clear hr1 hc1
 have H:(if (l0.length:Int) ≥ (l1.length:Int) then (if 0 ≤ (l1.length:Int) then (if (l1.length:Int) ≤ (l0.length:Int) then ((bytes_Equal.f (l0.take ((l1.length:Int):Int).toNat) l1).bind fun t214=>(some t214)) else (none)) else (none)) else (some false)) = some r:=h
 clear h
 by_cases c3:(l0.length:Int) ≥ (l1.length:Int)
 ·rw [if_pos c3] at H
  have c3b0:decide ((l1.length:Int) ≤ (l0.length:Int)) = true:=decide_eq_true c3
  have c3b1:decide (l1.length ≤ l0.length) = true:=decide_eq_true (Int.ofNat_le.mp c3)
  clear c3
  by_cases c4:0 ≤ (l1.length:Int)
  ·rw [if_pos c4] at H
   have c4b0:=eq_true c4
   have c4b1:decide (0 ≤ (l1.length:Int)) = true:=decide_eq_true c4
   clear c4
   by_cases c5:(l1.length:Int) ≤ (l0.length:Int)
   ·rw [if_pos c5] at H
    have c5b0:=eq_true c5
    have c5b1:decide ((l1.length:Int) ≤ (l0.length:Int)) = true:=decide_eq_true c5
    clear c5
    replace H:=Option.bind_eq_some_iff.mp H
    obtain⟨t214,A60,H⟩:=H
    replace H:(some t214) = some r:=H
    have A6:=mk0 A60
    clear A60
    obtain rfl:=Option.some.inj H
    obtain⟨i07,hi07,_,hsz7,_⟩:=info_parts info5
    obtain⟨hcut7,hA7,hC7⟩:=print_take_of (P:=Try.prog) (Value.int .u8) 0 22 5 .i64 Try.underlying22 hi07 hsz7 A0 c0 l0 (l1.length:Int) (of_decide_eq_true (by first|(with_reducible assumption)|assumption)) (of_decide_eq_true (by first|(with_reducible assumption)|assumption)) HC0.out
    have HR213:=mk0 (Kd.C_of_reads (h1:=fun _=>rfl) (hA7 _ (Kd.reads_of_C HR0.out)))
    have HC213:=mk0 hC7
    clear hA7 hC7 hi07 hsz7
    go_enter Try.func83,Try.ntmps83
    go_wp2_with (first|(go_at_call 85;refine calls_of_args (args':=#[.slice A0 (l0.take ((l1.length:Int):Int).toNat).length c0,.slice A1 l1.length c1]) (by first|(rw [show (l0.take ((l1.length:Int):Int).toNat).length = (l1.length:Int).toNat from (by rw [List.length_take];have h_:((l1.length:Int):Int) ≤ (l0.length:Int):=of_decide_eq_true (by first|(with_reducible assumption)|assumption);omega)] <;> rfl)|rfl|(simp only [lD,lT];done)|(simp only [lD,lT];rfl)) ?_;(with_reducible refine (bytes_Equal.calls _ _ (l0.take ((l1.length:Int):Int).toNat) _ _ l1 t214 _ ?side1 ?side2 ?side3 ?side4 A6.out).mono ?_);(case side1=>repeat (first|exact HR213.out|(with_reducible first|apply aC|apply nC|apply dC)));(case side2=>exact HC213.out);(case side3=>repeat (first|exact HR1.out|(with_reducible first|apply aC|apply nC|apply dC)));(case side4=>exact HC1.out);rintro e w' ⟨rfl,⟨nd,rfl⟩⟩))
    go_ret
    exact⟨by first|rfl|(simp;done)|(simp [*];done),by repeat (first|exact Drawn0.refl _|apply Drawn0.step)⟩
   ·rw [if_neg c5] at H
    exact absurd H (by simp)
  ·rw [if_neg c4] at H
   exact absurd H (by simp)
 ·rw [if_neg c3] at H
  have c3b0:decide ((l1.length:Int) ≤ (l0.length:Int)) = false:=decide_eq_false c3
  have c3b1:decide (l1.length ≤ l0.length) = false:=decide_eq_false (fun h=>c3 (Int.ofNat_le.mpr h))
  clear c3
  obtain rfl:=Option.some.inj H
  go_enter Try.func83,Try.ntmps83
  go_wp2
  go_ret
  exact⟨by first|rfl|(simp;done)|(simp [*];done),by repeat (first|exact Drawn0.refl _|apply Drawn0.step)⟩

/-! ### impl_rowsOf: function 69 -/
def impl_rowsOf.l0 : Nat → List Int → List Int → Int → Int → Int → Int → Option (Int × Int)
 | 0, _, _, _, _, _, _ => none
 | k + 1, x0, x1, x6, x7, x11, x12 => if x12 < x11 then (if 0 ≤ x12 then (if x12 ≤ (x0.length : Int) then ((bytes_HasPrefix.f (x0.drop (x12 : Int).toNat) x1).bind fun t216 => (if t216 = true then (impl_rowsOf.l0 k x0 x1 x6 (wrap64 (x7 + 1)) x11 (wrap64 (x12 + 1))) else ((bytes_Compare.f (x0.drop (x12 : Int).toNat) x1).bind fun t218 => (if t218 < 0 then (impl_rowsOf.l0 k x0 x1 (wrap64 (x6 + 1)) x7 x11 (wrap64 (x12 + 1))) else (impl_rowsOf.l0 k x0 x1 x6 x7 x11 (wrap64 (x12 + 1))))))) else (none)) else (none)) else (some (x6, wrap64 (x6 + x7)))
def impl_rowsOf.f (k : Nat) (l0 : List Int) (l1 : List Int) : Option (Int × Int) := impl_rowsOf.l0 k l0 l1 0 0 (wrap64 ((l0.length : Int) + 1)) 0
theorem impl_rowsOf.mono_l : ∀ k, (∀ y0 y1 y2 y3 y4 y5, LeO (impl_rowsOf.l0 k y0 y1 y2 y3 y4 y5) (impl_rowsOf.l0 (k + 1) y0 y1 y2 y3 y4 y5))
 | 0 => fun _ _ _ _ _ _ r h => by simp [impl_rowsOf.l0] at h
 | k + 1 => by
  have ih0 := impl_rowsOf.mono_l k
  ·intro y0 y1 y2 y3 y4 y5
   unfold impl_rowsOf.l0
   repeat' first|(with_reducible first|exact ih0 _ _ _ _ _ _|exact LeO.refl _|exact LeO.none _|refine LeO.ite ?_ ?_|refine LeO.bind ?_ (fun _ => ?_))|exact LeO.none _|refine LeO.ite ?_ ?_|refine LeO.bind ?_ (fun _ => ?_)
theorem impl_rowsOf.mono : ∀ a0 a1 k, LeO (impl_rowsOf.f k a0 a1) (impl_rowsOf.f (k + 1) a0 a1) := by
 intro a0 a1 k
 have ih0 := impl_rowsOf.mono_l k
 unfold impl_rowsOf.f
 repeat' first|(with_reducible first|exact ih0 _ _ _ _ _ _|exact LeO.refl _|exact LeO.none _|refine LeO.ite ?_ ?_|refine LeO.bind ?_ (fun _ => ?_))|exact LeO.none _|refine LeO.ite ?_ ?_|refine LeO.bind ?_ (fun _ => ?_)
set_option maxHeartbeats 8000000 in
set_option maxRecDepth 100000 in
theorem impl_rowsOf.calls (k : Nat) (A0 : Option Addr) (c0 : Nat) (l0 : List Int) (A1 : Option Addr) (c1 : Nat) (l1 : List Int) (r1 : Int) (r2 : Int) (w : World) (hr0 : Kd.C (Kd.int .u8) w A0 l0.length l0) (hc0 : l0.length ≤ c0) (hr1 : Kd.C (Kd.int .u8) w A1 l1.length l1) (hc1 : l1.length ≤ c1) (h : impl_rowsOf.f k l0 l1 = some (r1, r2)) :
  Calls Try.prog 69 #[.slice A0 l0.length c0, .slice A1 l1.length c1] w fun e w' => e = .returned (.tuple #[.int .i64 r1, .int .i64 r2]) ∧ Drawn0 w w' := by
 have HR0:=mk0 hr0
 have HC0:=mk0 hc0
 clear hr0 hc0
 have HR1:=mk0 hr1
 have HC1:=mk0 hc1
 clear hr1 hc1
 have H:(impl_rowsOf.l0 k l0 l1 0 0 (wrap64 ((l0.length:Int) + 1)) 0) = some (r1,r2):=h
 clear h
 have H':=mk0 H
 clear H
 go_enter Try.func69,Try.ntmps69
 go_wp2
 go_loopg [6,7,12] k (fun kq v6 v7 v12 w'=>∃ (x6_1:Int) (x7_1:Int) (x12_1:Int),v6 = .int .i64 x6_1 ∧ v7 = .int .i64 x7_1 ∧ v12 = .int .i64 x12_1 ∧ Aside0 (impl_rowsOf.l0 kq l0 l1 x6_1 x7_1 (wrap64 ((l0.length:Int) + 1)) x12_1 = some (r1,r2)) ∧ Aside0 (kq ≤ k) ∧ Drawn0 w w')
 case atStart=>exact⟨(0),(0),(0),(by first|rfl|(simp;done)|(simp [*];done)),(by first|rfl|(simp;done)|(simp [*];done)),(by first|rfl|(simp;done)|(simp [*];done)),H',⟨Nat.le_refl _⟩,by repeat (first|exact Drawn0.refl _|apply Drawn0.step)⟩
 case round =>
  clear H'
  try clear c1
  try clear p2
  obtain⟨x6_1,x7_1,x12_1,rfl,rfl,rfl,HA,HK1,⟨m1,rfl⟩⟩:=hrel
  cases gk with
  | zero=>exact absurd HA.out (by simp [impl_rowsOf.l0])
  | succ k1 =>
   have H:=HA.out
   clear HA
   simp only [impl_rowsOf.l0] at H
   by_cases c3:x12_1 < (wrap64 ((l0.length:Int) + 1))
   ·rw [if_pos c3] at H
    have c3b0:decide (x12_1 < (wrap64 ((l0.length:Int) + 1))) = true:=decide_eq_true c3
    clear c3
    by_cases c4:0 ≤ x12_1
    ·rw [if_pos c4] at H
     have c4b0:=eq_true c4
     have c4b1:decide (0 ≤ x12_1) = true:=decide_eq_true c4
     clear c4
     by_cases c5:x12_1 ≤ (l0.length:Int)
     ·rw [if_pos c5] at H
      have c5b0:=eq_true c5
      have c5b1:decide (x12_1 ≤ (l0.length:Int)) = true:=decide_eq_true c5
      clear c5
      replace H:=Option.bind_eq_some_iff.mp H
      obtain⟨t216,A60,H⟩:=H
      replace H:(if t216 = true then (impl_rowsOf.l0 k1 l0 l1 x6_1 (wrap64 (x7_1 + 1)) (wrap64 ((l0.length:Int) + 1)) (wrap64 (x12_1 + 1))) else ((bytes_Compare.f (l0.drop (x12_1:Int).toNat) l1).bind fun t218=>(if t218 < 0 then (impl_rowsOf.l0 k1 l0 l1 (wrap64 (x6_1 + 1)) x7_1 (wrap64 ((l0.length:Int) + 1)) (wrap64 (x12_1 + 1))) else (impl_rowsOf.l0 k1 l0 l1 x6_1 x7_1 (wrap64 ((l0.length:Int) + 1)) (wrap64 (x12_1 + 1)))))) = some (r1,r2):=H
      have A6:=mk0 A60
      clear A60
      by_cases c7:t216 = true
      ·subst c7
       have H1:(impl_rowsOf.l0 k1 l0 l1 x6_1 (wrap64 (x7_1 + 1)) (wrap64 ((l0.length:Int) + 1)) (wrap64 (x12_1 + 1))) = some (r1,r2):=by rw [if_pos rfl] at H;exact H
       clear H
       have H:=H1
       clear H1
       have H':=mk0 H
       clear H
       obtain⟨i08,hi08,_,hsz8,_⟩:=info_parts info5
       obtain⟨A8,hcut8,hA8,hC8⟩:=print_drop_of (P:=Try.prog) (Value.int .u8) 0 22 5 .i64 Try.underlying22 hi08 hsz8 A0 c0 l0 x12_1 (of_decide_eq_true (by first|(with_reducible assumption)|assumption)) (of_decide_eq_true (by first|(with_reducible assumption)|assumption)) HC0.out
       have HR215:=mk0 (Kd.C_of_reads (h1:=fun _=>rfl) (hA8 _ (Kd.reads_of_C HR0.out)))
       have HC215:=mk0 hC8
       clear hA8 hC8 hi08 hsz8
       go_wp2_with (first|((with_reducible refine gate_callee (f:=83) rfl ?_);refine goesL_ (some 20) rfl rfl Try.func83 (by kernel_rfl) rfl #[.slice A8 (l0.drop (x12_1:Int).toNat).length (c0 - x12_1.toNat),.slice A1 l1.length c1] rfl (by (try simp only [mA,mC,mN]);first|done|(rw [show (l0.drop (x12_1:Int).toNat).length = (l0.length - x12_1.toNat) from List.length_drop] <;> rfl)|rfl|(simp only [lD,lT];done)|(simp only [lD,lT];rfl)) ?_;(with_reducible refine (bytes_HasPrefix.calls _ _ (l0.drop (x12_1:Int).toNat) _ _ l1 true _ ?side1 ?side2 ?side3 ?side4 A6.out).mono ?_);(case side1=>repeat (first|exact HR215.out|(with_reducible first|apply aC|apply nC|apply dC)));(case side2=>exact HC215.out);(case side3=>repeat (first|exact HR1.out|(with_reducible first|apply aC|apply nC|apply dC)));(case side4=>exact HC1.out);rintro e w' ⟨rfl,⟨nd,rfl⟩⟩;refine⟨_,rfl,?_⟩))
       go_roundg k1
       case measure=>have:=HK1.out;omega
       case rel=>exact⟨(x6_1),(wrap64 (x7_1 + 1)),(wrap64 (x12_1 + 1)),(by first|rfl|(simp;done)|(simp [*];done)),(by first|rfl|(simp;done)|(simp [*];done)),(by first|rfl|(simp;done)|(simp [*];done)),H',⟨by have:=HK1.out;omega⟩,by repeat (first|exact Drawn0.refl _|apply Drawn0.step)⟩
      ·replace c7:=Bool.eq_false_iff.mpr c7
       subst c7
       have H1:((bytes_Compare.f (l0.drop (x12_1:Int).toNat) l1).bind fun t218=>(if t218 < 0 then (impl_rowsOf.l0 k1 l0 l1 (wrap64 (x6_1 + 1)) x7_1 (wrap64 ((l0.length:Int) + 1)) (wrap64 (x12_1 + 1))) else (impl_rowsOf.l0 k1 l0 l1 x6_1 x7_1 (wrap64 ((l0.length:Int) + 1)) (wrap64 (x12_1 + 1))))) = some (r1,r2):=by rw [if_neg (show ¬ (false = true) by decide)] at H;exact H
       clear H
       have H:=H1
       clear H1
       have c9b0:=eq_true (of_decide_eq_true (by first|(with_reducible assumption)|assumption):0 ≤ x12_1)
       have c10b0:=eq_true (of_decide_eq_true (by first|(with_reducible assumption)|assumption):x12_1 ≤ (l0.length:Int))
       replace H:=Option.bind_eq_some_iff.mp H
       obtain⟨t218,A110,H⟩:=H
       replace H:(if t218 < 0 then (impl_rowsOf.l0 k1 l0 l1 (wrap64 (x6_1 + 1)) x7_1 (wrap64 ((l0.length:Int) + 1)) (wrap64 (x12_1 + 1))) else (impl_rowsOf.l0 k1 l0 l1 x6_1 x7_1 (wrap64 ((l0.length:Int) + 1)) (wrap64 (x12_1 + 1)))) = some (r1,r2):=H
       have A11:=mk0 A110
       clear A110
       by_cases c12:t218 < 0
       ·rw [if_pos c12] at H
        have c12b0:decide (t218 < 0) = true:=decide_eq_true c12
        clear c12
        have H':=mk0 H
        clear H
        obtain⟨i013,hi013,_,hsz13,_⟩:=info_parts info5
        obtain⟨A13,hcut13,hA13,hC13⟩:=print_drop_of (P:=Try.prog) (Value.int .u8) 0 22 5 .i64 Try.underlying22 hi013 hsz13 A0 c0 l0 x12_1 (of_decide_eq_true (by first|(with_reducible assumption)|assumption)) (of_decide_eq_true (by first|(with_reducible assumption)|assumption)) HC0.out
        have HR215:=mk0 (Kd.C_of_reads (h1:=fun _=>rfl) (hA13 _ (Kd.reads_of_C HR0.out)))
        have HC215:=mk0 hC13
        clear hA13 hC13 hi013 hsz13
        go_wp2_with (first|((with_reducible refine gate_callee (f:=83) rfl ?_);refine goesL_ (some 20) rfl rfl Try.func83 (by kernel_rfl) rfl #[.slice A13 (l0.drop (x12_1:Int).toNat).length (c0 - x12_1.toNat),.slice A1 l1.length c1] rfl (by (try simp only [mA,mC,mN]);first|done|(rw [show (l0.drop (x12_1:Int).toNat).length = (l0.length - x12_1.toNat) from List.length_drop] <;> rfl)|rfl|(simp only [lD,lT];done)|(simp only [lD,lT];rfl)) ?_;(with_reducible refine (bytes_HasPrefix.calls _ _ (l0.drop (x12_1:Int).toNat) _ _ l1 false _ ?side1 ?side2 ?side3 ?side4 A6.out).mono ?_);(case side1=>repeat (first|exact HR215.out|(with_reducible first|apply aC|apply nC|apply dC)));(case side2=>exact HC215.out);(case side3=>repeat (first|exact HR1.out|(with_reducible first|apply aC|apply nC|apply dC)));(case side4=>exact HC1.out);rintro e w' ⟨rfl,⟨nd,rfl⟩⟩;refine⟨_,rfl,?_⟩;have HR217 := HR215; have HC217 := HC215)|((with_reducible refine gate_callee (f:=67) rfl ?_);refine goesL_ (some 28) rfl rfl Try.func67 (by kernel_rfl) rfl #[.slice A13 (l0.drop (x12_1:Int).toNat).length (c0 - x12_1.toNat),.slice A1 l1.length c1] rfl (by (try simp only [mA,mC,mN]);first|done|(rw [show (l0.drop (x12_1:Int).toNat).length = (l0.length - x12_1.toNat) from List.length_drop] <;> rfl)|rfl|(simp only [lD,lT];done)|(simp only [lD,lT];rfl)) ?_;(with_reducible refine (bytes_Compare.calls _ _ (l0.drop (x12_1:Int).toNat) _ _ l1 t218 _ ?side1 ?side2 ?side3 ?side4 A11.out).mono ?_);(case side1=>repeat (first|exact HR217.out|(with_reducible first|apply aC|apply nC|apply dC)));(case side2=>exact HC217.out);(case side3=>repeat (first|exact HR1.out|(with_reducible first|apply aC|apply nC|apply dC)));(case side4=>exact HC1.out);rintro e w' ⟨rfl,⟨nd,rfl⟩⟩;refine⟨_,rfl,?_⟩))
        go_roundg k1
        case measure=>have:=HK1.out;omega
        case rel=>exact⟨(wrap64 (x6_1 + 1)),(x7_1),(wrap64 (x12_1 + 1)),(by first|rfl|(simp;done)|(simp [*];done)),(by first|rfl|(simp;done)|(simp [*];done)),(by first|rfl|(simp;done)|(simp [*];done)),H',⟨by have:=HK1.out;omega⟩,by repeat (first|exact Drawn0.refl _|apply Drawn0.step)⟩
       ·rw [if_neg c12] at H
        have c12b0:decide (t218 < 0) = false:=decide_eq_false c12
        clear c12
        have H':=mk0 H
        clear H
        obtain⟨i015,hi015,_,hsz15,_⟩:=info_parts info5
        obtain⟨A15,hcut15,hA15,hC15⟩:=print_drop_of (P:=Try.prog) (Value.int .u8) 0 22 5 .i64 Try.underlying22 hi015 hsz15 A0 c0 l0 x12_1 (of_decide_eq_true (by first|(with_reducible assumption)|assumption)) (of_decide_eq_true (by first|(with_reducible assumption)|assumption)) HC0.out
        have HR215:=mk0 (Kd.C_of_reads (h1:=fun _=>rfl) (hA15 _ (Kd.reads_of_C HR0.out)))
        have HC215:=mk0 hC15
        clear hA15 hC15 hi015 hsz15
        go_wp2_with (first|((with_reducible refine gate_callee (f:=83) rfl ?_);refine goesL_ (some 20) rfl rfl Try.func83 (by kernel_rfl) rfl #[.slice A15 (l0.drop (x12_1:Int).toNat).length (c0 - x12_1.toNat),.slice A1 l1.length c1] rfl (by (try simp only [mA,mC,mN]);first|done|(rw [show (l0.drop (x12_1:Int).toNat).length = (l0.length - x12_1.toNat) from List.length_drop] <;> rfl)|rfl|(simp only [lD,lT];done)|(simp only [lD,lT];rfl)) ?_;(with_reducible refine (bytes_HasPrefix.calls _ _ (l0.drop (x12_1:Int).toNat) _ _ l1 false _ ?side1 ?side2 ?side3 ?side4 A6.out).mono ?_);(case side1=>repeat (first|exact HR215.out|(with_reducible first|apply aC|apply nC|apply dC)));(case side2=>exact HC215.out);(case side3=>repeat (first|exact HR1.out|(with_reducible first|apply aC|apply nC|apply dC)));(case side4=>exact HC1.out);rintro e w' ⟨rfl,⟨nd,rfl⟩⟩;refine⟨_,rfl,?_⟩;have HR217 := HR215; have HC217 := HC215)|((with_reducible refine gate_callee (f:=67) rfl ?_);refine goesL_ (some 28) rfl rfl Try.func67 (by kernel_rfl) rfl #[.slice A15 (l0.drop (x12_1:Int).toNat).length (c0 - x12_1.toNat),.slice A1 l1.length c1] rfl (by (try simp only [mA,mC,mN]);first|done|(rw [show (l0.drop (x12_1:Int).toNat).length = (l0.length - x12_1.toNat) from List.length_drop] <;> rfl)|rfl|(simp only [lD,lT];done)|(simp only [lD,lT];rfl)) ?_;(with_reducible refine (bytes_Compare.calls _ _ (l0.drop (x12_1:Int).toNat) _ _ l1 t218 _ ?side1 ?side2 ?side3 ?side4 A11.out).mono ?_);(case side1=>repeat (first|exact HR217.out|(with_reducible first|apply aC|apply nC|apply dC)));(case side2=>exact HC217.out);(case side3=>repeat (first|exact HR1.out|(with_reducible first|apply aC|apply nC|apply dC)));(case side4=>exact HC1.out);rintro e w' ⟨rfl,⟨nd,rfl⟩⟩;refine⟨_,rfl,?_⟩))
        go_roundg k1
        case measure=>have:=HK1.out;omega
        case rel=>exact⟨(x6_1),(x7_1),(wrap64 (x12_1 + 1)),(by first|rfl|(simp;done)|(simp [*];done)),(by first|rfl|(simp;done)|(simp [*];done)),(by first|rfl|(simp;done)|(simp [*];done)),H',⟨by have:=HK1.out;omega⟩,by repeat (first|exact Drawn0.refl _|apply Drawn0.step)⟩
     ·rw [if_neg c5] at H
      exact absurd H (by simp)
    ·rw [if_neg c4] at H
     exact absurd H (by simp)
   ·rw [if_neg c3] at H
    have c3b0:decide (x12_1 < (wrap64 ((l0.length:Int) + 1))) = false:=decide_eq_false c3
    clear c3
    simp only [Option.some.injEq,Prod.mk.injEq] at H
    obtain⟨rfl,rfl⟩:=H
    go_wp2
    go_ret2
    exact⟨by first|rfl|(simp;done)|(simp [*];done),by repeat (first|exact Drawn0.refl _|apply Drawn0.step)⟩

/-! ### impl_RowsOf: function 47 -/
def impl_RowsOf.f (k : Nat) (l0 : List Int) (l1 : List Int) : Option (Int × Int) := (impl_TextOk.f l0).bind fun t219 => (if t219 = true then ((impl_rowsOf.f k l0 l1).bind fun bt220 => (some (bt220.1, bt220.2))) else (some (0, 0)))
theorem impl_RowsOf.mono : ∀ a0 a1 k, LeO (impl_RowsOf.f k a0 a1) (impl_RowsOf.f (k + 1) a0 a1) := by
 intro a0 a1 k
 unfold impl_RowsOf.f
 repeat' first|(with_reducible first|exact impl_rowsOf.mono _ _ _|exact LeO.refl _|exact LeO.none _|refine LeO.ite ?_ ?_|refine LeO.bind ?_ (fun _ => ?_))|exact LeO.none _|refine LeO.ite ?_ ?_|refine LeO.bind ?_ (fun _ => ?_)
set_option maxHeartbeats 8000000 in
set_option maxRecDepth 100000 in
theorem impl_RowsOf.calls (k : Nat) (A0 : Option Addr) (c0 : Nat) (l0 : List Int) (A1 : Option Addr) (c1 : Nat) (l1 : List Int) (r1 : Int) (r2 : Int) (w : World) (hr0 : Kd.C (Kd.int .u8) w A0 l0.length l0) (hc0 : l0.length ≤ c0) (hr1 : Kd.C (Kd.int .u8) w A1 l1.length l1) (hc1 : l1.length ≤ c1) (h : impl_RowsOf.f k l0 l1 = some (r1, r2)) :
  Calls Try.prog 47 #[.slice A0 l0.length c0, .slice A1 l1.length c1] w fun e w' => e = .returned (.tuple #[.int .i64 r1, .int .i64 r2]) ∧ Drawn0 w w' := by
 have HR0:=mk0 hr0
 have HC0:=mk0 hc0
 clear hr0 hc0
 have HR1:=mk0 hr1
 have HC1:=mk0 hc1
 clear hr1 hc1
 have H:((impl_TextOk.f l0).bind fun t219=>(if t219 = true then ((impl_rowsOf.f k l0 l1).bind fun bt220=>(some (bt220.1,bt220.2))) else (some (0,0)))) = some (r1,r2):=h
 clear h
 replace H:=Option.bind_eq_some_iff.mp H
 obtain⟨t219,A30,H⟩:=H
 replace H:(if t219 = true then ((impl_rowsOf.f k l0 l1).bind fun bt220=>(some (bt220.1,bt220.2))) else (some (0,0))) = some (r1,r2):=H
 have A3:=mk0 A30
 clear A30
 by_cases c4:t219 = true
 ·subst c4
  have H1:((impl_rowsOf.f k l0 l1).bind fun bt220=>(some (bt220.1,bt220.2))) = some (r1,r2):=by rw [if_pos rfl] at H;exact H
  clear H
  have H:=H1
  clear H1
  replace H:=Option.bind_eq_some_iff.mp H
  obtain⟨⟨t220,t221⟩,A50,H⟩:=H
  replace H:(some (t220,t221)) = some (r1,r2):=H
  have A5:=mk0 A50
  clear A50
  simp only [Option.some.injEq,Prod.mk.injEq] at H
  obtain⟨rfl,rfl⟩:=H
  go_enter Try.func47,Try.ntmps47
  go_wp2_with (first|((with_reducible refine gate_callee (f:=39) rfl ?_);refine goesL_ (some 7) rfl rfl Try.func39 (by kernel_rfl) rfl #[.slice A0 l0.length c0] rfl (by (try simp only [mA,mC,mN]);first|done|rfl|(simp only [lD,lT];done)|(simp only [lD,lT];rfl)) ?_;(with_reducible refine (impl_TextOk.calls _ _ l0 true _ ?side1 ?side2 A3.out).mono ?_);(case side1=>repeat (first|exact HR0.out|(with_reducible first|apply aC|apply nC|apply dC)));(case side2=>exact HC0.out);rintro e w' ⟨rfl,⟨nd,rfl⟩⟩;refine⟨_,rfl,?_⟩)|((with_reducible refine gate_callee (f:=69) rfl ?_);refine goesL_ (some 11) rfl rfl Try.func69 (by kernel_rfl) rfl #[.slice A0 l0.length c0,.slice A1 l1.length c1] rfl (by (try simp only [mA,mC,mN]);first|done|rfl|(simp only [lD,lT];done)|(simp only [lD,lT];rfl)) ?_;(with_reducible refine (impl_rowsOf.calls k _ _ l0 _ _ l1 t220 t221 _ ?side1 ?side2 ?side3 ?side4 A5.out).mono ?_);(case side1=>repeat (first|exact HR0.out|(with_reducible first|apply aC|apply nC|apply dC)));(case side2=>exact HC0.out);(case side3=>repeat (first|exact HR1.out|(with_reducible first|apply aC|apply nC|apply dC)));(case side4=>exact HC1.out);rintro e w' ⟨rfl,⟨nd,rfl⟩⟩;refine⟨_,rfl,?_⟩))
  go_ret2
  exact⟨by first|rfl|(simp;done)|(simp [*];done),by repeat (first|exact Drawn0.refl _|apply Drawn0.step)⟩
 ·replace c4:=Bool.eq_false_iff.mpr c4
  subst c4
  have H1:(some (0,0)) = some (r1,r2):=by rw [if_neg (show ¬ (false = true) by decide)] at H;exact H
  clear H
  have H:=H1
  clear H1
  simp only [Option.some.injEq,Prod.mk.injEq] at H
  obtain⟨rfl,rfl⟩:=H
  go_enter Try.func47,Try.ntmps47
  go_wp2_with (first|((with_reducible refine gate_callee (f:=39) rfl ?_);refine goesL_ (some 7) rfl rfl Try.func39 (by kernel_rfl) rfl #[.slice A0 l0.length c0] rfl (by (try simp only [mA,mC,mN]);first|done|rfl|(simp only [lD,lT];done)|(simp only [lD,lT];rfl)) ?_;(with_reducible refine (impl_TextOk.calls _ _ l0 false _ ?side1 ?side2 A3.out).mono ?_);(case side1=>repeat (first|exact HR0.out|(with_reducible first|apply aC|apply nC|apply dC)));(case side2=>exact HC0.out);rintro e w' ⟨rfl,⟨nd,rfl⟩⟩;refine⟨_,rfl,?_⟩))
  go_ret2
  exact⟨by first|rfl|(simp;done)|(simp [*];done),by repeat (first|exact Drawn0.refl _|apply Drawn0.step)⟩

/-! ### impl_StretchOf: function 21 -/
def impl_StretchOf.f (k : Nat) (l0 : List Int) (l1 : List Int) : Option (Int × Int × Int × Bool) := (impl_RowsOf.f k l0 l1).bind fun bt223 => (if (wrap64 (bt223.2 - bt223.1)) < 2 then (some (0, 0, 0, false)) else ((impl_lcpRows.f k l0).bind fun t225 => (if 0 ≤ (wrap64 (bt223.1 + 1)) then (if (wrap64 (bt223.1 + 1)) ≤ bt223.2 then (if bt223.2 ≤ (t225.length : Int) then ((slices_Min_int_int.f k ((t225.take (bt223.2 : Int).toNat).drop ((wrap64 (bt223.1 + 1)) : Int).toNat)).bind fun t232 => (some (bt223.1, bt223.2, t232, true))) else (none)) else (none)) else (none))))
theorem impl_StretchOf.mono : ∀ a0 a1 k, LeO (impl_StretchOf.f k a0 a1) (impl_StretchOf.f (k + 1) a0 a1) := by
 intro a0 a1 k
 unfold impl_StretchOf.f
 repeat' first|(with_reducible first|exact impl_RowsOf.mono _ _ _|exact impl_lcpRows.mono _ _|exact slices_Min_int_int.mono _ _|exact LeO.refl _|exact LeO.none _|refine LeO.ite ?_ ?_|refine LeO.bind ?_ (fun _ => ?_))|exact LeO.none _|refine LeO.ite ?_ ?_|refine LeO.bind ?_ (fun _ => ?_)
set_option maxHeartbeats 8000000 in
set_option maxRecDepth 100000 in
theorem impl_StretchOf.calls (k : Nat) (A0 : Option Addr) (c0 : Nat) (l0 : List Int) (A1 : Option Addr) (c1 : Nat) (l1 : List Int) (r1 : Int) (r2 : Int) (r3 : Int) (r4 : Bool) (w : World) (hr0 : Kd.C (Kd.int .u8) w A0 l0.length l0) (hc0 : l0.length ≤ c0) (hr1 : Kd.C (Kd.int .u8) w A1 l1.length l1) (hc1 : l1.length ≤ c1) (h : impl_StretchOf.f k l0 l1 = some (r1, r2, r3, r4)) :
  Calls Try.prog 21 #[.slice A0 l0.length c0, .slice A1 l1.length c1] w fun e w' => e = .returned (.tuple #[.agg #[.int .i64 r1, .int .i64 r2, .int .i64 r3], .bool r4]) ∧ Below w.heap.size w w' := by
 have hu27:=Try.underlying27
 have HR0:=mk0 hr0
 have HC0:=mk0 hc0
 clear hr0 hc0
 have HR1:=mk0 hr1
 have HC1:=mk0 hc1
 clear hr1 hc1
 have HB:=mk0 (Below.refl w.heap.size w)
 have H:((impl_RowsOf.f k l0 l1).bind fun bt223=>(if (wrap64 (bt223.2 - bt223.1)) < 2 then (some (0,0,0,false)) else ((impl_lcpRows.f k l0).bind fun t225=>(if 0 ≤ (wrap64 (bt223.1 + 1)) then (if (wrap64 (bt223.1 + 1)) ≤ bt223.2 then (if bt223.2 ≤ (t225.length:Int) then ((slices_Min_int_int.f k ((t225.take (bt223.2:Int).toNat).drop ((wrap64 (bt223.1 + 1)):Int).toNat)).bind fun t232=>(some (bt223.1,bt223.2,t232,true))) else (none)) else (none)) else (none))))) = some (r1,r2,r3,r4):=h
 clear h
 replace H:=Option.bind_eq_some_iff.mp H
 obtain⟨⟨t223,t224⟩,A30,H⟩:=H
 replace H:(if (wrap64 (t224 - t223)) < 2 then (some (0,0,0,false)) else ((impl_lcpRows.f k l0).bind fun t225=>(if 0 ≤ (wrap64 (t223 + 1)) then (if (wrap64 (t223 + 1)) ≤ t224 then (if t224 ≤ (t225.length:Int) then ((slices_Min_int_int.f k ((t225.take (t224:Int).toNat).drop ((wrap64 (t223 + 1)):Int).toNat)).bind fun t232=>(some (t223,t224,t232,true))) else (none)) else (none)) else (none)))) = some (r1,r2,r3,r4):=H
 have A3:=mk0 A30
 clear A30
 by_cases c4:(wrap64 (t224 - t223)) < 2
 ·rw [if_pos c4] at H
  have c4b0:decide ((wrap64 (t224 - t223)) < 2) = true:=decide_eq_true c4
  clear c4
  simp only [Option.some.injEq,Prod.mk.injEq] at H
  obtain⟨rfl,rfl,rfl,rfl⟩:=H
  go_enter Try.func21,Try.ntmps21
  go_wp2_with (first|((with_reducible refine gate_dst (N:=4) rfl ?_);refine box_event ?hg (N:=4) ?hd (cs:=#[.int .i64 0,.int .i64 0,.int .i64 0]) (t:=27) ?hr ?_;(case hd=>rfl);(case hg=>rfl);(case hr=>first|(go_simp;done)|(go_simp;rfl));intro gb222 hg w5 hbox hb;have BK222:=mk0 (hbox);have GW222:=mk0 ((by rw [hg];exact (kZ HB.out):w.heap.size ≤ gb222));have GE222:=mk0 ((by rw [hg];exact (kZ HB.out):w.heap.size ≤ gb222));replace HB:=mk0 (kS HB.out hb);clear hb hbox hg)|((with_reducible refine gate_callee (f:=47) rfl ?_);refine goesL_ (some 11) rfl rfl Try.func47 (by kernel_rfl) rfl #[.slice A0 l0.length c0,.slice A1 l1.length c1] rfl (by (try simp only [mA,mC,mN]);first|done|rfl|(simp only [lD,lT];done)|(simp only [lD,lT];rfl)) ?_;(with_reducible refine (impl_RowsOf.calls k _ _ l0 _ _ l1 t223 t224 _ ?side1 ?side2 ?side3 ?side4 A3.out).mono ?_);(case side1=>exact kC (Kd.C_below HR0.out HB.out));(case side2=>exact HC0.out);(case side3=>exact kC (Kd.C_below HR1.out HB.out));(case side4=>exact HC1.out);rintro e w' ⟨rfl,⟨nd,rfl⟩⟩;refine⟨_,rfl,?_⟩;(try (rw [drewN_self w5];generalize hq_:World.drewN w5 _ = w5;have n0_:Aside0 (w5.heap[gb222]? = some (.cells #[.int .i64 0,.int .i64 0,.int .i64 0] 27 (0,0))):=⟨by rw [← hq_];exact (kN BK222.out)⟩;have n1_:Aside0 (Below w.heap.size w w5):=⟨by rw [← hq_];exact (kB HB.out)⟩;clear BK222 HB hq_;have BK222:=n0_;have HB:=n1_;clear n0_ n1_));obtain⟨hcz6_0,hcz6_1,hcz6_2,hfz6_0,hfz6_1,hfz6_2⟩:=cz3 BK222.out))
  refine bodyPost_ret (results_ct rfl _ _ gb222 27 #[.int .i64 0,.int .i64 0,.int .i64 0] (0,0) _ rfl (by (with_reducible repeat (first|apply nB|apply dB|apply aB));refine blk_put (cs:=#[.int .i64 0,.int .i64 0,.int .i64 0]) ?_ 2 _ rfl;(with_reducible repeat (first|apply nB|apply dB|apply aB));refine blk_put (cs:=#[.int .i64 0,.int .i64 0,.int .i64 0]) ?_ 1 _ rfl;(with_reducible repeat (first|apply nB|apply dB|apply aB));refine blk_put (cs:=#[.int .i64 0,.int .i64 0,.int .i64 0]) ?_ 0 _ rfl;(with_reducible repeat (first|apply nB|apply dB|apply aB));exact BK222.out) Try.underlying27 rfl (by kernel_rfl)) rfl ?_
  exact⟨by first|rfl|(simp [errW_none,errW_some] <;> rfl)|(simp [*,errW_none,errW_some] <;> rfl),kB HB.out⟩
 ·rw [if_neg c4] at H
  have c4b0:decide ((wrap64 (t224 - t223)) < 2) = false:=decide_eq_false c4
  clear c4
  replace H:=Option.bind_eq_some_iff.mp H
  obtain⟨t225,A70,H⟩:=H
  replace H:(if 0 ≤ (wrap64 (t223 + 1)) then (if (wrap64 (t223 + 1)) ≤ t224 then (if t224 ≤ (t225.length:Int) then ((slices_Min_int_int.f k ((t225.take (t224:Int).toNat).drop ((wrap64 (t223 + 1)):Int).toNat)).bind fun t232=>(some (t223,t224,t232,true))) else (none)) else (none)) else (none)) = some (r1,r2,r3,r4):=H
  have A7:=mk0 A70
  clear A70
  obtain⟨ji8,hji8⟩:∃ j_:Int,(wrap64 (t223 + 1)) = j_:=⟨_,rfl⟩
  replace H:(if 0 ≤ (ji8) then (if (ji8) ≤ t224 then (if t224 ≤ (t225.length:Int) then ((slices_Min_int_int.f k ((t225.take (t224:Int).toNat).drop ((ji8):Int).toNat)).bind fun t232=>(some (t223,t224,t232,true))) else (none)) else (none)) else (none)) = some (r1,r2,r3,r4):=by first|(rw [hji8] at H;exact H)|(simp only [hji8] at H ⊢;exact H)
  (try rw [hji8] at A3)
  (try rw [hji8] at A7)
  have hji8w:(IntKind.i64.wrap (t223 + 1)) = ji8:=(i64_w _).trans hji8
  by_cases c9:0 ≤ (ji8)
  ·rw [if_pos c9] at H
   have c9b0:=eq_true c9
   have c9b1:decide (0 ≤ (ji8)) = true:=decide_eq_true c9
   clear c9
   by_cases c10:(ji8) ≤ t224
   ·rw [if_pos c10] at H
    have c10b0:=eq_true c10
    have c10b1:decide ((ji8) ≤ t224) = true:=decide_eq_true c10
    clear c10
    by_cases c11:t224 ≤ (t225.length:Int)
    ·rw [if_pos c11] at H
     have c11b0:=eq_true c11
     have c11b1:decide (t224 ≤ (t225.length:Int)) = true:=decide_eq_true c11
     clear c11
     obtain⟨y228,hy228⟩:∃ y_:List Int,y_ = ((t225.take (t224:Int).toNat).drop ((ji8):Int).toNat):=⟨_,rfl⟩
     replace H:((slices_Min_int_int.f k y228).bind fun t232=>(some (t223,t224,t232,true))) = some (r1,r2,r3,r4):=by first|(rw [hy228];with_reducible exact H)|(have H2_:=(Option.bind_some _ _).symm.trans H;rw [hy228];with_reducible exact H2_)|(have H2_:=(Option.bind_some _ _).symm.trans H;with_reducible exact H2_)|with_reducible exact H|(rw [hy228];exact H)|exact H
     have Ny228:=mk0 hy228
     clear hy228
     replace H:=Option.bind_eq_some_iff.mp H
     obtain⟨t232,A120,H⟩:=H
     replace H:(some (t223,t224,t232,true)) = some (r1,r2,r3,r4):=H
     have A12:=mk0 A120
     clear A120
     simp only [Option.some.injEq,Prod.mk.injEq] at H
     obtain⟨rfl,rfl,rfl,rfl⟩:=H
     go_enter Try.func21,Try.ntmps21
     go_wp2_with (first|((with_reducible refine gate_dst (N:=4) rfl ?_);refine box_event ?hg (N:=4) ?hd (cs:=#[.int .i64 0,.int .i64 0,.int .i64 0]) (t:=27) ?hr ?_;(case hd=>rfl);(case hg=>rfl);(case hr=>first|(go_simp;done)|(go_simp;rfl));intro gb222 hg w13 hbox hb;have BK222:=mk0 (hbox);have GW222:=mk0 ((by rw [hg];exact (kZ HB.out):w.heap.size ≤ gb222));have GE222:=mk0 ((by rw [hg];exact (kZ HB.out):w.heap.size ≤ gb222));replace HB:=mk0 (kS HB.out hb);clear hb hbox hg)|((with_reducible refine gate_callee (f:=47) rfl ?_);refine goesL_ (some 11) rfl rfl Try.func47 (by kernel_rfl) rfl #[.slice A0 l0.length c0,.slice A1 l1.length c1] rfl (by (try simp only [mA,mC,mN]);first|done|rfl|(simp only [lD,lT];done)|(simp only [lD,lT];rfl)) ?_;(with_reducible refine (impl_RowsOf.calls k _ _ l0 _ _ l1 t223 t224 _ ?side1 ?side2 ?side3 ?side4 A3.out).mono ?_);(case side1=>exact kC (Kd.C_below HR0.out HB.out));(case side2=>exact HC0.out);(case side3=>exact kC (Kd.C_below HR1.out HB.out));(case side4=>exact HC1.out);rintro e w' ⟨rfl,⟨nd,rfl⟩⟩;refine⟨_,rfl,?_⟩;(try (rw [drewN_self w13];generalize hq_:World.drewN w13 _ = w13;have n0_:Aside0 (w13.heap[gb222]? = some (.cells #[.int .i64 0,.int .i64 0,.int .i64 0] 27 (0,0))):=⟨by rw [← hq_];exact (kN BK222.out)⟩;have n1_:Aside0 (Below w.heap.size w w13):=⟨by rw [← hq_];exact (kB HB.out)⟩;clear BK222 HB hq_;have BK222:=n0_;have HB:=n1_;clear n0_ n1_)))|((with_reducible refine gate_callee (f:=41) rfl ?_);refine goesL_ (some 22) rfl rfl Try.func41 (by kernel_rfl) rfl #[.slice A0 l0.length c0] rfl (by (try simp only [mA,mC,mN]);first|done|rfl|(simp only [lD,lT];done)|(simp only [lD,lT];rfl)) ?_;(with_reducible refine (impl_lcpRows.calls k _ _ l0 t225 _ ?side1 ?side2 A7.out).mono ?_);(case side1=>exact kC (Kd.C_below HR0.out HB.out));(case side2=>exact HC0.out);rintro e w14 ⟨v226,rfl,ho0,hb⟩;refine⟨_,rfl,?_⟩;have HO227:=mk0 (Kd.R_lower ho0 (kZ HB.out));replace BK222:=mk0 (kK BK222.out hb);replace HB:=mk0 (kS HB.out hb);(try clear hb);(try clear ho0);obtain⟨Ao16,co16,eo16⟩:=Kd.R_slice HO227.out;subst eo16;have q15:(t224:Int) ≤ ((t225.length:Int):Int):=of_decide_eq_true (by first|(with_reducible assumption)|assumption);obtain⟨i015,hi015,_,hsz15,_⟩:=info_parts info3;have hroom15:t225.length ≤ co16:=(Kd.R_reads' HO227.out).2.1;have hC15:Kd.C (Kd.int .i64) _ Ao16 t225.length t225:=(Kd.R_reads' HO227.out).2.2;have ql15:((ji8):Int) ≤ (t224:Int):=of_decide_eq_true (by first|(with_reducible assumption)|assumption);have q015:(0:Int) ≤ ((ji8):Int):=of_decide_eq_true (by first|(with_reducible assumption)|assumption);have hcut15:=cut_mid (P:=Try.prog) 48 3 .i64 .i64 Try.underlying48 hi015 1 hsz15 Ao16 t225.length co16 (ji8) t224 q015 ql15 q15 hroom15;have hr15:=Kd.C_mid (lo:=((ji8):Int).toNat) (hi:=(t224:Int).toNat) (c:=co16) hC15 (by omega) (by omega) hroom15;obtain⟨A15,hA15⟩:∃ A1,A1 = (if co16 = ((ji8):Int).toNat then Ao16 else (Ao16:Option Addr).map (·.add (((ji8):Int).toNat * 1))):=⟨_,rfl⟩;obtain⟨c15,hc15⟩:∃ c1,c1 = co16 - ((ji8):Int).toNat:=⟨_,rfl⟩;have hy15:y228.length = (t224:Int).toNat - ((ji8):Int).toNat:=(by rw [Ny228.out,List.length_drop,List.length_take] <;> omega);rw [show ((t225).take (t224:Int).toNat).drop ((ji8):Int).toNat = y228 from Ny228.out.symm] at hr15;replace hr15:Kd.C (Kd.int .i64) _ A15 y228.length y228:=(by rw [hA15];exact hr15);rw [← hy15, ← hA15, ← hc15] at hcut15;have HR231:=mk0 hr15;have HC231:=mk0 (show y228.length ≤ c15 from by rw [hy15,hc15];exact Nat.sub_le_sub_right (Nat.le_trans (by omega) hroom15) _);clear hr15 hC15 hroom15 hi015 hsz15 hc15;have KY15:=mk0 hy15;have KA15:=mk0 hA15;clear hy15 hA15;have KL15:=mk0 (show (t224:Int).toNat ≤ t225.length from by omega);have KM15:=mk0 (show ((ji8):Int).toNat ≤ (t224:Int).toNat from by omega);replace q15:=eq_true q15)|((with_reducible refine gate_callee (f:=48) rfl ?_);refine goesL_ (some 27) rfl rfl Try.func48 (by kernel_rfl) rfl #[.slice A15 y228.length c15] rfl (by (try simp only [mA,mC,mN]);first|done|rfl|(simp only [lD,lT];done)|(simp only [lD,lT];rfl)) ?_;(with_reducible refine (slices_Min_int_int.calls k _ _ y228 t232 _ ?side1 ?side2 A12.out).mono ?_);(case side1=>repeat (first|exact (by repeat (first|(with_reducible exact HR231.out)|(with_reducible first|apply aC|apply nC|apply dC)|exact HR231.out))|(with_reducible first|apply aC|apply nC|apply dC)));(case side2=>exact HC231.out);rintro e w17 ⟨rfl,hb⟩;refine⟨_,rfl,?_⟩;replace HO227:=mk0 (bR HO227.out hb);replace BK222:=mk0 (kK BK222.out hb);replace HR231:=mk0 (Kd.C_below (by repeat (first|(with_reducible exact HR231.out)|(with_reducible first|apply aC|apply nC|apply dC)|exact HR231.out)) hb);replace HB:=mk0 (kS HB.out hb);(try clear hb);obtain⟨hcz18_0,hcz18_1,hcz18_2,hfz18_0,hfz18_1,hfz18_2⟩:=cz3 BK222.out))
     refine bodyPost_ret (results_ct rfl _ _ gb222 27 #[.int .i64 t223,.int .i64 t224,.int .i64 t232] (0,0) _ rfl (by (with_reducible repeat (first|apply nB|apply dB|apply aB));refine blk_put (cs:=#[.int .i64 t223,.int .i64 t224,.int .i64 0]) ?_ 2 _ rfl;(with_reducible repeat (first|apply nB|apply dB|apply aB));refine blk_put (cs:=#[.int .i64 t223,.int .i64 0,.int .i64 0]) ?_ 1 _ rfl;(with_reducible repeat (first|apply nB|apply dB|apply aB));refine blk_put (cs:=#[.int .i64 0,.int .i64 0,.int .i64 0]) ?_ 0 _ rfl;(with_reducible repeat (first|apply nB|apply dB|apply aB));exact BK222.out) Try.underlying27 rfl (by kernel_rfl)) rfl ?_
     exact⟨by first|rfl|(simp [errW_none,errW_some] <;> rfl)|(simp only [← hji8];first|rfl|(simp [errW_none,errW_some] <;> rfl))|(simp [*,errW_none,errW_some] <;> rfl),kB HB.out⟩
    ·rw [if_neg c11] at H
     exact absurd H (by simp)
   ·rw [if_neg c10] at H
    exact absurd H (by simp)
  ·rw [if_neg c9] at H
   exact absurd H (by simp)

end Go.Proofs.Ytoinagnieobbpaa.QFnStretchWords
