-- A walk, made by walk.py, a program of this session's.
import Derived.Test.YtgjmmegmkdklbaaQFnExactHuffReadx0
import Derived.Test.YtgjmmegmkdklbaaQFnExactHuffReadx3
namespace Go.Proofs.Ytgjmmegmkdklbaa.QFnExactHuffRead
open Go.RowKit Go.Proofs.YtgjmmegmkdklbaaW.PrintWords Go.Proofs.YtgjmmegmkdklbaaW.PrintLast Go.Proofs.YtgjmmegmkdklbaaW.PrintMore
attribute [local go_sem] max2_int min2_int max_two min_two max_three min_three max_four min_four   -- for this text's walks alone
set_option linter.unusedVariables false
set_option linter.unusedSimpArgs false

/-! ### spec_BitsOk: function 58 -/
mutual
def spec_BitsOk.j0 : Nat → Bool → Int → List Int → Option (Bool)
 | 0, _, _, _ => none
 | k + 1, x23, x164000, x164001 => if x23 = true then (some false) else ((spec_l01List.f k x164000 x164001).bind fun t164 => ((spec_BitsOf.f k t164).bind fun bt167 => (spec_BitsOk.l0 k 0 x164000 x164001 bt167.1 bt167.2.1)))
def spec_BitsOk.l0 : Nat → Int → Int → List Int → Int → List Int → Option (Bool)
 | 0, _, _, _, _, _ => none
 | k + 1, x5, x164000, x164001, x173000, x173001 => if x5 < (x164001.length : Int) then (if 0 ≤ x5 then (if x5 < (x173001.length : Int) then (if (rd x164001 x5) = (rd x173001 x5) then (spec_BitsOk.l0 k (wrap64 (x5 + 1)) x164000 x164001 x173000 x173001) else (some false)) else (none)) else (none)) else (some true)
end
def spec_BitsOk.f (k : Nat) (a0_0 : Int) (l0_1 : List Int) : Option (Bool) := if a0_0 < 0 then (spec_BitsOk.j0 k true a0_0 l0_1) else (if a0_0 > 5000 then (spec_BitsOk.j0 k true a0_0 l0_1) else (spec_BitsOk.j0 k ((l0_1.length : Int) != (wrap64 (Int.tdiv (wrap64 (a0_0 + 63)) 64))) a0_0 l0_1))
theorem spec_BitsOk.mono_l : ∀ k, (∀ y0 y1 y2, LeO (spec_BitsOk.j0 k y0 y1 y2) (spec_BitsOk.j0 (k + 1) y0 y1 y2)) ∧ (∀ y0 y1 y2 y3 y4, LeO (spec_BitsOk.l0 k y0 y1 y2 y3 y4) (spec_BitsOk.l0 (k + 1) y0 y1 y2 y3 y4))
 | 0 => ⟨fun _ _ _ r h => by simp [spec_BitsOk.j0] at h, fun _ _ _ _ _ r h => by simp [spec_BitsOk.l0] at h⟩
 | k + 1 => by
  obtain ⟨ih0, ih1⟩ := spec_BitsOk.mono_l k
  refine ⟨?_, ?_⟩
  ·intro y0 y1 y2
   unfold spec_BitsOk.j0
   repeat' first|(with_reducible first|exact ih0 _ _ _|exact ih1 _ _ _ _ _|exact spec_BitsOf.mono _ _|exact spec_l01List.mono _ _ _|exact LeO.refl _|exact LeO.none _|refine LeO.ite ?_ ?_|refine LeO.bind ?_ (fun _ => ?_))|exact LeO.none _|refine LeO.ite ?_ ?_|refine LeO.bind ?_ (fun _ => ?_)
  ·intro y0 y1 y2 y3 y4
   unfold spec_BitsOk.l0
   repeat' first|(with_reducible first|exact ih0 _ _ _|exact ih1 _ _ _ _ _|exact spec_BitsOf.mono _ _|exact spec_l01List.mono _ _ _|exact LeO.refl _|exact LeO.none _|refine LeO.ite ?_ ?_|refine LeO.bind ?_ (fun _ => ?_))|exact LeO.none _|refine LeO.ite ?_ ?_|refine LeO.bind ?_ (fun _ => ?_)
theorem spec_BitsOk.mono : ∀ a0 a1 k, LeO (spec_BitsOk.f k a0 a1) (spec_BitsOk.f (k + 1) a0 a1) := by
 intro a0 a1 k
 obtain ⟨ih0, ih1⟩ := spec_BitsOk.mono_l k
 unfold spec_BitsOk.f
 repeat' first|(with_reducible first|exact ih0 _ _ _|exact ih1 _ _ _ _ _|exact spec_BitsOf.mono _ _|exact spec_l01List.mono _ _ _|exact LeO.refl _|exact LeO.none _|refine LeO.ite ?_ ?_|refine LeO.bind ?_ (fun _ => ?_))|exact LeO.none _|refine LeO.ite ?_ ?_|refine LeO.bind ?_ (fun _ => ?_)
set_option maxHeartbeats 8000000 in
set_option maxRecDepth 100000 in
theorem spec_BitsOk.calls (k : Nat) (a0_0 : Int) (A0_1 : Option Addr) (c0_1 : Nat) (l0_1 : List Int) (r : Bool) (w : World) (hr0_1 : Kd.C (Kd.int .u64) w A0_1 l0_1.length l0_1) (hc0_1 : l0_1.length ≤ c0_1) (h : spec_BitsOk.f k a0_0 l0_1 = some r) :
  Calls Try.prog 58 #[.agg #[.int .i64 a0_0, .slice A0_1 l0_1.length c0_1]] w fun e w' => e = .returned (.bool r) ∧ Below w.heap.size w w' := by
 have hu30:=Try.underlying30
 have HR0_1:=mk0 hr0_1
 have HC0_1:=mk0 hc0_1
 clear hr0_1 hc0_1
 have HB:=mk0 (Below.refl w.heap.size w)
 have H:(if a0_0 < 0 then (spec_BitsOk.j0 k true a0_0 l0_1) else (if a0_0 > 5000 then (spec_BitsOk.j0 k true a0_0 l0_1) else (spec_BitsOk.j0 k ((l0_1.length:Int) != (wrap64 (Int.tdiv (wrap64 (a0_0 + 63)) 64))) a0_0 l0_1))) = some r:=h
 clear h
 have HC2:=mk0 H
 clear H
 go_enter Try.func58,Try.ntmps58
 go_upto_region 1 with (first|((with_reducible refine gate_dst (N:=1) rfl ?_);(try (refine gate_guard (by rfl) ?_;dsimp only));refine box_event ?hg (N:=1) ?hd (cs:=#[.int .i64 a0_0,.slice A0_1 l0_1.length c0_1]) (t:=30) ?hr ?_;(case hd=>rfl);(case hg=>rfl);(case hr=>first|(go_simp;done)|(go_simp;rfl));intro gb163 hg w3 hbox hb;have BK163:=mk0 (hbox);have GW163:=mk0 ((by rw [hg];exact (kZ HB.out):w.heap.size ≤ gb163));have GE163:=mk0 ((by rw [hg];exact (kZ HB.out):w.heap.size ≤ gb163));replace HB:=mk0 (kS HB.out hb);clear hb hbox hg))
 repeat (go_quiet (first|((with_reducible refine gate_dst (N:=1) rfl ?_);(try (refine gate_guard (by rfl) ?_;dsimp only));refine box_event ?hg (N:=1) ?hd (cs:=#[.int .i64 a0_0,.slice A0_1 l0_1.length c0_1]) (t:=30) ?hr ?_;(case hd=>rfl);(case hg=>rfl);(case hr=>first|(go_simp;done)|(go_simp;rfl));intro gb163 hg w3 hbox hb;have BK163:=mk0 (hbox);have GW163:=mk0 ((by rw [hg];exact (kZ HB.out):w.heap.size ≤ gb163));have GE163:=mk0 ((by rw [hg];exact (kZ HB.out):w.heap.size ≤ gb163));replace HB:=mk0 (kS HB.out hb);clear hb hbox hg));go_upto_region 1 with (first|((with_reducible refine gate_dst (N:=1) rfl ?_);(try (refine gate_guard (by rfl) ?_;dsimp only));refine box_event ?hg (N:=1) ?hd (cs:=#[.int .i64 a0_0,.slice A0_1 l0_1.length c0_1]) (t:=30) ?hr ?_;(case hd=>rfl);(case hg=>rfl);(case hr=>first|(go_simp;done)|(go_simp;rfl));intro gb163 hg w3 hbox hb;have BK163:=mk0 (hbox);have GW163:=mk0 ((by rw [hg];exact (kZ HB.out):w.heap.size ≤ gb163));have GE163:=mk0 ((by rw [hg];exact (kZ HB.out):w.heap.size ≤ gb163));replace HB:=mk0 (kS HB.out hb);clear hb hbox hg)))
 (try simp only [Act.put,sA,sO,sS])
 go_cut [23] (fun v23 wc=>∃ (kq:Nat) (x23_1:Bool),v23 = .bool x23_1 ∧ Aside0 (spec_BitsOk.j0 kq x23_1 a0_0 l0_1 = some r) ∧ Aside0 (kq ≤ k) ∧ Aside0 (wc.heap[gb163]? = some (.cells #[.int .i64 a0_0,(.slice A0_1 l0_1.length c0_1)] 30 (0,0))) ∧ Aside0 (Below w.heap.size w wc))
 case first =>
  have H:=HC2.out
  clear HC2
  by_cases c4:a0_0 < 0
  ·rw [if_pos c4] at H
   have c4b0:decide (a0_0 < 0) = true:=decide_eq_true c4
   clear c4
   (first|rw [c4b0]|(simp only [i64_w,i32_w];rw [c4b0])|skip)
   have H':=mk0 H
   clear H
   obtain⟨hcz5_0,hcz5_1,hfz5_0,hfz5_1⟩:=cz2 BK163.out
   go_wp2
   repeat (go_quiet (fail);try go_wp2)
   go_meet
   case rel=>exact⟨_,(true),(by first|rfl|(simp;done)|(simp [*];done)),H',⟨by first|omega|exact Nat.le_refl _⟩,⟨kN BK163.out⟩,⟨kB HB.out⟩⟩
  rw [if_neg c4] at H
  have c4b0:decide (a0_0 < 0) = false:=decide_eq_false c4
  clear c4
  (first|rw [c4b0]|(simp only [i64_w,i32_w];rw [c4b0])|skip)
  by_cases c6:a0_0 > 5000
  ·rw [if_pos c6] at H
   have c6b0:decide (5000 < a0_0) = true:=decide_eq_true c6
   clear c6
   have H':=mk0 H
   clear H
   obtain⟨hcz7_0,hcz7_1,hfz7_0,hfz7_1⟩:=cz2 BK163.out
   go_wp2
   repeat (go_quiet (fail);try go_wp2)
   go_meet
   case rel=>exact⟨_,(true),(by first|rfl|(simp;done)|(simp [*];done)),H',⟨by first|omega|exact Nat.le_refl _⟩,⟨kN BK163.out⟩,⟨kB HB.out⟩⟩
  rw [if_neg c6] at H
  have c6b0:decide (5000 < a0_0) = false:=decide_eq_false c6
  clear c6
  have H':=mk0 H
  clear H
  obtain⟨hcz8_0,hcz8_1,hfz8_0,hfz8_1⟩:=cz2 BK163.out
  go_wp2
  repeat (go_quiet (fail);try go_wp2)
  go_meet
  case rel=>exact⟨_,(((l0_1.length:Int) != (wrap64 (Int.tdiv (wrap64 (a0_0 + 63)) 64)))),(by first|rfl|(simp;done)|(simp [*];done)),H',⟨by first|omega|exact Nat.le_refl _⟩,⟨kN BK163.out⟩,⟨kB HB.out⟩⟩
 case rest =>
  clear HC2
  try clear p2
  try clear c4
  try clear c4b0
  try clear c5
  try clear c6
  try clear c6b0
  try clear p6
  try clear hcz5_0
  try clear hcz5_1
  try clear hcz7_0
  try clear hcz7_1
  try clear hcz8_0
  try clear hcz8_1
  try clear hfz5_0
  try clear hfz5_1
  try clear hfz7_0
  try clear hfz7_1
  try clear hfz8_0
  try clear hfz8_1
  obtain⟨kq,x23_1,rfl,HA,HJ1,BK163,HB⟩:=hcut
  cases kq with
  | zero=>exact absurd HA.out (by simp [spec_BitsOk.j0])
  | succ kj1 =>
   have H:=HA.out
   clear HA
   simp only [spec_BitsOk.j0] at H
   by_cases c9:x23_1 = true
   ·subst c9
    have H1:(some false) = some r:=by rw [if_pos rfl] at H;exact H
    clear H
    have H:=H1
    clear H1
    obtain rfl:=Option.some.inj H
    go_wp2
    repeat (go_quiet (fail);try go_wp2)
    go_ret
    exact⟨by first|rfl|(simp [errW_none,errW_some] <;> rfl)|(simp [*,errW_none,errW_some] <;> rfl),kB HB.out⟩
   replace c9:=Bool.eq_false_iff.mpr c9
   subst c9
   have H1:((spec_l01List.f kj1 a0_0 l0_1).bind fun t164=>((spec_BitsOf.f kj1 t164).bind fun bt167=>(spec_BitsOk.l0 kj1 0 a0_0 l0_1 bt167.1 bt167.2.1))) = some r:=by rw [if_neg (show ¬ (false = true) by decide)] at H;exact H
   clear H
   have H:=H1
   clear H1
   replace H:=Option.bind_eq_some_iff.mp H
   obtain⟨t164,A100,H⟩:=H
   replace H:((spec_BitsOf.f kj1 t164).bind fun bt167=>(spec_BitsOk.l0 kj1 0 a0_0 l0_1 bt167.1 bt167.2.1)) = some r:=H
   have A10:=mk0 A100
   clear A100
   replace H:=Option.bind_eq_some_iff.mp H
   obtain⟨⟨t167,t168,t171⟩,A110,H⟩:=H
   replace H:(spec_BitsOk.l0 kj1 0 a0_0 l0_1 t167 t168) = some r:=H
   have A11:=mk0 A110
   clear A110
   have H':=mk0 H
   clear H
   obtain⟨hcz12_0,hcz12_1,hfz12_0,hfz12_1⟩:=cz2 BK163.out
   go_wp2_with (first|(go_at_call 59;(with_reducible refine (spec_l01List.calls kj1 a0_0 _ _ l0_1 t164 _ ?side1 ?side2 A10.out).mono ?_);(case side1=>exact kC (Kd.C_below HR0_1.out HB.out));(case side2=>exact HC0_1.out);rintro e w13 ⟨v165,rfl,ho0,hb⟩;have HO166:=mk0 (Kd.R_lower ho0 (kZ HB.out));replace BK163:=mk0 (kK BK163.out hb);replace HB:=mk0 (kS HB.out hb);(try clear hb);(try clear ho0);obtain⟨Ao14,co14,eo14⟩:=Kd.R_slice HO166.out;subst eo14)|(go_at_call 40;(with_reducible refine (spec_BitsOf.calls kj1 _ _ t164 t167 t168 t171 _ ?side1 ?side2 A11.out).mono ?_);(case side1=>exact kC (Kd.R_reads' HO166.out).2.2);(case side2=>exact (Kd.R_reads' HO166.out).2.1);rintro e w15 ⟨v169,rfl,ho0,hb⟩;replace HO166:=mk0 (bR HO166.out hb);have HO170:=mk0 (Kd.R_lower ho0 (kZ HB.out));replace BK163:=mk0 (kK BK163.out hb);replace HB:=mk0 (kS HB.out hb);(try clear hb);(try clear ho0))|((with_reducible refine gate_dst (N:=3) rfl ?_);(try (refine gate_guard (by rfl) ?_;dsimp only));refine box_event ?hg (N:=3) ?hd (cs:=#[.int .i64 0,.slice none 0 0]) (t:=30) ?hr ?_;(case hd=>rfl);(case hg=>rfl);(case hr=>first|(go_simp;done)|(go_simp;rfl));intro gb172 hg w16 hbox hb;replace HO166:=mk0 (bR HO166.out hb);replace HO170:=mk0 (bR HO170.out hb);have BK172:=mk0 (hbox);have GW172:=mk0 ((by rw [hg];exact (kZ HB.out):w.heap.size ≤ gb172));have GE172:=mk0 ((by rw [hg];exact (kZ HB.out):w.heap.size ≤ gb172));replace HB:=mk0 (kS HB.out hb);have NB163_172:=mk0 ((by rw [hg];exact Nat.ne_of_lt (kL BK163.out):gb163 ≠ gb172));have NB172_163:=mk0 ((by rw [hg];exact Nat.ne_of_gt (kL BK163.out):gb172 ≠ gb163));replace BK163:=mk0 (kK BK163.out hb);clear hb hbox hg;have hnb17:=NB172_163.out;have hnc17:=NB163_172.out;obtain⟨hcz18_0,hcz18_1,hfz18_0,hfz18_1⟩:=cz2 BK172.out;obtain⟨Ao19,co19,eo19⟩:=Kd.R_slice HO170.out;subst eo19))
   repeat (go_quiet (first|(go_at_call 59;(with_reducible refine (spec_l01List.calls kj1 a0_0 _ _ l0_1 t164 _ ?side1 ?side2 A10.out).mono ?_);(case side1=>exact kC (Kd.C_below HR0_1.out HB.out));(case side2=>exact HC0_1.out);rintro e w13 ⟨v165,rfl,ho0,hb⟩;have HO166:=mk0 (Kd.R_lower ho0 (kZ HB.out));replace BK163:=mk0 (kK BK163.out hb);replace HB:=mk0 (kS HB.out hb);(try clear hb);(try clear ho0);obtain⟨Ao14,co14,eo14⟩:=Kd.R_slice HO166.out;subst eo14)|(go_at_call 40;(with_reducible refine (spec_BitsOf.calls kj1 _ _ t164 t167 t168 t171 _ ?side1 ?side2 A11.out).mono ?_);(case side1=>exact kC (Kd.R_reads' HO166.out).2.2);(case side2=>exact (Kd.R_reads' HO166.out).2.1);rintro e w15 ⟨v169,rfl,ho0,hb⟩;replace HO166:=mk0 (bR HO166.out hb);have HO170:=mk0 (Kd.R_lower ho0 (kZ HB.out));replace BK163:=mk0 (kK BK163.out hb);replace HB:=mk0 (kS HB.out hb);(try clear hb);(try clear ho0))|((with_reducible refine gate_dst (N:=3) rfl ?_);(try (refine gate_guard (by rfl) ?_;dsimp only));refine box_event ?hg (N:=3) ?hd (cs:=#[.int .i64 0,.slice none 0 0]) (t:=30) ?hr ?_;(case hd=>rfl);(case hg=>rfl);(case hr=>first|(go_simp;done)|(go_simp;rfl));intro gb172 hg w16 hbox hb;replace HO166:=mk0 (bR HO166.out hb);replace HO170:=mk0 (bR HO170.out hb);have BK172:=mk0 (hbox);have GW172:=mk0 ((by rw [hg];exact (kZ HB.out):w.heap.size ≤ gb172));have GE172:=mk0 ((by rw [hg];exact (kZ HB.out):w.heap.size ≤ gb172));replace HB:=mk0 (kS HB.out hb);have NB163_172:=mk0 ((by rw [hg];exact Nat.ne_of_lt (kL BK163.out):gb163 ≠ gb172));have NB172_163:=mk0 ((by rw [hg];exact Nat.ne_of_gt (kL BK163.out):gb172 ≠ gb163));replace BK163:=mk0 (kK BK163.out hb);clear hb hbox hg;have hnb17:=NB172_163.out;have hnc17:=NB163_172.out;obtain⟨hcz18_0,hcz18_1,hfz18_0,hfz18_1⟩:=cz2 BK172.out;obtain⟨Ao19,co19,eo19⟩:=Kd.R_slice HO170.out;subst eo19));try go_wp2_with (first|(go_at_call 59;(with_reducible refine (spec_l01List.calls kj1 a0_0 _ _ l0_1 t164 _ ?side1 ?side2 A10.out).mono ?_);(case side1=>exact kC (Kd.C_below HR0_1.out HB.out));(case side2=>exact HC0_1.out);rintro e w13 ⟨v165,rfl,ho0,hb⟩;have HO166:=mk0 (Kd.R_lower ho0 (kZ HB.out));replace BK163:=mk0 (kK BK163.out hb);replace HB:=mk0 (kS HB.out hb);(try clear hb);(try clear ho0);obtain⟨Ao14,co14,eo14⟩:=Kd.R_slice HO166.out;subst eo14)|(go_at_call 40;(with_reducible refine (spec_BitsOf.calls kj1 _ _ t164 t167 t168 t171 _ ?side1 ?side2 A11.out).mono ?_);(case side1=>exact kC (Kd.R_reads' HO166.out).2.2);(case side2=>exact (Kd.R_reads' HO166.out).2.1);rintro e w15 ⟨v169,rfl,ho0,hb⟩;replace HO166:=mk0 (bR HO166.out hb);have HO170:=mk0 (Kd.R_lower ho0 (kZ HB.out));replace BK163:=mk0 (kK BK163.out hb);replace HB:=mk0 (kS HB.out hb);(try clear hb);(try clear ho0))|((with_reducible refine gate_dst (N:=3) rfl ?_);(try (refine gate_guard (by rfl) ?_;dsimp only));refine box_event ?hg (N:=3) ?hd (cs:=#[.int .i64 0,.slice none 0 0]) (t:=30) ?hr ?_;(case hd=>rfl);(case hg=>rfl);(case hr=>first|(go_simp;done)|(go_simp;rfl));intro gb172 hg w16 hbox hb;replace HO166:=mk0 (bR HO166.out hb);replace HO170:=mk0 (bR HO170.out hb);have BK172:=mk0 (hbox);have GW172:=mk0 ((by rw [hg];exact (kZ HB.out):w.heap.size ≤ gb172));have GE172:=mk0 ((by rw [hg];exact (kZ HB.out):w.heap.size ≤ gb172));replace HB:=mk0 (kS HB.out hb);have NB163_172:=mk0 ((by rw [hg];exact Nat.ne_of_lt (kL BK163.out):gb163 ≠ gb172));have NB172_163:=mk0 ((by rw [hg];exact Nat.ne_of_gt (kL BK163.out):gb172 ≠ gb163));replace BK163:=mk0 (kK BK163.out hb);clear hb hbox hg;have hnb17:=NB172_163.out;have hnc17:=NB163_172.out;obtain⟨hcz18_0,hcz18_1,hfz18_0,hfz18_1⟩:=cz2 BK172.out;obtain⟨Ao19,co19,eo19⟩:=Kd.R_slice HO170.out;subst eo19)))
   go_loopg [5] kj1 (fun kq v5 w'=>∃ (x5_2:Int),v5 = .int .i64 x5_2 ∧ Aside0 (spec_BitsOk.l0 kq x5_2 a0_0 l0_1 t167 t168 = some r) ∧ Aside0 (kq ≤ kj1) ∧ Aside0 (Kd.R (Kd.int .u64) 82 w' w.heap.size (fun _=>True) (.slice Ao19 t168.length co19) t168) ∧ Aside0 (w'.heap[gb163]? = some (.cells #[.int .i64 a0_0,(.slice A0_1 l0_1.length c0_1)] 30 (0,0))) ∧ Aside0 (w'.heap[gb172]? = some (.cells #[.int .i64 t167,(.slice Ao19 t168.length co19)] 30 (0,0))) ∧ Aside0 (Below w.heap.size w w'))
   case atStart=>exact⟨(0),(by first|rfl|(simp;done)|(simp [*];done)),H',⟨Nat.le_refl _⟩,⟨by (with_reducible repeat (first|apply aR|apply nR|apply dR));exact Kd.R_mono (Kd.R_far (p:=⟨gb172,1,none⟩) (Kd.R_far (p:=⟨gb172,0,none⟩) (Kd.R_types HO170.out BK172.out (by decide)) (by first|exact fun _ hk=>hk.2|(intro k_ hk;simp only [hk,ne_eq,and_self,not_false_eq_true])) (.int .i64 t167)) (by first|exact fun _ hk=>hk.2|(intro k_ hk;simp only [hk,ne_eq,and_self,not_false_eq_true])) (.slice Ao19 t168.length co19)) (fun _ hk=>trivial)⟩,⟨by (with_reducible repeat (first|apply nB|apply dB|apply aB));refine blk_far ?_ NB163_172.out _;(with_reducible repeat (first|apply nB|apply dB|apply aB));refine blk_far ?_ NB163_172.out _;(with_reducible repeat (first|apply nB|apply dB|apply aB));exact BK163.out⟩,⟨by (with_reducible repeat (first|apply nB|apply dB|apply aB));refine blk_put (cs:=#[.int .i64 t167,.slice none 0 0]) ?_ 1 _ rfl;(with_reducible repeat (first|apply nB|apply dB|apply aB));refine blk_put (cs:=#[.int .i64 0,.slice none 0 0]) ?_ 0 _ rfl;(with_reducible repeat (first|apply nB|apply dB|apply aB));exact BK172.out⟩,⟨kB HB.out⟩⟩
   case round =>
    clear H'
    try clear c1
    try clear p2
    try clear c4
    try clear c4b0
    try clear c5
    try clear c6
    try clear c6b0
    try clear p6
    try clear c9
    try clear c17
    try clear hcz12_0
    try clear hcz12_1
    try clear hcz18_0
    try clear hcz18_1
    try clear hcz5_0
    try clear hcz5_1
    try clear hcz7_0
    try clear hcz7_1
    try clear hcz8_0
    try clear hcz8_1
    try clear hfz12_0
    try clear hfz12_1
    try clear hfz18_0
    try clear hfz18_1
    try clear hfz5_0
    try clear hfz5_1
    try clear hfz7_0
    try clear hfz7_1
    try clear hfz8_0
    try clear hfz8_1
    try clear p2
    try clear p6
    obtain⟨x5_2,rfl,HA,HK2,HO_173001,BK163,BK172,HB⟩:=hrel
    cases gk with
    | zero=>exact absurd HA.out (by simp [spec_BitsOk.l0])
    | succ k2 =>
     have H:=HA.out
     clear HA
     simp only [spec_BitsOk.l0] at H
     by_cases c20:x5_2 < (l0_1.length:Int)
     rotate_left
     ·rw [if_neg c20] at H
      have c20b0:decide (x5_2 < (l0_1.length:Int)) = false:=decide_eq_false c20
      clear c20
      obtain rfl:=Option.some.inj H
      have hnb30:=NB163_172.out
      have hnc30:=NB172_163.out
      obtain⟨hcz31_0,hcz31_1,hfz31_0,hfz31_1⟩:=cz2 BK163.out
      go_wp2
      repeat (go_quiet (fail);try go_wp2)
      go_ret
      exact⟨by first|rfl|(simp [errW_none,errW_some] <;> rfl)|(simp [*,errW_none,errW_some] <;> rfl),kB HB.out⟩

     rw [if_pos c20] at H
     have c20b0:decide (x5_2 < (l0_1.length:Int)) = true:=decide_eq_true c20
     clear c20
     by_cases c21:0 ≤ x5_2
     rotate_left
     ·rw [if_neg c21] at H
      exact absurd H (by simp)
     rw [if_pos c21] at H
     have c21b0:decide (0 ≤ x5_2) = true:=decide_eq_true c21
     clear c21
     by_cases c22:x5_2 < (t168.length:Int)
     rotate_left
     ·rw [if_neg c22] at H
      exact absurd H (by simp)
     rw [if_pos c22] at H
     have c22b0:decide (x5_2 < (t168.length:Int)) = true:=decide_eq_true c22
     clear c22
     by_cases c23:(rd l0_1 x5_2) = (rd t168 x5_2)
     rotate_left
     ·rw [if_neg c23] at H
      have c23b0:((rd l0_1 x5_2) == (rd t168 x5_2)) = false:=beq_eq_false_iff_ne.mpr c23
      have c23b1:((rd l0_1 x5_2) != (rd t168 x5_2)) = true:=bne_iff_ne.mpr c23
      obtain rfl:=Option.some.inj H
      have hnb27:=NB163_172.out
      have hnc27:=NB172_163.out
      obtain⟨hcz28_0,hcz28_1,hfz28_0,hfz28_1⟩:=cz2 BK163.out
      have p173:0 ≤ (x5_2:Int):=of_decide_eq_true (by first|(with_reducible assumption)|assumption)
      have q173:x5_2 < (l0_1.length:Int):=of_decide_eq_true (by first|(with_reducible assumption)|assumption)
      obtain⟨ad173,e173,hx173_0⟩:=Kd.at_int HR0_1.out x5_2 p173 q173
      cases e173
      replace hx173_0:=(HB.out.cell (World.block_lt_of_cell? w _ hx173_0)).trans hx173_0
      replace p173:=eq_true p173
      replace q173:=eq_true q173
      obtain⟨hcz29_0,hcz29_1,hfz29_0,hfz29_1⟩:=cz2 BK172.out
      have p174:0 ≤ (x5_2:Int):=of_decide_eq_true (by first|(with_reducible assumption)|assumption)
      have q174:x5_2 < (t168.length:Int):=of_decide_eq_true (by first|(with_reducible assumption)|assumption)
      obtain⟨ad174,e174,hx174_0⟩:=Kd.at_int (Kd.R_reads' HO_173001.out).2.2 x5_2 p174 q174
      cases e174
      replace p174:=eq_true p174
      replace q174:=eq_true q174
      go_wp2
      repeat (go_quiet (fail);try go_wp2)
      go_ret
      exact⟨by first|rfl|(simp [errW_none,errW_some] <;> rfl)|(simp [*,errW_none,errW_some] <;> rfl),kB HB.out⟩
     rw [if_pos c23] at H
     have c23b0:((rd l0_1 x5_2) == (rd t168 x5_2)) = true:=beq_iff_eq.mpr c23
     have c23b1:((rd l0_1 x5_2) != (rd t168 x5_2)) = false:=bne_eq_false_iff_eq.mpr c23
     clear c23
     have H':=mk0 H
     clear H
     have hnb24:=NB163_172.out
     have hnc24:=NB172_163.out
     obtain⟨hcz25_0,hcz25_1,hfz25_0,hfz25_1⟩:=cz2 BK163.out
     have p173:0 ≤ (x5_2:Int):=of_decide_eq_true (by first|(with_reducible assumption)|assumption)
     have q173:x5_2 < (l0_1.length:Int):=of_decide_eq_true (by first|(with_reducible assumption)|assumption)
     obtain⟨ad173,e173,hx173_0⟩:=Kd.at_int HR0_1.out x5_2 p173 q173
     cases e173
     replace hx173_0:=(HB.out.cell (World.block_lt_of_cell? w _ hx173_0)).trans hx173_0
     replace p173:=eq_true p173
     replace q173:=eq_true q173
     obtain⟨hcz26_0,hcz26_1,hfz26_0,hfz26_1⟩:=cz2 BK172.out
     have p174:0 ≤ (x5_2:Int):=of_decide_eq_true (by first|(with_reducible assumption)|assumption)
     have q174:x5_2 < (t168.length:Int):=of_decide_eq_true (by first|(with_reducible assumption)|assumption)
     obtain⟨ad174,e174,hx174_0⟩:=Kd.at_int (Kd.R_reads' HO_173001.out).2.2 x5_2 p174 q174
     cases e174
     replace p174:=eq_true p174
     replace q174:=eq_true q174
     go_wp2
     repeat (go_quiet (fail);try go_wp2)
     go_roundg k2
     case measure=>have:=HJ1.out;have:=HK2.out;omega
     case rel=>exact⟨(wrap64 (x5_2 + 1)),(by first|rfl|(simp;done)|(simp [*];done)),H',⟨by have:=HJ1.out;have:=HK2.out;omega⟩,⟨rR HO_173001.out⟩,⟨kN BK163.out⟩,⟨kN BK172.out⟩,⟨kB HB.out⟩⟩
/-! ### spec_l01Same: function 60 -/
def spec_l01Same.l0 : Nat → List Int → List Int → Int → Option (Bool)
 | 0, _, _, _ => none
 | k + 1, x0, x1, x5 => if x5 < (x0.length : Int) then (if 0 ≤ x5 then (if x5 < (x1.length : Int) then (if (rd x0 x5) = (rd x1 x5) then (spec_l01Same.l0 k x0 x1 (wrap64 (x5 + 1))) else (some false)) else (none)) else (none)) else (some true)
def spec_l01Same.f (k : Nat) (l0 : List Int) (l1 : List Int) : Option (Bool) := if (l0.length : Int) = (l1.length : Int) then (spec_l01Same.l0 k l0 l1 0) else (some false)
theorem spec_l01Same.mono_l : ∀ k, (∀ y0 y1 y2, LeO (spec_l01Same.l0 k y0 y1 y2) (spec_l01Same.l0 (k + 1) y0 y1 y2))
 | 0 => fun _ _ _ r h => by simp [spec_l01Same.l0] at h
 | k + 1 => by
  have ih0 := spec_l01Same.mono_l k
  ·intro y0 y1 y2
   unfold spec_l01Same.l0
   repeat' first|(with_reducible first|exact ih0 _ _ _|exact LeO.refl _|exact LeO.none _|refine LeO.ite ?_ ?_|refine LeO.bind ?_ (fun _ => ?_))|exact LeO.none _|refine LeO.ite ?_ ?_|refine LeO.bind ?_ (fun _ => ?_)
theorem spec_l01Same.mono : ∀ a0 a1 k, LeO (spec_l01Same.f k a0 a1) (spec_l01Same.f (k + 1) a0 a1) := by
 intro a0 a1 k
 have ih0 := spec_l01Same.mono_l k
 unfold spec_l01Same.f
 repeat' first|(with_reducible first|exact ih0 _ _ _|exact LeO.refl _|exact LeO.none _|refine LeO.ite ?_ ?_|refine LeO.bind ?_ (fun _ => ?_))|exact LeO.none _|refine LeO.ite ?_ ?_|refine LeO.bind ?_ (fun _ => ?_)
set_option maxHeartbeats 8000000 in
set_option maxRecDepth 100000 in
theorem spec_l01Same.calls (k : Nat) (A0 : Option Addr) (c0 : Nat) (l0 : List Int) (A1 : Option Addr) (c1 : Nat) (l1 : List Int) (r : Bool) (w : World) (hr0 : Kd.C (Kd.int .i64) w A0 l0.length l0) (hc0 : l0.length ≤ c0) (hr1 : Kd.C (Kd.int .i64) w A1 l1.length l1) (hc1 : l1.length ≤ c1) (h : spec_l01Same.f k l0 l1 = some r) :
  Calls Try.prog 60 #[.slice A0 l0.length c0, .slice A1 l1.length c1] w fun e w' => e = .returned (.bool r) ∧ Drawn0 w w' := by
 have HR0:=mk0 hr0
 have HC0:=mk0 hc0
 clear hr0 hc0
 have HR1:=mk0 hr1
 have HC1:=mk0 hc1
 clear hr1 hc1
 have H:(if (l0.length:Int) = (l1.length:Int) then (spec_l01Same.l0 k l0 l1 0) else (some false)) = some r:=h
 clear h
 by_cases c3:(l0.length:Int) = (l1.length:Int)
 ·rw [if_pos c3] at H
  have c3b0:((l0.length:Int) == (l1.length:Int)) = true:=beq_iff_eq.mpr c3
  have c3b1:((l0.length:Int) != (l1.length:Int)) = false:=bne_eq_false_iff_eq.mpr c3
  have c3b2:(l0.length == l1.length) = true:=by first|simpa using c3|(simp at c3 ⊢;omega)
  clear c3
  have H':=mk0 H
  clear H
  go_enter Try.func60,Try.ntmps60
  go_wp2
  repeat (go_quiet (fail);try go_wp2)
  go_loopg [5] k (fun kq v5 w'=>∃ (x5_1:Int),v5 = .int .i64 x5_1 ∧ Aside0 (spec_l01Same.l0 kq l0 l1 x5_1 = some r) ∧ Aside0 (kq ≤ k) ∧ Drawn0 w w')
  case atStart=>exact⟨(0),(by first|rfl|(simp;done)|(simp [*];done)),H',⟨Nat.le_refl _⟩,by repeat (first|exact Drawn0.refl _|apply Drawn0.step)⟩
  case round =>
   clear H'
   try clear c1
   try clear p2
   try clear c3
   try clear c3b0
   try clear c3b1
   try clear c3b2
   obtain⟨x5_1,rfl,HA,HK1,⟨m1,rfl⟩⟩:=hrel
   cases gk with
   | zero=>exact absurd HA.out (by simp [spec_l01Same.l0])
   | succ k1 =>
    have H:=HA.out
    clear HA
    simp only [spec_l01Same.l0] at H
    by_cases c4:x5_1 < (l0.length:Int)
    ·rw [if_pos c4] at H
     have c4b0:decide (x5_1 < (l0.length:Int)) = true:=decide_eq_true c4
     clear c4
     by_cases c5:0 ≤ x5_1
     ·rw [if_pos c5] at H
      have c5b0:decide (0 ≤ x5_1) = true:=decide_eq_true c5
      clear c5
      by_cases c6:x5_1 < (l1.length:Int)
      ·rw [if_pos c6] at H
       have c6b0:decide (x5_1 < (l1.length:Int)) = true:=decide_eq_true c6
       clear c6
       by_cases c7:(rd l0 x5_1) = (rd l1 x5_1)
       ·rw [if_pos c7] at H
        have c7b0:((rd l0 x5_1) == (rd l1 x5_1)) = true:=beq_iff_eq.mpr c7
        have c7b1:((rd l0 x5_1) != (rd l1 x5_1)) = false:=bne_eq_false_iff_eq.mpr c7
        clear c7
        have H':=mk0 H
        clear H
        have p175:0 ≤ (x5_1:Int):=of_decide_eq_true (by first|(with_reducible assumption)|assumption)
        have q175:x5_1 < (l0.length:Int):=of_decide_eq_true (by first|(with_reducible assumption)|assumption)
        obtain⟨ad175,e175,hx175_0⟩:=Kd.at_int HR0.out x5_1 p175 q175
        cases e175
        replace p175:=eq_true p175
        replace q175:=eq_true q175
        have p176:0 ≤ (x5_1:Int):=of_decide_eq_true (by first|(with_reducible assumption)|assumption)
        have q176:x5_1 < (l1.length:Int):=of_decide_eq_true (by first|(with_reducible assumption)|assumption)
        obtain⟨ad176,e176,hx176_0⟩:=Kd.at_int HR1.out x5_1 p176 q176
        cases e176
        replace p176:=eq_true p176
        replace q176:=eq_true q176
        go_wp2
        repeat (go_quiet (fail);try go_wp2)
        go_roundg k1
        case measure=>have:=HK1.out;omega
        case rel=>exact⟨(wrap64 (x5_1 + 1)),(by first|rfl|(simp;done)|(simp [*];done)),H',⟨by have:=HK1.out;omega⟩,by repeat (first|exact Drawn0.refl _|apply Drawn0.step)⟩
       ·rw [if_neg c7] at H
        have c7b0:((rd l0 x5_1) == (rd l1 x5_1)) = false:=beq_eq_false_iff_ne.mpr c7
        have c7b1:((rd l0 x5_1) != (rd l1 x5_1)) = true:=bne_iff_ne.mpr c7
        obtain rfl:=Option.some.inj H
        have p175:0 ≤ (x5_1:Int):=of_decide_eq_true (by first|(with_reducible assumption)|assumption)
        have q175:x5_1 < (l0.length:Int):=of_decide_eq_true (by first|(with_reducible assumption)|assumption)
        obtain⟨ad175,e175,hx175_0⟩:=Kd.at_int HR0.out x5_1 p175 q175
        cases e175
        replace p175:=eq_true p175
        replace q175:=eq_true q175
        have p176:0 ≤ (x5_1:Int):=of_decide_eq_true (by first|(with_reducible assumption)|assumption)
        have q176:x5_1 < (l1.length:Int):=of_decide_eq_true (by first|(with_reducible assumption)|assumption)
        obtain⟨ad176,e176,hx176_0⟩:=Kd.at_int HR1.out x5_1 p176 q176
        cases e176
        replace p176:=eq_true p176
        replace q176:=eq_true q176
        go_wp2
        repeat (go_quiet (fail);try go_wp2)
        go_ret
        exact⟨by first|rfl|(simp;done)|(simp [*];done),by repeat (first|exact Drawn0.refl _|apply Drawn0.step)⟩
      ·rw [if_neg c6] at H
       exact absurd H (by simp)
     ·rw [if_neg c5] at H
      exact absurd H (by simp)
    ·rw [if_neg c4] at H
     have c4b0:decide (x5_1 < (l0.length:Int)) = false:=decide_eq_false c4
     clear c4
     obtain rfl:=Option.some.inj H
     go_wp2
     repeat (go_quiet (fail);try go_wp2)
     go_ret
     exact⟨by first|rfl|(simp;done)|(simp [*];done),by repeat (first|exact Drawn0.refl _|apply Drawn0.step)⟩
 ·rw [if_neg c3] at H
  have c3b0:((l0.length:Int) == (l1.length:Int)) = false:=beq_eq_false_iff_ne.mpr c3
  have c3b1:((l0.length:Int) != (l1.length:Int)) = true:=bne_iff_ne.mpr c3
  have c3b2:(l0.length == l1.length) = false:=by first|simpa using c3|(simp at c3 ⊢;omega)
  obtain rfl:=Option.some.inj H
  go_enter Try.func60,Try.ntmps60
  go_wp2
  repeat (go_quiet (fail);try go_wp2)
  go_ret
  exact⟨by first|rfl|(simp;done)|(simp [*];done),by repeat (first|exact Drawn0.refl _|apply Drawn0.step)⟩

end Go.Proofs.Ytgjmmegmkdklbaa.QFnExactHuffRead
