-- A walk, made by walk.py, a program of this session's.
import Derived.Test.YtpheodpcppclaaaQFnMinsSetx0
import Derived.Test.YtpheodpcppclaaaQFnMinsSetx1
namespace Go.Proofs.Ytpheodpcppclaaa.QFnMinsSet
open Go.RowKit Go.Proofs.YtpheodpcppclaaaW.PrintWords Go.Proofs.YtpheodpcppclaaaW.PrintLast Go.Proofs.YtpheodpcppclaaaW.PrintMore
attribute [local go_sem] max2_int min2_int max_two min_two max_three min_three max_four min_four   -- for this text's walks alone
set_option linter.unusedVariables false
set_option linter.unusedSimpArgs false

/-! ### spec_l10List: function 42 -/
def spec_l10List.j0 : Nat → Int → Bool → Int → List Int → Option (List Int)
 | 0, _, _, _, _ => none
 | k + 1, x3, x20, x115000, x115001 => if x20 = true then (some ([] : List Int)) else ((some (([] : List Int) : List Int)).bind fun y115 => (if 0 ≤ x3 then (if x3 ≤ (wrap64 (x3 + x115000)) then (if (wrap64 (x3 + x115000)) ≤ (x115001.length : Int) then (if y115.length + ((x115001.take ((wrap64 (x3 + x115000)) : Int).toNat).drop (x3 : Int).toNat).length < 17592186044416 then (some (y115 ++ ((x115001.take ((wrap64 (x3 + x115000)) : Int).toNat).drop (x3 : Int).toNat))) else (none)) else (none)) else (none)) else (none)))
def spec_l10List.f (k : Nat) (a0_0 : Int) (l0_1 : List Int) : Option (List Int) := if a0_0 < 0 then (spec_l10List.j0 k (wrap64 ((l0_1.length : Int) / 2)) true a0_0 l0_1) else (if a0_0 > (wrap64 ((l0_1.length : Int) / 2)) then (spec_l10List.j0 k (wrap64 ((l0_1.length : Int) / 2)) true a0_0 l0_1) else (spec_l10List.j0 k (wrap64 ((l0_1.length : Int) / 2)) (decide ((wrap64 ((l0_1.length : Int) / 2)) > 512)) a0_0 l0_1))
theorem spec_l10List.mono_l : ∀ k, (∀ y0 y1 y2 y3, LeO (spec_l10List.j0 k y0 y1 y2 y3) (spec_l10List.j0 (k + 1) y0 y1 y2 y3))
 | 0 => fun _ _ _ _ r h => by simp [spec_l10List.j0] at h
 | k + 1 => by
  have ih0 := spec_l10List.mono_l k
  ·intro y0 y1 y2 y3
   unfold spec_l10List.j0
   repeat' first|(with_reducible first|exact ih0 _ _ _ _|exact LeO.refl _|exact LeO.none _|refine LeO.ite ?_ ?_|refine LeO.bind ?_ (fun _ => ?_))|exact LeO.none _|refine LeO.ite ?_ ?_|refine LeO.bind ?_ (fun _ => ?_)
theorem spec_l10List.mono : ∀ a0 a1 k, LeO (spec_l10List.f k a0 a1) (spec_l10List.f (k + 1) a0 a1) := by
 intro a0 a1 k
 have ih0 := spec_l10List.mono_l k
 unfold spec_l10List.f
 repeat' first|(with_reducible first|exact ih0 _ _ _ _|exact LeO.refl _|exact LeO.none _|refine LeO.ite ?_ ?_|refine LeO.bind ?_ (fun _ => ?_))|exact LeO.none _|refine LeO.ite ?_ ?_|refine LeO.bind ?_ (fun _ => ?_)
set_option maxHeartbeats 8000000 in
set_option maxRecDepth 100000 in
theorem spec_l10List.calls (k : Nat) (a0_0 : Int) (A0_1 : Option Addr) (c0_1 : Nat) (l0_1 : List Int) (r : List Int) (w : World) (hr0_1 : Kd.C (Kd.int .i64) w A0_1 l0_1.length l0_1) (hc0_1 : l0_1.length ≤ c0_1) (h : spec_l10List.f k a0_0 l0_1 = some r) :
  Calls Try.prog 42 #[.agg #[.int .i64 a0_0, .slice A0_1 l0_1.length c0_1]] w fun e w' => ∃ v0_ : Value, e = .returned (v0_) ∧ Kd.R (Kd.int .i64) 3 w' w.heap.size (fun _ => True) v0_ r ∧ Below w.heap.size w w' := by
 have hu24:=Try.underlying24
 have HR0_1:=mk0 hr0_1
 have HC0_1:=mk0 hc0_1
 clear hr0_1 hc0_1
 have HB:=mk0 (Below.refl w.heap.size w)
 have H:(if a0_0 < 0 then (spec_l10List.j0 k (wrap64 ((l0_1.length:Int) / 2)) true a0_0 l0_1) else (if a0_0 > (wrap64 ((l0_1.length:Int) / 2)) then (spec_l10List.j0 k (wrap64 ((l0_1.length:Int) / 2)) true a0_0 l0_1) else (spec_l10List.j0 k (wrap64 ((l0_1.length:Int) / 2)) (decide ((wrap64 ((l0_1.length:Int) / 2)) > 512)) a0_0 l0_1))) = some r:=h
 clear h
 have HC2:=mk0 H
 clear H
 go_enter Try.func42,Try.ntmps42
 go_upto_region 2 with (first|((with_reducible refine gate_dst (N:=1) rfl ?_);refine box_event ?hg (N:=1) ?hd (cs:=#[.int .i64 a0_0,.slice A0_1 l0_1.length c0_1]) (t:=24) ?hr ?_;(case hd=>rfl);(case hg=>rfl);(case hr=>first|(go_simp;done)|(go_simp;rfl));intro gb114 hg w3 hbox hb;have n0_:=mk0 (below_step (by repeat (first|(with_reducible first|exact HB.out|apply aZ|apply nZ|apply dZ)|exact HB.out)) hb);have n1_:=mk0 (hbox);have n2_:=mk0 ((by rw [hg];exact (below_size (by repeat (first|(with_reducible first|exact HB.out|apply aZ|apply nZ|apply dZ)|exact HB.out))):w.heap.size ≤ gb114));have n3_:=mk0 ((by rw [hg];exact (below_size (by repeat (first|(with_reducible first|exact HB.out|apply aZ|apply nZ|apply dZ)|exact HB.out))):w.heap.size ≤ gb114));clear HB;have HB:=n0_;have BK114:=n1_;have GW114:=n2_;have GE114:=n3_;clear n0_ n1_ n2_ n3_ hb hbox hg;have hcz4_0:w3.cell? ⟨gb114,0,none⟩ = some (.int .i64 a0_0):=(blk_cell BK114.out 0).trans rfl;have hcz4_1:w3.cell? ⟨gb114,1,none⟩ = some (.slice A0_1 l0_1.length c0_1):=(blk_cell BK114.out 1).trans rfl;have hfz4_0:=blk_frozen BK114.out 0;have hfz4_1:=blk_frozen BK114.out 1))
 (try simp only [Act.put,sA,sO,sS])
 go_cut [20] (fun v20 wc=>∃ (kq:Nat) (x20_1:Bool),v20 = .bool x20_1 ∧ Aside0 (spec_l10List.j0 kq (wrap64 ((l0_1.length:Int) / 2)) x20_1 a0_0 l0_1 = some r) ∧ Aside0 (kq ≤ k) ∧ Aside0 (wc.heap[gb114]? = some (.cells #[.int .i64 a0_0,(.slice A0_1 l0_1.length c0_1)] 24 (0,0))) ∧ Aside0 (Below w.heap.size w wc))
 case first =>
  have H:=HC2.out
  clear HC2
  by_cases c5:a0_0 < 0
  ·rw [if_pos c5] at H
   have c5b0:decide (a0_0 < 0) = true:=decide_eq_true c5
   clear c5
   (first|rw [c5b0]|(simp only [i64_w,i32_w];rw [c5b0])|skip)
   have H':=mk0 H
   clear H
   have hcz6_0:w3.cell? ⟨gb114,0,none⟩ = some (.int .i64 a0_0):=(blk_cell BK114.out 0).trans rfl
   have hcz6_1:w3.cell? ⟨gb114,1,none⟩ = some (.slice A0_1 l0_1.length c0_1):=(blk_cell BK114.out 1).trans rfl
   have hfz6_0:=blk_frozen BK114.out 0
   have hfz6_1:=blk_frozen BK114.out 1
   go_wp2
   go_meet
   case rel=>exact⟨_,(true),(by first|rfl|(simp;done)|(simp [*];done)),H',⟨by first|omega|exact Nat.le_refl _⟩,⟨by (with_reducible repeat (first|apply nB|apply dB|apply aB));exact BK114.out⟩,⟨by repeat (first|(with_reducible first|exact HB.out|apply aZ|apply nZ|apply dZ|refine sZ ?_ GE114.out)|exact HB.out)⟩⟩
  ·rw [if_neg c5] at H
   have c5b0:decide (a0_0 < 0) = false:=decide_eq_false c5
   clear c5
   (first|rw [c5b0]|(simp only [i64_w,i32_w];rw [c5b0])|skip)
   by_cases c7:a0_0 > (wrap64 ((l0_1.length:Int) / 2))
   ·rw [if_pos c7] at H
    have c7b0:decide ((wrap64 ((l0_1.length:Int) / 2)) < a0_0) = true:=decide_eq_true c7
    clear c7
    have H':=mk0 H
    clear H
    have hcz8_0:w3.cell? ⟨gb114,0,none⟩ = some (.int .i64 a0_0):=(blk_cell BK114.out 0).trans rfl
    have hcz8_1:w3.cell? ⟨gb114,1,none⟩ = some (.slice A0_1 l0_1.length c0_1):=(blk_cell BK114.out 1).trans rfl
    have hfz8_0:=blk_frozen BK114.out 0
    have hfz8_1:=blk_frozen BK114.out 1
    go_wp2
    go_meet
    case rel=>exact⟨_,(true),(by first|rfl|(simp;done)|(simp [*];done)),H',⟨by first|omega|exact Nat.le_refl _⟩,⟨by (with_reducible repeat (first|apply nB|apply dB|apply aB));exact BK114.out⟩,⟨by repeat (first|(with_reducible first|exact HB.out|apply aZ|apply nZ|apply dZ|refine sZ ?_ GE114.out)|exact HB.out)⟩⟩
   ·rw [if_neg c7] at H
    have c7b0:decide ((wrap64 ((l0_1.length:Int) / 2)) < a0_0) = false:=decide_eq_false c7
    clear c7
    have H':=mk0 H
    clear H
    have hcz9_0:w3.cell? ⟨gb114,0,none⟩ = some (.int .i64 a0_0):=(blk_cell BK114.out 0).trans rfl
    have hcz9_1:w3.cell? ⟨gb114,1,none⟩ = some (.slice A0_1 l0_1.length c0_1):=(blk_cell BK114.out 1).trans rfl
    have hfz9_0:=blk_frozen BK114.out 0
    have hfz9_1:=blk_frozen BK114.out 1
    go_wp2
    go_meet
    case rel=>exact⟨_,(decide ((wrap64 ((l0_1.length:Int) / 2)) > 512)),(by first|rfl|(simp;done)|(simp [*];done)),H',⟨by first|omega|exact Nat.le_refl _⟩,⟨by (with_reducible repeat (first|apply nB|apply dB|apply aB));exact BK114.out⟩,⟨by repeat (first|(with_reducible first|exact HB.out|apply aZ|apply nZ|apply dZ|refine sZ ?_ GE114.out)|exact HB.out)⟩⟩
 case rest =>
  clear HC2
  try clear p2
  try clear c4
  try clear c5
  try clear c5b0
  try clear p6
  try clear c7
  try clear c7b0
  try clear hcz4_0
  try clear hcz4_1
  try clear hcz6_0
  try clear hcz6_1
  try clear hcz8_0
  try clear hcz8_1
  try clear hcz9_0
  try clear hcz9_1
  try clear hfz4_0
  try clear hfz4_1
  try clear hfz6_0
  try clear hfz6_1
  try clear hfz8_0
  try clear hfz8_1
  try clear hfz9_0
  try clear hfz9_1
  obtain⟨kq,x20_1,rfl,HA,HJ1,BK114,HB⟩:=hcut
  cases kq with
  | zero=>exact absurd HA.out (by simp [spec_l10List.j0])
  | succ kj1 =>
   have H:=HA.out
   clear HA
   simp only [spec_l10List.j0] at H
   by_cases c10:x20_1 = true
   ·subst c10
    have H1:(some ([]:List Int)) = some r:=by rw [if_pos rfl] at H;exact H
    clear H
    have H:=H1
    clear H1
    obtain rfl:=Option.some.inj H
    go_wp2
    go_ret
    exact⟨_,by first|rfl|(simp [errW_none,errW_some] <;> rfl)|(simp [*,errW_none,errW_some] <;> rfl),by first|exact Kd.R_nil _ _ _ _ _|exact Kd.N_nil _ _ _ _ _|exact Kd.V_nil _ _ _ _ _|exact Kd.Q_nil _ _ _ _ _|exact Kd.S_nil _ _ _ _ _,by repeat (first|(with_reducible first|exact HB.out|apply aZ|apply nZ|apply dZ|refine sZ ?_ GE114.out)|exact HB.out)⟩
   ·replace c10:=Bool.eq_false_iff.mpr c10
    subst c10
    have H1:((some (([]:List Int):List Int)).bind fun y115=>(if 0 ≤ (wrap64 ((l0_1.length:Int) / 2)) then (if (wrap64 ((l0_1.length:Int) / 2)) ≤ (wrap64 ((wrap64 ((l0_1.length:Int) / 2)) + a0_0)) then (if (wrap64 ((wrap64 ((l0_1.length:Int) / 2)) + a0_0)) ≤ (l0_1.length:Int) then (if y115.length + ((l0_1.take ((wrap64 ((wrap64 ((l0_1.length:Int) / 2)) + a0_0)):Int).toNat).drop ((wrap64 ((l0_1.length:Int) / 2)):Int).toNat).length < 17592186044416 then (some (y115 ++ ((l0_1.take ((wrap64 ((wrap64 ((l0_1.length:Int) / 2)) + a0_0)):Int).toNat).drop ((wrap64 ((l0_1.length:Int) / 2)):Int).toNat))) else (none)) else (none)) else (none)) else (none))) = some r:=by rw [if_neg (show ¬ (false = true) by decide)] at H;exact H
    clear H
    have H:=H1
    clear H1
    obtain⟨y115,hy115⟩:∃ y_:List Int,y_ = (([]:List Int)):=⟨_,rfl⟩
    replace H:(if 0 ≤ (wrap64 ((l0_1.length:Int) / 2)) then (if (wrap64 ((l0_1.length:Int) / 2)) ≤ (wrap64 ((wrap64 ((l0_1.length:Int) / 2)) + a0_0)) then (if (wrap64 ((wrap64 ((l0_1.length:Int) / 2)) + a0_0)) ≤ (l0_1.length:Int) then (if y115.length + ((l0_1.take ((wrap64 ((wrap64 ((l0_1.length:Int) / 2)) + a0_0)):Int).toNat).drop ((wrap64 ((l0_1.length:Int) / 2)):Int).toNat).length < 17592186044416 then (some (y115 ++ ((l0_1.take ((wrap64 ((wrap64 ((l0_1.length:Int) / 2)) + a0_0)):Int).toNat).drop ((wrap64 ((l0_1.length:Int) / 2)):Int).toNat))) else (none)) else (none)) else (none)) else (none)) = some r:=by first|(rw [hy115];with_reducible exact H)|(have H2_:=(Option.bind_some _ _).symm.trans H;rw [hy115];with_reducible exact H2_)|(have H2_:=(Option.bind_some _ _).symm.trans H;with_reducible exact H2_)|with_reducible exact H|(rw [hy115];exact H)|exact H
    have Ny115:=mk0 hy115
    clear hy115
    obtain⟨ji11,hji11⟩:∃ j_:Int,(wrap64 ((l0_1.length:Int) / 2)) = j_:=⟨_,rfl⟩
    replace H:(if 0 ≤ (ji11) then (if (ji11) ≤ (wrap64 ((ji11) + a0_0)) then (if (wrap64 ((ji11) + a0_0)) ≤ (l0_1.length:Int) then (if y115.length + ((l0_1.take ((wrap64 ((ji11) + a0_0)):Int).toNat).drop ((ji11):Int).toNat).length < 17592186044416 then (some (y115 ++ ((l0_1.take ((wrap64 ((ji11) + a0_0)):Int).toNat).drop ((ji11):Int).toNat))) else (none)) else (none)) else (none)) else (none)) = some r:=by first|(rw [hji11] at H;exact H)|(simp only [hji11] at H ⊢;exact H)
    have hji11w:(IntKind.i64.wrap ((l0_1.length:Int) / 2)) = ji11:=(i64_w _).trans hji11
    by_cases c12:0 ≤ (ji11)
    ·rw [if_pos c12] at H
     have c12b0:=eq_true c12
     have c12b1:decide (0 ≤ (ji11)) = true:=decide_eq_true c12
     clear c12
     by_cases c13:(ji11) ≤ (wrap64 ((ji11) + a0_0))
     ·rw [if_pos c13] at H
      have c13b0:=eq_true c13
      have c13b1:decide ((ji11) ≤ (wrap64 ((ji11) + a0_0))) = true:=decide_eq_true c13
      by_cases c14:(wrap64 ((ji11) + a0_0)) ≤ (l0_1.length:Int)
      ·rw [if_pos c14] at H
       have c14b0:=eq_true c14
       have c14b1:decide ((wrap64 ((ji11) + a0_0)) ≤ (l0_1.length:Int)) = true:=decide_eq_true c14
       by_cases c15:y115.length + ((l0_1.take ((wrap64 ((ji11) + a0_0)):Int).toNat).drop ((ji11):Int).toNat).length < 17592186044416
       ·rw [if_pos c15] at H
        have LMc15:=mk0 c15
        clear c15
        obtain⟨y119,hy119⟩:∃ y_:List Int,y_ = (y115 ++ ((l0_1.take ((wrap64 ((ji11) + a0_0)):Int).toNat).drop ((ji11):Int).toNat)):=⟨_,rfl⟩
        replace H:(some y119) = some r:=by first|(rw [hy119];with_reducible exact H)|(have H2_:=(Option.bind_some _ _).symm.trans H;rw [hy119];with_reducible exact H2_)|(have H2_:=(Option.bind_some _ _).symm.trans H;with_reducible exact H2_)|with_reducible exact H|(rw [hy119];exact H)|exact H
        have Ny119:=mk0 hy119
        clear hy119
        obtain rfl:=Option.some.inj H
        go_wp2_with (first|((with_reducible refine gate_dst (N:=21) rfl ?_);refine Kd.R_lit (Kd.int .i64) _ 3 ?hg (N:=21) ?hd (xs:=([]:List Int)) (inner:=[]) (ok:=fun _=>True) (okp:=fun _=>True) ?hr ?hp (fun _ hk=>hk) trivial (Below.refl _ _) (Nat.le_refl _) (by simp) ?_;(case hd=>rfl);(case hg=>rfl);(case hr=>first|(go_simp;done)|(go_simp;rfl));(case hp=>exact (Reps.none _ _));intro v116 w16 ho17 hb hg_ hnew_;clear hg_ hnew_;(first|rw [← Ny115.out] at ho17|(simp only [Int.reduceToNat] at ho17;rw [← Ny115.out] at ho17));have n0_:=mk0 (Kd.R_lower ho17 (below_size (by repeat (first|(with_reducible first|exact HB.out|apply aZ|apply nZ|apply dZ|refine sZ ?_ GE114.out)|exact HB.out))));have n1_:=mk0 (blk_below (g:=gb114) (o:=.cells #[.int .i64 a0_0,.slice A0_1 l0_1.length c0_1] 24 (0,0)) (by (with_reducible repeat (first|apply nB|apply dB|apply aB));exact BK114.out) hb);have n2_:=mk0 (below_step (by repeat (first|(with_reducible first|exact HB.out|apply aZ|apply nZ|apply dZ|refine sZ ?_ GE114.out)|exact HB.out)) hb);clear BK114 HB;have HO117:=n0_;have BK114:=n1_;have HB:=n2_;clear n0_ n1_ n2_ hb ho17;have hcz18_0:w16.cell? ⟨gb114,0,none⟩ = some (.int .i64 a0_0):=(blk_cell BK114.out 0).trans rfl;have hcz18_1:w16.cell? ⟨gb114,1,none⟩ = some (.slice A0_1 l0_1.length c0_1):=(blk_cell BK114.out 1).trans rfl;have hfz18_0:=blk_frozen BK114.out 0;have hfz18_1:=blk_frozen BK114.out 1;obtain⟨i019,hi019,_,hsz19,_⟩:=info_parts info3;obtain⟨A19,hcut19,hA19,hC19⟩:=print_mid_of (P:=Try.prog) (Value.int .i64) 0 22 3 .i64 .i64 Try.underlying22 hi019 hsz19 A0_1 c0_1 l0_1 (ji11) (wrap64 ((ji11) + a0_0)) (of_decide_eq_true (by first|(with_reducible assumption)|assumption)) (by first|omega|exact of_decide_eq_true (by first|(with_reducible assumption)|assumption)) (of_decide_eq_true (by first|(with_reducible assumption)|assumption)) HC0_1.out;have HR118:=mk0 (Kd.C_of_reads (h1:=fun _=>rfl) (hA19 _ (Kd.reads_of_C HR0_1.out)));have HC118:=mk0 hC19;clear hA19 hC19 hi019 hsz19)|((with_reducible refine gate_builtin (b:=.append) (xs:=#[.tmp 21,.tmp 29]) rfl ?_);at_builtin;refine Kd.R_append_rows (Kd.int .i64) (w0:=w) w.heap.size rfl (.tmp 21) (.tmp 29) 22 3 (.int .i64 0) 8 rfl Try.underlying22 info3 rfl (by decide) (by omega) v116 y115 ((l0_1.take ((wrap64 ((ji11) + a0_0)):Int).toNat).drop ((ji11):Int).toNat) _ _ _ (fun _=>True) (fun _=>False) rfl rfl ?aO ?aR (fun _ _ h=>h) (fun _ h=>h.elim) ?aF ?aB ?aS ?aL ?_;(case aR=>first|(rw [← show ((l0_1.take ((wrap64 ((ji11) + a0_0)):Int).toNat).drop ((ji11):Int).toNat).length = ((wrap64 ((ji11) + a0_0)).toNat - (ji11).toNat) from (by rw [List.length_drop,List.length_take];have h_:((wrap64 ((ji11) + a0_0)):Int) ≤ (l0_1.length:Int):=of_decide_eq_true (by first|(with_reducible assumption)|assumption);omega)];repeat (first|exact (Kd.C_below HR118.out HB.out)|(with_reducible first|apply aC|apply nC|apply dC)))|(repeat (first|exact (Kd.C_below HR118.out HB.out)|(with_reducible first|apply aC|apply nC|apply dC))));(case aB=>exact (by repeat (first|(with_reducible first|exact HB.out|apply aZ|apply nZ|apply dZ|refine sZ ?_ GE114.out)|exact HB.out)));(case aF=>exact (fun _ _=>trivial));(case aO=>exact (by (with_reducible repeat (first|apply aR|apply nR|apply dR));exact HO117.out));(case aS=>exact (below_size (by repeat (first|(with_reducible first|exact HB.out|apply aZ|apply nZ|apply dZ|refine sZ ?_ GE114.out)|exact HB.out))));(case aL=>have:=LMc15.out;have hlx_:=(show ((l0_1.take ((wrap64 ((ji11) + a0_0)):Int).toNat).drop ((ji11):Int).toNat).length = ((wrap64 ((ji11) + a0_0)).toNat - (ji11).toNat) from (by rw [List.length_drop,List.length_take];have h_:((wrap64 ((ji11) + a0_0)):Int) ≤ (l0_1.length:Int):=of_decide_eq_true (by first|(with_reducible assumption)|assumption);omega));omega);intro v120 w20 ho hb hg hat;rw [← Ny119.out] at ho;have n0_:=mk0 (blk_grown (g:=gb114) (o:=.cells #[.int .i64 a0_0,.slice A0_1 l0_1.length c0_1] 24 (0,0)) (by (with_reducible repeat (first|apply nB|apply dB|apply aB));exact BK114.out) hg (Kd.R_ne HO117.out BK114.out (by decide)));have n1_:=mk0 (hb);have n2_:=mk0 (ho);clear BK114 HB HO117;have BK114:=n0_;have HB:=n1_;have HO121:=n2_;clear n0_ n1_ n2_ ho hb hg hat))
        go_ret
        exact⟨_,by first|rfl|(simp [errW_none,errW_some] <;> rfl)|(simp only [← hji11];first|rfl|(simp [errW_none,errW_some] <;> rfl))|(simp [*,errW_none,errW_some] <;> rfl),by (with_reducible repeat (first|apply aR|apply nR|apply dR));exact HO121.out,by repeat (first|(with_reducible first|exact HB.out|apply aZ|apply nZ|apply dZ|refine sZ ?_ GE114.out)|exact HB.out)⟩
       ·rw [if_neg c15] at H
        exact absurd H (by simp)
      ·rw [if_neg c14] at H
       exact absurd H (by simp)
     ·rw [if_neg c13] at H
      exact absurd H (by simp)
    ·rw [if_neg c12] at H
     exact absurd H (by simp)

/-! ### spec_l01Same: function 58 -/
def spec_l01Same.l0 : Nat → List Int → List Int → Int → Option (Bool)
 | 0, _, _, _ => none
 | k + 1, x0, x1, x5 => if x5 < (x0.length : Int) then (if 0 ≤ x5 then (if x5 < (x1.length : Int) then (if (rd x0 x5) = (rd x1 x5) then (spec_l01Same.l0 k x0 x1 (wrap64 (x5 + 1))) else (some false)) else (none)) else (none)) else (some true)
def spec_l01Same.f (k : Nat) (l0 : List Int) (l1 : List Int) : Option (Bool) := if (l0.length : Int) = (l1.length : Int) then (spec_l01Same.l0 k l0 l1 0) else (some false)
theorem spec_l01Same.mono_l : ∀ k, (∀ y0 y1 y2, LeO (spec_l01Same.l0 k y0 y1 y2) (spec_l01Same.l0 (k + 1) y0 y1 y2))
 | 0 => fun _ _ _ r h => by simp [spec_l01Same.l0] at h
 | k + 1 => by
  have ih0 := spec_l01Same.mono_l k
  ·intro y0 y1 y2
   unfold spec_l01Same.l0
   repeat' first|(with_reducible first|exact ih0 _ _ _|exact LeO.refl _|exact LeO.none _|refine LeO.ite ?_ ?_|refine LeO.bind ?_ (fun _ => ?_))|exact LeO.none _|refine LeO.ite ?_ ?_|refine LeO.bind ?_ (fun _ => ?_)
theorem spec_l01Same.mono : ∀ a0 a1 k, LeO (spec_l01Same.f k a0 a1) (spec_l01Same.f (k + 1) a0 a1) := by
 intro a0 a1 k
 have ih0 := spec_l01Same.mono_l k
 unfold spec_l01Same.f
 repeat' first|(with_reducible first|exact ih0 _ _ _|exact LeO.refl _|exact LeO.none _|refine LeO.ite ?_ ?_|refine LeO.bind ?_ (fun _ => ?_))|exact LeO.none _|refine LeO.ite ?_ ?_|refine LeO.bind ?_ (fun _ => ?_)
set_option maxHeartbeats 8000000 in
set_option maxRecDepth 100000 in
theorem spec_l01Same.calls (k : Nat) (A0 : Option Addr) (c0 : Nat) (l0 : List Int) (A1 : Option Addr) (c1 : Nat) (l1 : List Int) (r : Bool) (w : World) (hr0 : Kd.C (Kd.int .i64) w A0 l0.length l0) (hc0 : l0.length ≤ c0) (hr1 : Kd.C (Kd.int .i64) w A1 l1.length l1) (hc1 : l1.length ≤ c1) (h : spec_l01Same.f k l0 l1 = some r) :
  Calls Try.prog 58 #[.slice A0 l0.length c0, .slice A1 l1.length c1] w fun e w' => e = .returned (.bool r) ∧ Drawn0 w w' := by
 have HR0:=mk0 hr0
 have HC0:=mk0 hc0
 clear hr0 hc0
 have HR1:=mk0 hr1
 have HC1:=mk0 hc1
 clear hr1 hc1
 have H:(if (l0.length:Int) = (l1.length:Int) then (spec_l01Same.l0 k l0 l1 0) else (some false)) = some r:=h
 clear h
 by_cases c3:(l0.length:Int) = (l1.length:Int)
 ·rw [if_pos c3] at H
  have c3b0:((l0.length:Int) == (l1.length:Int)) = true:=beq_iff_eq.mpr c3
  have c3b1:((l0.length:Int) != (l1.length:Int)) = false:=bne_eq_false_iff_eq.mpr c3
  have c3b2:(l0.length == l1.length) = true:=by first|simpa using c3|(simp at c3 ⊢;omega)
  clear c3
  have H':=mk0 H
  clear H
  go_enter Try.func58,Try.ntmps58
  go_wp2
  repeat (go_quiet (fail);try go_wp2)
  go_loopg [5] k (fun kq v5 w'=>∃ (x5_1:Int),v5 = .int .i64 x5_1 ∧ Aside0 (spec_l01Same.l0 kq l0 l1 x5_1 = some r) ∧ Aside0 (kq ≤ k) ∧ Drawn0 w w')
  case atStart=>exact⟨(0),(by first|rfl|(simp;done)|(simp [*];done)),H',⟨Nat.le_refl _⟩,by repeat (first|exact Drawn0.refl _|apply Drawn0.step)⟩
  case round =>
   clear H'
   try clear c1
   try clear p2
   try clear c3
   try clear c3b0
   try clear c3b1
   try clear c3b2
   obtain⟨x5_1,rfl,HA,HK1,⟨m1,rfl⟩⟩:=hrel
   cases gk with
   | zero=>exact absurd HA.out (by simp [spec_l01Same.l0])
   | succ k1 =>
    have H:=HA.out
    clear HA
    simp only [spec_l01Same.l0] at H
    by_cases c4:x5_1 < (l0.length:Int)
    ·rw [if_pos c4] at H
     have c4b0:decide (x5_1 < (l0.length:Int)) = true:=decide_eq_true c4
     clear c4
     by_cases c5:0 ≤ x5_1
     ·rw [if_pos c5] at H
      have c5b0:decide (0 ≤ x5_1) = true:=decide_eq_true c5
      clear c5
      by_cases c6:x5_1 < (l1.length:Int)
      ·rw [if_pos c6] at H
       have c6b0:decide (x5_1 < (l1.length:Int)) = true:=decide_eq_true c6
       clear c6
       by_cases c7:(rd l0 x5_1) = (rd l1 x5_1)
       ·rw [if_pos c7] at H
        have c7b0:((rd l0 x5_1) == (rd l1 x5_1)) = true:=beq_iff_eq.mpr c7
        have c7b1:((rd l0 x5_1) != (rd l1 x5_1)) = false:=bne_eq_false_iff_eq.mpr c7
        clear c7
        have H':=mk0 H
        clear H
        have p122:0 ≤ (x5_1:Int):=of_decide_eq_true (by first|(with_reducible assumption)|assumption)
        have q122:x5_1 < (l0.length:Int):=of_decide_eq_true (by first|(with_reducible assumption)|assumption)
        obtain⟨ad122,e122,hx122_0⟩:=Kd.at_int HR0.out x5_1 p122 q122
        cases e122
        replace p122:=eq_true p122
        replace q122:=eq_true q122
        have p123:0 ≤ (x5_1:Int):=of_decide_eq_true (by first|(with_reducible assumption)|assumption)
        have q123:x5_1 < (l1.length:Int):=of_decide_eq_true (by first|(with_reducible assumption)|assumption)
        obtain⟨ad123,e123,hx123_0⟩:=Kd.at_int HR1.out x5_1 p123 q123
        cases e123
        replace p123:=eq_true p123
        replace q123:=eq_true q123
        go_wp2
        repeat (go_quiet (fail);try go_wp2)
        go_roundg k1
        case measure=>have:=HK1.out;omega
        case rel=>exact⟨(wrap64 (x5_1 + 1)),(by first|rfl|(simp;done)|(simp [*];done)),H',⟨by have:=HK1.out;omega⟩,by repeat (first|exact Drawn0.refl _|apply Drawn0.step)⟩
       ·rw [if_neg c7] at H
        have c7b0:((rd l0 x5_1) == (rd l1 x5_1)) = false:=beq_eq_false_iff_ne.mpr c7
        have c7b1:((rd l0 x5_1) != (rd l1 x5_1)) = true:=bne_iff_ne.mpr c7
        obtain rfl:=Option.some.inj H
        have p122:0 ≤ (x5_1:Int):=of_decide_eq_true (by first|(with_reducible assumption)|assumption)
        have q122:x5_1 < (l0.length:Int):=of_decide_eq_true (by first|(with_reducible assumption)|assumption)
        obtain⟨ad122,e122,hx122_0⟩:=Kd.at_int HR0.out x5_1 p122 q122
        cases e122
        replace p122:=eq_true p122
        replace q122:=eq_true q122
        have p123:0 ≤ (x5_1:Int):=of_decide_eq_true (by first|(with_reducible assumption)|assumption)
        have q123:x5_1 < (l1.length:Int):=of_decide_eq_true (by first|(with_reducible assumption)|assumption)
        obtain⟨ad123,e123,hx123_0⟩:=Kd.at_int HR1.out x5_1 p123 q123
        cases e123
        replace p123:=eq_true p123
        replace q123:=eq_true q123
        go_wp2
        repeat (go_quiet (fail);try go_wp2)
        go_ret
        exact⟨by first|rfl|(simp;done)|(simp [*];done),by repeat (first|exact Drawn0.refl _|apply Drawn0.step)⟩
      ·rw [if_neg c6] at H
       exact absurd H (by simp)
     ·rw [if_neg c5] at H
      exact absurd H (by simp)
    ·rw [if_neg c4] at H
     have c4b0:decide (x5_1 < (l0.length:Int)) = false:=decide_eq_false c4
     clear c4
     obtain rfl:=Option.some.inj H
     go_wp2
     repeat (go_quiet (fail);try go_wp2)
     go_ret
     exact⟨by first|rfl|(simp;done)|(simp [*];done),by repeat (first|exact Drawn0.refl _|apply Drawn0.step)⟩
 ·rw [if_neg c3] at H
  have c3b0:((l0.length:Int) == (l1.length:Int)) = false:=beq_eq_false_iff_ne.mpr c3
  have c3b1:((l0.length:Int) != (l1.length:Int)) = true:=bne_iff_ne.mpr c3
  have c3b2:(l0.length == l1.length) = false:=by first|simpa using c3|(simp at c3 ⊢;omega)
  obtain rfl:=Option.some.inj H
  go_enter Try.func58,Try.ntmps58
  go_wp2
  repeat (go_quiet (fail);try go_wp2)
  go_ret
  exact⟨by first|rfl|(simp;done)|(simp [*];done),by repeat (first|exact Drawn0.refl _|apply Drawn0.step)⟩

/-! ### spec_MinsOk: function 41 -/
def spec_MinsOk.f (k : Nat) (a0_0 : Int) (l0_1 : List Int) : Option (Bool) := (spec_l10List.f k a0_0 l0_1).bind fun t125 => ((spec_MinsOf.f k t125).bind fun bt128 => (if bt128.2.2 = true then (if bt128.1 = a0_0 then ((spec_l01Same.f k bt128.2.1 l0_1).bind fun t134 => (some t134)) else (some false)) else (some false)))
theorem spec_MinsOk.mono : ∀ a0 a1 k, LeO (spec_MinsOk.f k a0 a1) (spec_MinsOk.f (k + 1) a0 a1) := by
 intro a0 a1 k
 unfold spec_MinsOk.f
 repeat' first|(with_reducible first|exact spec_MinsOf.mono _ _|exact spec_l01Same.mono _ _ _|exact spec_l10List.mono _ _ _|exact LeO.refl _|exact LeO.none _|refine LeO.ite ?_ ?_|refine LeO.bind ?_ (fun _ => ?_))|exact LeO.none _|refine LeO.ite ?_ ?_|refine LeO.bind ?_ (fun _ => ?_)
set_option maxHeartbeats 8000000 in
set_option maxRecDepth 100000 in
theorem spec_MinsOk.calls (k : Nat) (a0_0 : Int) (A0_1 : Option Addr) (c0_1 : Nat) (l0_1 : List Int) (r : Bool) (w : World) (hr0_1 : Kd.C (Kd.int .i64) w A0_1 l0_1.length l0_1) (hc0_1 : l0_1.length ≤ c0_1) (h : spec_MinsOk.f k a0_0 l0_1 = some r) :
  Calls Try.prog 41 #[.agg #[.int .i64 a0_0, .slice A0_1 l0_1.length c0_1]] w fun e w' => e = .returned (.bool r) ∧ Below w.heap.size w w' := by
 have hu24:=Try.underlying24
 have HR0_1:=mk0 hr0_1
 have HC0_1:=mk0 hc0_1
 clear hr0_1 hc0_1
 have HB:=mk0 (Below.refl w.heap.size w)
 have H:((spec_l10List.f k a0_0 l0_1).bind fun t125=>((spec_MinsOf.f k t125).bind fun bt128=>(if bt128.2.2 = true then (if bt128.1 = a0_0 then ((spec_l01Same.f k bt128.2.1 l0_1).bind fun t134=>(some t134)) else (some false)) else (some false)))) = some r:=h
 clear h
 replace H:=Option.bind_eq_some_iff.mp H
 obtain⟨t125,A20,H⟩:=H
 replace H:((spec_MinsOf.f k t125).bind fun bt128=>(if bt128.2.2 = true then (if bt128.1 = a0_0 then ((spec_l01Same.f k bt128.2.1 l0_1).bind fun t134=>(some t134)) else (some false)) else (some false))) = some r:=H
 have A2:=mk0 A20
 clear A20
 replace H:=Option.bind_eq_some_iff.mp H
 obtain⟨⟨t128,t129,t132⟩,A30,H⟩:=H
 replace H:(if t132 = true then (if t128 = a0_0 then ((spec_l01Same.f k t129 l0_1).bind fun t134=>(some t134)) else (some false)) else (some false)) = some r:=H
 have A3:=mk0 A30
 clear A30
 by_cases c4:t132 = true
 rotate_left
 ·replace c4:=Bool.eq_false_iff.mpr c4
  subst c4
  have H1:(some false) = some r:=by rw [if_neg (show ¬ (false = true) by decide)] at H;exact H
  clear H
  have H:=H1
  clear H1
  obtain rfl:=Option.some.inj H
  go_enter Try.func41,Try.ntmps41
  go_wp2_with (first|((with_reducible refine gate_dst (N:=1) rfl ?_);refine box_event ?hg (N:=1) ?hd (cs:=#[.int .i64 a0_0,.slice A0_1 l0_1.length c0_1]) (t:=24) ?hr ?_;(case hd=>rfl);(case hg=>rfl);(case hr=>first|(go_simp;done)|(go_simp;rfl));intro gb124 hg w27 hbox hb;have n0_:=mk0 (below_step (by repeat (first|(with_reducible first|exact HB.out|apply aZ|apply nZ|apply dZ)|exact HB.out)) hb);have n1_:=mk0 (hbox);have n2_:=mk0 ((by rw [hg];exact (below_size (by repeat (first|(with_reducible first|exact HB.out|apply aZ|apply nZ|apply dZ)|exact HB.out))):w.heap.size ≤ gb124));have n3_:=mk0 ((by rw [hg];exact (below_size (by repeat (first|(with_reducible first|exact HB.out|apply aZ|apply nZ|apply dZ)|exact HB.out))):w.heap.size ≤ gb124));clear HB;have HB:=n0_;have BK124:=n1_;have GW124:=n2_;have GE124:=n3_;clear n0_ n1_ n2_ n3_ hb hbox hg;have hcz28_0:w27.cell? ⟨gb124,0,none⟩ = some (.int .i64 a0_0):=(blk_cell BK124.out 0).trans rfl;have hcz28_1:w27.cell? ⟨gb124,1,none⟩ = some (.slice A0_1 l0_1.length c0_1):=(blk_cell BK124.out 1).trans rfl;have hfz28_0:=blk_frozen BK124.out 0;have hfz28_1:=blk_frozen BK124.out 1)|((with_reducible refine gate_callee (f:=42) rfl ?_);refine goesL_ (some 7) rfl rfl Try.func42 (by kernel_rfl) rfl #[.agg #[.int .i64 a0_0,.slice A0_1 l0_1.length c0_1]] rfl (by (try simp only [mA,mC,mN]);first|done|rfl|(simp only [List.length_drop,List.length_take];rfl)) ?_;(with_reducible refine (spec_l10List.calls k a0_0 _ _ l0_1 t125 _ ?side1 ?side2 A2.out).mono ?_);(case side1=>repeat (first|exact (Kd.C_below HR0_1.out HB.out)|(with_reducible first|apply aC|apply nC|apply dC)));(case side2=>exact HC0_1.out);rintro e w29 ⟨v126,rfl,ho0,hb⟩;refine⟨_,rfl,?_⟩;have n0_:=mk0 (Kd.R_lower ho0 (below_size (by repeat (first|(with_reducible first|exact HB.out|apply aZ|apply nZ|apply dZ|refine sZ ?_ GE124.out)|exact HB.out))));have n1_:=mk0 (blk_below (g:=gb124) (o:=.cells #[.int .i64 a0_0,.slice A0_1 l0_1.length c0_1] 24 (0,0)) (by (with_reducible repeat (first|apply nB|apply dB|apply aB));exact BK124.out) hb);have n2_:=mk0 (below_step (by repeat (first|(with_reducible first|exact HB.out|apply aZ|apply nZ|apply dZ|refine sZ ?_ GE124.out)|exact HB.out)) hb);clear BK124 HB;have HO127:=n0_;have BK124:=n1_;have HB:=n2_;clear n0_ n1_ n2_;(try clear hb);(try clear hb2);(try clear hk);(try clear hi);(try clear ho0);obtain⟨Ao30,co30,eo30⟩:=Kd.R_slice HO127.out;subst eo30)|((with_reducible refine gate_callee (f:=11) rfl ?_);refine goesL_ (some 8) rfl rfl Try.func11 (by kernel_rfl) rfl #[.slice Ao30 t125.length co30] rfl (by (try simp only [mA,mC,mN]);first|done|rfl|(simp only [List.length_drop,List.length_take];rfl)) ?_;(with_reducible refine (spec_MinsOf.calls k _ _ t125 t128 t129 false _ ?side1 ?side2 A3.out).mono ?_);(case side1=>repeat (first|exact (Kd.R_reads' HO127.out).2.2|(with_reducible first|apply aC|apply nC|apply dC)));(case side2=>exact (Kd.R_reads' HO127.out).2.1);rintro e w31 ⟨v130,rfl,ho0,hb⟩;refine⟨_,rfl,?_⟩;have n0_:=mk0 (Kd.R_elder' (by (with_reducible repeat (first|apply aR|apply nR|apply dR));exact HO127.out) (Kd.R_base ho0) hb);have n1_:=mk0 (Kd.R_lower (Kd.R_new' ho0 (Kd.R_lt (by (with_reducible repeat (first|apply aR|apply nR|apply dR));exact HO127.out))) (below_size (by repeat (first|(with_reducible first|exact HB.out|apply aZ|apply nZ|apply dZ|refine sZ ?_ GE124.out)|exact HB.out))));have n2_:=mk0 (blk_below (g:=gb124) (o:=.cells #[.int .i64 a0_0,.slice A0_1 l0_1.length c0_1] 24 (0,0)) (by (with_reducible repeat (first|apply nB|apply dB|apply aB));exact BK124.out) hb);have n3_:=mk0 (below_step (by repeat (first|(with_reducible first|exact HB.out|apply aZ|apply nZ|apply dZ|refine sZ ?_ GE124.out)|exact HB.out)) hb);clear HO127 BK124 HB;have HO127:=n0_;have HO131:=n1_;have BK124:=n2_;have HB:=n3_;clear n0_ n1_ n2_ n3_;(try clear hb);(try clear hb2);(try clear hk);(try clear hi);(try clear ho0))|((with_reducible refine gate_dst (N:=3) rfl ?_);refine box_event ?hg (N:=3) ?hd (cs:=#[.int .i64 0,.slice none 0 0]) (t:=24) ?hr ?_;(case hd=>rfl);(case hg=>rfl);(case hr=>first|(go_simp;done)|(go_simp;rfl));intro gb133 hg w32 hbox hb;have n0_:=mk0 (Kd.R_below (by (with_reducible repeat (first|apply aR|apply nR|apply dR));exact HO127.out) hb);have n1_:=mk0 (Kd.R_below (by (with_reducible repeat (first|apply aR|apply nR|apply dR));exact HO131.out) hb);have n2_:=mk0 (blk_below (g:=gb124) (o:=.cells #[.int .i64 a0_0,.slice A0_1 l0_1.length c0_1] 24 (0,0)) (by (with_reducible repeat (first|apply nB|apply dB|apply aB));exact BK124.out) hb);have n3_:=mk0 (below_step (by repeat (first|(with_reducible first|exact HB.out|apply aZ|apply nZ|apply dZ|refine sZ ?_ GE124.out)|exact HB.out)) hb);have n4_:=mk0 (hbox);have n5_:=mk0 ((by rw [hg];exact (below_size (by repeat (first|(with_reducible first|exact HB.out|apply aZ|apply nZ|apply dZ|refine sZ ?_ GE124.out)|exact HB.out))):w.heap.size ≤ gb133));have n6_:=mk0 ((by rw [hg];exact (below_size (by repeat (first|(with_reducible first|exact HB.out|apply aZ|apply nZ|apply dZ|refine sZ ?_ GE124.out)|exact HB.out))):w.heap.size ≤ gb133));have n7_:=mk0 ((by rw [hg];exact Nat.ne_of_lt (blk_lt (g:=gb124) (o:=.cells #[.int .i64 a0_0,.slice A0_1 l0_1.length c0_1] 24 (0,0)) (by (with_reducible repeat (first|apply nB|apply dB|apply aB));exact BK124.out)):gb124 ≠ gb133));have n8_:=mk0 ((by rw [hg];exact Nat.ne_of_gt (blk_lt (g:=gb124) (o:=.cells #[.int .i64 a0_0,.slice A0_1 l0_1.length c0_1] 24 (0,0)) (by (with_reducible repeat (first|apply nB|apply dB|apply aB));exact BK124.out)):gb133 ≠ gb124));clear HO127 HO131 BK124 HB;have HO127:=n0_;have HO131:=n1_;have BK124:=n2_;have HB:=n3_;have BK133:=n4_;have GW133:=n5_;have GE133:=n6_;have NB124_133:=n7_;have NB133_124:=n8_;clear n0_ n1_ n2_ n3_ n4_ n5_ n6_ n7_ n8_ hb hbox hg;have hnb33:=NB133_124.out;have hnc33:=NB124_133.out;have hcz34_0:w32.cell? ⟨gb133,0,none⟩ = some (.int .i64 0):=(blk_cell BK133.out 0).trans rfl;have hcz34_1:w32.cell? ⟨gb133,1,none⟩ = some (.slice none 0 0):=(blk_cell BK133.out 1).trans rfl;have hfz34_0:=blk_frozen BK133.out 0;have hfz34_1:=blk_frozen BK133.out 1;obtain⟨Ao35,co35,eo35⟩:=Kd.R_slice HO131.out;subst eo35))
  go_ret
  exact⟨by first|rfl|(simp [errW_none,errW_some] <;> rfl)|(simp [*,errW_none,errW_some] <;> rfl),by repeat (first|(with_reducible first|exact HB.out|apply aZ|apply nZ|apply dZ|refine sZ ?_ GE124.out|refine sZ ?_ GE133.out)|exact HB.out)⟩

 subst c4
 have H1:(if t128 = a0_0 then ((spec_l01Same.f k t129 l0_1).bind fun t134=>(some t134)) else (some false)) = some r:=by rw [if_pos rfl] at H;exact H
 clear H
 have H:=H1
 clear H1
 by_cases c5:t128 = a0_0
 rotate_left
 ·rw [if_neg c5] at H
  have c5b0:(t128 == a0_0) = false:=beq_eq_false_iff_ne.mpr c5
  have c5b1:(t128 != a0_0) = true:=bne_iff_ne.mpr c5
  obtain rfl:=Option.some.inj H
  go_enter Try.func41,Try.ntmps41
  go_wp2_with (first|((with_reducible refine gate_dst (N:=1) rfl ?_);refine box_event ?hg (N:=1) ?hd (cs:=#[.int .i64 a0_0,.slice A0_1 l0_1.length c0_1]) (t:=24) ?hr ?_;(case hd=>rfl);(case hg=>rfl);(case hr=>first|(go_simp;done)|(go_simp;rfl));intro gb124 hg w17 hbox hb;have n0_:=mk0 (below_step (by repeat (first|(with_reducible first|exact HB.out|apply aZ|apply nZ|apply dZ)|exact HB.out)) hb);have n1_:=mk0 (hbox);have n2_:=mk0 ((by rw [hg];exact (below_size (by repeat (first|(with_reducible first|exact HB.out|apply aZ|apply nZ|apply dZ)|exact HB.out))):w.heap.size ≤ gb124));have n3_:=mk0 ((by rw [hg];exact (below_size (by repeat (first|(with_reducible first|exact HB.out|apply aZ|apply nZ|apply dZ)|exact HB.out))):w.heap.size ≤ gb124));clear HB;have HB:=n0_;have BK124:=n1_;have GW124:=n2_;have GE124:=n3_;clear n0_ n1_ n2_ n3_ hb hbox hg;have hcz18_0:w17.cell? ⟨gb124,0,none⟩ = some (.int .i64 a0_0):=(blk_cell BK124.out 0).trans rfl;have hcz18_1:w17.cell? ⟨gb124,1,none⟩ = some (.slice A0_1 l0_1.length c0_1):=(blk_cell BK124.out 1).trans rfl;have hfz18_0:=blk_frozen BK124.out 0;have hfz18_1:=blk_frozen BK124.out 1)|((with_reducible refine gate_callee (f:=42) rfl ?_);refine goesL_ (some 7) rfl rfl Try.func42 (by kernel_rfl) rfl #[.agg #[.int .i64 a0_0,.slice A0_1 l0_1.length c0_1]] rfl (by (try simp only [mA,mC,mN]);first|done|rfl|(simp only [List.length_drop,List.length_take];rfl)) ?_;(with_reducible refine (spec_l10List.calls k a0_0 _ _ l0_1 t125 _ ?side1 ?side2 A2.out).mono ?_);(case side1=>repeat (first|exact (Kd.C_below HR0_1.out HB.out)|(with_reducible first|apply aC|apply nC|apply dC)));(case side2=>exact HC0_1.out);rintro e w19 ⟨v126,rfl,ho0,hb⟩;refine⟨_,rfl,?_⟩;have n0_:=mk0 (Kd.R_lower ho0 (below_size (by repeat (first|(with_reducible first|exact HB.out|apply aZ|apply nZ|apply dZ|refine sZ ?_ GE124.out)|exact HB.out))));have n1_:=mk0 (blk_below (g:=gb124) (o:=.cells #[.int .i64 a0_0,.slice A0_1 l0_1.length c0_1] 24 (0,0)) (by (with_reducible repeat (first|apply nB|apply dB|apply aB));exact BK124.out) hb);have n2_:=mk0 (below_step (by repeat (first|(with_reducible first|exact HB.out|apply aZ|apply nZ|apply dZ|refine sZ ?_ GE124.out)|exact HB.out)) hb);clear BK124 HB;have HO127:=n0_;have BK124:=n1_;have HB:=n2_;clear n0_ n1_ n2_;(try clear hb);(try clear hb2);(try clear hk);(try clear hi);(try clear ho0);obtain⟨Ao20,co20,eo20⟩:=Kd.R_slice HO127.out;subst eo20)|((with_reducible refine gate_callee (f:=11) rfl ?_);refine goesL_ (some 8) rfl rfl Try.func11 (by kernel_rfl) rfl #[.slice Ao20 t125.length co20] rfl (by (try simp only [mA,mC,mN]);first|done|rfl|(simp only [List.length_drop,List.length_take];rfl)) ?_;(with_reducible refine (spec_MinsOf.calls k _ _ t125 t128 t129 true _ ?side1 ?side2 A3.out).mono ?_);(case side1=>repeat (first|exact (Kd.R_reads' HO127.out).2.2|(with_reducible first|apply aC|apply nC|apply dC)));(case side2=>exact (Kd.R_reads' HO127.out).2.1);rintro e w21 ⟨v130,rfl,ho0,hb⟩;refine⟨_,rfl,?_⟩;have n0_:=mk0 (Kd.R_elder' (by (with_reducible repeat (first|apply aR|apply nR|apply dR));exact HO127.out) (Kd.R_base ho0) hb);have n1_:=mk0 (Kd.R_lower (Kd.R_new' ho0 (Kd.R_lt (by (with_reducible repeat (first|apply aR|apply nR|apply dR));exact HO127.out))) (below_size (by repeat (first|(with_reducible first|exact HB.out|apply aZ|apply nZ|apply dZ|refine sZ ?_ GE124.out)|exact HB.out))));have n2_:=mk0 (blk_below (g:=gb124) (o:=.cells #[.int .i64 a0_0,.slice A0_1 l0_1.length c0_1] 24 (0,0)) (by (with_reducible repeat (first|apply nB|apply dB|apply aB));exact BK124.out) hb);have n3_:=mk0 (below_step (by repeat (first|(with_reducible first|exact HB.out|apply aZ|apply nZ|apply dZ|refine sZ ?_ GE124.out)|exact HB.out)) hb);clear HO127 BK124 HB;have HO127:=n0_;have HO131:=n1_;have BK124:=n2_;have HB:=n3_;clear n0_ n1_ n2_ n3_;(try clear hb);(try clear hb2);(try clear hk);(try clear hi);(try clear ho0))|((with_reducible refine gate_dst (N:=3) rfl ?_);refine box_event ?hg (N:=3) ?hd (cs:=#[.int .i64 0,.slice none 0 0]) (t:=24) ?hr ?_;(case hd=>rfl);(case hg=>rfl);(case hr=>first|(go_simp;done)|(go_simp;rfl));intro gb133 hg w22 hbox hb;have n0_:=mk0 (Kd.R_below (by (with_reducible repeat (first|apply aR|apply nR|apply dR));exact HO127.out) hb);have n1_:=mk0 (Kd.R_below (by (with_reducible repeat (first|apply aR|apply nR|apply dR));exact HO131.out) hb);have n2_:=mk0 (blk_below (g:=gb124) (o:=.cells #[.int .i64 a0_0,.slice A0_1 l0_1.length c0_1] 24 (0,0)) (by (with_reducible repeat (first|apply nB|apply dB|apply aB));exact BK124.out) hb);have n3_:=mk0 (below_step (by repeat (first|(with_reducible first|exact HB.out|apply aZ|apply nZ|apply dZ|refine sZ ?_ GE124.out)|exact HB.out)) hb);have n4_:=mk0 (hbox);have n5_:=mk0 ((by rw [hg];exact (below_size (by repeat (first|(with_reducible first|exact HB.out|apply aZ|apply nZ|apply dZ|refine sZ ?_ GE124.out)|exact HB.out))):w.heap.size ≤ gb133));have n6_:=mk0 ((by rw [hg];exact (below_size (by repeat (first|(with_reducible first|exact HB.out|apply aZ|apply nZ|apply dZ|refine sZ ?_ GE124.out)|exact HB.out))):w.heap.size ≤ gb133));have n7_:=mk0 ((by rw [hg];exact Nat.ne_of_lt (blk_lt (g:=gb124) (o:=.cells #[.int .i64 a0_0,.slice A0_1 l0_1.length c0_1] 24 (0,0)) (by (with_reducible repeat (first|apply nB|apply dB|apply aB));exact BK124.out)):gb124 ≠ gb133));have n8_:=mk0 ((by rw [hg];exact Nat.ne_of_gt (blk_lt (g:=gb124) (o:=.cells #[.int .i64 a0_0,.slice A0_1 l0_1.length c0_1] 24 (0,0)) (by (with_reducible repeat (first|apply nB|apply dB|apply aB));exact BK124.out)):gb133 ≠ gb124));clear HO127 HO131 BK124 HB;have HO127:=n0_;have HO131:=n1_;have BK124:=n2_;have HB:=n3_;have BK133:=n4_;have GW133:=n5_;have GE133:=n6_;have NB124_133:=n7_;have NB133_124:=n8_;clear n0_ n1_ n2_ n3_ n4_ n5_ n6_ n7_ n8_ hb hbox hg;have hnb23:=NB133_124.out;have hnc23:=NB124_133.out;have hcz24_0:w22.cell? ⟨gb133,0,none⟩ = some (.int .i64 0):=(blk_cell BK133.out 0).trans rfl;have hcz24_1:w22.cell? ⟨gb133,1,none⟩ = some (.slice none 0 0):=(blk_cell BK133.out 1).trans rfl;have hfz24_0:=blk_frozen BK133.out 0;have hfz24_1:=blk_frozen BK133.out 1;obtain⟨Ao25,co25,eo25⟩:=Kd.R_slice HO131.out;subst eo25;have hcz26_0:w22.cell? ⟨gb124,0,none⟩ = some (.int .i64 a0_0):=(blk_cell BK124.out 0).trans rfl;have hcz26_1:w22.cell? ⟨gb124,1,none⟩ = some (.slice A0_1 l0_1.length c0_1):=(blk_cell BK124.out 1).trans rfl;have hfz26_0:=blk_frozen BK124.out 0;have hfz26_1:=blk_frozen BK124.out 1))
  go_ret
  exact⟨by first|rfl|(simp [errW_none,errW_some] <;> rfl)|(simp [*,errW_none,errW_some] <;> rfl),by repeat (first|(with_reducible first|exact HB.out|apply aZ|apply nZ|apply dZ|refine sZ ?_ GE124.out|refine sZ ?_ GE133.out)|exact HB.out)⟩
 rw [if_pos c5] at H
 have c5b0:(t128 == a0_0) = true:=beq_iff_eq.mpr c5
 have c5b1:(t128 != a0_0) = false:=bne_eq_false_iff_eq.mpr c5
 clear c5
 replace H:=Option.bind_eq_some_iff.mp H
 obtain⟨t134,A60,H⟩:=H
 replace H:(some t134) = some r:=H
 have A6:=mk0 A60
 clear A60
 obtain rfl:=Option.some.inj H
 go_enter Try.func41,Try.ntmps41
 go_wp2_with (first|((with_reducible refine gate_dst (N:=1) rfl ?_);refine box_event ?hg (N:=1) ?hd (cs:=#[.int .i64 a0_0,.slice A0_1 l0_1.length c0_1]) (t:=24) ?hr ?_;(case hd=>rfl);(case hg=>rfl);(case hr=>first|(go_simp;done)|(go_simp;rfl));intro gb124 hg w7 hbox hb;have n0_:=mk0 (below_step (by repeat (first|(with_reducible first|exact HB.out|apply aZ|apply nZ|apply dZ)|exact HB.out)) hb);have n1_:=mk0 (hbox);have n2_:=mk0 ((by rw [hg];exact (below_size (by repeat (first|(with_reducible first|exact HB.out|apply aZ|apply nZ|apply dZ)|exact HB.out))):w.heap.size ≤ gb124));have n3_:=mk0 ((by rw [hg];exact (below_size (by repeat (first|(with_reducible first|exact HB.out|apply aZ|apply nZ|apply dZ)|exact HB.out))):w.heap.size ≤ gb124));clear HB;have HB:=n0_;have BK124:=n1_;have GW124:=n2_;have GE124:=n3_;clear n0_ n1_ n2_ n3_ hb hbox hg;have hcz8_0:w7.cell? ⟨gb124,0,none⟩ = some (.int .i64 a0_0):=(blk_cell BK124.out 0).trans rfl;have hcz8_1:w7.cell? ⟨gb124,1,none⟩ = some (.slice A0_1 l0_1.length c0_1):=(blk_cell BK124.out 1).trans rfl;have hfz8_0:=blk_frozen BK124.out 0;have hfz8_1:=blk_frozen BK124.out 1)|((with_reducible refine gate_callee (f:=42) rfl ?_);refine goesL_ (some 7) rfl rfl Try.func42 (by kernel_rfl) rfl #[.agg #[.int .i64 a0_0,.slice A0_1 l0_1.length c0_1]] rfl (by (try simp only [mA,mC,mN]);first|done|rfl|(simp only [List.length_drop,List.length_take];rfl)) ?_;(with_reducible refine (spec_l10List.calls k a0_0 _ _ l0_1 t125 _ ?side1 ?side2 A2.out).mono ?_);(case side1=>repeat (first|exact (Kd.C_below HR0_1.out HB.out)|(with_reducible first|apply aC|apply nC|apply dC)));(case side2=>exact HC0_1.out);rintro e w9 ⟨v126,rfl,ho0,hb⟩;refine⟨_,rfl,?_⟩;have n0_:=mk0 (Kd.R_lower ho0 (below_size (by repeat (first|(with_reducible first|exact HB.out|apply aZ|apply nZ|apply dZ|refine sZ ?_ GE124.out)|exact HB.out))));have n1_:=mk0 (blk_below (g:=gb124) (o:=.cells #[.int .i64 a0_0,.slice A0_1 l0_1.length c0_1] 24 (0,0)) (by (with_reducible repeat (first|apply nB|apply dB|apply aB));exact BK124.out) hb);have n2_:=mk0 (below_step (by repeat (first|(with_reducible first|exact HB.out|apply aZ|apply nZ|apply dZ|refine sZ ?_ GE124.out)|exact HB.out)) hb);clear BK124 HB;have HO127:=n0_;have BK124:=n1_;have HB:=n2_;clear n0_ n1_ n2_;(try clear hb);(try clear hb2);(try clear hk);(try clear hi);(try clear ho0);obtain⟨Ao10,co10,eo10⟩:=Kd.R_slice HO127.out;subst eo10)|((with_reducible refine gate_callee (f:=11) rfl ?_);refine goesL_ (some 8) rfl rfl Try.func11 (by kernel_rfl) rfl #[.slice Ao10 t125.length co10] rfl (by (try simp only [mA,mC,mN]);first|done|rfl|(simp only [List.length_drop,List.length_take];rfl)) ?_;(with_reducible refine (spec_MinsOf.calls k _ _ t125 t128 t129 true _ ?side1 ?side2 A3.out).mono ?_);(case side1=>repeat (first|exact (Kd.R_reads' HO127.out).2.2|(with_reducible first|apply aC|apply nC|apply dC)));(case side2=>exact (Kd.R_reads' HO127.out).2.1);rintro e w11 ⟨v130,rfl,ho0,hb⟩;refine⟨_,rfl,?_⟩;have n0_:=mk0 (Kd.R_elder' (by (with_reducible repeat (first|apply aR|apply nR|apply dR));exact HO127.out) (Kd.R_base ho0) hb);have n1_:=mk0 (Kd.R_lower (Kd.R_new' ho0 (Kd.R_lt (by (with_reducible repeat (first|apply aR|apply nR|apply dR));exact HO127.out))) (below_size (by repeat (first|(with_reducible first|exact HB.out|apply aZ|apply nZ|apply dZ|refine sZ ?_ GE124.out)|exact HB.out))));have n2_:=mk0 (blk_below (g:=gb124) (o:=.cells #[.int .i64 a0_0,.slice A0_1 l0_1.length c0_1] 24 (0,0)) (by (with_reducible repeat (first|apply nB|apply dB|apply aB));exact BK124.out) hb);have n3_:=mk0 (below_step (by repeat (first|(with_reducible first|exact HB.out|apply aZ|apply nZ|apply dZ|refine sZ ?_ GE124.out)|exact HB.out)) hb);clear HO127 BK124 HB;have HO127:=n0_;have HO131:=n1_;have BK124:=n2_;have HB:=n3_;clear n0_ n1_ n2_ n3_;(try clear hb);(try clear hb2);(try clear hk);(try clear hi);(try clear ho0))|((with_reducible refine gate_dst (N:=3) rfl ?_);refine box_event ?hg (N:=3) ?hd (cs:=#[.int .i64 0,.slice none 0 0]) (t:=24) ?hr ?_;(case hd=>rfl);(case hg=>rfl);(case hr=>first|(go_simp;done)|(go_simp;rfl));intro gb133 hg w12 hbox hb;have n0_:=mk0 (Kd.R_below (by (with_reducible repeat (first|apply aR|apply nR|apply dR));exact HO127.out) hb);have n1_:=mk0 (Kd.R_below (by (with_reducible repeat (first|apply aR|apply nR|apply dR));exact HO131.out) hb);have n2_:=mk0 (blk_below (g:=gb124) (o:=.cells #[.int .i64 a0_0,.slice A0_1 l0_1.length c0_1] 24 (0,0)) (by (with_reducible repeat (first|apply nB|apply dB|apply aB));exact BK124.out) hb);have n3_:=mk0 (below_step (by repeat (first|(with_reducible first|exact HB.out|apply aZ|apply nZ|apply dZ|refine sZ ?_ GE124.out)|exact HB.out)) hb);have n4_:=mk0 (hbox);have n5_:=mk0 ((by rw [hg];exact (below_size (by repeat (first|(with_reducible first|exact HB.out|apply aZ|apply nZ|apply dZ|refine sZ ?_ GE124.out)|exact HB.out))):w.heap.size ≤ gb133));have n6_:=mk0 ((by rw [hg];exact (below_size (by repeat (first|(with_reducible first|exact HB.out|apply aZ|apply nZ|apply dZ|refine sZ ?_ GE124.out)|exact HB.out))):w.heap.size ≤ gb133));have n7_:=mk0 ((by rw [hg];exact Nat.ne_of_lt (blk_lt (g:=gb124) (o:=.cells #[.int .i64 a0_0,.slice A0_1 l0_1.length c0_1] 24 (0,0)) (by (with_reducible repeat (first|apply nB|apply dB|apply aB));exact BK124.out)):gb124 ≠ gb133));have n8_:=mk0 ((by rw [hg];exact Nat.ne_of_gt (blk_lt (g:=gb124) (o:=.cells #[.int .i64 a0_0,.slice A0_1 l0_1.length c0_1] 24 (0,0)) (by (with_reducible repeat (first|apply nB|apply dB|apply aB));exact BK124.out)):gb133 ≠ gb124));clear HO127 HO131 BK124 HB;have HO127:=n0_;have HO131:=n1_;have BK124:=n2_;have HB:=n3_;have BK133:=n4_;have GW133:=n5_;have GE133:=n6_;have NB124_133:=n7_;have NB133_124:=n8_;clear n0_ n1_ n2_ n3_ n4_ n5_ n6_ n7_ n8_ hb hbox hg;have hnb13:=NB133_124.out;have hnc13:=NB124_133.out;have hcz14_0:w12.cell? ⟨gb133,0,none⟩ = some (.int .i64 0):=(blk_cell BK133.out 0).trans rfl;have hcz14_1:w12.cell? ⟨gb133,1,none⟩ = some (.slice none 0 0):=(blk_cell BK133.out 1).trans rfl;have hfz14_0:=blk_frozen BK133.out 0;have hfz14_1:=blk_frozen BK133.out 1;obtain⟨Ao15,co15,eo15⟩:=Kd.R_slice HO131.out;subst eo15;have hcz16_0:w12.cell? ⟨gb124,0,none⟩ = some (.int .i64 a0_0):=(blk_cell BK124.out 0).trans rfl;have hcz16_1:w12.cell? ⟨gb124,1,none⟩ = some (.slice A0_1 l0_1.length c0_1):=(blk_cell BK124.out 1).trans rfl;have hfz16_0:=blk_frozen BK124.out 0;have hfz16_1:=blk_frozen BK124.out 1)|(go_at_call 58;(with_reducible refine (spec_l01Same.calls k _ _ t129 _ _ l0_1 t134 _ ?side1 ?side2 ?side3 ?side4 A6.out).mono ?_);(case side1=>refine (Kd.R_reads' (e:=3) (base:=w.heap.size) (ok:=fun k_=>(True ∧ some k_ ≠ (.slice Ao10 t125.length co10:Value).ownBlock)) (n:=t129.length) (c:=co15) ?_).2.2;exact (by (with_reducible repeat (first|apply aR|apply nR|apply dR));exact (Kd.R_mono (Kd.R_far (p:=⟨gb133,1,none⟩) (Kd.R_far (p:=⟨gb133,0,none⟩) (Kd.R_types HO131.out BK133.out (by decide)) (fun _ hk=>hk.2) (.int .i64 t128)) (fun _ hk=>hk.2) (.slice Ao15 t129.length co15)) (fun _ h_=>h_.1))));(case side2=>exact (Kd.R_reads' HO131.out).2.1);(case side3=>exact Kd.C_below HR0_1.out (by repeat (first|(with_reducible first|exact HB.out|apply aZ|apply nZ|apply dZ|refine sZ ?_ GE124.out|refine sZ ?_ GE133.out)|exact HB.out)));(case side4=>exact HC0_1.out);rintro e w' ⟨rfl,⟨nd,rfl⟩⟩))
 go_ret
 exact⟨by first|rfl|(simp [errW_none,errW_some] <;> rfl)|(simp [*,errW_none,errW_some] <;> rfl),by repeat (first|(with_reducible first|exact HB.out|apply aZ|apply nZ|apply dZ|refine sZ ?_ GE124.out|refine sZ ?_ GE133.out)|exact HB.out)⟩
/-! ### spec_MinsRange: function 25 -/
mutual
def spec_MinsRange.j0 : Nat → Int → Int → Bool → Int → List Int → Option (Int)
 | 0, _, _, _, _, _ => none
 | k + 1, x1, x2, x27, x136000, x136001 => if x27 = true then (some (-1)) else ((spec_l10List.f k x136000 x136001).bind fun t137 => (if 0 ≤ x1 then (if x1 < (t137.length : Int) then (spec_MinsRange.l0 k x2 t137 (rd t137 x1) x1) else (none)) else (none)))
def spec_MinsRange.l0 : Nat → Int → List Int → Int → Int → Option (Int)
 | 0, _, _, _, _ => none
 | k + 1, x2, x7, x8, x9 => if x9 < x2 then (if 0 ≤ x9 then (if x9 < (x7.length : Int) then (spec_MinsRange.l0 k x2 x7 (mn x8 (rd x7 x9)) (wrap64 (x9 + 1))) else (none)) else (none)) else (some x8)
end
def spec_MinsRange.f (k : Nat) (a0_0 : Int) (l0_1 : List Int) (a1 : Int) (a2 : Int) : Option (Int) := (spec_MinsOk.f k a0_0 l0_1).bind fun t136 => (if t136 = true then (if a1 < 0 then (spec_MinsRange.j0 k a1 a2 true a0_0 l0_1) else (if a1 ≥ a2 then (spec_MinsRange.j0 k a1 a2 true a0_0 l0_1) else (spec_MinsRange.j0 k a1 a2 (decide (a2 > a0_0)) a0_0 l0_1))) else (spec_MinsRange.j0 k a1 a2 true a0_0 l0_1))
theorem spec_MinsRange.mono_l : ∀ k, (∀ y0 y1 y2 y3 y4, LeO (spec_MinsRange.j0 k y0 y1 y2 y3 y4) (spec_MinsRange.j0 (k + 1) y0 y1 y2 y3 y4)) ∧ (∀ y0 y1 y2 y3, LeO (spec_MinsRange.l0 k y0 y1 y2 y3) (spec_MinsRange.l0 (k + 1) y0 y1 y2 y3))
 | 0 => ⟨fun _ _ _ _ _ r h => by simp [spec_MinsRange.j0] at h, fun _ _ _ _ r h => by simp [spec_MinsRange.l0] at h⟩
 | k + 1 => by
  obtain ⟨ih0, ih1⟩ := spec_MinsRange.mono_l k
  refine ⟨?_, ?_⟩
  ·intro y0 y1 y2 y3 y4
   unfold spec_MinsRange.j0
   repeat' first|(with_reducible first|exact ih0 _ _ _ _ _|exact ih1 _ _ _ _|exact spec_MinsOk.mono _ _ _|exact spec_l10List.mono _ _ _|exact LeO.refl _|exact LeO.none _|refine LeO.ite ?_ ?_|refine LeO.bind ?_ (fun _ => ?_))|exact LeO.none _|refine LeO.ite ?_ ?_|refine LeO.bind ?_ (fun _ => ?_)
  ·intro y0 y1 y2 y3
   unfold spec_MinsRange.l0
   repeat' first|(with_reducible first|exact ih0 _ _ _ _ _|exact ih1 _ _ _ _|exact spec_MinsOk.mono _ _ _|exact spec_l10List.mono _ _ _|exact LeO.refl _|exact LeO.none _|refine LeO.ite ?_ ?_|refine LeO.bind ?_ (fun _ => ?_))|exact LeO.none _|refine LeO.ite ?_ ?_|refine LeO.bind ?_ (fun _ => ?_)
theorem spec_MinsRange.mono : ∀ a0 a1 a2 a3 k, LeO (spec_MinsRange.f k a0 a1 a2 a3) (spec_MinsRange.f (k + 1) a0 a1 a2 a3) := by
 intro a0 a1 a2 a3 k
 obtain ⟨ih0, ih1⟩ := spec_MinsRange.mono_l k
 unfold spec_MinsRange.f
 repeat' first|(with_reducible first|exact ih0 _ _ _ _ _|exact ih1 _ _ _ _|exact spec_MinsOk.mono _ _ _|exact spec_l10List.mono _ _ _|exact LeO.refl _|exact LeO.none _|refine LeO.ite ?_ ?_|refine LeO.bind ?_ (fun _ => ?_))|exact LeO.none _|refine LeO.ite ?_ ?_|refine LeO.bind ?_ (fun _ => ?_)
set_option maxHeartbeats 8000000 in
set_option maxRecDepth 100000 in
theorem spec_MinsRange.calls (k : Nat) (a0_0 : Int) (A0_1 : Option Addr) (c0_1 : Nat) (l0_1 : List Int) (a1 : Int) (a2 : Int) (r : Int) (w : World) (hr0_1 : Kd.C (Kd.int .i64) w A0_1 l0_1.length l0_1) (hc0_1 : l0_1.length ≤ c0_1) (h : spec_MinsRange.f k a0_0 l0_1 a1 a2 = some r) :
  Calls Try.prog 25 #[.agg #[.int .i64 a0_0, .slice A0_1 l0_1.length c0_1], .int .i64 a1, .int .i64 a2] w fun e w' => e = .returned (.int .i64 r) ∧ Below w.heap.size w w' := by
 have hu24:=Try.underlying24
 have HR0_1:=mk0 hr0_1
 have HC0_1:=mk0 hc0_1
 clear hr0_1 hc0_1
 have HB:=mk0 (Below.refl w.heap.size w)
 have H:((spec_MinsOk.f k a0_0 l0_1).bind fun t136=>(if t136 = true then (if a1 < 0 then (spec_MinsRange.j0 k a1 a2 true a0_0 l0_1) else (if a1 ≥ a2 then (spec_MinsRange.j0 k a1 a2 true a0_0 l0_1) else (spec_MinsRange.j0 k a1 a2 (decide (a2 > a0_0)) a0_0 l0_1))) else (spec_MinsRange.j0 k a1 a2 true a0_0 l0_1))) = some r:=h
 clear h
 have HC4:=mk0 H
 clear H
 go_enter Try.func25,Try.ntmps25
 go_upto_region 1 with (first|((with_reducible refine gate_dst (N:=3) rfl ?_);refine box_event ?hg (N:=3) ?hd (cs:=#[.int .i64 a0_0,.slice A0_1 l0_1.length c0_1]) (t:=24) ?hr ?_;(case hd=>rfl);(case hg=>rfl);(case hr=>first|(go_simp;done)|(go_simp;rfl));intro gb135 hg w5 hbox hb;have n0_:=mk0 (below_step (by repeat (first|(with_reducible first|exact HB.out|apply aZ|apply nZ|apply dZ)|exact HB.out)) hb);have n1_:=mk0 (hbox);have n2_:=mk0 ((by rw [hg];exact (below_size (by repeat (first|(with_reducible first|exact HB.out|apply aZ|apply nZ|apply dZ)|exact HB.out))):w.heap.size ≤ gb135));have n3_:=mk0 ((by rw [hg];exact (below_size (by repeat (first|(with_reducible first|exact HB.out|apply aZ|apply nZ|apply dZ)|exact HB.out))):w.heap.size ≤ gb135));clear HB;have HB:=n0_;have BK135:=n1_;have GW135:=n2_;have GE135:=n3_;clear n0_ n1_ n2_ n3_ hb hbox hg))
 (try simp only [Act.put,sA,sO,sS])
 go_cut [27] (fun v27 wc=>∃ (kq:Nat) (x27_3:Bool),v27 = .bool x27_3 ∧ Aside0 (spec_MinsRange.j0 kq a1 a2 x27_3 a0_0 l0_1 = some r) ∧ Aside0 (kq ≤ k) ∧ Aside0 (wc.heap[gb135]? = some (.cells #[.int .i64 a0_0,(.slice A0_1 l0_1.length c0_1)] 24 (0,0))) ∧ Aside0 (Below w.heap.size w wc))
 case first =>
  have H:=HC4.out
  clear HC4
  replace H:=Option.bind_eq_some_iff.mp H
  obtain⟨t136,A60,H⟩:=H
  replace H:(if t136 = true then (if a1 < 0 then (spec_MinsRange.j0 k a1 a2 true a0_0 l0_1) else (if a1 ≥ a2 then (spec_MinsRange.j0 k a1 a2 true a0_0 l0_1) else (spec_MinsRange.j0 k a1 a2 (decide (a2 > a0_0)) a0_0 l0_1))) else (spec_MinsRange.j0 k a1 a2 true a0_0 l0_1)) = some r:=H
  have A6:=mk0 A60
  clear A60
  by_cases c7:t136 = true
  rotate_left
  ·replace c7:=Bool.eq_false_iff.mpr c7
   subst c7
   have H1:(spec_MinsRange.j0 k a1 a2 true a0_0 l0_1) = some r:=by rw [if_neg (show ¬ (false = true) by decide)] at H;exact H
   clear H
   have H:=H1
   clear H1
   have H':=mk0 H
   clear H
   have hcz17_0:w5.cell? ⟨gb135,0,none⟩ = some (.int .i64 a0_0):=(blk_cell BK135.out 0).trans rfl
   have hcz17_1:w5.cell? ⟨gb135,1,none⟩ = some (.slice A0_1 l0_1.length c0_1):=(blk_cell BK135.out 1).trans rfl
   have hfz17_0:=blk_frozen BK135.out 0
   have hfz17_1:=blk_frozen BK135.out 1
   go_wp2_with (first|((with_reducible refine gate_callee (f:=41) rfl ?_);refine goesL_ (some 11) rfl rfl Try.func41 (by kernel_rfl) rfl #[.agg #[.int .i64 a0_0,.slice A0_1 l0_1.length c0_1]] rfl (by (try simp only [mA,mC,mN]);first|done|rfl|(simp only [List.length_drop,List.length_take];rfl)) ?_;(with_reducible refine (spec_MinsOk.calls k a0_0 _ _ l0_1 false _ ?side1 ?side2 A6.out).mono ?_);(case side1=>repeat (first|exact (Kd.C_below HR0_1.out HB.out)|(with_reducible first|apply aC|apply nC|apply dC)));(case side2=>exact HC0_1.out);rintro e w18 ⟨rfl,hb⟩;refine⟨_,rfl,?_⟩;have n0_:=mk0 (blk_below (g:=gb135) (o:=.cells #[.int .i64 a0_0,.slice A0_1 l0_1.length c0_1] 24 (0,0)) (by (with_reducible repeat (first|apply nB|apply dB|apply aB));exact BK135.out) hb);have n1_:=mk0 (below_step (by repeat (first|(with_reducible first|exact HB.out|apply aZ|apply nZ|apply dZ|refine sZ ?_ GE135.out)|exact HB.out)) hb);clear BK135 HB;have BK135:=n0_;have HB:=n1_;clear n0_ n1_;(try clear hb);(try clear hb2);(try clear hk);(try clear hi)))
   go_meet
   case rel=>exact⟨_,(true),(by first|rfl|(simp;done)|(simp [*];done)),H',⟨by first|omega|exact Nat.le_refl _⟩,⟨by (with_reducible repeat (first|apply nB|apply dB|apply aB));exact BK135.out⟩,⟨by repeat (first|(with_reducible first|exact HB.out|apply aZ|apply nZ|apply dZ|refine sZ ?_ GE135.out)|exact HB.out)⟩⟩
  subst c7
  have H1:(if a1 < 0 then (spec_MinsRange.j0 k a1 a2 true a0_0 l0_1) else (if a1 ≥ a2 then (spec_MinsRange.j0 k a1 a2 true a0_0 l0_1) else (spec_MinsRange.j0 k a1 a2 (decide (a2 > a0_0)) a0_0 l0_1))) = some r:=by rw [if_pos rfl] at H;exact H
  clear H
  have H:=H1
  clear H1
  by_cases c8:a1 < 0
  ·rw [if_pos c8] at H
   have c8b0:decide (a1 < 0) = true:=decide_eq_true c8
   clear c8
   (first|rw [c8b0]|(simp only [i64_w,i32_w];rw [c8b0])|skip)
   have H':=mk0 H
   clear H
   have hcz9_0:w5.cell? ⟨gb135,0,none⟩ = some (.int .i64 a0_0):=(blk_cell BK135.out 0).trans rfl
   have hcz9_1:w5.cell? ⟨gb135,1,none⟩ = some (.slice A0_1 l0_1.length c0_1):=(blk_cell BK135.out 1).trans rfl
   have hfz9_0:=blk_frozen BK135.out 0
   have hfz9_1:=blk_frozen BK135.out 1
   go_wp2_with (first|((with_reducible refine gate_callee (f:=41) rfl ?_);refine goesL_ (some 11) rfl rfl Try.func41 (by kernel_rfl) rfl #[.agg #[.int .i64 a0_0,.slice A0_1 l0_1.length c0_1]] rfl (by (try simp only [mA,mC,mN]);first|done|rfl|(simp only [List.length_drop,List.length_take];rfl)) ?_;(with_reducible refine (spec_MinsOk.calls k a0_0 _ _ l0_1 true _ ?side1 ?side2 A6.out).mono ?_);(case side1=>repeat (first|exact (Kd.C_below HR0_1.out HB.out)|(with_reducible first|apply aC|apply nC|apply dC)));(case side2=>exact HC0_1.out);rintro e w10 ⟨rfl,hb⟩;refine⟨_,rfl,?_⟩;have n0_:=mk0 (blk_below (g:=gb135) (o:=.cells #[.int .i64 a0_0,.slice A0_1 l0_1.length c0_1] 24 (0,0)) (by (with_reducible repeat (first|apply nB|apply dB|apply aB));exact BK135.out) hb);have n1_:=mk0 (below_step (by repeat (first|(with_reducible first|exact HB.out|apply aZ|apply nZ|apply dZ|refine sZ ?_ GE135.out)|exact HB.out)) hb);clear BK135 HB;have BK135:=n0_;have HB:=n1_;clear n0_ n1_;(try clear hb);(try clear hb2);(try clear hk);(try clear hi)))
   go_meet
   case rel=>exact⟨_,(true),(by first|rfl|(simp;done)|(simp [*];done)),H',⟨by first|omega|exact Nat.le_refl _⟩,⟨by (with_reducible repeat (first|apply nB|apply dB|apply aB));exact BK135.out⟩,⟨by repeat (first|(with_reducible first|exact HB.out|apply aZ|apply nZ|apply dZ|refine sZ ?_ GE135.out)|exact HB.out)⟩⟩
  rw [if_neg c8] at H
  have c8b0:decide (a1 < 0) = false:=decide_eq_false c8
  clear c8
  (first|rw [c8b0]|(simp only [i64_w,i32_w];rw [c8b0])|skip)
  by_cases c11:a1 ≥ a2
  ·rw [if_pos c11] at H
   have c11b0:decide (a2 ≤ a1) = true:=decide_eq_true c11
   clear c11
   have H':=mk0 H
   clear H
   have hcz12_0:w5.cell? ⟨gb135,0,none⟩ = some (.int .i64 a0_0):=(blk_cell BK135.out 0).trans rfl
   have hcz12_1:w5.cell? ⟨gb135,1,none⟩ = some (.slice A0_1 l0_1.length c0_1):=(blk_cell BK135.out 1).trans rfl
   have hfz12_0:=blk_frozen BK135.out 0
   have hfz12_1:=blk_frozen BK135.out 1
   go_wp2_with (first|((with_reducible refine gate_callee (f:=41) rfl ?_);refine goesL_ (some 11) rfl rfl Try.func41 (by kernel_rfl) rfl #[.agg #[.int .i64 a0_0,.slice A0_1 l0_1.length c0_1]] rfl (by (try simp only [mA,mC,mN]);first|done|rfl|(simp only [List.length_drop,List.length_take];rfl)) ?_;(with_reducible refine (spec_MinsOk.calls k a0_0 _ _ l0_1 true _ ?side1 ?side2 A6.out).mono ?_);(case side1=>repeat (first|exact (Kd.C_below HR0_1.out HB.out)|(with_reducible first|apply aC|apply nC|apply dC)));(case side2=>exact HC0_1.out);rintro e w13 ⟨rfl,hb⟩;refine⟨_,rfl,?_⟩;have n0_:=mk0 (blk_below (g:=gb135) (o:=.cells #[.int .i64 a0_0,.slice A0_1 l0_1.length c0_1] 24 (0,0)) (by (with_reducible repeat (first|apply nB|apply dB|apply aB));exact BK135.out) hb);have n1_:=mk0 (below_step (by repeat (first|(with_reducible first|exact HB.out|apply aZ|apply nZ|apply dZ|refine sZ ?_ GE135.out)|exact HB.out)) hb);clear BK135 HB;have BK135:=n0_;have HB:=n1_;clear n0_ n1_;(try clear hb);(try clear hb2);(try clear hk);(try clear hi)))
   go_meet
   case rel=>exact⟨_,(true),(by first|rfl|(simp;done)|(simp [*];done)),H',⟨by first|omega|exact Nat.le_refl _⟩,⟨by (with_reducible repeat (first|apply nB|apply dB|apply aB));exact BK135.out⟩,⟨by repeat (first|(with_reducible first|exact HB.out|apply aZ|apply nZ|apply dZ|refine sZ ?_ GE135.out)|exact HB.out)⟩⟩
  rw [if_neg c11] at H
  have c11b0:decide (a2 ≤ a1) = false:=decide_eq_false c11
  clear c11
  have H':=mk0 H
  clear H
  have hcz14_0:w5.cell? ⟨gb135,0,none⟩ = some (.int .i64 a0_0):=(blk_cell BK135.out 0).trans rfl
  have hcz14_1:w5.cell? ⟨gb135,1,none⟩ = some (.slice A0_1 l0_1.length c0_1):=(blk_cell BK135.out 1).trans rfl
  have hfz14_0:=blk_frozen BK135.out 0
  have hfz14_1:=blk_frozen BK135.out 1
  go_wp2_with (first|((with_reducible refine gate_callee (f:=41) rfl ?_);refine goesL_ (some 11) rfl rfl Try.func41 (by kernel_rfl) rfl #[.agg #[.int .i64 a0_0,.slice A0_1 l0_1.length c0_1]] rfl (by (try simp only [mA,mC,mN]);first|done|rfl|(simp only [List.length_drop,List.length_take];rfl)) ?_;(with_reducible refine (spec_MinsOk.calls k a0_0 _ _ l0_1 true _ ?side1 ?side2 A6.out).mono ?_);(case side1=>repeat (first|exact (Kd.C_below HR0_1.out HB.out)|(with_reducible first|apply aC|apply nC|apply dC)));(case side2=>exact HC0_1.out);rintro e w15 ⟨rfl,hb⟩;refine⟨_,rfl,?_⟩;have n0_:=mk0 (blk_below (g:=gb135) (o:=.cells #[.int .i64 a0_0,.slice A0_1 l0_1.length c0_1] 24 (0,0)) (by (with_reducible repeat (first|apply nB|apply dB|apply aB));exact BK135.out) hb);have n1_:=mk0 (below_step (by repeat (first|(with_reducible first|exact HB.out|apply aZ|apply nZ|apply dZ|refine sZ ?_ GE135.out)|exact HB.out)) hb);clear BK135 HB;have BK135:=n0_;have HB:=n1_;clear n0_ n1_;(try clear hb);(try clear hb2);(try clear hk);(try clear hi);have hcz16_0:w15.cell? ⟨gb135,0,none⟩ = some (.int .i64 a0_0):=(blk_cell BK135.out 0).trans rfl;have hcz16_1:w15.cell? ⟨gb135,1,none⟩ = some (.slice A0_1 l0_1.length c0_1):=(blk_cell BK135.out 1).trans rfl;have hfz16_0:=blk_frozen BK135.out 0;have hfz16_1:=blk_frozen BK135.out 1))
  go_meet
  case rel=>exact⟨_,(decide (a2 > a0_0)),(by first|rfl|(simp;done)|(simp [*];done)),H',⟨by first|omega|exact Nat.le_refl _⟩,⟨by (with_reducible repeat (first|apply nB|apply dB|apply aB));exact BK135.out⟩,⟨by repeat (first|(with_reducible first|exact HB.out|apply aZ|apply nZ|apply dZ|refine sZ ?_ GE135.out)|exact HB.out)⟩⟩
 case rest =>
  clear HC4
  try clear c1
  try clear c2
  try clear p2
  try clear c4
  try clear c7
  try clear c8
  try clear c8b0
  try clear c11
  try clear c11b0
  try clear hcz12_0
  try clear hcz12_1
  try clear hcz14_0
  try clear hcz14_1
  try clear hcz16_0
  try clear hcz16_1
  try clear hcz17_0
  try clear hcz17_1
  try clear hcz9_0
  try clear hcz9_1
  try clear hfz12_0
  try clear hfz12_1
  try clear hfz14_0
  try clear hfz14_1
  try clear hfz16_0
  try clear hfz16_1
  try clear hfz17_0
  try clear hfz17_1
  try clear hfz9_0
  try clear hfz9_1
  obtain⟨kq,x27_3,rfl,HA,HJ3,BK135,HB⟩:=hcut
  cases kq with
  | zero=>exact absurd HA.out (by simp [spec_MinsRange.j0])
  | succ kj3 =>
   have H:=HA.out
   clear HA
   simp only [spec_MinsRange.j0] at H
   by_cases c19:x27_3 = true
   ·subst c19
    have H1:(some (-1)) = some r:=by rw [if_pos rfl] at H;exact H
    clear H
    have H:=H1
    clear H1
    obtain rfl:=Option.some.inj H
    go_wp2
    go_ret
    exact⟨by first|rfl|(simp [errW_none,errW_some] <;> rfl)|(simp [*,errW_none,errW_some] <;> rfl),by repeat (first|(with_reducible first|exact HB.out|apply aZ|apply nZ|apply dZ|refine sZ ?_ GE135.out)|exact HB.out)⟩
   replace c19:=Bool.eq_false_iff.mpr c19
   subst c19
   have H1:((spec_l10List.f kj3 a0_0 l0_1).bind fun t137=>(if 0 ≤ a1 then (if a1 < (t137.length:Int) then (spec_MinsRange.l0 kj3 a2 t137 (rd t137 a1) a1) else (none)) else (none))) = some r:=by rw [if_neg (show ¬ (false = true) by decide)] at H;exact H
   clear H
   have H:=H1
   clear H1
   replace H:=Option.bind_eq_some_iff.mp H
   obtain⟨t137,A200,H⟩:=H
   replace H:(if 0 ≤ a1 then (if a1 < (t137.length:Int) then (spec_MinsRange.l0 kj3 a2 t137 (rd t137 a1) a1) else (none)) else (none)) = some r:=H
   have A20:=mk0 A200
   clear A200
   by_cases c21:0 ≤ a1
   rotate_left
   ·rw [if_neg c21] at H
    exact absurd H (by simp)

   rw [if_pos c21] at H
   have c21b0:decide (0 ≤ a1) = true:=decide_eq_true c21
   clear c21
   by_cases c22:a1 < (t137.length:Int)
   rotate_left
   ·rw [if_neg c22] at H
    exact absurd H (by simp)
   rw [if_pos c22] at H
   have c22b0:decide (a1 < (t137.length:Int)) = true:=decide_eq_true c22
   clear c22
   have H':=mk0 H
   clear H
   have hcz23_0:wc.cell? ⟨gb135,0,none⟩ = some (.int .i64 a0_0):=(blk_cell BK135.out 0).trans rfl
   have hcz23_1:wc.cell? ⟨gb135,1,none⟩ = some (.slice A0_1 l0_1.length c0_1):=(blk_cell BK135.out 1).trans rfl
   have hfz23_0:=blk_frozen BK135.out 0
   have hfz23_1:=blk_frozen BK135.out 1
   go_wp2_with (first|((with_reducible refine gate_callee (f:=42) rfl ?_);refine goesL_ (some 29) rfl rfl Try.func42 (by kernel_rfl) rfl #[.agg #[.int .i64 a0_0,.slice A0_1 l0_1.length c0_1]] rfl (by (try simp only [mA,mC,mN]);first|done|rfl|(simp only [List.length_drop,List.length_take];rfl)) ?_;(with_reducible refine (spec_l10List.calls kj3 a0_0 _ _ l0_1 t137 _ ?side1 ?side2 A20.out).mono ?_);(case side1=>repeat (first|exact (Kd.C_below HR0_1.out HB.out)|(with_reducible first|apply aC|apply nC|apply dC)));(case side2=>exact HC0_1.out);rintro e w24 ⟨v138,rfl,ho0,hb⟩;refine⟨_,rfl,?_⟩;have n0_:=mk0 (Kd.R_lower ho0 (below_size (by repeat (first|(with_reducible first|exact HB.out|apply aZ|apply nZ|apply dZ|refine sZ ?_ GE135.out)|exact HB.out))));have n1_:=mk0 (blk_below (g:=gb135) (o:=.cells #[.int .i64 a0_0,.slice A0_1 l0_1.length c0_1] 24 (0,0)) (by (with_reducible repeat (first|apply nB|apply dB|apply aB));exact BK135.out) hb);have n2_:=mk0 (below_step (by repeat (first|(with_reducible first|exact HB.out|apply aZ|apply nZ|apply dZ|refine sZ ?_ GE135.out)|exact HB.out)) hb);clear BK135 HB;have HO139:=n0_;have BK135:=n1_;have HB:=n2_;clear n0_ n1_ n2_;(try clear hb);(try clear hb2);(try clear hk);(try clear hi);(try clear ho0);obtain⟨Ao25,co25,eo25⟩:=Kd.R_slice HO139.out;subst eo25;have p140:0 ≤ (a1:Int):=of_decide_eq_true (by first|(with_reducible assumption)|assumption);have q140:a1 < (t137.length:Int):=of_decide_eq_true (by first|(with_reducible assumption)|assumption);obtain⟨ad140,e140,hx140_0⟩:=Kd.at_int (Kd.R_reads' HO139.out).2.2 a1 p140 q140;cases e140;replace p140:=eq_true p140;replace q140:=eq_true q140))
   go_loopg [8,9] kj3 (fun kq v8 v9 w'=>∃ (x8_2:Int) (x9_2:Int),v8 = .int .i64 x8_2 ∧ v9 = .int .i64 x9_2 ∧ Aside0 (spec_MinsRange.l0 kq a2 t137 x8_2 x9_2 = some r) ∧ Aside0 (kq ≤ kj3) ∧ Aside0 (Kd.R (Kd.int .i64) 3 w' w.heap.size (fun _=>True) (.slice (some ad140) t137.length co25) t137) ∧ Aside0 (w'.heap[gb135]? = some (.cells #[.int .i64 a0_0,(.slice A0_1 l0_1.length c0_1)] 24 (0,0))) ∧ Aside0 (Below w.heap.size w w'))
   case atStart=>exact⟨(rd t137 a1),(a1),(by first|rfl|(simp;done)|(simp [*];done)),(by first|rfl|(simp;done)|(simp [*];done)),H',⟨Nat.le_refl _⟩,⟨by (with_reducible repeat (first|apply aR|apply nR|apply dR));exact HO139.out⟩,⟨by (with_reducible repeat (first|apply nB|apply dB|apply aB));exact BK135.out⟩,⟨by repeat (first|(with_reducible first|exact HB.out|apply aZ|apply nZ|apply dZ|refine sZ ?_ GE135.out)|exact HB.out)⟩⟩
   case round =>
    clear H'
    try clear c1
    try clear p1
    try clear q1
    try clear hx1
    try clear c2
    try clear p2
    try clear c4
    try clear c7
    try clear c8
    try clear c8b0
    try clear c11
    try clear c11b0
    try clear p14
    try clear q14
    try clear hx14
    try clear c19
    try clear c21
    try clear c21b0
    try clear c22
    try clear c22b0
    try clear c25
    try clear hcz12_0
    try clear hcz12_1
    try clear hcz14_0
    try clear hcz14_1
    try clear hcz16_0
    try clear hcz16_1
    try clear hcz17_0
    try clear hcz17_1
    try clear hcz23_0
    try clear hcz23_1
    try clear hcz9_0
    try clear hcz9_1
    try clear hfz12_0
    try clear hfz12_1
    try clear hfz14_0
    try clear hfz14_1
    try clear hfz16_0
    try clear hfz16_1
    try clear hfz17_0
    try clear hfz17_1
    try clear hfz23_0
    try clear hfz23_1
    try clear hfz9_0
    try clear hfz9_1
    try clear hx140_0
    try clear p140
    try clear p2
    try clear q140
    obtain⟨x8_2,x9_2,rfl,rfl,HA,HK2,HO_7,BK135,HB⟩:=hrel
    cases gk with
    | zero=>exact absurd HA.out (by simp [spec_MinsRange.l0])
    | succ k2 =>
     have H:=HA.out
     clear HA
     simp only [spec_MinsRange.l0] at H
     by_cases c26:x9_2 < a2
     rotate_left
     ·rw [if_neg c26] at H
      have c26b0:decide (x9_2 < a2) = false:=decide_eq_false c26
      clear c26
      obtain rfl:=Option.some.inj H
      go_wp2
      go_ret
      exact⟨by first|rfl|(simp [errW_none,errW_some] <;> rfl)|(simp [*,errW_none,errW_some] <;> rfl),by repeat (first|(with_reducible first|exact HB.out|apply aZ|apply nZ|apply dZ|refine sZ ?_ GE135.out)|exact HB.out)⟩
     rw [if_pos c26] at H
     have c26b0:decide (x9_2 < a2) = true:=decide_eq_true c26
     clear c26
     by_cases c27:0 ≤ x9_2
     rotate_left
     ·rw [if_neg c27] at H
      exact absurd H (by simp)
     rw [if_pos c27] at H
     have c27b0:decide (0 ≤ x9_2) = true:=decide_eq_true c27
     clear c27
     by_cases c28:x9_2 < (t137.length:Int)
     rotate_left
     ·rw [if_neg c28] at H
      exact absurd H (by simp)
     rw [if_pos c28] at H
     have c28b0:decide (x9_2 < (t137.length:Int)) = true:=decide_eq_true c28
     clear c28
     obtain⟨ji29,hji29⟩:∃ j_:Int,(mn x8_2 (rd t137 x9_2)) = j_:=⟨_,rfl⟩
     replace H:(spec_MinsRange.l0 k2 a2 t137 ji29 (wrap64 (x9_2 + 1))) = some r:=by first|(rw [hji29] at H;exact H)|(simp only [hji29] at H ⊢;exact H)
     have hji29_:(if (rd t137 x9_2) < x8_2 then (rd t137 x9_2) else x8_2) = ji29:=hji29
     have H':=mk0 H
     clear H
     have p141:0 ≤ (x9_2:Int):=of_decide_eq_true (by first|(with_reducible assumption)|assumption)
     have q141:x9_2 < (t137.length:Int):=of_decide_eq_true (by first|(with_reducible assumption)|assumption)
     obtain⟨ad141,e141,hx141_0⟩:=Kd.at_int (Kd.R_reads' HO_7.out).2.2 x9_2 p141 q141
     obtain rfl:ad140 = ad141:=(by injection e141)
     replace p141:=eq_true p141
     replace q141:=eq_true q141
     go_wp2
     go_roundg k2
     case measure=>have:=HJ3.out;have:=HK2.out;omega
     case rel=>exact⟨(ji29),(wrap64 (x9_2 + 1)),(by first|rfl|(simp;done)|(simp only [← hji29] <;> (first|rfl|simp))|(simp [*];done)),(by first|rfl|(simp;done)|(simp [*];done)),H',⟨by have:=HJ3.out;have:=HK2.out;omega⟩,⟨by (with_reducible repeat (first|apply aR|apply nR|apply dR));exact HO_7.out⟩,⟨by (with_reducible repeat (first|apply nB|apply dB|apply aB));exact BK135.out⟩,⟨by repeat (first|(with_reducible first|exact HB.out|apply aZ|apply nZ|apply dZ|refine sZ ?_ GE135.out)|exact HB.out)⟩⟩
/-! ### impl_within: function 44 -/
def impl_within.f (a0 : Int) (a1 : Int) (a2 : Int) : Option (Bool) := if a1 ≤ a0 then (some (decide (a0 ≤ a2))) else (some false)
set_option maxHeartbeats 8000000 in
set_option maxRecDepth 100000 in
theorem impl_within.calls (a0 : Int) (a1 : Int) (a2 : Int) (r : Bool) (w : World) (h : impl_within.f a0 a1 a2 = some r) :
  Calls Try.prog 44 #[.int .i64 a0, .int .i64 a1, .int .i64 a2] w fun e w' => e = .returned (.bool r) ∧ Drawn0 w w' := by
 have H:(if a1 ≤ a0 then (some (decide (a0 ≤ a2))) else (some false)) = some r:=h
 clear h
 by_cases c4:a1 ≤ a0
 ·rw [if_pos c4] at H
  have c4b0:decide (a1 ≤ a0) = true:=decide_eq_true c4
  clear c4
  obtain rfl:=Option.some.inj H
  go_enter Try.func44,Try.ntmps44
  go_wp2
  go_ret
  exact⟨by first|rfl|(simp;done)|(simp [*];done),by repeat (first|exact Drawn0.refl _|apply Drawn0.step)⟩
 ·rw [if_neg c4] at H
  have c4b0:decide (a1 ≤ a0) = false:=decide_eq_false c4
  clear c4
  obtain rfl:=Option.some.inj H
  go_enter Try.func44,Try.ntmps44
  go_wp2
  go_ret
  exact⟨by first|rfl|(simp;done)|(simp [*];done),by repeat (first|exact Drawn0.refl _|apply Drawn0.step)⟩

/-! ### impl_isCount: function 48 -/
def impl_isCount.f (a0 : Int) : Option (Bool) := (impl_within.f a0 0 1000000).bind fun t142 => (some t142)
set_option maxHeartbeats 8000000 in
set_option maxRecDepth 100000 in
theorem impl_isCount.calls (a0 : Int) (r : Bool) (w : World) (h : impl_isCount.f a0 = some r) :
  Calls Try.prog 48 #[.int .i64 a0] w fun e w' => e = .returned (.bool r) ∧ Drawn0 w w' := by
 have H:((impl_within.f a0 0 1000000).bind fun t142=>(some t142)) = some r:=h
 clear h
 replace H:=Option.bind_eq_some_iff.mp H
 obtain⟨t142,A20,H⟩:=H
 replace H:(some t142) = some r:=H
 have A2:=mk0 A20
 clear A20
 obtain rfl:=Option.some.inj H
 go_enter Try.func48,Try.ntmps48
 go_wp2_with (first|((with_reducible refine gate_callee (f:=44) rfl ?_);refine goesL_ (some 4) rfl rfl Try.func44 (by kernel_rfl) rfl #[.int .i64 a0,.int .i64 0,.int .i64 1000000] rfl (by (try simp only [mA,mC,mN]);first|done|rfl|(simp only [List.length_drop,List.length_take];rfl)) ?_;(with_reducible refine (impl_within.calls a0 0 1000000 t142 _ A2.out).mono ?_);rintro e w' ⟨rfl,⟨nd,rfl⟩⟩;refine⟨_,rfl,?_⟩))
 go_ret
 exact⟨by first|rfl|(simp;done)|(simp [*];done),by repeat (first|exact Drawn0.refl _|apply Drawn0.step)⟩

-- NOT PRINTED: function 67 (slices_IndexFunc_int_int)

-- NOT PRINTED: function 62 (slices_ContainsFunc_int_int)

-- NOT PRINTED: function 55 (impl_areAll_int)


/-! ### impl_areAll_48: areAll at the function value 48 -/
def impl_areAll_48.f (l0 : List Int) : Option (Bool) := if l0.length ≤ maxLen then some (l0.all Fv.p48) else none
theorem impl_areAll_48.calls (A0 : Option Addr) (c0 : Nat) (l0 : List Int) (r : Bool) (w : World) (hr0 : Kd.C (Kd.int .i64) w A0 l0.length l0) (hc0 : l0.length ≤ c0) (h : impl_areAll_48.f l0 = some r) :
    Calls Try.prog 55 #[.slice A0 l0.length c0, .func (.func 48) #[] #[]] w fun e w' => e = .returned (.bool r) ∧ Below w.heap.size w w' := by
  unfold impl_areAll_48.f at h
  by_cases hm : l0.length ≤ maxLen
  · rw [if_pos hm] at h
    obtain rfl := Option.some.inj h
    exact Fv.areAll 48 #[] _ (enters_of Try.func48 (by kernel_rfl) rfl) A0 c0 l0 w hr0 hc0 hm (Fv.tells48 w)
  · rw [if_neg hm] at h
    exact absurd h (by simp)

/-! ### impl_areMins: function 38 -/
def impl_areMins.f (l0 : List Int) : Option (Bool) := if (l0.length : Int) ≤ 301 then ((impl_areAll_48.f l0).bind fun t143 => (some t143)) else (some false)
set_option maxHeartbeats 8000000 in
set_option maxRecDepth 100000 in
theorem impl_areMins.calls (A0 : Option Addr) (c0 : Nat) (l0 : List Int) (r : Bool) (w : World) (hr0 : Kd.C (Kd.int .i64) w A0 l0.length l0) (hc0 : l0.length ≤ c0) (h : impl_areMins.f l0 = some r) :
  Calls Try.prog 38 #[.slice A0 l0.length c0] w fun e w' => e = .returned (.bool r) ∧ Below w.heap.size w w' := by
 have HR0:=mk0 hr0
 have HC0:=mk0 hc0
 clear hr0 hc0
 have HB:=mk0 (Below.refl w.heap.size w)
 have H:(if (l0.length:Int) ≤ 301 then ((impl_areAll_48.f l0).bind fun t143=>(some t143)) else (some false)) = some r:=h
 clear h
 by_cases c2:(l0.length:Int) ≤ 301
 ·rw [if_pos c2] at H
  have c2b0:decide ((l0.length:Int) ≤ 301) = true:=decide_eq_true c2
  have c2b1:decide (l0.length ≤ 301) = true:=decide_eq_true (by omega)
  clear c2
  replace H:=Option.bind_eq_some_iff.mp H
  obtain⟨t143,A30,H⟩:=H
  replace H:(some t143) = some r:=H
  have A3:=mk0 A30
  clear A30
  obtain rfl:=Option.some.inj H
  go_enter Try.func38,Try.ntmps38
  go_wp2_with (first|(go_at_call 55;(with_reducible refine (impl_areAll_48.calls _ _ l0 t143 _ ?side1 ?side2 A3.out).mono ?_);(case side1=>repeat (first|exact HR0.out|(with_reducible first|apply aC|apply nC|apply dC)));(case side2=>exact HC0.out);rintro e w4 ⟨rfl,hb⟩;have n0_:=mk0 (below_step (by repeat (first|(with_reducible first|exact HB.out|apply aZ|apply nZ|apply dZ)|exact HB.out)) hb);clear HB;have HB:=n0_;clear n0_;(try clear hb);(try clear hb2);(try clear hk);(try clear hi)))
  go_ret
  exact⟨by first|rfl|(simp [errW_none,errW_some] <;> rfl)|(simp [*,errW_none,errW_some] <;> rfl),by repeat (first|(with_reducible first|exact HB.out|apply aZ|apply nZ|apply dZ)|exact HB.out)⟩
 ·rw [if_neg c2] at H
  have c2b0:decide ((l0.length:Int) ≤ 301) = false:=decide_eq_false c2
  have c2b1:decide (l0.length ≤ 301) = false:=decide_eq_false (by omega)
  clear c2
  obtain rfl:=Option.some.inj H
  go_enter Try.func38,Try.ntmps38
  go_wp2
  go_ret
  exact⟨by first|rfl|(simp [errW_none,errW_some] <;> rfl)|(simp [*,errW_none,errW_some] <;> rfl),by repeat (first|(with_reducible first|exact HB.out|apply aZ|apply nZ|apply dZ)|exact HB.out)⟩

/-! ### impl_leaves: function 56 -/
def impl_leaves.l0 : Nat → Int → Int → Option (Int)
 | 0, _, _ => none
 | k + 1, x0, x3 => if x3 < x0 then (impl_leaves.l0 k x0 (wrap64 (x3 * 2))) else (some x3)
def impl_leaves.f (k : Nat) (a0 : Int) : Option (Int) := impl_leaves.l0 k a0 1
theorem impl_leaves.mono_l : ∀ k, (∀ y0 y1, LeO (impl_leaves.l0 k y0 y1) (impl_leaves.l0 (k + 1) y0 y1))
 | 0 => fun _ _ r h => by simp [impl_leaves.l0] at h
 | k + 1 => by
  have ih0 := impl_leaves.mono_l k
  ·intro y0 y1
   unfold impl_leaves.l0
   repeat' first|(with_reducible first|exact ih0 _ _|exact LeO.refl _|exact LeO.none _|refine LeO.ite ?_ ?_|refine LeO.bind ?_ (fun _ => ?_))|exact LeO.none _|refine LeO.ite ?_ ?_|refine LeO.bind ?_ (fun _ => ?_)
theorem impl_leaves.mono : ∀ a0 k, LeO (impl_leaves.f k a0) (impl_leaves.f (k + 1) a0) := by
 intro a0 k
 have ih0 := impl_leaves.mono_l k
 unfold impl_leaves.f
 repeat' first|(with_reducible first|exact ih0 _ _|exact LeO.refl _|exact LeO.none _|refine LeO.ite ?_ ?_|refine LeO.bind ?_ (fun _ => ?_))|exact LeO.none _|refine LeO.ite ?_ ?_|refine LeO.bind ?_ (fun _ => ?_)
set_option maxHeartbeats 8000000 in
set_option maxRecDepth 100000 in
theorem impl_leaves.calls (k : Nat) (a0 : Int) (r : Int) (w : World) (h : impl_leaves.f k a0 = some r) :
  Calls Try.prog 56 #[.int .i64 a0] w fun e w' => e = .returned (.int .i64 r) ∧ Drawn0 w w' := by
 have H:(impl_leaves.l0 k a0 1) = some r:=h
 clear h
 have H':=mk0 H
 clear H
 go_enter Try.func56,Try.ntmps56
 go_wp2
 go_loopg [3] k (fun kq v3 w'=>∃ (x3_1:Int),v3 = .int .i64 x3_1 ∧ Aside0 (impl_leaves.l0 kq a0 x3_1 = some r) ∧ Aside0 (kq ≤ k) ∧ Drawn0 w w')
 case atStart=>exact⟨(1),(by first|rfl|(simp;done)|(simp [*];done)),H',⟨Nat.le_refl _⟩,by repeat (first|exact Drawn0.refl _|apply Drawn0.step)⟩
 case round =>
  clear H'
  obtain⟨x3_1,rfl,HA,HK1,⟨m1,rfl⟩⟩:=hrel
  cases gk with
  | zero=>exact absurd HA.out (by simp [impl_leaves.l0])
  | succ k1 =>
   have H:=HA.out
   clear HA
   simp only [impl_leaves.l0] at H
   by_cases c2:x3_1 < a0
   ·rw [if_pos c2] at H
    have c2b0:decide (x3_1 < a0) = true:=decide_eq_true c2
    clear c2
    have H':=mk0 H
    clear H
    go_wp2
    go_roundg k1
    case measure=>have:=HK1.out;omega
    case rel=>exact⟨(wrap64 (x3_1 * 2)),(by first|rfl|(simp;done)|(simp [*];done)),H',⟨by have:=HK1.out;omega⟩,by repeat (first|exact Drawn0.refl _|apply Drawn0.step)⟩
   ·rw [if_neg c2] at H
    have c2b0:decide (x3_1 < a0) = false:=decide_eq_false c2
    clear c2
    obtain rfl:=Option.some.inj H
    go_wp2
    go_ret
    exact⟨by first|rfl|(simp;done)|(simp [*];done),by repeat (first|exact Drawn0.refl _|apply Drawn0.step)⟩

/-! ### bits_Mul32: function 68 -/
def bits_Mul32.f (a0 : Int) (a1 : Int) : Option (Int × Int) := some (((IntKind.u64.wrap ((IntKind.u64.wrap (a0)) * (IntKind.u64.wrap (a1)))) / 4294967296) % 4294967296, (IntKind.u64.wrap ((IntKind.u64.wrap (a0)) * (IntKind.u64.wrap (a1)))) % 4294967296)
set_option maxHeartbeats 8000000 in
set_option maxRecDepth 100000 in
theorem bits_Mul32.calls (a0 : Int) (a1 : Int) (r1 : Int) (r2 : Int) (w : World) (h : bits_Mul32.f a0 a1 = some (r1, r2)) :
  Calls Try.prog 68 #[.int .u32 a0, .int .u32 a1] w fun e w' => e = .returned (.tuple #[.int .u32 r1, .int .u32 r2]) ∧ Drawn0 w w' := by
 have H:(some (((IntKind.u64.wrap ((IntKind.u64.wrap (a0)) * (IntKind.u64.wrap (a1)))) / 4294967296) % 4294967296,(IntKind.u64.wrap ((IntKind.u64.wrap (a0)) * (IntKind.u64.wrap (a1)))) % 4294967296)) = some (r1,r2):=h
 clear h
 simp only [Option.some.injEq,Prod.mk.injEq] at H
 obtain⟨rfl,rfl⟩:=H
 go_enter Try.func68,Try.ntmps68
 go_wp2
 go_ret2
 exact⟨by first|rfl|(simp;done)|(simp [*];done),by repeat (first|exact Drawn0.refl _|apply Drawn0.step)⟩

/-! ### bits_Mul64: function 69 -/
def bits_Mul64.f (a0 : Int) (a1 : Int) : Option (Int × Int) := some (IntKind.u64.wrap ((IntKind.u64.wrap ((IntKind.u64.wrap ((a0 / 4294967296) * (a1 / 4294967296))) + ((IntKind.u64.wrap ((IntKind.u64.wrap ((a0 / 4294967296) * (Go.bits .and .u64 a1 4294967295))) + ((IntKind.u64.wrap ((Go.bits .and .u64 a0 4294967295) * (Go.bits .and .u64 a1 4294967295))) / 4294967296))) / 4294967296))) + ((IntKind.u64.wrap ((Go.bits .and .u64 (IntKind.u64.wrap ((IntKind.u64.wrap ((a0 / 4294967296) * (Go.bits .and .u64 a1 4294967295))) + ((IntKind.u64.wrap ((Go.bits .and .u64 a0 4294967295) * (Go.bits .and .u64 a1 4294967295))) / 4294967296))) 4294967295) + (IntKind.u64.wrap ((Go.bits .and .u64 a0 4294967295) * (a1 / 4294967296))))) / 4294967296)), IntKind.u64.wrap (a0 * a1))
set_option maxHeartbeats 8000000 in
set_option maxRecDepth 100000 in
theorem bits_Mul64.calls (a0 : Int) (a1 : Int) (r1 : Int) (r2 : Int) (w : World) (h : bits_Mul64.f a0 a1 = some (r1, r2)) :
  Calls Try.prog 69 #[.int .u64 a0, .int .u64 a1] w fun e w' => e = .returned (.tuple #[.int .u64 r1, .int .u64 r2]) ∧ Drawn0 w w' := by
 have H:(some (IntKind.u64.wrap ((IntKind.u64.wrap ((IntKind.u64.wrap ((a0 / 4294967296) * (a1 / 4294967296))) + ((IntKind.u64.wrap ((IntKind.u64.wrap ((a0 / 4294967296) * (Go.bits .and .u64 a1 4294967295))) + ((IntKind.u64.wrap ((Go.bits .and .u64 a0 4294967295) * (Go.bits .and .u64 a1 4294967295))) / 4294967296))) / 4294967296))) + ((IntKind.u64.wrap ((Go.bits .and .u64 (IntKind.u64.wrap ((IntKind.u64.wrap ((a0 / 4294967296) * (Go.bits .and .u64 a1 4294967295))) + ((IntKind.u64.wrap ((Go.bits .and .u64 a0 4294967295) * (Go.bits .and .u64 a1 4294967295))) / 4294967296))) 4294967295) + (IntKind.u64.wrap ((Go.bits .and .u64 a0 4294967295) * (a1 / 4294967296))))) / 4294967296)),IntKind.u64.wrap (a0 * a1))) = some (r1,r2):=h
 clear h
 simp only [Option.some.injEq,Prod.mk.injEq] at H
 obtain⟨rfl,rfl⟩:=H
 go_enter Try.func69,Try.ntmps69
 go_wp2
 go_ret2
 exact⟨by first|rfl|(simp;done)|(simp [*];done),by repeat (first|exact Drawn0.refl _|apply Drawn0.step)⟩

/-! ### bits_Mul: function 64 -/
def bits_Mul.f (a0 : Int) (a1 : Int) : Option (Int × Int) := (bits_Mul64.f a0 a1).bind fun bt144 => (some (bt144.1, bt144.2))
set_option maxHeartbeats 8000000 in
set_option maxRecDepth 100000 in
theorem bits_Mul.calls (a0 : Int) (a1 : Int) (r1 : Int) (r2 : Int) (w : World) (h : bits_Mul.f a0 a1 = some (r1, r2)) :
  Calls Try.prog 64 #[.int .u64 a0, .int .u64 a1] w fun e w' => e = .returned (.tuple #[.int .u64 r1, .int .u64 r2]) ∧ Drawn0 w w' := by
 have H:((bits_Mul64.f a0 a1).bind fun bt144=>(some (bt144.1,bt144.2))) = some (r1,r2):=h
 clear h
 replace H:=Option.bind_eq_some_iff.mp H
 obtain⟨⟨t144,t145⟩,A30,H⟩:=H
 replace H:(some (t144,t145)) = some (r1,r2):=H
 have A3:=mk0 A30
 clear A30
 simp only [Option.some.injEq,Prod.mk.injEq] at H
 obtain⟨rfl,rfl⟩:=H
 go_enter Try.func64,Try.ntmps64
 go_wp2_with (first|((with_reducible refine gate_callee (f:=69) rfl ?_);refine goesL_ (some 25) rfl rfl Try.func69 (by kernel_rfl) rfl #[.int .u64 a0,.int .u64 a1] rfl (by (try simp only [mA,mC,mN]);first|done|rfl|(simp only [List.length_drop,List.length_take];rfl)) ?_;(with_reducible refine (bits_Mul64.calls a0 a1 t144 t145 _ A3.out).mono ?_);rintro e w' ⟨rfl,⟨nd,rfl⟩⟩;refine⟨_,rfl,?_⟩))
 go_ret2
 exact⟨by first|rfl|(simp;done)|(simp [*];done),by repeat (first|exact Drawn0.refl _|apply Drawn0.step)⟩

end Go.Proofs.Ytpheodpcppclaaa.QFnMinsSet
