-- A walk, made by walk.py, a program of this session's.
import Derived.Test.YtmohfjfgpeapfaaQFnExactSparseRankx0
import Derived.Test.YtmohfjfgpeapfaaQFnExactSparseRankx7
namespace Go.Proofs.Ytmohfjfgpeapfaa.QFnExactSparseRank
open Go.RowKit Go.Proofs.YtmohfjfgpeapfaaW.PrintWords Go.Proofs.YtmohfjfgpeapfaaW.PrintLast Go.Proofs.YtmohfjfgpeapfaaW.PrintMore
attribute [local go_sem] max2_int min2_int max_two min_two max_three min_three max_four min_four   -- for this text's walks alone
set_option linter.unusedVariables false
set_option linter.unusedSimpArgs false

/-! ### spec_l01List: function 73 -/
mutual
def spec_l01List.l0 : Nat → List Int → Int → Int → List Int → Option (List Int)
 | 0, _, _, _, _ => none
 | k + 1, x3, x4, x374000, x374001 => if x4 < x374000 then (if 0 ≤ (wrap64 (Int.tdiv x4 64)) then (if (wrap64 (Int.tdiv x4 64)) < (x374001.length : Int) then (spec_l01List.l1 k x3 x4 (rd x374001 (wrap64 (Int.tdiv x4 64))) (Int.tmod x4 64) x374000 x374001) else (none)) else (none)) else (some x3)
def spec_l01List.l1 : Nat → List Int → Int → Int → Int → Int → List Int → Option (List Int)
 | 0, _, _, _, _, _, _ => none
 | k + 1, x3, x4, x5, x6, x374000, x374001 => if x6 > 0 then (spec_l01List.l1 k x3 x4 (IntKind.u64.wrap (Int.tdiv x5 2)) (wrap64 (x6 - 1)) x374000 x374001) else (if x3.length < 17592186044416 then (spec_l01List.l0 k (x3 ++ [wrap64 (Int.tmod x5 2)]) (wrap64 (x4 + 1)) x374000 x374001) else (none))
end
def spec_l01List.f (k : Nat) (a0_0 : Int) (l0_1 : List Int) : Option (List Int) := spec_l01List.l0 k (([] : List Int)) 0 a0_0 l0_1
theorem spec_l01List.mono_l : ∀ k, (∀ y0 y1 y2 y3, LeO (spec_l01List.l0 k y0 y1 y2 y3) (spec_l01List.l0 (k + 1) y0 y1 y2 y3)) ∧ (∀ y0 y1 y2 y3 y4 y5, LeO (spec_l01List.l1 k y0 y1 y2 y3 y4 y5) (spec_l01List.l1 (k + 1) y0 y1 y2 y3 y4 y5))
 | 0 => ⟨fun _ _ _ _ r h => by simp [spec_l01List.l0] at h, fun _ _ _ _ _ _ r h => by simp [spec_l01List.l1] at h⟩
 | k + 1 => by
  obtain ⟨ih0, ih1⟩ := spec_l01List.mono_l k
  refine ⟨?_, ?_⟩
  ·intro y0 y1 y2 y3
   unfold spec_l01List.l0
   repeat' first|(with_reducible first|exact ih0 _ _ _ _|exact ih1 _ _ _ _ _ _|exact LeO.refl _|exact LeO.none _|refine LeO.ite ?_ ?_|refine LeO.bind ?_ (fun _ => ?_))|exact LeO.none _|refine LeO.ite ?_ ?_|refine LeO.bind ?_ (fun _ => ?_)
  ·intro y0 y1 y2 y3 y4 y5
   unfold spec_l01List.l1
   repeat' first|(with_reducible first|exact ih0 _ _ _ _|exact ih1 _ _ _ _ _ _|exact LeO.refl _|exact LeO.none _|refine LeO.ite ?_ ?_|refine LeO.bind ?_ (fun _ => ?_))|exact LeO.none _|refine LeO.ite ?_ ?_|refine LeO.bind ?_ (fun _ => ?_)
theorem spec_l01List.mono : ∀ a0 a1 k, LeO (spec_l01List.f k a0 a1) (spec_l01List.f (k + 1) a0 a1) := by
 intro a0 a1 k
 obtain ⟨ih0, ih1⟩ := spec_l01List.mono_l k
 unfold spec_l01List.f
 repeat' first|(with_reducible first|exact ih0 _ _ _ _|exact ih1 _ _ _ _ _ _|exact LeO.refl _|exact LeO.none _|refine LeO.ite ?_ ?_|refine LeO.bind ?_ (fun _ => ?_))|exact LeO.none _|refine LeO.ite ?_ ?_|refine LeO.bind ?_ (fun _ => ?_)
set_option maxHeartbeats 8000000 in
set_option maxRecDepth 100000 in
theorem spec_l01List.calls (k : Nat) (a0_0 : Int) (A0_1 : Option Addr) (c0_1 : Nat) (l0_1 : List Int) (r : List Int) (w : World) (hr0_1 : Kd.C (Kd.int .u64) w A0_1 l0_1.length l0_1) (hc0_1 : l0_1.length ≤ c0_1) (h : spec_l01List.f k a0_0 l0_1 = some r) :
  Calls Try.prog 73 #[.agg #[.int .i64 a0_0, .slice A0_1 l0_1.length c0_1]] w fun e w' => ∃ v0_ : Value, e = .returned (v0_) ∧ Kd.R (Kd.int .i64) 3 w' w.heap.size (fun _ => True) v0_ r ∧ Below w.heap.size w w' := by
 have hu29:=Try.underlying29
 have HR0_1:=mk0 hr0_1
 have HC0_1:=mk0 hc0_1
 clear hr0_1 hc0_1
 have HB:=mk0 (Below.refl w.heap.size w)
 have H:(spec_l01List.l0 k (([]:List Int)) 0 a0_0 l0_1) = some r:=h
 clear h
 obtain⟨y374,hy374⟩:∃ y_:List Int,y_ = (([]:List Int)):=⟨_,rfl⟩
 replace H:(spec_l01List.l0 k y374 0 a0_0 l0_1) = some r:=by first|(rw [hy374];with_reducible exact H)|(have H2_:=(Option.bind_some _ _).symm.trans H;rw [hy374];with_reducible exact H2_)|(have H2_:=(Option.bind_some _ _).symm.trans H;with_reducible exact H2_)|with_reducible exact H|(rw [hy374];exact H)|exact H
 have Ny374:=mk0 hy374
 clear hy374
 have H':=mk0 H
 clear H
 go_enter Try.func73,Try.ntmps73
 go_wp2_with (first|((with_reducible refine gate_dst (N:=1) rfl ?_);refine box_event ?hg (N:=1) ?hd (cs:=#[.int .i64 a0_0,.slice A0_1 l0_1.length c0_1]) (t:=29) ?hr ?_;(case hd=>rfl);(case hg=>rfl);(case hr=>first|(go_simp;done)|(go_simp;rfl));intro gb373 hg w2 hbox hb;have BK373:=mk0 (hbox);have GW373:=mk0 ((by rw [hg];exact (kZ HB.out):w.heap.size ≤ gb373));have GE373:=mk0 ((by rw [hg];exact (kZ HB.out):w.heap.size ≤ gb373));replace HB:=mk0 (kS HB.out hb);clear hb hbox hg)|((with_reducible refine gate_dst (N:=7) rfl ?_);refine Kd.R_lit (Kd.int .i64) _ 3 ?hg (N:=7) ?hd (xs:=([]:List Int)) (inner:=[]) (ok:=fun _=>True) (okp:=fun _=>True) ?hr ?hp (fun _ hk=>hk) trivial (Below.refl _ _) (Nat.le_refl _) (by simp) ?_;(case hd=>rfl);(case hg=>rfl);(case hr=>first|(go_simp;done)|(go_simp;rfl));(case hp=>exact (Reps.none _ _));intro v375 w3 ho4 hb hg_ hnew_;clear hg_ hnew_;(first|rw [← Ny374.out] at ho4|(simp only [Int.reduceToNat] at ho4;rw [← Ny374.out] at ho4));have HO376:=mk0 (Kd.R_lower ho4 (kZ HB.out));replace BK373:=mk0 (kK BK373.out hb);replace HB:=mk0 (kS HB.out hb);clear hb ho4))
 go_loopg [3,4] k (fun kq v3 v4 w'=>∃ (x3_1:List Int) (x4_1:Int),v4 = .int .i64 x4_1 ∧ Aside0 (spec_l01List.l0 kq x3_1 x4_1 a0_0 l0_1 = some r) ∧ Aside0 (kq ≤ k) ∧ Aside0 (Kd.R (Kd.int .i64) 3 w' w.heap.size (fun _=>True) v3 x3_1) ∧ Aside0 (w'.heap[gb373]? = some (.cells #[.int .i64 a0_0,(.slice A0_1 l0_1.length c0_1)] 29 (0,0))) ∧ Aside0 (Below w.heap.size w w'))
 case atStart=>exact⟨(y374),(0),(by first|rfl|(simp;done)|(simp [*];done)),H',⟨Nat.le_refl _⟩,⟨rR HO376.out⟩,⟨kN BK373.out⟩,⟨kB HB.out⟩⟩
 case round =>
  clear H'
  try clear p2
  obtain⟨x3_1,x4_1,rfl,HA,HK1,HO_3,BK373,HB⟩:=hrel
  cases gk with
  | zero=>exact absurd HA.out (by simp [spec_l01List.l0])
  | succ k1 =>
   have H:=HA.out
   clear HA
   simp only [spec_l01List.l0] at H
   by_cases c5:x4_1 < a0_0
   ·rw [if_pos c5] at H
    have c5b0:decide (x4_1 < a0_0) = true:=decide_eq_true c5
    clear c5
    obtain⟨ji6,hji6⟩:∃ j_:Int,(wrap64 (Int.tdiv x4_1 64)) = j_:=⟨_,rfl⟩
    replace H:(if 0 ≤ (ji6) then (if (ji6) < (l0_1.length:Int) then (spec_l01List.l1 k1 x3_1 x4_1 (rd l0_1 (ji6)) (Int.tmod x4_1 64) a0_0 l0_1) else (none)) else (none)) = some r:=by first|(rw [hji6] at H;exact H)|(simp only [hji6] at H ⊢;exact H)
    have hji6w:(IntKind.i64.wrap (Int.tdiv x4_1 64)) = ji6:=(i64_w _).trans hji6
    by_cases c7:0 ≤ (ji6)
    ·rw [if_pos c7] at H
     have c7b0:decide (0 ≤ (ji6)) = true:=decide_eq_true c7
     clear c7
     by_cases c8:(ji6) < (l0_1.length:Int)
     ·rw [if_pos c8] at H
      have c8b0:decide ((ji6) < (l0_1.length:Int)) = true:=decide_eq_true c8
      clear c8
      have H':=mk0 H
      clear H
      obtain⟨hcz9_0,hcz9_1,hfz9_0,hfz9_1⟩:=cz2 BK373.out
      have p377:0 ≤ ((ji6):Int):=of_decide_eq_true (by first|(with_reducible assumption)|assumption)
      have q377:(ji6) < (l0_1.length:Int):=of_decide_eq_true (by first|(with_reducible assumption)|assumption)
      obtain⟨ad377,e377,hx377_0⟩:=Kd.at_int HR0_1.out (ji6) p377 q377
      cases e377
      replace hx377_0:=(HB.out.cell (World.block_lt_of_cell? w _ hx377_0)).trans hx377_0
      replace p377:=eq_true p377
      replace q377:=eq_true q377
      go_wp2
      go_loopg [5,6] k1 (fun kq v5 v6 w'=>∃ (x5_2:Int) (x6_2:Int),v5 = .int .u64 x5_2 ∧ v6 = .int .i64 x6_2 ∧ Aside0 (spec_l01List.l1 kq x3_1 x4_1 x5_2 x6_2 a0_0 l0_1 = some r) ∧ Aside0 (kq ≤ k1) ∧ Aside0 (Kd.R (Kd.int .i64) 3 w' w.heap.size (fun _=>True) u3 x3_1) ∧ Aside0 (w'.heap[gb373]? = some (.cells #[.int .i64 a0_0,(.slice (some ad377) l0_1.length c0_1)] 29 (0,0))) ∧ Aside0 (Below w.heap.size w w'))
      case atStart=>exact⟨(rd l0_1 (ji6)),(Int.tmod x4_1 64),(by first|rfl|(simp;done)|(simp only [← hji6] <;> (first|rfl|simp))|(simp [*];done)),(by first|rfl|(simp;done)|(simp [*];done)),H',⟨Nat.le_refl _⟩,⟨rR HO_3.out⟩,⟨kN BK373.out⟩,⟨kB HB.out⟩⟩
      case round =>
       clear H'
       try clear p2
       try clear p3
       try clear q3
       try clear hx3
       try clear c5
       try clear c5b0
       try clear p6
       try clear c7
       try clear c7b0
       try clear c8
       try clear c8b0
       try clear hcz9_0
       try clear hcz9_1
       try clear hfz9_0
       try clear hfz9_1
       try clear hx377_0
       try clear p2
       try clear p377
       try clear q377
       obtain⟨x5_2,x6_2,rfl,rfl,HA,HK2,HO_3,BK373,HB⟩:=hrel
       cases gk with
       | zero=>exact absurd HA.out (by simp [spec_l01List.l1])
       | succ k2 =>
        have H:=HA.out
        clear HA
        simp only [spec_l01List.l1] at H
        by_cases c10:x6_2 > 0
        ·rw [if_pos c10] at H
         have c10b0:decide (0 < x6_2) = true:=decide_eq_true c10
         clear c10
         have H':=mk0 H
         clear H
         go_wp2
         go_roundg k2
         case measure=>have:=HK1.out;have:=HK2.out;omega
         case rel=>exact⟨(IntKind.u64.wrap (Int.tdiv x5_2 2)),(wrap64 (x6_2 - 1)),(by first|rfl|(simp;done)|(simp [*];done)),(by first|rfl|(simp;done)|(simp [*];done)),H',⟨by have:=HK1.out;have:=HK2.out;omega⟩,⟨rR HO_3.out⟩,⟨kN BK373.out⟩,⟨kB HB.out⟩⟩
        ·rw [if_neg c10] at H
         have c10b0:decide (0 < x6_2) = false:=decide_eq_false c10
         clear c10
         by_cases c11:x3_1.length < 17592186044416
         ·rw [if_pos c11] at H
          have LMc11:=mk0 c11
          clear c11
          obtain⟨y378,hy378⟩:∃ y_:List Int,y_ = (x3_1 ++ [wrap64 (Int.tmod x5_2 2)]):=⟨_,rfl⟩
          replace H:(spec_l01List.l0 k2 y378 (wrap64 (x4_1 + 1)) a0_0 l0_1) = some r:=by first|(rw [hy378];with_reducible exact H)|(have H2_:=(Option.bind_some _ _).symm.trans H;rw [hy378];with_reducible exact H2_)|(have H2_:=(Option.bind_some _ _).symm.trans H;with_reducible exact H2_)|with_reducible exact H|(rw [hy378];exact H)|exact H
          have Ny378:=mk0 hy378
          clear hy378
          have H':=mk0 H
          clear H
          go_wp2_with (first|((with_reducible refine gate_builtin (b:=.append) (xs:=#[.tmp 28,.tmp 32]) rfl ?_);at_builtin;refine Kd.R_append (Kd.int .i64) (w0:=w) w.heap.size rfl (.tmp 28) (.tmp 32) 24 3 (.int .i64 0) 8 rfl Try.underlying24 info3 rfl (by decide) (by omega) u3 x3_1 (wrap64 (Int.tmod x5_2 2)) [.int .i64 (wrap64 (Int.tmod x5_2 2))] (fun _=>True) (fun _=>False) rfl rfl ?aP (fun _ hk=>hk.elim) ?aF ?aO ?aB ?aS ?aL ?_;(case aP=>exact rfl);(case aB=>exact (kB HB.out));(case aF=>exact (fun _ _=>trivial));(case aO=>exact (rR HO_3.out));(case aS=>exact (kZ HB.out));(case aL=>have:=LMc11.out;omega);intro v379 w12 ho hb hg hat;rw [← Ny378.out] at ho;replace BK373:=mk0 (blk_grown (kN BK373.out) hg (Kd.R_ne HO_3.out BK373.out (by decide)));replace HB:=mk0 (hb);have HO380:=mk0 (ho);clear HO_3 ho hb hg hat))
          go_roundg k2
          case measure=>have:=HK1.out;have:=HK2.out;omega
          case rel=>exact⟨(y378),(wrap64 (x4_1 + 1)),(by first|rfl|(simp;done)|(simp [*];done)),H',⟨by have:=HK1.out;have:=HK2.out;omega⟩,⟨rR HO380.out⟩,⟨kN BK373.out⟩,⟨kB HB.out⟩⟩
         ·rw [if_neg c11] at H
          exact absurd H (by simp)
     ·rw [if_neg c8] at H
      exact absurd H (by simp)
    ·rw [if_neg c7] at H
     exact absurd H (by simp)
   ·rw [if_neg c5] at H
    have c5b0:decide (x4_1 < a0_0) = false:=decide_eq_false c5
    clear c5
    obtain rfl:=Option.some.inj H
    obtain⟨hcz13_0,hcz13_1,hfz13_0,hfz13_1⟩:=cz2 BK373.out
    go_wp2
    go_ret
    exact⟨_,by first|rfl|(simp [errW_none,errW_some] <;> rfl)|(simp [*,errW_none,errW_some] <;> rfl),rR HO_3.out,kB HB.out⟩

/-! ### spec_BitsOk: function 70 -/
mutual
def spec_BitsOk.j0 : Nat → Bool → Int → List Int → Option (Bool)
 | 0, _, _, _ => none
 | k + 1, x23, x382000, x382001 => if x23 = true then (some false) else ((spec_l01List.f k x382000 x382001).bind fun t382 => ((spec_BitsOf.f k t382).bind fun bt385 => (spec_BitsOk.l0 k 0 x382000 x382001 bt385.1 bt385.2.1)))
def spec_BitsOk.l0 : Nat → Int → Int → List Int → Int → List Int → Option (Bool)
 | 0, _, _, _, _, _ => none
 | k + 1, x5, x382000, x382001, x391000, x391001 => if x5 < (x382001.length : Int) then (if 0 ≤ x5 then (if x5 < (x391001.length : Int) then (if (rd x382001 x5) = (rd x391001 x5) then (spec_BitsOk.l0 k (wrap64 (x5 + 1)) x382000 x382001 x391000 x391001) else (some false)) else (none)) else (none)) else (some true)
end
def spec_BitsOk.f (k : Nat) (a0_0 : Int) (l0_1 : List Int) : Option (Bool) := if a0_0 < 0 then (spec_BitsOk.j0 k true a0_0 l0_1) else (if a0_0 > 5000 then (spec_BitsOk.j0 k true a0_0 l0_1) else (spec_BitsOk.j0 k ((l0_1.length : Int) != (wrap64 (Int.tdiv (wrap64 (a0_0 + 63)) 64))) a0_0 l0_1))
theorem spec_BitsOk.mono_l : ∀ k, (∀ y0 y1 y2, LeO (spec_BitsOk.j0 k y0 y1 y2) (spec_BitsOk.j0 (k + 1) y0 y1 y2)) ∧ (∀ y0 y1 y2 y3 y4, LeO (spec_BitsOk.l0 k y0 y1 y2 y3 y4) (spec_BitsOk.l0 (k + 1) y0 y1 y2 y3 y4))
 | 0 => ⟨fun _ _ _ r h => by simp [spec_BitsOk.j0] at h, fun _ _ _ _ _ r h => by simp [spec_BitsOk.l0] at h⟩
 | k + 1 => by
  obtain ⟨ih0, ih1⟩ := spec_BitsOk.mono_l k
  refine ⟨?_, ?_⟩
  ·intro y0 y1 y2
   unfold spec_BitsOk.j0
   repeat' first|(with_reducible first|exact ih0 _ _ _|exact ih1 _ _ _ _ _|exact spec_BitsOf.mono _ _|exact spec_l01List.mono _ _ _|exact LeO.refl _|exact LeO.none _|refine LeO.ite ?_ ?_|refine LeO.bind ?_ (fun _ => ?_))|exact LeO.none _|refine LeO.ite ?_ ?_|refine LeO.bind ?_ (fun _ => ?_)
  ·intro y0 y1 y2 y3 y4
   unfold spec_BitsOk.l0
   repeat' first|(with_reducible first|exact ih0 _ _ _|exact ih1 _ _ _ _ _|exact spec_BitsOf.mono _ _|exact spec_l01List.mono _ _ _|exact LeO.refl _|exact LeO.none _|refine LeO.ite ?_ ?_|refine LeO.bind ?_ (fun _ => ?_))|exact LeO.none _|refine LeO.ite ?_ ?_|refine LeO.bind ?_ (fun _ => ?_)
theorem spec_BitsOk.mono : ∀ a0 a1 k, LeO (spec_BitsOk.f k a0 a1) (spec_BitsOk.f (k + 1) a0 a1) := by
 intro a0 a1 k
 obtain ⟨ih0, ih1⟩ := spec_BitsOk.mono_l k
 unfold spec_BitsOk.f
 repeat' first|(with_reducible first|exact ih0 _ _ _|exact ih1 _ _ _ _ _|exact spec_BitsOf.mono _ _|exact spec_l01List.mono _ _ _|exact LeO.refl _|exact LeO.none _|refine LeO.ite ?_ ?_|refine LeO.bind ?_ (fun _ => ?_))|exact LeO.none _|refine LeO.ite ?_ ?_|refine LeO.bind ?_ (fun _ => ?_)
set_option maxHeartbeats 8000000 in
set_option maxRecDepth 100000 in
theorem spec_BitsOk.calls (k : Nat) (a0_0 : Int) (A0_1 : Option Addr) (c0_1 : Nat) (l0_1 : List Int) (r : Bool) (w : World) (hr0_1 : Kd.C (Kd.int .u64) w A0_1 l0_1.length l0_1) (hc0_1 : l0_1.length ≤ c0_1) (h : spec_BitsOk.f k a0_0 l0_1 = some r) :
  Calls Try.prog 70 #[.agg #[.int .i64 a0_0, .slice A0_1 l0_1.length c0_1]] w fun e w' => e = .returned (.bool r) ∧ Below w.heap.size w w' := by
 have hu29:=Try.underlying29
 have HR0_1:=mk0 hr0_1
 have HC0_1:=mk0 hc0_1
 clear hr0_1 hc0_1
 have HB:=mk0 (Below.refl w.heap.size w)
 have H:(if a0_0 < 0 then (spec_BitsOk.j0 k true a0_0 l0_1) else (if a0_0 > 5000 then (spec_BitsOk.j0 k true a0_0 l0_1) else (spec_BitsOk.j0 k ((l0_1.length:Int) != (wrap64 (Int.tdiv (wrap64 (a0_0 + 63)) 64))) a0_0 l0_1))) = some r:=h
 clear h
 have HC2:=mk0 H
 clear H
 go_enter Try.func70,Try.ntmps70
 go_upto_region 1 with (first|((with_reducible refine gate_dst (N:=1) rfl ?_);(try (refine gate_guard (by rfl) ?_;dsimp only));refine box_event ?hg (N:=1) ?hd (cs:=#[.int .i64 a0_0,.slice A0_1 l0_1.length c0_1]) (t:=29) ?hr ?_;(case hd=>rfl);(case hg=>rfl);(case hr=>first|(go_simp;done)|(go_simp;rfl));intro gb381 hg w3 hbox hb;have BK381:=mk0 (hbox);have GW381:=mk0 ((by rw [hg];exact (kZ HB.out):w.heap.size ≤ gb381));have GE381:=mk0 ((by rw [hg];exact (kZ HB.out):w.heap.size ≤ gb381));replace HB:=mk0 (kS HB.out hb);clear hb hbox hg))
 repeat (go_quiet (first|((with_reducible refine gate_dst (N:=1) rfl ?_);(try (refine gate_guard (by rfl) ?_;dsimp only));refine box_event ?hg (N:=1) ?hd (cs:=#[.int .i64 a0_0,.slice A0_1 l0_1.length c0_1]) (t:=29) ?hr ?_;(case hd=>rfl);(case hg=>rfl);(case hr=>first|(go_simp;done)|(go_simp;rfl));intro gb381 hg w3 hbox hb;have BK381:=mk0 (hbox);have GW381:=mk0 ((by rw [hg];exact (kZ HB.out):w.heap.size ≤ gb381));have GE381:=mk0 ((by rw [hg];exact (kZ HB.out):w.heap.size ≤ gb381));replace HB:=mk0 (kS HB.out hb);clear hb hbox hg));go_upto_region 1 with (first|((with_reducible refine gate_dst (N:=1) rfl ?_);(try (refine gate_guard (by rfl) ?_;dsimp only));refine box_event ?hg (N:=1) ?hd (cs:=#[.int .i64 a0_0,.slice A0_1 l0_1.length c0_1]) (t:=29) ?hr ?_;(case hd=>rfl);(case hg=>rfl);(case hr=>first|(go_simp;done)|(go_simp;rfl));intro gb381 hg w3 hbox hb;have BK381:=mk0 (hbox);have GW381:=mk0 ((by rw [hg];exact (kZ HB.out):w.heap.size ≤ gb381));have GE381:=mk0 ((by rw [hg];exact (kZ HB.out):w.heap.size ≤ gb381));replace HB:=mk0 (kS HB.out hb);clear hb hbox hg)))
 (try simp only [Act.put,sA,sO,sS])
 go_cut [23] (fun v23 wc=>∃ (kq:Nat) (x23_1:Bool),v23 = .bool x23_1 ∧ Aside0 (spec_BitsOk.j0 kq x23_1 a0_0 l0_1 = some r) ∧ Aside0 (kq ≤ k) ∧ Aside0 (wc.heap[gb381]? = some (.cells #[.int .i64 a0_0,(.slice A0_1 l0_1.length c0_1)] 29 (0,0))) ∧ Aside0 (Below w.heap.size w wc))
 case first =>
  have H:=HC2.out
  clear HC2
  by_cases c4:a0_0 < 0
  ·rw [if_pos c4] at H
   have c4b0:decide (a0_0 < 0) = true:=decide_eq_true c4
   clear c4
   (first|rw [c4b0]|(simp only [i64_w,i32_w];rw [c4b0])|skip)
   have H':=mk0 H
   clear H
   obtain⟨hcz5_0,hcz5_1,hfz5_0,hfz5_1⟩:=cz2 BK381.out
   go_wp2
   repeat (go_quiet (fail);try go_wp2)
   go_meet
   case rel=>exact⟨_,(true),(by first|rfl|(simp;done)|(simp [*];done)),H',⟨by first|omega|exact Nat.le_refl _⟩,⟨kN BK381.out⟩,⟨kB HB.out⟩⟩
  rw [if_neg c4] at H
  have c4b0:decide (a0_0 < 0) = false:=decide_eq_false c4
  clear c4
  (first|rw [c4b0]|(simp only [i64_w,i32_w];rw [c4b0])|skip)
  by_cases c6:a0_0 > 5000
  ·rw [if_pos c6] at H
   have c6b0:decide (5000 < a0_0) = true:=decide_eq_true c6
   clear c6
   have H':=mk0 H
   clear H
   obtain⟨hcz7_0,hcz7_1,hfz7_0,hfz7_1⟩:=cz2 BK381.out
   go_wp2
   repeat (go_quiet (fail);try go_wp2)
   go_meet
   case rel=>exact⟨_,(true),(by first|rfl|(simp;done)|(simp [*];done)),H',⟨by first|omega|exact Nat.le_refl _⟩,⟨kN BK381.out⟩,⟨kB HB.out⟩⟩
  rw [if_neg c6] at H
  have c6b0:decide (5000 < a0_0) = false:=decide_eq_false c6
  clear c6
  have H':=mk0 H
  clear H
  obtain⟨hcz8_0,hcz8_1,hfz8_0,hfz8_1⟩:=cz2 BK381.out
  go_wp2
  repeat (go_quiet (fail);try go_wp2)
  go_meet
  case rel=>exact⟨_,(((l0_1.length:Int) != (wrap64 (Int.tdiv (wrap64 (a0_0 + 63)) 64)))),(by first|rfl|(simp;done)|(simp [*];done)),H',⟨by first|omega|exact Nat.le_refl _⟩,⟨kN BK381.out⟩,⟨kB HB.out⟩⟩
 case rest =>
  clear HC2
  try clear p2
  try clear c4
  try clear c4b0
  try clear c6
  try clear c6b0
  try clear p6
  try clear c7
  try clear hcz5_0
  try clear hcz5_1
  try clear hcz7_0
  try clear hcz7_1
  try clear hcz8_0
  try clear hcz8_1
  try clear hfz5_0
  try clear hfz5_1
  try clear hfz7_0
  try clear hfz7_1
  try clear hfz8_0
  try clear hfz8_1
  obtain⟨kq,x23_1,rfl,HA,HJ1,BK381,HB⟩:=hcut
  cases kq with
  | zero=>exact absurd HA.out (by simp [spec_BitsOk.j0])
  | succ kj1 =>
   have H:=HA.out
   clear HA
   simp only [spec_BitsOk.j0] at H
   by_cases c9:x23_1 = true
   ·subst c9
    have H1:(some false) = some r:=by rw [if_pos rfl] at H;exact H
    clear H
    have H:=H1
    clear H1
    obtain rfl:=Option.some.inj H
    go_wp2
    repeat (go_quiet (fail);try go_wp2)
    go_ret
    exact⟨by first|rfl|(simp [errW_none,errW_some] <;> rfl)|(simp [*,errW_none,errW_some] <;> rfl),kB HB.out⟩
   replace c9:=Bool.eq_false_iff.mpr c9
   subst c9
   have H1:((spec_l01List.f kj1 a0_0 l0_1).bind fun t382=>((spec_BitsOf.f kj1 t382).bind fun bt385=>(spec_BitsOk.l0 kj1 0 a0_0 l0_1 bt385.1 bt385.2.1))) = some r:=by rw [if_neg (show ¬ (false = true) by decide)] at H;exact H
   clear H
   have H:=H1
   clear H1
   replace H:=Option.bind_eq_some_iff.mp H
   obtain⟨t382,A100,H⟩:=H
   replace H:((spec_BitsOf.f kj1 t382).bind fun bt385=>(spec_BitsOk.l0 kj1 0 a0_0 l0_1 bt385.1 bt385.2.1)) = some r:=H
   have A10:=mk0 A100
   clear A100
   replace H:=Option.bind_eq_some_iff.mp H
   obtain⟨⟨t385,t386,t389⟩,A110,H⟩:=H
   replace H:(spec_BitsOk.l0 kj1 0 a0_0 l0_1 t385 t386) = some r:=H
   have A11:=mk0 A110
   clear A110
   have H':=mk0 H
   clear H
   obtain⟨hcz12_0,hcz12_1,hfz12_0,hfz12_1⟩:=cz2 BK381.out
   go_wp2_with (first|(go_at_call 73;(with_reducible refine (spec_l01List.calls kj1 a0_0 _ _ l0_1 t382 _ ?side1 ?side2 A10.out).mono ?_);(case side1=>exact kC (Kd.C_below HR0_1.out HB.out));(case side2=>exact HC0_1.out);rintro e w13 ⟨v383,rfl,ho0,hb⟩;have HO384:=mk0 (Kd.R_lower ho0 (kZ HB.out));replace BK381:=mk0 (kK BK381.out hb);replace HB:=mk0 (kS HB.out hb);(try clear hb);(try clear ho0);obtain⟨Ao14,co14,eo14⟩:=Kd.R_slice HO384.out;subst eo14)|(go_at_call 30;(with_reducible refine (spec_BitsOf.calls kj1 _ _ t382 t385 t386 t389 _ ?side1 ?side2 A11.out).mono ?_);(case side1=>exact kC (Kd.R_reads' HO384.out).2.2);(case side2=>exact (Kd.R_reads' HO384.out).2.1);rintro e w15 ⟨v387,rfl,ho0,hb⟩;replace HO384:=mk0 (bR HO384.out hb);have HO388:=mk0 (Kd.R_lower ho0 (kZ HB.out));replace BK381:=mk0 (kK BK381.out hb);replace HB:=mk0 (kS HB.out hb);(try clear hb);(try clear ho0))|((with_reducible refine gate_dst (N:=3) rfl ?_);(try (refine gate_guard (by rfl) ?_;dsimp only));refine box_event ?hg (N:=3) ?hd (cs:=#[.int .i64 0,.slice none 0 0]) (t:=29) ?hr ?_;(case hd=>rfl);(case hg=>rfl);(case hr=>first|(go_simp;done)|(go_simp;rfl));intro gb390 hg w16 hbox hb;replace HO384:=mk0 (bR HO384.out hb);replace HO388:=mk0 (bR HO388.out hb);have BK390:=mk0 (hbox);have GW390:=mk0 ((by rw [hg];exact (kZ HB.out):w.heap.size ≤ gb390));have GE390:=mk0 ((by rw [hg];exact (kZ HB.out):w.heap.size ≤ gb390));replace HB:=mk0 (kS HB.out hb);have NB381_390:=mk0 ((by rw [hg];exact Nat.ne_of_lt (kL BK381.out):gb381 ≠ gb390));have NB390_381:=mk0 ((by rw [hg];exact Nat.ne_of_gt (kL BK381.out):gb390 ≠ gb381));replace BK381:=mk0 (kK BK381.out hb);clear hb hbox hg;have hnb17:=NB390_381.out;have hnc17:=NB381_390.out;obtain⟨hcz18_0,hcz18_1,hfz18_0,hfz18_1⟩:=cz2 BK390.out;obtain⟨Ao19,co19,eo19⟩:=Kd.R_slice HO388.out;subst eo19))
   repeat (go_quiet (first|(go_at_call 73;(with_reducible refine (spec_l01List.calls kj1 a0_0 _ _ l0_1 t382 _ ?side1 ?side2 A10.out).mono ?_);(case side1=>exact kC (Kd.C_below HR0_1.out HB.out));(case side2=>exact HC0_1.out);rintro e w13 ⟨v383,rfl,ho0,hb⟩;have HO384:=mk0 (Kd.R_lower ho0 (kZ HB.out));replace BK381:=mk0 (kK BK381.out hb);replace HB:=mk0 (kS HB.out hb);(try clear hb);(try clear ho0);obtain⟨Ao14,co14,eo14⟩:=Kd.R_slice HO384.out;subst eo14)|(go_at_call 30;(with_reducible refine (spec_BitsOf.calls kj1 _ _ t382 t385 t386 t389 _ ?side1 ?side2 A11.out).mono ?_);(case side1=>exact kC (Kd.R_reads' HO384.out).2.2);(case side2=>exact (Kd.R_reads' HO384.out).2.1);rintro e w15 ⟨v387,rfl,ho0,hb⟩;replace HO384:=mk0 (bR HO384.out hb);have HO388:=mk0 (Kd.R_lower ho0 (kZ HB.out));replace BK381:=mk0 (kK BK381.out hb);replace HB:=mk0 (kS HB.out hb);(try clear hb);(try clear ho0))|((with_reducible refine gate_dst (N:=3) rfl ?_);(try (refine gate_guard (by rfl) ?_;dsimp only));refine box_event ?hg (N:=3) ?hd (cs:=#[.int .i64 0,.slice none 0 0]) (t:=29) ?hr ?_;(case hd=>rfl);(case hg=>rfl);(case hr=>first|(go_simp;done)|(go_simp;rfl));intro gb390 hg w16 hbox hb;replace HO384:=mk0 (bR HO384.out hb);replace HO388:=mk0 (bR HO388.out hb);have BK390:=mk0 (hbox);have GW390:=mk0 ((by rw [hg];exact (kZ HB.out):w.heap.size ≤ gb390));have GE390:=mk0 ((by rw [hg];exact (kZ HB.out):w.heap.size ≤ gb390));replace HB:=mk0 (kS HB.out hb);have NB381_390:=mk0 ((by rw [hg];exact Nat.ne_of_lt (kL BK381.out):gb381 ≠ gb390));have NB390_381:=mk0 ((by rw [hg];exact Nat.ne_of_gt (kL BK381.out):gb390 ≠ gb381));replace BK381:=mk0 (kK BK381.out hb);clear hb hbox hg;have hnb17:=NB390_381.out;have hnc17:=NB381_390.out;obtain⟨hcz18_0,hcz18_1,hfz18_0,hfz18_1⟩:=cz2 BK390.out;obtain⟨Ao19,co19,eo19⟩:=Kd.R_slice HO388.out;subst eo19));try go_wp2_with (first|(go_at_call 73;(with_reducible refine (spec_l01List.calls kj1 a0_0 _ _ l0_1 t382 _ ?side1 ?side2 A10.out).mono ?_);(case side1=>exact kC (Kd.C_below HR0_1.out HB.out));(case side2=>exact HC0_1.out);rintro e w13 ⟨v383,rfl,ho0,hb⟩;have HO384:=mk0 (Kd.R_lower ho0 (kZ HB.out));replace BK381:=mk0 (kK BK381.out hb);replace HB:=mk0 (kS HB.out hb);(try clear hb);(try clear ho0);obtain⟨Ao14,co14,eo14⟩:=Kd.R_slice HO384.out;subst eo14)|(go_at_call 30;(with_reducible refine (spec_BitsOf.calls kj1 _ _ t382 t385 t386 t389 _ ?side1 ?side2 A11.out).mono ?_);(case side1=>exact kC (Kd.R_reads' HO384.out).2.2);(case side2=>exact (Kd.R_reads' HO384.out).2.1);rintro e w15 ⟨v387,rfl,ho0,hb⟩;replace HO384:=mk0 (bR HO384.out hb);have HO388:=mk0 (Kd.R_lower ho0 (kZ HB.out));replace BK381:=mk0 (kK BK381.out hb);replace HB:=mk0 (kS HB.out hb);(try clear hb);(try clear ho0))|((with_reducible refine gate_dst (N:=3) rfl ?_);(try (refine gate_guard (by rfl) ?_;dsimp only));refine box_event ?hg (N:=3) ?hd (cs:=#[.int .i64 0,.slice none 0 0]) (t:=29) ?hr ?_;(case hd=>rfl);(case hg=>rfl);(case hr=>first|(go_simp;done)|(go_simp;rfl));intro gb390 hg w16 hbox hb;replace HO384:=mk0 (bR HO384.out hb);replace HO388:=mk0 (bR HO388.out hb);have BK390:=mk0 (hbox);have GW390:=mk0 ((by rw [hg];exact (kZ HB.out):w.heap.size ≤ gb390));have GE390:=mk0 ((by rw [hg];exact (kZ HB.out):w.heap.size ≤ gb390));replace HB:=mk0 (kS HB.out hb);have NB381_390:=mk0 ((by rw [hg];exact Nat.ne_of_lt (kL BK381.out):gb381 ≠ gb390));have NB390_381:=mk0 ((by rw [hg];exact Nat.ne_of_gt (kL BK381.out):gb390 ≠ gb381));replace BK381:=mk0 (kK BK381.out hb);clear hb hbox hg;have hnb17:=NB390_381.out;have hnc17:=NB381_390.out;obtain⟨hcz18_0,hcz18_1,hfz18_0,hfz18_1⟩:=cz2 BK390.out;obtain⟨Ao19,co19,eo19⟩:=Kd.R_slice HO388.out;subst eo19)))
   go_loopg [5] kj1 (fun kq v5 w'=>∃ (x5_2:Int),v5 = .int .i64 x5_2 ∧ Aside0 (spec_BitsOk.l0 kq x5_2 a0_0 l0_1 t385 t386 = some r) ∧ Aside0 (kq ≤ kj1) ∧ Aside0 (Kd.R (Kd.int .u64) 78 w' w.heap.size (fun _=>True) (.slice Ao19 t386.length co19) t386) ∧ Aside0 (w'.heap[gb381]? = some (.cells #[.int .i64 a0_0,(.slice A0_1 l0_1.length c0_1)] 29 (0,0))) ∧ Aside0 (w'.heap[gb390]? = some (.cells #[.int .i64 t385,(.slice Ao19 t386.length co19)] 29 (0,0))) ∧ Aside0 (Below w.heap.size w w'))
   case atStart=>exact⟨(0),(by first|rfl|(simp;done)|(simp [*];done)),H',⟨Nat.le_refl _⟩,⟨by (with_reducible repeat (first|apply aR|apply nR|apply dR));exact Kd.R_mono (Kd.R_far (p:=⟨gb390,1,none⟩) (Kd.R_far (p:=⟨gb390,0,none⟩) (Kd.R_types HO388.out BK390.out (by decide)) (fun _ hk=>hk.2) (.int .i64 t385)) (fun _ hk=>hk.2) (.slice Ao19 t386.length co19)) (fun _ hk=>trivial)⟩,⟨by (with_reducible repeat (first|apply nB|apply dB|apply aB));refine blk_far ?_ NB381_390.out _;(with_reducible repeat (first|apply nB|apply dB|apply aB));refine blk_far ?_ NB381_390.out _;(with_reducible repeat (first|apply nB|apply dB|apply aB));exact BK381.out⟩,⟨by (with_reducible repeat (first|apply nB|apply dB|apply aB));refine blk_put (cs:=#[.int .i64 t385,.slice none 0 0]) ?_ 1 _ rfl;(with_reducible repeat (first|apply nB|apply dB|apply aB));refine blk_put (cs:=#[.int .i64 0,.slice none 0 0]) ?_ 0 _ rfl;(with_reducible repeat (first|apply nB|apply dB|apply aB));exact BK390.out⟩,⟨kB HB.out⟩⟩
   case round =>
    clear H'
    try clear c1
    try clear p2
    try clear c4
    try clear c4b0
    try clear c6
    try clear c6b0
    try clear p6
    try clear c7
    try clear c9
    try clear c17
    try clear hcz12_0
    try clear hcz12_1
    try clear hcz18_0
    try clear hcz18_1
    try clear hcz5_0
    try clear hcz5_1
    try clear hcz7_0
    try clear hcz7_1
    try clear hcz8_0
    try clear hcz8_1
    try clear hfz12_0
    try clear hfz12_1
    try clear hfz18_0
    try clear hfz18_1
    try clear hfz5_0
    try clear hfz5_1
    try clear hfz7_0
    try clear hfz7_1
    try clear hfz8_0
    try clear hfz8_1
    try clear p2
    try clear p6
    obtain⟨x5_2,rfl,HA,HK2,HO_391001,BK381,BK390,HB⟩:=hrel
    cases gk with
    | zero=>exact absurd HA.out (by simp [spec_BitsOk.l0])
    | succ k2 =>
     have H:=HA.out
     clear HA
     simp only [spec_BitsOk.l0] at H
     by_cases c20:x5_2 < (l0_1.length:Int)
     rotate_left
     ·rw [if_neg c20] at H
      have c20b0:decide (x5_2 < (l0_1.length:Int)) = false:=decide_eq_false c20
      clear c20
      obtain rfl:=Option.some.inj H
      have hnb30:=NB381_390.out
      have hnc30:=NB390_381.out
      obtain⟨hcz31_0,hcz31_1,hfz31_0,hfz31_1⟩:=cz2 BK381.out
      go_wp2
      repeat (go_quiet (fail);try go_wp2)
      go_ret
      exact⟨by first|rfl|(simp [errW_none,errW_some] <;> rfl)|(simp [*,errW_none,errW_some] <;> rfl),kB HB.out⟩

     rw [if_pos c20] at H
     have c20b0:decide (x5_2 < (l0_1.length:Int)) = true:=decide_eq_true c20
     clear c20
     by_cases c21:0 ≤ x5_2
     rotate_left
     ·rw [if_neg c21] at H
      exact absurd H (by simp)
     rw [if_pos c21] at H
     have c21b0:decide (0 ≤ x5_2) = true:=decide_eq_true c21
     clear c21
     by_cases c22:x5_2 < (t386.length:Int)
     rotate_left
     ·rw [if_neg c22] at H
      exact absurd H (by simp)
     rw [if_pos c22] at H
     have c22b0:decide (x5_2 < (t386.length:Int)) = true:=decide_eq_true c22
     clear c22
     by_cases c23:(rd l0_1 x5_2) = (rd t386 x5_2)
     rotate_left
     ·rw [if_neg c23] at H
      have c23b0:((rd l0_1 x5_2) == (rd t386 x5_2)) = false:=beq_eq_false_iff_ne.mpr c23
      have c23b1:((rd l0_1 x5_2) != (rd t386 x5_2)) = true:=bne_iff_ne.mpr c23
      obtain rfl:=Option.some.inj H
      have hnb27:=NB381_390.out
      have hnc27:=NB390_381.out
      obtain⟨hcz28_0,hcz28_1,hfz28_0,hfz28_1⟩:=cz2 BK381.out
      have p391:0 ≤ (x5_2:Int):=of_decide_eq_true (by first|(with_reducible assumption)|assumption)
      have q391:x5_2 < (l0_1.length:Int):=of_decide_eq_true (by first|(with_reducible assumption)|assumption)
      obtain⟨ad391,e391,hx391_0⟩:=Kd.at_int HR0_1.out x5_2 p391 q391
      cases e391
      replace hx391_0:=(HB.out.cell (World.block_lt_of_cell? w _ hx391_0)).trans hx391_0
      replace p391:=eq_true p391
      replace q391:=eq_true q391
      obtain⟨hcz29_0,hcz29_1,hfz29_0,hfz29_1⟩:=cz2 BK390.out
      have p392:0 ≤ (x5_2:Int):=of_decide_eq_true (by first|(with_reducible assumption)|assumption)
      have q392:x5_2 < (t386.length:Int):=of_decide_eq_true (by first|(with_reducible assumption)|assumption)
      obtain⟨ad392,e392,hx392_0⟩:=Kd.at_int (Kd.R_reads' HO_391001.out).2.2 x5_2 p392 q392
      cases e392
      replace p392:=eq_true p392
      replace q392:=eq_true q392
      go_wp2
      repeat (go_quiet (fail);try go_wp2)
      go_ret
      exact⟨by first|rfl|(simp [errW_none,errW_some] <;> rfl)|(simp [*,errW_none,errW_some] <;> rfl),kB HB.out⟩
     rw [if_pos c23] at H
     have c23b0:((rd l0_1 x5_2) == (rd t386 x5_2)) = true:=beq_iff_eq.mpr c23
     have c23b1:((rd l0_1 x5_2) != (rd t386 x5_2)) = false:=bne_eq_false_iff_eq.mpr c23
     clear c23
     have H':=mk0 H
     clear H
     have hnb24:=NB381_390.out
     have hnc24:=NB390_381.out
     obtain⟨hcz25_0,hcz25_1,hfz25_0,hfz25_1⟩:=cz2 BK381.out
     have p391:0 ≤ (x5_2:Int):=of_decide_eq_true (by first|(with_reducible assumption)|assumption)
     have q391:x5_2 < (l0_1.length:Int):=of_decide_eq_true (by first|(with_reducible assumption)|assumption)
     obtain⟨ad391,e391,hx391_0⟩:=Kd.at_int HR0_1.out x5_2 p391 q391
     cases e391
     replace hx391_0:=(HB.out.cell (World.block_lt_of_cell? w _ hx391_0)).trans hx391_0
     replace p391:=eq_true p391
     replace q391:=eq_true q391
     obtain⟨hcz26_0,hcz26_1,hfz26_0,hfz26_1⟩:=cz2 BK390.out
     have p392:0 ≤ (x5_2:Int):=of_decide_eq_true (by first|(with_reducible assumption)|assumption)
     have q392:x5_2 < (t386.length:Int):=of_decide_eq_true (by first|(with_reducible assumption)|assumption)
     obtain⟨ad392,e392,hx392_0⟩:=Kd.at_int (Kd.R_reads' HO_391001.out).2.2 x5_2 p392 q392
     cases e392
     replace p392:=eq_true p392
     replace q392:=eq_true q392
     go_wp2
     repeat (go_quiet (fail);try go_wp2)
     go_roundg k2
     case measure=>have:=HJ1.out;have:=HK2.out;omega
     case rel=>exact⟨(wrap64 (x5_2 + 1)),(by first|rfl|(simp;done)|(simp [*];done)),H',⟨by have:=HJ1.out;have:=HK2.out;omega⟩,⟨rR HO_391001.out⟩,⟨kN BK381.out⟩,⟨kN BK390.out⟩,⟨kB HB.out⟩⟩
/-! ### spec_PackOk: function 69 -/
def spec_PackOk.f (k : Nat) (a0_0 : Int) (a0_1 : Int) (a0_2 : Int) (l0_3 : List Int) : Option (Bool) := if a0_0 ≥ 0 then (if a0_0 ≤ 32 then (if a0_1 ≥ 0 then (if a0_1 ≤ 5000 then ((spec_BitsOk.f k a0_2 l0_3).bind fun t394 => (if t394 = true then (some (a0_2 == (wrap64 (a0_0 * a0_1)))) else (some false))) else (some false)) else (some false)) else (some false)) else (some false)
theorem spec_PackOk.mono : ∀ a0 a1 a2 a3 k, LeO (spec_PackOk.f k a0 a1 a2 a3) (spec_PackOk.f (k + 1) a0 a1 a2 a3) := by
 intro a0 a1 a2 a3 k
 unfold spec_PackOk.f
 repeat' first|(with_reducible first|exact spec_BitsOk.mono _ _ _|exact LeO.refl _|exact LeO.none _|refine LeO.ite ?_ ?_|refine LeO.bind ?_ (fun _ => ?_))|exact LeO.none _|refine LeO.ite ?_ ?_|refine LeO.bind ?_ (fun _ => ?_)
set_option maxHeartbeats 8000000 in
set_option maxRecDepth 100000 in
theorem spec_PackOk.calls (k : Nat) (a0_0 : Int) (a0_1 : Int) (a0_2 : Int) (A0_3 : Option Addr) (c0_3 : Nat) (l0_3 : List Int) (r : Bool) (w : World) (hr0_3 : Kd.C (Kd.int .u64) w A0_3 l0_3.length l0_3) (hc0_3 : l0_3.length ≤ c0_3) (h : spec_PackOk.f k a0_0 a0_1 a0_2 l0_3 = some r) :
  Calls Try.prog 69 #[.agg #[.int .i64 a0_0, .int .i64 a0_1, .int .i64 a0_2, .slice A0_3 l0_3.length c0_3]] w fun e w' => e = .returned (.bool r) ∧ Below w.heap.size w w' := by
 have hu31:=Try.underlying31
 have hu29:=Try.underlying29
 have HR0_3:=mk0 hr0_3
 have HC0_3:=mk0 hc0_3
 clear hr0_3 hc0_3
 have HB:=mk0 (Below.refl w.heap.size w)
 have H:(if a0_0 ≥ 0 then (if a0_0 ≤ 32 then (if a0_1 ≥ 0 then (if a0_1 ≤ 5000 then ((spec_BitsOk.f k a0_2 l0_3).bind fun t394=>(if t394 = true then (some (a0_2 == (wrap64 (a0_0 * a0_1)))) else (some false))) else (some false)) else (some false)) else (some false)) else (some false)) = some r:=h
 clear h
 by_cases c2:a0_0 ≥ 0
 ·rw [if_pos c2] at H
  have c2b0:decide (0 ≤ a0_0) = true:=decide_eq_true c2
  clear c2
  by_cases c3:a0_0 ≤ 32
  ·rw [if_pos c3] at H
   have c3b0:decide (a0_0 ≤ 32) = true:=decide_eq_true c3
   clear c3
   by_cases c4:a0_1 ≥ 0
   ·rw [if_pos c4] at H
    have c4b0:decide (0 ≤ a0_1) = true:=decide_eq_true c4
    clear c4
    by_cases c5:a0_1 ≤ 5000
    ·rw [if_pos c5] at H
     have c5b0:decide (a0_1 ≤ 5000) = true:=decide_eq_true c5
     clear c5
     replace H:=Option.bind_eq_some_iff.mp H
     obtain⟨t394,A60,H⟩:=H
     replace H:(if t394 = true then (some (a0_2 == (wrap64 (a0_0 * a0_1)))) else (some false)) = some r:=H
     have A6:=mk0 A60
     clear A60
     by_cases c7:t394 = true
     ·subst c7
      have H1:(some (a0_2 == (wrap64 (a0_0 * a0_1)))) = some r:=by rw [if_pos rfl] at H;exact H
      clear H
      have H:=H1
      clear H1
      obtain rfl:=Option.some.inj H
      go_enter Try.func69,Try.ntmps69
      go_wp2_with (first|((with_reducible refine gate_dst (N:=1) rfl ?_);refine box_event ?hg (N:=1) ?hd (cs:=#[.int .i64 a0_0,.int .i64 a0_1,.int .i64 a0_2,.slice A0_3 l0_3.length c0_3]) (t:=31) ?hr ?_;(case hd=>rfl);(case hg=>rfl);(case hr=>first|(go_simp;done)|(go_simp;rfl));intro gb393 hg w8 hbox hb;have BK393:=mk0 (hbox);have GW393:=mk0 ((by rw [hg];exact (kZ HB.out):w.heap.size ≤ gb393));have GE393:=mk0 ((by rw [hg];exact (kZ HB.out):w.heap.size ≤ gb393));replace HB:=mk0 (kS HB.out hb);clear hb hbox hg;obtain⟨hcz9_0,hcz9_1,hcz9_2,hcz9_3,hfz9_0,hfz9_1,hfz9_2,hfz9_3⟩:=cz4 BK393.out)|(go_at_call 70;(with_reducible refine (spec_BitsOk.calls k a0_2 _ _ l0_3 true _ ?side1 ?side2 A6.out).mono ?_);(case side1=>exact kC (Kd.C_below HR0_3.out HB.out));(case side2=>exact HC0_3.out);rintro e w10 ⟨rfl,hb⟩;replace BK393:=mk0 (kK BK393.out hb);replace HB:=mk0 (kS HB.out hb);(try clear hb);obtain⟨hcz11_0,hcz11_1,hcz11_2,hcz11_3,hfz11_0,hfz11_1,hfz11_2,hfz11_3⟩:=cz4 BK393.out))
      go_ret
      exact⟨by first|rfl|(simp [errW_none,errW_some] <;> rfl)|(simp [*,errW_none,errW_some] <;> rfl),kB HB.out⟩
     ·replace c7:=Bool.eq_false_iff.mpr c7
      subst c7
      have H1:(some false) = some r:=by rw [if_neg (show ¬ (false = true) by decide)] at H;exact H
      clear H
      have H:=H1
      clear H1
      obtain rfl:=Option.some.inj H
      go_enter Try.func69,Try.ntmps69
      go_wp2_with (first|((with_reducible refine gate_dst (N:=1) rfl ?_);refine box_event ?hg (N:=1) ?hd (cs:=#[.int .i64 a0_0,.int .i64 a0_1,.int .i64 a0_2,.slice A0_3 l0_3.length c0_3]) (t:=31) ?hr ?_;(case hd=>rfl);(case hg=>rfl);(case hr=>first|(go_simp;done)|(go_simp;rfl));intro gb393 hg w12 hbox hb;have BK393:=mk0 (hbox);have GW393:=mk0 ((by rw [hg];exact (kZ HB.out):w.heap.size ≤ gb393));have GE393:=mk0 ((by rw [hg];exact (kZ HB.out):w.heap.size ≤ gb393));replace HB:=mk0 (kS HB.out hb);clear hb hbox hg;obtain⟨hcz13_0,hcz13_1,hcz13_2,hcz13_3,hfz13_0,hfz13_1,hfz13_2,hfz13_3⟩:=cz4 BK393.out)|(go_at_call 70;(with_reducible refine (spec_BitsOk.calls k a0_2 _ _ l0_3 false _ ?side1 ?side2 A6.out).mono ?_);(case side1=>exact kC (Kd.C_below HR0_3.out HB.out));(case side2=>exact HC0_3.out);rintro e w14 ⟨rfl,hb⟩;replace BK393:=mk0 (kK BK393.out hb);replace HB:=mk0 (kS HB.out hb);(try clear hb)))
      go_ret
      exact⟨by first|rfl|(simp [errW_none,errW_some] <;> rfl)|(simp [*,errW_none,errW_some] <;> rfl),kB HB.out⟩
    ·rw [if_neg c5] at H
     have c5b0:decide (a0_1 ≤ 5000) = false:=decide_eq_false c5
     clear c5
     obtain rfl:=Option.some.inj H
     go_enter Try.func69,Try.ntmps69
     go_wp2_with (first|((with_reducible refine gate_dst (N:=1) rfl ?_);refine box_event ?hg (N:=1) ?hd (cs:=#[.int .i64 a0_0,.int .i64 a0_1,.int .i64 a0_2,.slice A0_3 l0_3.length c0_3]) (t:=31) ?hr ?_;(case hd=>rfl);(case hg=>rfl);(case hr=>first|(go_simp;done)|(go_simp;rfl));intro gb393 hg w15 hbox hb;have BK393:=mk0 (hbox);have GW393:=mk0 ((by rw [hg];exact (kZ HB.out):w.heap.size ≤ gb393));have GE393:=mk0 ((by rw [hg];exact (kZ HB.out):w.heap.size ≤ gb393));replace HB:=mk0 (kS HB.out hb);clear hb hbox hg;obtain⟨hcz16_0,hcz16_1,hcz16_2,hcz16_3,hfz16_0,hfz16_1,hfz16_2,hfz16_3⟩:=cz4 BK393.out))
     go_ret
     exact⟨by first|rfl|(simp [errW_none,errW_some] <;> rfl)|(simp [*,errW_none,errW_some] <;> rfl),kB HB.out⟩
   ·rw [if_neg c4] at H
    have c4b0:decide (0 ≤ a0_1) = false:=decide_eq_false c4
    clear c4
    obtain rfl:=Option.some.inj H
    go_enter Try.func69,Try.ntmps69
    go_wp2_with (first|((with_reducible refine gate_dst (N:=1) rfl ?_);refine box_event ?hg (N:=1) ?hd (cs:=#[.int .i64 a0_0,.int .i64 a0_1,.int .i64 a0_2,.slice A0_3 l0_3.length c0_3]) (t:=31) ?hr ?_;(case hd=>rfl);(case hg=>rfl);(case hr=>first|(go_simp;done)|(go_simp;rfl));intro gb393 hg w17 hbox hb;have BK393:=mk0 (hbox);have GW393:=mk0 ((by rw [hg];exact (kZ HB.out):w.heap.size ≤ gb393));have GE393:=mk0 ((by rw [hg];exact (kZ HB.out):w.heap.size ≤ gb393));replace HB:=mk0 (kS HB.out hb);clear hb hbox hg;obtain⟨hcz18_0,hcz18_1,hcz18_2,hcz18_3,hfz18_0,hfz18_1,hfz18_2,hfz18_3⟩:=cz4 BK393.out))
    go_ret
    exact⟨by first|rfl|(simp [errW_none,errW_some] <;> rfl)|(simp [*,errW_none,errW_some] <;> rfl),kB HB.out⟩
  ·rw [if_neg c3] at H
   have c3b0:decide (a0_0 ≤ 32) = false:=decide_eq_false c3
   clear c3
   obtain rfl:=Option.some.inj H
   go_enter Try.func69,Try.ntmps69
   go_wp2_with (first|((with_reducible refine gate_dst (N:=1) rfl ?_);refine box_event ?hg (N:=1) ?hd (cs:=#[.int .i64 a0_0,.int .i64 a0_1,.int .i64 a0_2,.slice A0_3 l0_3.length c0_3]) (t:=31) ?hr ?_;(case hd=>rfl);(case hg=>rfl);(case hr=>first|(go_simp;done)|(go_simp;rfl));intro gb393 hg w19 hbox hb;have BK393:=mk0 (hbox);have GW393:=mk0 ((by rw [hg];exact (kZ HB.out):w.heap.size ≤ gb393));have GE393:=mk0 ((by rw [hg];exact (kZ HB.out):w.heap.size ≤ gb393));replace HB:=mk0 (kS HB.out hb);clear hb hbox hg;obtain⟨hcz20_0,hcz20_1,hcz20_2,hcz20_3,hfz20_0,hfz20_1,hfz20_2,hfz20_3⟩:=cz4 BK393.out))
   go_ret
   exact⟨by first|rfl|(simp [errW_none,errW_some] <;> rfl)|(simp [*,errW_none,errW_some] <;> rfl),kB HB.out⟩
 ·rw [if_neg c2] at H
  have c2b0:decide (0 ≤ a0_0) = false:=decide_eq_false c2
  clear c2
  obtain rfl:=Option.some.inj H
  go_enter Try.func69,Try.ntmps69
  go_wp2_with (first|((with_reducible refine gate_dst (N:=1) rfl ?_);refine box_event ?hg (N:=1) ?hd (cs:=#[.int .i64 a0_0,.int .i64 a0_1,.int .i64 a0_2,.slice A0_3 l0_3.length c0_3]) (t:=31) ?hr ?_;(case hd=>rfl);(case hg=>rfl);(case hr=>first|(go_simp;done)|(go_simp;rfl));intro gb393 hg w21 hbox hb;have BK393:=mk0 (hbox);have GW393:=mk0 ((by rw [hg];exact (kZ HB.out):w.heap.size ≤ gb393));have GE393:=mk0 ((by rw [hg];exact (kZ HB.out):w.heap.size ≤ gb393));replace HB:=mk0 (kS HB.out hb);clear hb hbox hg;obtain⟨hcz22_0,hcz22_1,hcz22_2,hcz22_3,hfz22_0,hfz22_1,hfz22_2,hfz22_3⟩:=cz4 BK393.out))
  go_ret
  exact⟨by first|rfl|(simp [errW_none,errW_some] <;> rfl)|(simp [*,errW_none,errW_some] <;> rfl),kB HB.out⟩

/-! ### spec_PackList: function 72 -/
mutual
def spec_PackList.l0 : Nat → List Int → Int → List Int → Int → Int → Int → List Int → Option (List Int)
 | 0, _, _, _, _, _, _, _ => none
 | k + 1, x4, x5, x13, x396000, x396001, x396002, x396003 => if x5 < x396001 then (spec_PackList.l1 k x4 x5 0 (wrap64 (x396000 - 1)) x13 x396000 x396001 x396002 x396003) else (some x4)
def spec_PackList.l1 : Nat → List Int → Int → Int → Int → List Int → Int → Int → Int → List Int → Option (List Int)
 | 0, _, _, _, _, _, _, _, _, _ => none
 | k + 1, x4, x5, x6, x7, x13, x396000, x396001, x396002, x396003 => if x7 ≥ 0 then (if 0 ≤ (wrap64 ((wrap64 (x5 * x396000)) + x7)) then (if (wrap64 ((wrap64 (x5 * x396000)) + x7)) < (x13.length : Int) then (spec_PackList.l1 k x4 x5 (wrap64 ((wrap64 (2 * x6)) + (rd x13 (wrap64 ((wrap64 (x5 * x396000)) + x7))))) (wrap64 (x7 - 1)) x13 x396000 x396001 x396002 x396003) else (none)) else (none)) else (if x4.length < 17592186044416 then (spec_PackList.l0 k (x4 ++ [x6]) (wrap64 (x5 + 1)) x13 x396000 x396001 x396002 x396003) else (none))
end
def spec_PackList.f (k : Nat) (a0_0 : Int) (a0_1 : Int) (a0_2 : Int) (l0_3 : List Int) : Option (List Int) := (spec_PackOk.f k a0_0 a0_1 a0_2 l0_3).bind fun t396 => (if t396 = true then ((spec_l01List.f k a0_2 l0_3).bind fun t397 => (spec_PackList.l0 k (([] : List Int)) 0 t397 a0_0 a0_1 a0_2 l0_3)) else (some ([] : List Int)))
theorem spec_PackList.mono_l : ∀ k, (∀ y0 y1 y2 y3 y4 y5 y6, LeO (spec_PackList.l0 k y0 y1 y2 y3 y4 y5 y6) (spec_PackList.l0 (k + 1) y0 y1 y2 y3 y4 y5 y6)) ∧ (∀ y0 y1 y2 y3 y4 y5 y6 y7 y8, LeO (spec_PackList.l1 k y0 y1 y2 y3 y4 y5 y6 y7 y8) (spec_PackList.l1 (k + 1) y0 y1 y2 y3 y4 y5 y6 y7 y8))
 | 0 => ⟨fun _ _ _ _ _ _ _ r h => by simp [spec_PackList.l0] at h, fun _ _ _ _ _ _ _ _ _ r h => by simp [spec_PackList.l1] at h⟩
 | k + 1 => by
  obtain ⟨ih0, ih1⟩ := spec_PackList.mono_l k
  refine ⟨?_, ?_⟩
  ·intro y0 y1 y2 y3 y4 y5 y6
   unfold spec_PackList.l0
   repeat' first|(with_reducible first|exact ih0 _ _ _ _ _ _ _|exact ih1 _ _ _ _ _ _ _ _ _|exact spec_PackOk.mono _ _ _ _ _|exact spec_l01List.mono _ _ _|exact LeO.refl _|exact LeO.none _|refine LeO.ite ?_ ?_|refine LeO.bind ?_ (fun _ => ?_))|exact LeO.none _|refine LeO.ite ?_ ?_|refine LeO.bind ?_ (fun _ => ?_)
  ·intro y0 y1 y2 y3 y4 y5 y6 y7 y8
   unfold spec_PackList.l1
   repeat' first|(with_reducible first|exact ih0 _ _ _ _ _ _ _|exact ih1 _ _ _ _ _ _ _ _ _|exact spec_PackOk.mono _ _ _ _ _|exact spec_l01List.mono _ _ _|exact LeO.refl _|exact LeO.none _|refine LeO.ite ?_ ?_|refine LeO.bind ?_ (fun _ => ?_))|exact LeO.none _|refine LeO.ite ?_ ?_|refine LeO.bind ?_ (fun _ => ?_)
theorem spec_PackList.mono : ∀ a0 a1 a2 a3 k, LeO (spec_PackList.f k a0 a1 a2 a3) (spec_PackList.f (k + 1) a0 a1 a2 a3) := by
 intro a0 a1 a2 a3 k
 obtain ⟨ih0, ih1⟩ := spec_PackList.mono_l k
 unfold spec_PackList.f
 repeat' first|(with_reducible first|exact ih0 _ _ _ _ _ _ _|exact ih1 _ _ _ _ _ _ _ _ _|exact spec_PackOk.mono _ _ _ _ _|exact spec_l01List.mono _ _ _|exact LeO.refl _|exact LeO.none _|refine LeO.ite ?_ ?_|refine LeO.bind ?_ (fun _ => ?_))|exact LeO.none _|refine LeO.ite ?_ ?_|refine LeO.bind ?_ (fun _ => ?_)
set_option maxHeartbeats 8000000 in
set_option maxRecDepth 100000 in
theorem spec_PackList.calls (k : Nat) (a0_0 : Int) (a0_1 : Int) (a0_2 : Int) (A0_3 : Option Addr) (c0_3 : Nat) (l0_3 : List Int) (r : List Int) (w : World) (hr0_3 : Kd.C (Kd.int .u64) w A0_3 l0_3.length l0_3) (hc0_3 : l0_3.length ≤ c0_3) (h : spec_PackList.f k a0_0 a0_1 a0_2 l0_3 = some r) :
  Calls Try.prog 72 #[.agg #[.int .i64 a0_0, .int .i64 a0_1, .int .i64 a0_2, .slice A0_3 l0_3.length c0_3]] w fun e w' => ∃ v0_ : Value, e = .returned (v0_) ∧ Kd.R (Kd.int .i64) 3 w' w.heap.size (fun _ => True) v0_ r ∧ Below w.heap.size w w' := by
 have hu31:=Try.underlying31
 have hu29:=Try.underlying29
 have HR0_3:=mk0 hr0_3
 have HC0_3:=mk0 hc0_3
 clear hr0_3 hc0_3
 have HB:=mk0 (Below.refl w.heap.size w)
 have H:((spec_PackOk.f k a0_0 a0_1 a0_2 l0_3).bind fun t396=>(if t396 = true then ((spec_l01List.f k a0_2 l0_3).bind fun t397=>(spec_PackList.l0 k (([]:List Int)) 0 t397 a0_0 a0_1 a0_2 l0_3)) else (some ([]:List Int)))) = some r:=h
 clear h
 replace H:=Option.bind_eq_some_iff.mp H
 obtain⟨t396,A20,H⟩:=H
 replace H:(if t396 = true then ((spec_l01List.f k a0_2 l0_3).bind fun t397=>(spec_PackList.l0 k (([]:List Int)) 0 t397 a0_0 a0_1 a0_2 l0_3)) else (some ([]:List Int))) = some r:=H
 have A2:=mk0 A20
 clear A20
 by_cases c3:t396 = true
 rotate_left
 ·replace c3:=Bool.eq_false_iff.mpr c3
  subst c3
  have H1:(some ([]:List Int)) = some r:=by rw [if_neg (show ¬ (false = true) by decide)] at H;exact H
  clear H
  have H:=H1
  clear H1
  obtain rfl:=Option.some.inj H
  go_enter Try.func72,Try.ntmps72
  go_wp2_with (first|((with_reducible refine gate_dst (N:=1) rfl ?_);refine box_event ?hg (N:=1) ?hd (cs:=#[.int .i64 a0_0,.int .i64 a0_1,.int .i64 a0_2,.slice A0_3 l0_3.length c0_3]) (t:=31) ?hr ?_;(case hd=>rfl);(case hg=>rfl);(case hr=>first|(go_simp;done)|(go_simp;rfl));intro gb395 hg w23 hbox hb;have BK395:=mk0 (hbox);have GW395:=mk0 ((by rw [hg];exact (kZ HB.out):w.heap.size ≤ gb395));have GE395:=mk0 ((by rw [hg];exact (kZ HB.out):w.heap.size ≤ gb395));replace HB:=mk0 (kS HB.out hb);clear hb hbox hg;obtain⟨hcz24_0,hcz24_1,hcz24_2,hcz24_3,hfz24_0,hfz24_1,hfz24_2,hfz24_3⟩:=cz4 BK395.out)|((with_reducible refine gate_callee (f:=69) rfl ?_);refine goesL_ (some 9) rfl rfl Try.func69 (by kernel_rfl) rfl #[.agg #[.int .i64 a0_0,.int .i64 a0_1,.int .i64 a0_2,.slice A0_3 l0_3.length c0_3]] rfl (by (try simp only [mA,mC,mN]);first|done|rfl|(simp only [List.length_drop,List.length_take];rfl)) ?_;(with_reducible refine (spec_PackOk.calls k a0_0 a0_1 a0_2 _ _ l0_3 false _ ?side1 ?side2 A2.out).mono ?_);(case side1=>exact kC (Kd.C_below HR0_3.out HB.out));(case side2=>exact HC0_3.out);rintro e w25 ⟨rfl,hb⟩;refine⟨_,rfl,?_⟩;replace BK395:=mk0 (kK BK395.out hb);replace HB:=mk0 (kS HB.out hb);(try clear hb)))
  go_ret
  exact⟨_,by first|rfl|(simp [errW_none,errW_some] <;> rfl)|(simp [*,errW_none,errW_some] <;> rfl),by first|exact Kd.R_nil _ _ _ _ _|exact Kd.N_nil _ _ _ _ _|exact Kd.V_nil _ _ _ _ _|exact Kd.Q_nil _ _ _ _ _|exact Kd.S_nil _ _ _ _ _,kB HB.out⟩

 subst c3
 have H1:((spec_l01List.f k a0_2 l0_3).bind fun t397=>(spec_PackList.l0 k (([]:List Int)) 0 t397 a0_0 a0_1 a0_2 l0_3)) = some r:=by rw [if_pos rfl] at H;exact H
 clear H
 have H:=H1
 clear H1
 replace H:=Option.bind_eq_some_iff.mp H
 obtain⟨t397,A40,H⟩:=H
 replace H:(spec_PackList.l0 k (([]:List Int)) 0 t397 a0_0 a0_1 a0_2 l0_3) = some r:=H
 have A4:=mk0 A40
 clear A40
 obtain⟨y400,hy400⟩:∃ y_:List Int,y_ = (([]:List Int)):=⟨_,rfl⟩
 replace H:(spec_PackList.l0 k y400 0 t397 a0_0 a0_1 a0_2 l0_3) = some r:=by first|(rw [hy400];with_reducible exact H)|(have H2_:=(Option.bind_some _ _).symm.trans H;rw [hy400];with_reducible exact H2_)|(have H2_:=(Option.bind_some _ _).symm.trans H;with_reducible exact H2_)|with_reducible exact H|(rw [hy400];exact H)|exact H
 have Ny400:=mk0 hy400
 clear hy400
 have H':=mk0 H
 clear H
 go_enter Try.func72,Try.ntmps72
 go_wp2_with (first|((with_reducible refine gate_dst (N:=1) rfl ?_);refine box_event ?hg (N:=1) ?hd (cs:=#[.int .i64 a0_0,.int .i64 a0_1,.int .i64 a0_2,.slice A0_3 l0_3.length c0_3]) (t:=31) ?hr ?_;(case hd=>rfl);(case hg=>rfl);(case hr=>first|(go_simp;done)|(go_simp;rfl));intro gb395 hg w5 hbox hb;have BK395:=mk0 (hbox);have GW395:=mk0 ((by rw [hg];exact (kZ HB.out):w.heap.size ≤ gb395));have GE395:=mk0 ((by rw [hg];exact (kZ HB.out):w.heap.size ≤ gb395));replace HB:=mk0 (kS HB.out hb);clear hb hbox hg;obtain⟨hcz6_0,hcz6_1,hcz6_2,hcz6_3,hfz6_0,hfz6_1,hfz6_2,hfz6_3⟩:=cz4 BK395.out)|((with_reducible refine gate_callee (f:=69) rfl ?_);refine goesL_ (some 9) rfl rfl Try.func69 (by kernel_rfl) rfl #[.agg #[.int .i64 a0_0,.int .i64 a0_1,.int .i64 a0_2,.slice A0_3 l0_3.length c0_3]] rfl (by (try simp only [mA,mC,mN]);first|done|rfl|(simp only [List.length_drop,List.length_take];rfl)) ?_;(with_reducible refine (spec_PackOk.calls k a0_0 a0_1 a0_2 _ _ l0_3 true _ ?side1 ?side2 A2.out).mono ?_);(case side1=>exact kC (Kd.C_below HR0_3.out HB.out));(case side2=>exact HC0_3.out);rintro e w7 ⟨rfl,hb⟩;refine⟨_,rfl,?_⟩;replace BK395:=mk0 (kK BK395.out hb);replace HB:=mk0 (kS HB.out hb);(try clear hb);obtain⟨hcz8_0,hcz8_1,hcz8_2,hcz8_3,hfz8_0,hfz8_1,hfz8_2,hfz8_3⟩:=cz4 BK395.out)|((with_reducible refine gate_callee (f:=73) rfl ?_);refine goesL_ (some 13) rfl rfl Try.func73 (by kernel_rfl) rfl #[.agg #[.int .i64 a0_2,.slice A0_3 l0_3.length c0_3]] rfl (by (try simp only [mA,mC,mN]);first|done|rfl|(simp only [List.length_drop,List.length_take];rfl)) ?_;(with_reducible refine (spec_l01List.calls k a0_2 _ _ l0_3 t397 _ ?side1 ?side2 A4.out).mono ?_);(case side1=>exact kC (Kd.C_below HR0_3.out HB.out));(case side2=>exact HC0_3.out);rintro e w9 ⟨v398,rfl,ho0,hb⟩;refine⟨_,rfl,?_⟩;have HO399:=mk0 (Kd.R_lower ho0 (kZ HB.out));replace BK395:=mk0 (kK BK395.out hb);replace HB:=mk0 (kS HB.out hb);(try clear hb);(try clear ho0))|((with_reducible refine gate_dst (N:=14) rfl ?_);refine Kd.R_lit (Kd.int .i64) _ 3 ?hg (N:=14) ?hd (xs:=([]:List Int)) (inner:=[]) (ok:=fun _=>True) (okp:=fun _=>True) ?hr ?hp (fun _ hk=>hk) trivial (Below.refl _ _) (Nat.le_refl _) (by simp) ?_;(case hd=>rfl);(case hg=>rfl);(case hr=>first|(go_simp;done)|(go_simp;rfl));(case hp=>exact (Reps.none _ _));intro v401 w10 ho11 hb hg_ hnew_;clear hg_ hnew_;(first|rw [← Ny400.out] at ho11|(simp only [Int.reduceToNat] at ho11;rw [← Ny400.out] at ho11));have HO402:=mk0 (Kd.R_lower (Kd.R_new' ho11 (Kd.R_lt (rR HO399.out))) (kZ HB.out));replace HO399:=mk0 (Kd.R_elder' (rR HO399.out) (Kd.R_base ho11) hb);replace BK395:=mk0 (kK BK395.out hb);replace HB:=mk0 (kS HB.out hb);clear hb ho11))
 go_loopg [4,5] k (fun kq v4 v5 w'=>∃ (x4_1:List Int) (x5_1:Int),v5 = .int .i64 x5_1 ∧ Aside0 (spec_PackList.l0 kq x4_1 x5_1 t397 a0_0 a0_1 a0_2 l0_3 = some r) ∧ Aside0 (kq ≤ k) ∧ Aside0 (Kd.R (Kd.int .i64) 3 w' w.heap.size (fun k_=>some k_ ≠ (v398:Value).ownBlock) v4 x4_1) ∧ Aside0 (Kd.R (Kd.int .i64) 3 w' w.heap.size (fun k_=>some k_ ≠ (v4:Value).ownBlock) v398 t397) ∧ Aside0 (w'.heap[gb395]? = some (.cells #[.int .i64 a0_0,.int .i64 a0_1,.int .i64 a0_2,(.slice A0_3 l0_3.length c0_3)] 31 (0,0))) ∧ Aside0 (Below w.heap.size w w'))
 case atStart=>exact⟨(y400),(0),(by first|rfl|(simp;done)|(simp [*];done)),H',⟨Nat.le_refl _⟩,⟨rR (Kd.R_mono HO402.out (fun _ hk=>hk.2))⟩,⟨rR (Kd.R_mono HO399.out (fun _ hk=>hk.2))⟩,⟨kN BK395.out⟩,⟨kB HB.out⟩⟩
 case round =>
  clear H'
  try clear p2
  try clear c3
  try clear c6
  try clear c7
  try clear hcz6_0
  try clear hcz6_1
  try clear hcz6_2
  try clear hcz6_3
  try clear hcz8_0
  try clear hcz8_1
  try clear hcz8_2
  try clear hcz8_3
  try clear hfz6_0
  try clear hfz6_1
  try clear hfz6_2
  try clear hfz6_3
  try clear hfz8_0
  try clear hfz8_1
  try clear hfz8_2
  try clear hfz8_3
  obtain⟨x4_1,x5_1,rfl,HA,HK1,HO_4,HO_13,BK395,HB⟩:=hrel
  cases gk with
  | zero=>exact absurd HA.out (by simp [spec_PackList.l0])
  | succ k1 =>
   have H:=HA.out
   clear HA
   simp only [spec_PackList.l0] at H
   by_cases c12:x5_1 < a0_1
   rotate_left
   ·rw [if_neg c12] at H
    have c12b0:decide (x5_1 < a0_1) = false:=decide_eq_false c12
    clear c12
    obtain rfl:=Option.some.inj H
    obtain⟨hcz22_0,hcz22_1,hcz22_2,hcz22_3,hfz22_0,hfz22_1,hfz22_2,hfz22_3⟩:=cz4 BK395.out
    go_wp2
    go_ret
    exact⟨_,by first|rfl|(simp [errW_none,errW_some] <;> rfl)|(simp [*,errW_none,errW_some] <;> rfl),rR (Kd.R_mono HO_4.out (fun _ hk=>trivial)),kB HB.out⟩
   rw [if_pos c12] at H
   have c12b0:decide (x5_1 < a0_1) = true:=decide_eq_true c12
   clear c12
   have H':=mk0 H
   clear H
   obtain⟨hcz13_0,hcz13_1,hcz13_2,hcz13_3,hfz13_0,hfz13_1,hfz13_2,hfz13_3⟩:=cz4 BK395.out
   go_wp2
   go_loopg [6,7] k1 (fun kq v6 v7 w'=>∃ (x6_2:Int) (x7_2:Int),v6 = .int .i64 x6_2 ∧ v7 = .int .i64 x7_2 ∧ Aside0 (spec_PackList.l1 kq x4_1 x5_1 x6_2 x7_2 t397 a0_0 a0_1 a0_2 l0_3 = some r) ∧ Aside0 (kq ≤ k1) ∧ Aside0 (Kd.R (Kd.int .i64) 3 w' w.heap.size (fun k_=>some k_ ≠ (v398:Value).ownBlock) u4 x4_1) ∧ Aside0 (Kd.R (Kd.int .i64) 3 w' w.heap.size (fun k_=>some k_ ≠ (u4:Value).ownBlock) v398 t397) ∧ Aside0 (w'.heap[gb395]? = some (.cells #[.int .i64 a0_0,.int .i64 a0_1,.int .i64 a0_2,(.slice A0_3 l0_3.length c0_3)] 31 (0,0))) ∧ Aside0 (Below w.heap.size w w'))
   case atStart=>exact⟨(0),(wrap64 (a0_0 - 1)),(by first|rfl|(simp;done)|(simp [*];done)),(by first|rfl|(simp;done)|(simp [*];done)),H',⟨Nat.le_refl _⟩,⟨rR HO_4.out⟩,⟨rR HO_13.out⟩,⟨kN BK395.out⟩,⟨kB HB.out⟩⟩
   case round =>
    clear H'
    try clear c1
    try clear p2
    try clear c3
    try clear c6
    try clear p6
    try clear c7
    try clear c12
    try clear c12b0
    try clear hcz13_0
    try clear hcz13_1
    try clear hcz13_2
    try clear hcz13_3
    try clear hcz6_0
    try clear hcz6_1
    try clear hcz6_2
    try clear hcz6_3
    try clear hcz8_0
    try clear hcz8_1
    try clear hcz8_2
    try clear hcz8_3
    try clear hfz13_0
    try clear hfz13_1
    try clear hfz13_2
    try clear hfz13_3
    try clear hfz6_0
    try clear hfz6_1
    try clear hfz6_2
    try clear hfz6_3
    try clear hfz8_0
    try clear hfz8_1
    try clear hfz8_2
    try clear hfz8_3
    try clear p2
    obtain⟨x6_2,x7_2,rfl,rfl,HA,HK2,HO_4,HO_13,BK395,HB⟩:=hrel
    cases gk with
    | zero=>exact absurd HA.out (by simp [spec_PackList.l1])
    | succ k2 =>
     have H:=HA.out
     clear HA
     simp only [spec_PackList.l1] at H
     by_cases c14:x7_2 ≥ 0
     ·rw [if_pos c14] at H
      have c14b0:decide (0 ≤ x7_2) = true:=decide_eq_true c14
      clear c14
      obtain⟨ji15,hji15⟩:∃ j_:Int,(wrap64 ((wrap64 (x5_1 * a0_0)) + x7_2)) = j_:=⟨_,rfl⟩
      replace H:(if 0 ≤ (ji15) then (if (ji15) < (t397.length:Int) then (spec_PackList.l1 k2 x4_1 x5_1 (wrap64 ((wrap64 (2 * x6_2)) + (rd t397 (ji15)))) (wrap64 (x7_2 - 1)) t397 a0_0 a0_1 a0_2 l0_3) else (none)) else (none)) = some r:=by first|(rw [hji15] at H;exact H)|(simp only [hji15] at H ⊢;exact H)
      have hji15w:(IntKind.i64.wrap ((wrap64 (x5_1 * a0_0)) + x7_2)) = ji15:=(i64_w _).trans hji15
      by_cases c16:0 ≤ (ji15)
      rotate_left
      ·rw [if_neg c16] at H
       exact absurd H (by simp)
      rw [if_pos c16] at H
      have c16b0:decide (0 ≤ (ji15)) = true:=decide_eq_true c16
      clear c16
      by_cases c17:(ji15) < (t397.length:Int)
      rotate_left
      ·rw [if_neg c17] at H
       exact absurd H (by simp)
      rw [if_pos c17] at H
      have c17b0:decide ((ji15) < (t397.length:Int)) = true:=decide_eq_true c17
      clear c17
      have H':=mk0 H
      clear H
      obtain⟨hcz18_0,hcz18_1,hcz18_2,hcz18_3,hfz18_0,hfz18_1,hfz18_2,hfz18_3⟩:=cz4 BK395.out
      obtain⟨Ao19,co19,eo19⟩:=Kd.R_slice HO_13.out
      subst eo19
      have p403:0 ≤ ((ji15):Int):=of_decide_eq_true (by first|(with_reducible assumption)|assumption)
      have q403:(ji15) < (t397.length:Int):=of_decide_eq_true (by first|(with_reducible assumption)|assumption)
      obtain⟨ad403,e403,hx403_0⟩:=Kd.at_int (Kd.R_reads' HO_13.out).2.2 (ji15) p403 q403
      cases e403
      replace p403:=eq_true p403
      replace q403:=eq_true q403
      go_wp2
      go_roundg k2
      case measure=>have:=HK1.out;have:=HK2.out;omega
      case rel=>exact⟨(wrap64 ((wrap64 (2 * x6_2)) + (rd t397 (ji15)))),(wrap64 (x7_2 - 1)),(by first|rfl|(simp;done)|(simp only [← hji15] <;> (first|rfl|simp))|(simp [*];done)),(by first|rfl|(simp;done)|(simp [*];done)),H',⟨by have:=HK1.out;have:=HK2.out;omega⟩,⟨rR HO_4.out⟩,⟨rR HO_13.out⟩,⟨kN BK395.out⟩,⟨kB HB.out⟩⟩
     rw [if_neg c14] at H
     have c14b0:decide (0 ≤ x7_2) = false:=decide_eq_false c14
     clear c14
     by_cases c20:x4_1.length < 17592186044416
     rotate_left
     ·rw [if_neg c20] at H
      exact absurd H (by simp)
     rw [if_pos c20] at H
     have LMc20:=mk0 c20
     clear c20
     obtain⟨y404,hy404⟩:∃ y_:List Int,y_ = (x4_1 ++ [x6_2]):=⟨_,rfl⟩
     replace H:(spec_PackList.l0 k2 y404 (wrap64 (x5_1 + 1)) t397 a0_0 a0_1 a0_2 l0_3) = some r:=by first|(rw [hy404];with_reducible exact H)|(have H2_:=(Option.bind_some _ _).symm.trans H;rw [hy404];with_reducible exact H2_)|(have H2_:=(Option.bind_some _ _).symm.trans H;with_reducible exact H2_)|with_reducible exact H|(rw [hy404];exact H)|exact H
     have Ny404:=mk0 hy404
     clear hy404
     have H':=mk0 H
     clear H
     go_wp2_with (first|((with_reducible refine gate_builtin (b:=.append) (xs:=#[.tmp 40,.tmp 42]) rfl ?_);at_builtin;refine Kd.R_append (Kd.int .i64) (w0:=w) w.heap.size rfl (.tmp 40) (.tmp 42) 24 3 (.int .i64 0) 8 rfl Try.underlying24 info3 rfl (by decide) (by omega) u4 x4_1 x6_2 [.int .i64 x6_2] (fun k_=>some k_ ≠ (v398:Value).ownBlock) (fun _=>False) rfl rfl ?aP (fun _ hk=>hk.elim) ?aF ?aO ?aB ?aS ?aL ?_;(case aP=>exact rfl);(case aB=>exact (kB HB.out));(case aF=>exact (fun k_ hk=>Kd.fresh' (Kd.R_lt (rR HO_13.out)) k_ hk));(case aO=>exact (rR HO_4.out));(case aS=>exact (kZ HB.out));(case aL=>have:=LMc20.out;omega);intro v405 w21 ho hb hg hat;rw [← Ny404.out] at ho;replace HO_13:=mk0 (Kd.R_after (ok:=(fun _=>True)) (rR (Kd.R_mono HO_13.out (fun _ hk=>⟨trivial,hk⟩))) hg hat);replace BK395:=mk0 (blk_grown (kN BK395.out) hg (Kd.R_ne HO_4.out BK395.out (by decide)));replace HB:=mk0 (hb);have HO406:=mk0 (ho);clear HO_4 ho hb hg hat))
     go_roundg k2
     case measure=>have:=HK1.out;have:=HK2.out;omega
     case rel=>exact⟨(y404),(wrap64 (x5_1 + 1)),(by first|rfl|(simp;done)|(simp [*];done)),H',⟨by have:=HK1.out;have:=HK2.out;omega⟩,⟨rR HO406.out⟩,⟨rR (Kd.R_mono HO_13.out (fun _ hk=>hk.2))⟩,⟨kN BK395.out⟩,⟨kB HB.out⟩⟩
end Go.Proofs.Ytmohfjfgpeapfaa.QFnExactSparseRank
