-- A walk, made by walk.py, a program of this session's.
import Derived.Test.YtjfoaiabbmkdpaaQFnExactFmOfx0
namespace Go.Proofs.Ytjfoaiabbmkdpaa.QFnExactFmOf
open Go.RowKit Go.Proofs.YtjfoaiabbmkdpaaW.PrintWords Go.Proofs.YtjfoaiabbmkdpaaW.PrintLast Go.Proofs.YtjfoaiabbmkdpaaW.PrintMore
attribute [local go_sem] max2_int min2_int max_two min_two max_three min_three max_four min_four   -- for this text's walks alone
set_option linter.unusedVariables false
set_option linter.unusedSimpArgs false
/-! ### impl_counts: function 45 -/
mutual
def impl_counts.l0 : Nat → List Int → List Int → Int → Int → Option (List Int)
 | 0, _, _, _, _ => none
 | k + 1, x7, x8, x9, x10 => if x10 < x9 then (if 0 ≤ x10 then (if x10 < (x8.length : Int) then (if 0 ≤ (wrap64 ((rd x8 x10) + 1)) then (if (wrap64 ((rd x8 x10) + 1)) < (x7.length : Int) then (impl_counts.l0 k (x7.set ((wrap64 ((rd x8 x10) + 1)) : Int).toNat (wrap64 ((rd x7 (wrap64 ((rd x8 x10) + 1))) + 1))) x8 x9 (wrap64 (x10 + 1))) else (none)) else (none)) else (none)) else (none)) else (impl_counts.l1 k 1 x7)
def impl_counts.l1 : Nat → Int → List Int → Option (List Int)
 | 0, _, _ => none
 | k + 1, x6, x7 => if x6 < 258 then (if 0 ≤ x6 then (if x6 < (x7.length : Int) then (if 0 ≤ (wrap64 (x6 - 1)) then (if (wrap64 (x6 - 1)) < (x7.length : Int) then (impl_counts.l1 k (wrap64 (x6 + 1)) (x7.set (x6 : Int).toNat (wrap64 ((rd x7 x6) + (rd x7 (wrap64 (x6 - 1))))))) else (none)) else (none)) else (none)) else (none)) else (some x7)
end
def impl_counts.f (k : Nat) (l0 : List Int) : Option (List Int) := if 258 ≤ 35184372088832 then (impl_counts.l0 k (List.replicate 258 0) l0 (l0.length : Int) 0) else (none)
def impl_counts.T10 : Bool × List (List Nat × List Nat) := (true, [([], []), ([], []), ([0, 1], [0, 1]), ([2], [2]), ([], []), ([], []), ([5], [5]), ([4, 6], [4, 6]), ([7], [7]), ([3, 8], [3, 8]), ([0, 1, 0, 1, 2, 3, 4, 5, 6, 7, 8, 9], [0, 1]), ([10, 9, 0, 1, 2, 3, 4, 5, 6, 7, 8, 9], [9, 10])])
def impl_counts.B10 : List Nat := [0, 0, 3, 7, 0, 0, 32, 112, 240, 511, 1023, 2047]
theorem impl_counts.tab10 : rtab .any (opsOf Try.f45 10) = impl_counts.T10 := by kernel_rfl
theorem impl_counts.bits10 : waitsOk impl_counts.T10.2 impl_counts.B10 = true := by kernel_rfl
set_option maxHeartbeats 8000000 in
set_option maxRecDepth 100000 in
theorem impl_counts.calls (k : Nat) (A0 : Option Addr) (c0 : Nat) (l0 : List Int) (r : List Int) (w : World) (hr0 : Kd.C (Kd.int .i64) w A0 l0.length l0) (hc0 : l0.length ≤ c0) (h : impl_counts.f k l0 = some r) :
  Calls Try.prog 45 #[.slice A0 l0.length c0] w fun e w' => ∃ v0_ : Value, e = .returned (v0_) ∧ Kd.R (Kd.int .i64) 3 w' w.heap.size (fun _ => True) v0_ r ∧ Below w.heap.size w w' := by
 have HR0:=mk0 hr0
 have HC0:=mk0 hc0
 clear hr0 hc0
 have HB:=mk0 (Below.refl w.heap.size w)
 have H:(if 258 ≤ 35184372088832 then (impl_counts.l0 k (List.replicate 258 0) l0 (l0.length:Int) 0) else (none)) = some r:=h
 clear h
 by_cases c2:258 ≤ 35184372088832
 rotate_left
 ·rw [if_neg c2] at H
  exact nn H
 rw [if_pos c2] at H
 have c2b0:=eq_true c2
 have c2b1:decide (258 ≤ 35184372088832) = true:=decide_eq_true c2
 clear c2
 obtain⟨y334,hy334⟩:∃ y_:List Int,y_ = (List.replicate 258 0):=⟨_,rfl⟩
 first|(with_reducible replace H:=yB hy334 H)|rw [← hy334] at H|skip
 have Ny334:=mk0 hy334
 clear hy334
 have H':=mk0 H
 clear H
 go_enter Try.func45,Try.ntmps45
 go_wp2_with (first|((with_reducible refine gate_dst (N:=7) rfl ?_);refine Kd.R_make (Kd.int .i64) _ 3 rfl (N:=7) rfl 23 _ _ rfl 258 rfl rfl Try.underlying23 (.int .i64 0) 8 info3 rfl (by decide) (by omega) 0 (ok:=fun _=>True) (okp:=fun _=>True) rfl (fun _ hk=>hk) trivial (by omega) (by omega) (Below.refl _ _) (Nat.le_refl _) ?_;intro v335 w3 ho4 hb hg_ hnew_;clear hg_ hnew_;(first|rw [← Ny334.out] at ho4|(simp only [Int.reduceToNat] at ho4;rw [← Ny334.out] at ho4));have HO336:=mk0 (Kd.R_lower ho4 (kZ HB.out));replace HB:=mk0 (kS HB.out hb);clear hb ho4))
 go_loopg [10] k (fun kq v10 w'=>∃ (x7_1:List Int) (x10_1:Int),v10 = .int .i64 x10_1 ∧ Aside0 (impl_counts.l0 kq x7_1 l0 (l0.length:Int) x10_1 = some r) ∧ Aside0 (kq ≤ k) ∧ Aside0 (Kd.R (Kd.int .i64) 3 w' w.heap.size (fun _=>True) v335 x7_1) ∧ Aside0 (Below w.heap.size w w'))
 case atStart=>exact⟨(y334),(0),eS,H',⟨Nat.le_refl _⟩,⟨rR HO336.out⟩,⟨kB HB.out⟩⟩
 case round =>
  clear H'
  try clear c2
  try clear c2b0
  try clear c2b1
  try clear p2
  try clear c4
  obtain⟨x7_1,x10_1,rfl,HA,HK1,HO_7,HB⟩:=hrel
  cases gk with
  | zero=>exact absurd HA.out (by simp [impl_counts.l0])
  | succ k1 =>
   have H:=HA.out
   clear HA
   simp only [impl_counts.l0] at H
   by_cases c5:x10_1 < (l0.length:Int)
   ·rw [if_pos c5] at H
    have c5b0:decide (x10_1 < (l0.length:Int)) = true:=decide_eq_true c5
    clear c5
    by_cases c6:0 ≤ x10_1
    rotate_left
    ·rw [if_neg c6] at H
     exact nn H
    rw [if_pos c6] at H
    have c6b0:decide (0 ≤ x10_1) = true:=decide_eq_true c6
    clear c6
    by_cases c7:x10_1 < (l0.length:Int)
    rotate_left
    ·rw [if_neg c7] at H
     exact nn H
    rw [if_pos c7] at H
    have c7b0:decide (x10_1 < (l0.length:Int)) = true:=decide_eq_true c7
    clear c7
    obtain⟨ji8,hji8⟩:∃ j_:Int,(wrap64 ((rd l0 x10_1) + 1)) = j_:=⟨_,rfl⟩
    first|rw [hji8] at H|simp only [hji8] at H
    have hji8w:(IntKind.i64.wrap ((rd l0 x10_1) + 1)) = ji8:=(i64_w _).trans hji8
    by_cases c9:0 ≤ (ji8)
    rotate_left
    ·rw [if_neg c9] at H
     exact nn H
    rw [if_pos c9] at H
    have c9b0:decide (0 ≤ (ji8)) = true:=decide_eq_true c9
    clear c9
    by_cases c10:(ji8) < (x7_1.length:Int)
    rotate_left
    ·rw [if_neg c10] at H
     exact nn H
    rw [if_pos c10] at H
    have c10b0:decide ((ji8) < (x7_1.length:Int)) = true:=decide_eq_true c10
    clear c10
    obtain⟨y339,hy339⟩:∃ y_:List Int,y_ = (x7_1.set ((ji8):Int).toNat (wrap64 ((rd x7_1 (ji8)) + 1))):=⟨_,rfl⟩
    first|(with_reducible replace H:=yB hy339 H)|rw [← hy339] at H|skip
    have Ny339:=mk0 hy339
    clear hy339
    have H':=mk0 H
    clear H
    have p337:0 ≤ (x10_1:Int):=oD
    have q337:x10_1 < (l0.length:Int):=oD
    obtain⟨ad337,e337,hx337_0⟩:=Kd.at_int HR0.out x10_1 p337 q337
    cases e337
    replace hx337_0:=(HB.out.cell (World.block_lt_of_cell? w _ hx337_0)).trans hx337_0
    replace p337:=eq_true p337
    replace q337:=eq_true q337
    obtain⟨Ao12,co12,eo12⟩:=Kd.R_slice HO_7.out
    subst eo12
    have p338:0 ≤ ((ji8):Int):=oD
    have q338:(ji8) < (x7_1.length:Int):=oD
    obtain⟨ad338,e338,hx338_0⟩:=Kd.at_int (Kd.R_reads' HO_7.out).2.2 (ji8) p338 q338
    cases e338
    replace p338:=eq_true p338
    replace q338:=eq_true q338
    have p11:0 ≤ ((ji8):Int):=oD
    have q11:((ji8):Int) < ((x7_1.length:Int):Int):=oD
    obtain⟨go11,co11,eo11,gb11,gl11,cl11,HG11⟩:=Kd.R_form HO_7.out (by omega)
    (first|cases eo11|(injection eo11 with ea_ en_ ec_;(first|subst ea_|(injection ea_ with ea_;subst ea_));subst ec_;clear en_))
    have GB11:=mk0 gb11
    have GG11:=mk0 HG11
    clear gb11 gl11 HG11
    (first|simp only [add_plain] at hx338_0|skip)
    obtain⟨hx11_0,hf11_0⟩:=Kd.R_celln 0 HO_7.out ((ji8):Int) p11 q11
    replace p11:=eq_true p11
    replace q11:=eq_true q11
    have HP13:=Kd.R_putg HO_7.out ((ji8):Int) (wrap64 ((rd x7_1 (ji8)) + 1))
    go_wp2_with (first|((with_reducible refine gate_store (t:=3) (p:=20) rfl ?_);refine store_event (t:=3) (p:=20) (v:=?vo_w14) (w1:=(wr.setCell ⟨go11,((ji8):Int).toNat,none⟩ (.int .i64 (wrap64 ((rd x7_1 (ji8)) + 1))))) ?hg ?ho ?hn ?hr ?_;(case ho=>rfl);(case hg=>rfl);(case hn=>rfl);(case hr=>first|(go_simp;done)|(go_simp;rfl));intro w14 hw;have hg:wr.grownBy w14 (some go11):=(by rw [hw];exact HP13.2);have hp_:Kd.R (Kd.int .i64) 3 w14 w.heap.size (fun _=>True) (.slice (some ⟨go11,0,none⟩) x7_1.length co12) y339:=(by rw [hw,Ny339.out];exact HP13.1);clear HP13;replace HO_7:=mk0 (hp_);replace HB:=mk0 ((by rw [hw];exact sZ (HB.out) GB11.out:Below w.heap.size w w14));clear hg hw hp_))
    go_roundg k1
    case measure=>have:=HK1.out;omega
    case rel=>exact⟨(y339),(wrap64 (x10_1 + 1)),eS,H',⟨by have:=HK1.out;omega⟩,⟨rR HO_7.out⟩,⟨kB HB.out⟩⟩
   rw [if_neg c5] at H
   have c5b0:decide (x10_1 < (l0.length:Int)) = false:=decide_eq_false c5
   clear c5
   have H':=mk0 H
   clear H
   go_wp2
   go_loopg [6] k1 (fun kq v6 w'=>∃ (x6_2:Int) (x7_2:List Int),v6 = .int .i64 x6_2 ∧ Aside0 (impl_counts.l1 kq x6_2 x7_2 = some r) ∧ Aside0 (kq ≤ k1) ∧ Aside0 (Kd.R (Kd.int .i64) 3 w' w.heap.size (fun _=>True) v335 x7_2) ∧ Aside0 (Below w.heap.size w w'))
   case atStart=>exact⟨(1),(x7_1),eS,H',⟨Nat.le_refl _⟩,⟨rR HO_7.out⟩,⟨kB HB.out⟩⟩
   case round =>
    clear H'
    try clear c1
    try clear p1
    try clear q1
    try clear hx1
    try clear hf1
    try clear c2
    try clear c2b0
    try clear c2b1
    try clear p2
    try clear p3
    try clear q3
    try clear hx3
    try clear c4
    try clear c5
    try clear c5b0
    try clear c6
    try clear c6b0
    try clear p6
    try clear c7
    try clear c7b0
    try clear c9
    try clear c9b0
    try clear c10
    try clear c10b0
    try clear p11
    try clear q11
    try clear hx11
    try clear hf11
    try clear hx11_0
    try clear hx337_0
    try clear hx338_0
    try clear p11
    try clear p2
    try clear p337
    try clear p338
    try clear q11
    try clear q337
    try clear q338
    obtain⟨x6_2,x7_2,rfl,HA,HK2,HO_7,HB⟩:=hrel
    cases gk with
    | zero=>exact absurd HA.out (by simp [impl_counts.l1])
    | succ k2 =>
     have H:=HA.out
     clear HA
     simp only [impl_counts.l1] at H
     by_cases c15:x6_2 < 258
     rotate_left
     ·rw [if_neg c15] at H
      have c15b0:decide (x6_2 < 258) = false:=decide_eq_false c15
      clear c15
      obtain rfl:=Option.some.inj H
      go_wp2
      go_ret
      exact⟨_,eR,rR HO_7.out,kB HB.out⟩
     rw [if_pos c15] at H
     have c15b0:decide (x6_2 < 258) = true:=decide_eq_true c15
     clear c15
     by_cases c16:0 ≤ x6_2
     rotate_left
     ·rw [if_neg c16] at H
      exact nn H
     rw [if_pos c16] at H
     have c16b0:decide (0 ≤ x6_2) = true:=decide_eq_true c16
     clear c16
     by_cases c17:x6_2 < (x7_2.length:Int)
     rotate_left
     ·rw [if_neg c17] at H
      exact nn H
     rw [if_pos c17] at H
     have c17b0:decide (x6_2 < (x7_2.length:Int)) = true:=decide_eq_true c17
     clear c17
     obtain⟨ji18,hji18⟩:∃ j_:Int,(wrap64 (x6_2 - 1)) = j_:=⟨_,rfl⟩
     first|rw [hji18] at H|simp only [hji18] at H
     have hji18w:(IntKind.i64.wrap (x6_2 - 1)) = ji18:=(i64_w _).trans hji18
     by_cases c19:0 ≤ (ji18)
     rotate_left
     ·rw [if_neg c19] at H
      exact nn H
     rw [if_pos c19] at H
     have c19b0:decide (0 ≤ (ji18)) = true:=decide_eq_true c19
     clear c19
     by_cases c20:(ji18) < (x7_2.length:Int)
     rotate_left
     ·rw [if_neg c20] at H
      exact nn H
     rw [if_pos c20] at H
     have c20b0:decide ((ji18) < (x7_2.length:Int)) = true:=decide_eq_true c20
     clear c20
     obtain⟨y342,hy342⟩:∃ y_:List Int,y_ = (x7_2.set (x6_2:Int).toNat (wrap64 ((rd x7_2 x6_2) + (rd x7_2 (ji18))))):=⟨_,rfl⟩
     first|(with_reducible replace H:=yB hy342 H)|rw [← hy342] at H|skip
     have Ny342:=mk0 hy342
     clear hy342
     have H':=mk0 H
     clear H
     try go_wp2
     replace HO_7:=mk0 (dR HO_7.out)
     replace HB:=mk0 (dZ HB.out)
     obtain⟨Ao23,co23,eo23⟩:=Kd.R_slice HO_7.out
     (first|subst eo23|(injection eo23 with f1_ f2_ f3_;have f4_:=f1_.symm;have f5_:=f3_.symm;clear f1_ f2_ f3_;subst f4_;subst f5_))
     have p340:0 ≤ (x6_2:Int):=oD
     have q340:x6_2 < (x7_2.length:Int):=oD
     obtain⟨ad340,e340,hx340_0⟩:=Kd.at_int (Kd.R_reads' HO_7.out).2.2 x6_2 p340 q340
     cases e340
     replace p340:=eq_true p340
     replace q340:=eq_true q340
     have p341:0 ≤ ((ji18):Int):=oD
     have q341:(ji18) < (x7_2.length:Int):=oD
     obtain⟨ad341,e341,hx341_0⟩:=Kd.at_int (Kd.R_reads' HO_7.out).2.2 (ji18) p341 q341
     obtain rfl:ad340 = ad341:=(by injection e341)
     replace p341:=eq_true p341
     replace q341:=eq_true q341
     have p21:0 ≤ (x6_2:Int):=oD
     have q21:(x6_2:Int) < ((x7_2.length:Int):Int):=oD
     obtain⟨go21,co21,eo21,gb21,gl21,cl21,HG21⟩:=Kd.R_form HO_7.out (by omega)
     (first|cases eo21|(injection eo21 with ea_ en_ ec_;(first|subst ea_|(injection ea_ with ea_;subst ea_));subst ec_;clear en_))
     have GB21:=mk0 gb21
     have GG21:=mk0 HG21
     clear gb21 gl21 HG21
     (first|simp only [add_plain] at hx340_0|skip)
     (first|simp only [add_plain] at hx341_0|skip)
     obtain⟨hx21_0,hf21_0⟩:=Kd.R_celln 0 HO_7.out (x6_2:Int) p21 q21
     replace p21:=eq_true p21
     replace q21:=eq_true q21
     have HP24:=Kd.R_putn HO_7.out (x6_2:Int) (wrap64 ((rd x7_2 x6_2) + (rd x7_2 (ji18))))
     rw [← Ny342.out] at HP24
     have HQ24:=mk0 HP24
     clear HP24
     refine start_ (n:=12) (S:=fun w'=>w'.cell? ⟨go21,(x6_2).toNat,none⟩ = some (.int .i64 (rd x7_2 x6_2)) ∧ w'.cell? ⟨go21,((ji18)).toNat,none⟩ = some (.int .i64 (rd x7_2 (ji18)))) (ds:=[11]) (bm 12 0) (by kernel_rfl) rfl (by kernel_rfl) ⟨hx340_0,hx341_0⟩ (fun hHeld=>?_);refine with_tabW impl_counts.tab10 impl_counts.bits10 (fun HT_ HW_=>?_)
     generalize wr.drew = w22 at HO_7 HB GG21 HQ24 hf21_0 hx21_0 hx340_0 hx341_0 hHeld ⊢
     refine pU 0 (some 26) (bm 12 1) HT_ ?_
     refine pU 1 (some 27) (bm 12 3) HT_ ?_
     refine pU 2 (some 28) (bm 12 7) HT_ ?_
     refine pU 4 (some 30) (bm 12 23) HT_ ?_
     refine pU 5 (some 31) (bm 12 55) HT_ ?_
     refine pU 6 (some 32) (bm 12 119) HT_ ?_
     refine pU 7 (some 33) (bm 12 247) HT_ ?_
     refine pT 3 (some 29) (bm 12 255) HT_ HW_ hHeld ?_
     refine pT 8 (some 34) (bm 12 511) HT_ HW_ hHeld ?_
     refine pU 9 (some 35) (bm 12 1023) HT_ ?_
     refine pU 10 (some 36) (bm 12 2047) HT_ ?_
     refine pL 11 none (bm 12 4095) HT_ (fun K hK=>?_)
     refine skip_ (w1:=?_) (by rfl) rfl ?_ ?_
     rotate_left
     ·go_simp
      rfl
     refine hK.out _ _ ?_
     clear hK K
     refine pD HT_ ?_
     try go_wp2
     go_roundg k2
     case measure=>have:=HK1.out;have:=HK2.out;omega
     case rel=>exact⟨(wrap64 (x6_2 + 1)),(y342),eS,H',⟨by have:=HK1.out;have:=HK2.out;omega⟩,⟨rR HQ24.out⟩,⟨kB HB.out⟩⟩
/-! ### impl_bitsOf: function 48 -/
def impl_bitsOf.l0 : Nat → List Int → Int → Int → Int → List Int → Option (Int × List Int)
 | 0, _, _, _, _, _ => none
 | k + 1, x15, x16, x17, x348000, x348001 => if x17 < x16 then (if 0 ≤ x17 then (if x17 < (x15.length : Int) then (if 0 ≤ (wrap64 (Int.tdiv x17 64)) then (if (wrap64 (Int.tdiv x17 64)) < (x348001.length : Int) then (if 0 ≤ (Int.tmod x17 64) then (impl_bitsOf.l0 k x15 x16 (wrap64 (x17 + 1)) x348000 (x348001.set ((wrap64 (Int.tdiv x17 64)) : Int).toNat (Go.bits .or .u64 (rd x348001 (wrap64 (Int.tdiv x17 64))) (shl .u64 (IntKind.u64.wrap (rd x15 x17)) (Int.tmod x17 64))))) else (none)) else (none)) else (none)) else (none)) else (none)) else (some (x348000, x348001))
def impl_bitsOf.f (k : Nat) (l0 : List Int) : Option (Int × List Int) := if 0 ≤ (wrap64 (Int.tdiv (wrap64 ((wrap64 ((l0.length : Int) + 64)) - 1)) 64)) then (if (wrap64 (Int.tdiv (wrap64 ((wrap64 ((l0.length : Int) + 64)) - 1)) 64) : Int).toNat ≤ 35184372088832 then (impl_bitsOf.l0 k l0 (l0.length : Int) 0 (l0.length : Int) (List.replicate (wrap64 (Int.tdiv (wrap64 ((wrap64 ((l0.length : Int) + 64)) - 1)) 64) : Int).toNat 0)) else (none)) else (none)
def impl_bitsOf.T5 : Bool × List (List Nat × List Nat) := (true, [([], []), ([0], [0]), ([], []), ([2], [2]), ([1, 3], [1, 3]), ([4], [4]), ([], []), ([6], [6]), ([], []), ([8], [8]), ([7, 9], [7, 9]), ([5, 10], [5, 10]), ([1, 3, 0, 1, 2, 3, 4, 5, 6, 7, 8, 9, 10, 11], [1, 3]), ([12, 11, 0, 1, 2, 3, 4, 5, 6, 7, 8, 9, 10, 11], [11, 12])])
def impl_bitsOf.B5 : List Nat := [0, 1, 0, 4, 15, 31, 0, 64, 0, 256, 960, 2047, 4095, 8191]
theorem impl_bitsOf.tab5 : rtab .any (opsOf Try.f48 5) = impl_bitsOf.T5 := by kernel_rfl
theorem impl_bitsOf.bits5 : waitsOk impl_bitsOf.T5.2 impl_bitsOf.B5 = true := by kernel_rfl
set_option maxHeartbeats 8000000 in
set_option maxRecDepth 100000 in
theorem impl_bitsOf.calls (k : Nat) (A0 : Option Addr) (c0 : Nat) (l0 : List Int) (r1 : Int) (r2 : List Int) (w : World) (hr0 : Kd.C (Kd.int .i64) w A0 l0.length l0) (hc0 : l0.length ≤ c0) (h : impl_bitsOf.f k l0 = some (r1, r2)) :
  Calls Try.prog 48 #[.slice A0 l0.length c0] w fun e w' => ∃ v1_ : Value, e = .returned (.agg #[.int .i64 r1, v1_]) ∧ Kd.R (Kd.int .u64) 67 w' w.heap.size (fun _ => True) v1_ r2 ∧ Below w.heap.size w w' := by
 have hu29:=Try.underlying29
 have HR0:=mk0 hr0
 have HC0:=mk0 hc0
 clear hr0 hc0
 have HB:=mk0 (Below.refl w.heap.size w)
 have H:(if 0 ≤ (wrap64 (Int.tdiv (wrap64 ((wrap64 ((l0.length:Int) + 64)) - 1)) 64)) then (if (wrap64 (Int.tdiv (wrap64 ((wrap64 ((l0.length:Int) + 64)) - 1)) 64):Int).toNat ≤ 35184372088832 then (impl_bitsOf.l0 k l0 (l0.length:Int) 0 (l0.length:Int) (List.replicate (wrap64 (Int.tdiv (wrap64 ((wrap64 ((l0.length:Int) + 64)) - 1)) 64):Int).toNat 0)) else (none)) else (none)) = some (r1,r2):=h
 clear h
 obtain⟨ji2,hji2⟩:∃ j_:Int,(wrap64 (Int.tdiv (wrap64 ((wrap64 ((l0.length:Int) + 64)) - 1)) 64)) = j_:=⟨_,rfl⟩
 first|rw [hji2] at H|simp only [hji2] at H
 have hji2w:(IntKind.i64.wrap (Int.tdiv (wrap64 ((wrap64 ((l0.length:Int) + 64)) - 1)) 64)) = ji2:=(i64_w _).trans hji2
 by_cases c3:0 ≤ (ji2)
 rotate_left
 ·rw [if_neg c3] at H
  exact nn H
 rw [if_pos c3] at H
 have c3b0:=eq_true c3
 have c3b1:decide (0 ≤ (ji2)) = true:=decide_eq_true c3
 clear c3
 by_cases c4:(ji2:Int).toNat ≤ 35184372088832
 rotate_left
 ·rw [if_neg c4] at H
  exact nn H
 rw [if_pos c4] at H
 have c4b0:=eq_true c4
 have c4b1:decide ((ji2:Int).toNat ≤ 35184372088832) = true:=decide_eq_true c4
 clear c4
 obtain⟨y344,hy344⟩:∃ y_:List Int,y_ = (List.replicate (ji2:Int).toNat 0):=⟨_,rfl⟩
 first|(with_reducible replace H:=yB hy344 H)|rw [← hy344] at H|skip
 have Ny344:=mk0 hy344
 clear hy344
 have H':=mk0 H
 clear H
 go_enter Try.func48,Try.ntmps48
 go_wp2_with (first|((with_reducible refine gate_dst (N:=2) rfl ?_);refine box_event ?hg (N:=2) ?hd (cs:=#[.int .i64 0,.slice none 0 0]) (t:=29) ?hr ?_;(case hd=>rfl);(case hg=>rfl);(case hr=>first|(go_simp;done)|(go_simp;rfl));intro gb343 hg w5 hbox hb;have BK343:=mk0 (hbox);have GW343:=mk0 ((by rw [hg];exact (kZ HB.out):w.heap.size ≤ gb343));have GE343:=mk0 ((by rw [hg];exact (kZ HB.out):w.heap.size ≤ gb343));replace HB:=mk0 (kS HB.out hb);clear hb hbox hg)|((with_reducible refine gate_dst (N:=13) rfl ?_);refine Kd.R_make (Kd.int .u64) _ 67 rfl (N:=13) rfl 27 _ _ rfl ji2 rfl rfl Try.underlying27 (.int .u64 0) 8 info67 rfl (by decide) (by omega) 0 (ok:=fun _=>True) (okp:=fun _=>True) rfl (fun _ hk=>hk) trivial (oD) (Nat.le_trans (Nat.mul_le_mul_right _ (oD:ji2.toNat ≤ 35184372088832)) (by omega)) (Below.refl _ _) (Nat.le_refl _) ?_;intro v345 w6 ho7 hb hg_ hnew_;clear hg_ hnew_;(first|rw [← Ny344.out] at ho7|(simp only [Int.reduceToNat] at ho7;rw [← Ny344.out] at ho7));have HO346:=mk0 (Kd.R_lower ho7 (kZ HB.out));replace BK343:=mk0 (kK BK343.out hb);replace HB:=mk0 (kS HB.out hb);clear hb ho7;obtain⟨Ao8,co8,eo8⟩:=Kd.R_slice HO346.out;subst eo8)|((with_reducible refine gate_dst (N:=3) rfl ?_);refine box_event ?hg (N:=3) ?hd (cs:=#[.int .i64 0,.slice none 0 0]) (t:=29) ?hr ?_;(case hd=>rfl);(case hg=>rfl);(case hr=>first|(go_simp;done)|(go_simp;rfl));intro gb347 hg w9 hbox hb;replace HO346:=mk0 (bR HO346.out hb);have BK347:=mk0 (hbox);have GW347:=mk0 ((by rw [hg];exact (kZ HB.out):w.heap.size ≤ gb347));have GE347:=mk0 ((by rw [hg];exact (kZ HB.out):w.heap.size ≤ gb347));replace HB:=mk0 (kS HB.out hb);have NB343_347:=mk0 ((by rw [hg];exact Nat.ne_of_lt (kL BK343.out):gb343 ≠ gb347));have NB347_343:=mk0 ((by rw [hg];exact Nat.ne_of_gt (kL BK343.out):gb347 ≠ gb343));replace BK343:=mk0 (kK BK343.out hb);clear hb hbox hg;have hnb10:=NB347_343.out;have hnc10:=NB343_347.out;obtain⟨hcz11_0,hcz11_1,hfz11_0,hfz11_1⟩:=cz2 BK347.out))
 go_loopg [17] k (fun kq v17 w'=>∃ (x17_1:Int) (x348001_1:List Int) (u348001:Value),v17 = .int .i64 x17_1 ∧ Aside0 (impl_bitsOf.l0 kq l0 (l0.length:Int) x17_1 (l0.length:Int) x348001_1 = some (r1,r2)) ∧ Aside0 (kq ≤ k) ∧ Aside0 (Kd.R (Kd.int .u64) 67 w' w.heap.size (fun _=>True) u348001 x348001_1) ∧ Aside0 (w'.heap[gb343]? = some (.cells #[.int .i64 0,(.slice none 0 0)] 29 (0,0))) ∧ Aside0 (w'.heap[gb347]? = some (.cells #[.int .i64 (l0.length:Int),u348001] 29 (0,0))) ∧ Aside0 (Below w.heap.size w w'))
 case atStart=>exact⟨(0),(y344),(.slice Ao8 y344.length co8),eS,H',⟨Nat.le_refl _⟩,⟨by (with_reducible repeat (first|apply aR|apply nR|apply dR));exact Kd.R_mono (Kd.R_far (p:=⟨gb347,1,none⟩) (Kd.R_far (p:=⟨gb347,0,none⟩) (Kd.R_types HO346.out BK347.out (by decide)) (fun _ hk=>hk.2) (.int .i64 (l0.length:Int))) (fun _ hk=>hk.2) (.slice Ao8 y344.length co8)) (fun _ hk=>trivial)⟩,⟨by (with_reducible repeat (first|apply nB|apply dB|apply aB));refine blk_far ?_ NB343_347.out _;(with_reducible repeat (first|apply nB|apply dB|apply aB));refine blk_far ?_ NB343_347.out _;(with_reducible repeat (first|apply nB|apply dB|apply aB));exact BK343.out⟩,⟨by (with_reducible repeat (first|apply nB|apply dB|apply aB));refine blk_put (cs:=#[.int .i64 (l0.length:Int),.slice none 0 0]) ?_ 1 _ rfl;(with_reducible repeat (first|apply nB|apply dB|apply aB));refine blk_put (cs:=#[.int .i64 0,.slice none 0 0]) ?_ 0 _ rfl;(with_reducible repeat (first|apply nB|apply dB|apply aB));exact BK347.out⟩,⟨kB HB.out⟩⟩
 case round =>
  clear H'
  try clear c1
  try clear p2
  try clear c3
  try clear c3b0
  try clear c3b1
  try clear c4
  try clear c4b0
  try clear c4b1
  try clear p6
  try clear c10
  try clear hcz11_0
  try clear hcz11_1
  try clear hfz11_0
  try clear hfz11_1
  obtain⟨x17_1,x348001_1,u348001,rfl,HA,HK1,HO_348001,BK343,BK347,HB⟩:=hrel
  cases gk with
  | zero=>exact absurd HA.out (by simp [impl_bitsOf.l0])
  | succ k1 =>
   have H:=HA.out
   clear HA
   simp only [impl_bitsOf.l0] at H
   by_cases c12:x17_1 < (l0.length:Int)
   rotate_left
   ·rw [if_neg c12] at H
    have c12b0:decide (x17_1 < (l0.length:Int)) = false:=decide_eq_false c12
    clear c12
    simp only [Option.some.injEq,Prod.mk.injEq] at H
    obtain⟨rfl,rfl⟩:=H
    have hnb25:=NB347_343.out
    have hnc25:=NB343_347.out
    obtain⟨hcz26_0,hcz26_1,hfz26_0,hfz26_1⟩:=cz2 BK347.out
    obtain⟨hcz27_0,hcz27_1,hfz27_0,hfz27_1⟩:=cz2 BK343.out
    obtain⟨Ao28,co28,eo28⟩:=Kd.R_slice HO_348001.out
    subst eo28
    go_wp2
    refine bodyPost_ret (results_cell_row rfl _ _ gb343 29 #[.int .i64 (l0.length:Int),.slice Ao28 x348001_1.length co28] (0,0) _ rfl (by (with_reducible repeat (first|apply nB|apply dB|apply aB));refine blk_put (cs:=#[.int .i64 (l0.length:Int),.slice none 0 0]) ?_ 1 _ rfl;(with_reducible repeat (first|apply nB|apply dB|apply aB));refine blk_put (cs:=#[.int .i64 0,.slice none 0 0]) ?_ 0 _ rfl;(with_reducible repeat (first|apply nB|apply dB|apply aB));exact BK343.out) Try.underlying29 rfl (by kernel_rfl)) rfl ?_
    exact⟨_,by first|rfl|(simp [errW_none,errW_some] <;> rfl)|(simp only [← hji2];first|rfl|(simp [errW_none,errW_some] <;> rfl))|(simp [*,errW_none,errW_some] <;> rfl),by (with_reducible repeat (first|apply aR|apply nR|apply dR));exact Kd.R_mono (Kd.R_far (p:=⟨gb343,1,none⟩) (Kd.R_far (p:=⟨gb343,0,none⟩) (Kd.R_types HO_348001.out BK343.out (by decide)) (fun _ hk=>hk.2) (.int .i64 (l0.length:Int))) (fun _ hk=>hk.2) (.slice Ao28 x348001_1.length co28)) (fun _ hk=>trivial),kB HB.out⟩
   rw [if_pos c12] at H
   have c12b0:decide (x17_1 < (l0.length:Int)) = true:=decide_eq_true c12
   clear c12
   by_cases c13:0 ≤ x17_1
   rotate_left
   ·rw [if_neg c13] at H
    exact nn H
   rw [if_pos c13] at H
   have c13b0:decide (0 ≤ x17_1) = true:=decide_eq_true c13
   clear c13
   by_cases c14:x17_1 < (l0.length:Int)
   rotate_left
   ·rw [if_neg c14] at H
    exact nn H
   rw [if_pos c14] at H
   have c14b0:decide (x17_1 < (l0.length:Int)) = true:=decide_eq_true c14
   clear c14
   obtain⟨ji15,hji15⟩:∃ j_:Int,(wrap64 (Int.tdiv x17_1 64)) = j_:=⟨_,rfl⟩
   first|rw [hji15] at H|simp only [hji15] at H
   have hji15w:(IntKind.i64.wrap (Int.tdiv x17_1 64)) = ji15:=(i64_w _).trans hji15
   by_cases c16:0 ≤ (ji15)
   rotate_left
   ·rw [if_neg c16] at H
    exact nn H
   rw [if_pos c16] at H
   have c16b0:decide (0 ≤ (ji15)) = true:=decide_eq_true c16
   clear c16
   by_cases c17:(ji15) < (x348001_1.length:Int)
   rotate_left
   ·rw [if_neg c17] at H
    exact nn H
   rw [if_pos c17] at H
   have c17b0:decide ((ji15) < (x348001_1.length:Int)) = true:=decide_eq_true c17
   clear c17
   obtain⟨ji18,hji18⟩:∃ j_:Int,(Int.tmod x17_1 64) = j_:=⟨_,rfl⟩
   first|rw [hji18] at H|simp only [hji18] at H
   by_cases c19:0 ≤ (ji18)
   rotate_left
   ·rw [if_neg c19] at H
    exact nn H
   rw [if_pos c19] at H
   have c19b0:=eq_true c19
   have c19b1:decide (0 ≤ (ji18)) = true:=decide_eq_true c19
   clear c19
   obtain⟨ji20,hji20⟩:∃ j_:Int,(shl .u64 (IntKind.u64.wrap (rd l0 x17_1)) (ji18)) = j_:=⟨_,rfl⟩
   first|rw [hji20] at H|simp only [hji20] at H
   have hji20_:(IntKind.u64.wrap ((IntKind.u64.wrap (rd l0 x17_1)) * 2 ^ min (ji18).toNat 64)) = ji20:=hji20
   have hji20z:(ji18) ≤ 64 → (IntKind.u64.wrap ((IntKind.u64.wrap (rd l0 x17_1)) * 2 ^ (ji18).toNat)) = ji20:=shl_small hji20
   obtain⟨y350,hy350⟩:∃ y_:List Int,y_ = (x348001_1.set ((ji15):Int).toNat (Go.bits .or .u64 (rd x348001_1 (ji15)) (ji20))):=⟨_,rfl⟩
   first|(with_reducible replace H:=yB hy350 H)|rw [← hy350] at H|skip
   have Ny350:=mk0 hy350
   clear hy350
   have H':=mk0 H
   clear H
   have p348:0 ≤ (x17_1:Int):=oD
   have q348:x17_1 < (l0.length:Int):=oD
   obtain⟨ad348,e348,hx348_0⟩:=Kd.at_int HR0.out x17_1 p348 q348
   cases e348
   replace hx348_0:=(HB.out.cell (World.block_lt_of_cell? w _ hx348_0)).trans hx348_0
   replace p348:=eq_true p348
   replace q348:=eq_true q348
   try go_wp2
   replace HO_348001:=mk0 (dR HO_348001.out)
   replace BK343:=mk0 (dB BK343.out)
   replace BK347:=mk0 (dB BK347.out)
   replace HB:=mk0 (dZ HB.out)
   obtain⟨Ao23,co23,eo23⟩:=Kd.R_slice HO_348001.out
   (first|subst eo23|(injection eo23 with f1_ f2_ f3_;have f4_:=f1_.symm;have f5_:=f3_.symm;clear f1_ f2_ f3_;subst f4_;subst f5_))
   have p349:0 ≤ ((ji15):Int):=oD
   have q349:(ji15) < (x348001_1.length:Int):=oD
   obtain⟨ad349,e349,hx349_0⟩:=Kd.at_int (Kd.R_reads' HO_348001.out).2.2 (ji15) p349 q349
   cases e349
   replace p349:=eq_true p349
   replace q349:=eq_true q349
   have p21:0 ≤ ((ji15):Int):=oD
   have q21:((ji15):Int) < ((x348001_1.length:Int):Int):=oD
   obtain⟨go21,co21,eo21,gb21,gl21,cl21,HG21⟩:=Kd.R_form HO_348001.out (by omega)
   (first|cases eo21|(injection eo21 with ea_ en_ ec_;(first|subst ea_|(injection ea_ with ea_;subst ea_));subst ec_;clear en_))
   have GB21:=mk0 gb21
   have GG21:=mk0 HG21
   clear gb21 gl21 HG21
   (first|simp only [add_plain] at hx349_0|skip)
   obtain⟨hx21_0,hf21_0⟩:=Kd.R_celln 0 HO_348001.out ((ji15):Int) p21 q21
   replace p21:=eq_true p21
   replace q21:=eq_true q21
   have HP24:=Kd.R_putn HO_348001.out ((ji15):Int) (Go.bits .or .u64 (rd x348001_1 (ji15)) (ji20))
   rw [← Ny350.out] at HP24
   have HQ24:=mk0 HP24
   clear HP24
   refine start_ (n:=14) (S:=fun w'=>w'.cell? ⟨gb347,0,none⟩ = some (.int .i64 (l0.length:Int)) ∧ w'.cell? ⟨gb347,1,none⟩ = some (.slice (some ⟨go21,0,none⟩) x348001_1.length co23) ∧ w'.cell? ⟨go21,((ji15)).toNat,none⟩ = some (.int .u64 (rd x348001_1 (ji15)))) (ds:=[13]) (bm 14 0) (by kernel_rfl) rfl (by kernel_rfl) ⟨(blk_cell BK347.out 0).trans rfl,(blk_cell BK347.out 1).trans rfl,hx349_0⟩ (fun hHeld=>?_);refine with_tabW impl_bitsOf.tab5 impl_bitsOf.bits5 (fun HT_ HW_=>?_)
   generalize wr.drew = w22 at HO_348001 BK343 BK347 HB GG21 HQ24 hf21_0 hx21_0 hx349_0 hHeld ⊢
   refine pU 0 (some 22) (bm 14 1) HT_ ?_
   refine pU 2 (some 24) (bm 14 5) HT_ ?_
   refine pU 3 (some 25) (bm 14 13) HT_ ?_
   refine pU 6 (some 28) (bm 14 77) HT_ ?_
   refine pU 7 (some 29) (bm 14 205) HT_ ?_
   refine pU 8 (some 30) (bm 14 461) HT_ ?_
   refine pU 9 (some 31) (bm 14 973) HT_ ?_
   refine pU 10 (some 32) (bm 14 1997) HT_ ?_
   refine pT 1 (some 23) (bm 14 1999) HT_ HW_ hHeld ?_
   refine pU 4 (some 26) (bm 14 2015) HT_ ?_
   refine pT 5 (some 27) (bm 14 2047) HT_ HW_ hHeld ?_
   refine pU 11 (some 33) (bm 14 4095) HT_ ?_
   refine pU 12 (some 34) (bm 14 8191) HT_ ?_
   refine pL 13 none (bm 14 16383) HT_ (fun K hK=>?_)
   refine skip_ (w1:=?_) (by rfl) rfl ?_ ?_
   rotate_left
   ·go_simp
    rfl
   refine hK.out _ _ ?_
   clear hK K
   refine pD HT_ ?_
   try go_wp2
   go_roundg k1
   case measure=>have:=HK1.out;omega
   case rel=>exact⟨(wrap64 (x17_1 + 1)),(y350),(.slice (some ⟨go21,0,none⟩) x348001_1.length co23),eS,H',⟨by have:=HK1.out;omega⟩,⟨rR HQ24.out⟩,⟨by (with_reducible repeat (first|apply nB|apply dB|apply aB));refine blk_far ?_ (by have h_:=Kd.R_ne HO_348001.out BK343.out (by decide);intro e_;exact h_ (by rw [e_];rfl)) _;(with_reducible repeat (first|apply nB|apply dB|apply aB));exact BK343.out⟩,⟨by (with_reducible repeat (first|apply nB|apply dB|apply aB));refine blk_far ?_ (by have h_:=Kd.R_ne HO_348001.out BK347.out (by decide);intro e_;exact h_ (by rw [e_];rfl)) _;(with_reducible repeat (first|apply nB|apply dB|apply aB));exact BK347.out⟩,⟨kB HB.out⟩⟩
/-! ### slices_Grow_nil23: slices.Grow of nil, function 70 (by hand) -/
def slices_Grow_nil23.f (a0 : Int) : Option (List Int) := if 0 ≤ a0 ∧ a0 ≤ 1048576 then some [] else none
theorem slices_Grow_nil23.info : (Try.prog.info? 3).map (fun i => (i.zero, i.size, i.bytes)) = some (some (.int .i64 0), 1, 8) := by kernel_rfl
set_option maxHeartbeats 8000000 in
set_option maxRecDepth 100000 in
theorem slices_Grow_nil23.calls (a0 : Int) (r : List Int) (w : World) (h : slices_Grow_nil23.f a0 = some r) :
    Calls Try.prog 70 #[.slice none 0 0, .int .i64 a0] w fun e w' => ∃ v0_ : Value, e = .returned (v0_) ∧ Kd.R (Kd.int .i64) 3 w' w.heap.size (fun _ => True) v0_ r ∧ Below w.heap.size w w' := by
  unfold slices_Grow_nil23.f at h
  by_cases hm : 0 ≤ a0 ∧ a0 ≤ 1048576
  · rw [if_pos hm] at h
    obtain rfl := Option.some.inj h
    clear h
    have HB := Aside0.mk (Below.refl w.heap.size w)
    have hw1 : IntKind.i64.wrap a0 = a0 := by rw [i64_w]; unfold wrap64; omega
    have hcap : ∀ (ty : TypeId) (w_ : World), (Builtin.cap_ #[23] ty #[.slice none 0 0]).run Try.prog w_ = .ok (.int .i64 0) w_ := fun _ _ => by kernel_rfl
    have b0 : decide (a0 < 0) = false := decide_eq_false (by omega)
    obtain ⟨i0, hi0, _, hsz, _⟩ := info_parts slices_Grow_nil23.info
    have hcut0 := cut_to (P := Try.prog) 23 3 .i64 Try.underlying23 hi0 none 0 0 0 (by omega) (by omega) (by omega)
    by_cases hp : 0 < a0
    · have b1 : decide (0 < a0) = true := decide_eq_true hp
      have LM := Aside0.mk hm
      clear hm hp
      go_enter Try.func70, Try.ntmps70
      go_wp2_with (at_builtin; refine Kd.R_append_zeros (Kd.int .i64) (w0 := w) w.heap.size rfl (.tmp 20) (.tmp 21) 23 3 3 (.int .i64 0) 8 rfl Try.underlying23 Try.underlying3 slices_Grow_nil23.info rfl (by decide) (by omega) (.slice none 0 0) ([] : List Int) 0 (a0 : Int) (fun _ => True) rfl rfl rfl ?aF ?aO ?aN ?aB ?aS ?aL ?_; (case aF => exact (fun _ _ => trivial)); (case aO => exact (Kd.R_nil _ _ _ _ _)); (case aN => exact LM.out.1); (case aB => exact (by repeat (first | (with_reducible first | exact HB.out | apply below_alloc | apply pw_below_drewN | apply below_drew1) | exact HB.out))); (case aS => exact (below_size (by repeat (first | (with_reducible first | exact HB.out | apply below_alloc | apply pw_below_drewN | apply below_drew1) | exact HB.out)))); (case aL => have := LM.out; simp only [List.length_nil, Nat.zero_add]; omega); intro v1 w1 ho hb hg hat; obtain ⟨A1, c1, e1⟩ := Kd.R_slice ho; subst e1; have hroom := (Kd.R_reads' ho).2.1; have hcut1 := cut_to (P := Try.prog) 23 3 .i64 Try.underlying23 hi0 A1 ([] ++ List.replicate a0.toNat (0 : Int)).length c1 0 (by omega) (by omega) hroom; rw [show (0 : Int).toNat = 0 from rfl] at hcut1; have n1_ := Aside0.mk hb; have n2_ := Aside0.mk (Kd.R_take (m := 0) ho (Nat.zero_le _)); clear HB; have HB := n1_; have HO1 := n2_; clear n1_ n2_; clear ho hb hg hat hroom)
      go_ret
      exact ⟨_, by first | rfl | (simp; done), by (with_reducible repeat (first | apply Kd.R_alloc | apply Kd.R_drewN | apply Kd.R_drew)); exact HO1.out, by repeat (first | (with_reducible first | exact HB.out | apply below_alloc | apply pw_below_drewN | apply below_drew1) | exact HB.out)⟩
    · have b1 : decide (0 < a0) = false := decide_eq_false hp
      clear hm hp
      go_enter Try.func70, Try.ntmps70
      go_wp2
      go_ret
      exact ⟨_, by first | rfl | (simp; done), Kd.R_nil _ _ _ _ _, HB.out⟩
  · rw [if_neg hm] at h
    exact absurd h (by simp)
end Go.Proofs.Ytjfoaiabbmkdpaa.QFnExactFmOf
