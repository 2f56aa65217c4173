-- A walk, made by walk.py, a program of this session's.
import Derived.Test.YtmohfjfgpeapfaaQFnExactSparseRankx0
import Derived.Test.YtmohfjfgpeapfaaQFnExactSparseRankx1
import Derived.Test.YtmohfjfgpeapfaaQFnExactSparseRankx3
import Derived.Test.YtmohfjfgpeapfaaQFnExactSparseRankx4
namespace Go.Proofs.Ytmohfjfgpeapfaa.QFnExactSparseRank
open Go.RowKit Go.Proofs.YtmohfjfgpeapfaaW.PrintWords Go.Proofs.YtmohfjfgpeapfaaW.PrintLast Go.Proofs.YtmohfjfgpeapfaaW.PrintMore
attribute [local go_sem] max2_int min2_int max_two min_two max_three min_three max_four min_four   -- for this text's walks alone
set_option linter.unusedVariables false
set_option linter.unusedSimpArgs false

/-! ### impl_Sparse_read: function 38 -/
def impl_Sparse_read.l0 : Nat → List Int → Int → List Int → List Int → Int → Int → Int → Int → Int → Int → Int → List Int → Int → List Int → Option (List Int × Bool)
 | 0, _, _, _, _, _, _, _, _, _, _, _, _, _, _ => none
 | k + 1, x6, x7, x14, x17, x19, x20, x214000, x214001, x214002, x214003, x214004, x214005, x214006, x214007 => if x20 < x19 then (if 0 ≤ x20 then (if x20 < (x17.length : Int) then (if (rd x17 x20) = 0 then (impl_Sparse_read.l0 k x6 (wrap64 (x7 + 1)) x14 x17 x19 (wrap64 (x20 + 1)) x214000 x214001 x214002 x214003 x214004 x214005 x214006 x214007) else (if (x6.length : Int) = (x14.length : Int) then (some (([] : List Int), false)) else (if 0 ≤ x214002 then (if 0 ≤ (x6.length : Int) then (if (x6.length : Int) < (x14.length : Int) then (if x6.length < 17592186044416 then (impl_Sparse_read.l0 k (x6 ++ [Go.bits .or .i64 (shl .i64 x7 x214002) (rd x14 (x6.length : Int))]) x7 x14 x17 x19 (wrap64 (x20 + 1)) x214000 x214001 x214002 x214003 x214004 x214005 x214006 x214007) else (none)) else (none)) else (none)) else (none)))) else (none)) else (none)) else ((impl_SparseOf.f k x6 x214000).bind fun bt225 => (if bt225.2.2.2.2.2.2.2.2 = true then (if bt225.2.1 = x214001 then ((impl_samePacked.f k bt225.2.2.1 bt225.2.2.2.1 bt225.2.2.2.2.1 bt225.2.2.2.2.2.1 x214002 x214003 x214004 x214005).bind fun t239 => (if t239 = true then ((impl_sameBits.f k bt225.2.2.2.2.2.2.1 bt225.2.2.2.2.2.2.2.1 x214006 x214007).bind fun t240 => (some (x6, t240))) else (some (x6, false)))) else (some (x6, false))) else (some (x6, false))))
def impl_Sparse_read.f (k : Nat) (a0_0 : Int) (a0_1 : Int) (a0_2 : Int) (a0_3 : Int) (a0_4 : Int) (l0_5 : List Int) (a0_6 : Int) (l0_7 : List Int) : Option (List Int × Bool) := (impl_PackList.f k a0_2 a0_3 a0_4 l0_5).bind fun t214 => ((impl_BitsList.f k a0_6 l0_7).bind fun t217 => (impl_Sparse_read.l0 k ([] : List Int) 0 t214 t217 (t217.length : Int) 0 a0_0 a0_1 a0_2 a0_3 a0_4 l0_5 a0_6 l0_7))
theorem impl_Sparse_read.mono_l : ∀ k, (∀ y0 y1 y2 y3 y4 y5 y6 y7 y8 y9 y10 y11 y12 y13, LeO (impl_Sparse_read.l0 k y0 y1 y2 y3 y4 y5 y6 y7 y8 y9 y10 y11 y12 y13) (impl_Sparse_read.l0 (k + 1) y0 y1 y2 y3 y4 y5 y6 y7 y8 y9 y10 y11 y12 y13))
 | 0 => fun _ _ _ _ _ _ _ _ _ _ _ _ _ _ r h => by simp [impl_Sparse_read.l0] at h
 | k + 1 => by
  have ih0 := impl_Sparse_read.mono_l k
  ·intro y0 y1 y2 y3 y4 y5 y6 y7 y8 y9 y10 y11 y12 y13
   unfold impl_Sparse_read.l0
   repeat' first|(with_reducible first|exact ih0 _ _ _ _ _ _ _ _ _ _ _ _ _ _|exact impl_BitsList.mono _ _ _|exact impl_PackList.mono _ _ _ _ _|exact impl_SparseOf.mono _ _ _|exact impl_sameBits.mono _ _ _ _ _|exact impl_samePacked.mono _ _ _ _ _ _ _ _ _|exact LeO.refl _|exact LeO.none _|refine LeO.ite ?_ ?_|refine LeO.bind ?_ (fun _ => ?_))|exact LeO.none _|refine LeO.ite ?_ ?_|refine LeO.bind ?_ (fun _ => ?_)
theorem impl_Sparse_read.mono : ∀ a0 a1 a2 a3 a4 a5 a6 a7 k, LeO (impl_Sparse_read.f k a0 a1 a2 a3 a4 a5 a6 a7) (impl_Sparse_read.f (k + 1) a0 a1 a2 a3 a4 a5 a6 a7) := by
 intro a0 a1 a2 a3 a4 a5 a6 a7 k
 have ih0 := impl_Sparse_read.mono_l k
 unfold impl_Sparse_read.f
 repeat' first|(with_reducible first|exact ih0 _ _ _ _ _ _ _ _ _ _ _ _ _ _|exact impl_BitsList.mono _ _ _|exact impl_PackList.mono _ _ _ _ _|exact impl_SparseOf.mono _ _ _|exact impl_sameBits.mono _ _ _ _ _|exact impl_samePacked.mono _ _ _ _ _ _ _ _ _|exact LeO.refl _|exact LeO.none _|refine LeO.ite ?_ ?_|refine LeO.bind ?_ (fun _ => ?_))|exact LeO.none _|refine LeO.ite ?_ ?_|refine LeO.bind ?_ (fun _ => ?_)
def impl_Sparse_read.T1 : Bool × List (List Nat × List Nat) := (true, [([], []), ([0], [0]), ([1], [1]), ([], []), ([3], [3]), ([4, 2], [4]), ([2, 5, 0, 1, 2], [2]), ([5, 6, 0, 1, 2, 3, 4, 5, 6], [5])])
def impl_Sparse_read.B1 : List Nat := [0, 1, 3, 0, 8, 31, 63, 127]
theorem impl_Sparse_read.tab1 : rtab .any (opsOf Try.f38 1) = impl_Sparse_read.T1 := by kernel_rfl
theorem impl_Sparse_read.bits1 : waitsOk impl_Sparse_read.T1.2 impl_Sparse_read.B1 = true := by kernel_rfl
def impl_Sparse_read.T7 : Bool × List (List Nat × List Nat) := (true, [([], []), ([], []), ([], []), ([2], [2]), ([3], [3]), ([1, 4], [1, 4]), ([], []), ([], []), ([7], [7]), ([6, 8], [6, 8]), ([9], [9]), ([5, 10], [5, 10]), ([11], [11]), ([0, 12], [0, 12]), ([13, 13, 0, 1, 2, 3, 4, 5, 6, 7, 8, 9, 10, 11, 12, 13], [0, 7, 13])])
def impl_Sparse_read.B7 : List Nat := [0, 0, 0, 4, 12, 30, 0, 0, 128, 448, 960, 2046, 4094, 8191, 16383]
theorem impl_Sparse_read.tab7 : rtab .any (opsOf Try.f38 7) = impl_Sparse_read.T7 := by kernel_rfl
theorem impl_Sparse_read.bits7 : waitsOk impl_Sparse_read.T7.2 impl_Sparse_read.B7 = true := by kernel_rfl
abbrev impl_Sparse_read.m0 : Array Bool := #[F,F,F,F,F,F,F,F]
abbrev impl_Sparse_read.m1 : Array Bool := #[T,F,F,F,F,F,F,F]
abbrev impl_Sparse_read.m2 : Array Bool := #[T,F,F,T,F,F,F,F]
abbrev impl_Sparse_read.m3 : Array Bool := #[T,T,F,T,F,F,F,F]
abbrev impl_Sparse_read.m4 : Array Bool := #[T,T,F,T,T,F,F,F]
abbrev impl_Sparse_read.m5 : Array Bool := #[T,T,T,T,T,F,F,F]
abbrev impl_Sparse_read.m6 : Array Bool := #[F,F,F,F,F,F,F,F,F,F,F,F,F,F,F]
abbrev impl_Sparse_read.m7 : Array Bool := #[T,F,F,F,F,F,F,F,F,F,F,F,F,F,F]
abbrev impl_Sparse_read.m8 : Array Bool := #[T,T,F,F,F,F,F,F,F,F,F,F,F,F,F]
abbrev impl_Sparse_read.m9 : Array Bool := #[T,T,T,F,F,F,F,F,F,F,F,F,F,F,F]
abbrev impl_Sparse_read.m10 : Array Bool := #[T,T,T,T,F,F,F,F,F,F,F,F,F,F,F]
abbrev impl_Sparse_read.m11 : Array Bool := #[T,T,T,T,F,F,T,F,F,F,F,F,F,F,F]
abbrev impl_Sparse_read.m12 : Array Bool := #[T,T,T,T,F,F,T,T,F,F,F,F,F,F,F]
abbrev impl_Sparse_read.m13 : Array Bool := #[T,T,T,T,F,F,T,T,T,F,F,F,F,F,F]
abbrev impl_Sparse_read.m14 : Array Bool := #[T,T,T,T,F,F,T,T,T,T,F,F,F,F,F]
abbrev impl_Sparse_read.m15 : Array Bool := #[T,T,T,T,T,F,T,T,T,T,F,F,F,F,F]
abbrev impl_Sparse_read.m16 : Array Bool := #[T,T,T,T,T,T,T,T,T,T,F,F,F,F,F]
abbrev impl_Sparse_read.m17 : Array Bool := #[T,T,T,T,T,T,T,T,T,T,T,F,F,F,F]
abbrev impl_Sparse_read.m18 : Array Bool := #[T,T,T,T,T,T,T,T,T,T,T,T,F,F,F]
abbrev impl_Sparse_read.m19 : Array Bool := #[T,T,T,T,T,T,T,T,T,T,T,T,T,F,F]
abbrev impl_Sparse_read.m20 : Array Bool := #[T,T,T,T,T,T,T,T,T,T,T,T,T,T,F]
abbrev impl_Sparse_read.m21 : Array Bool := #[T,T,T,T,T,T,T,T,T,T,T,T,T,T,T]
set_option maxHeartbeats 8000000 in
set_option maxRecDepth 100000 in
theorem impl_Sparse_read.calls (k : Nat) (a0_0 : Int) (a0_1 : Int) (a0_2 : Int) (a0_3 : Int) (a0_4 : Int) (A0_5 : Option Addr) (c0_5 : Nat) (l0_5 : List Int) (a0_6 : Int) (A0_7 : Option Addr) (c0_7 : Nat) (l0_7 : List Int) (r1 : List Int) (r2 : Bool) (w : World) (hr0_5 : Kd.C (Kd.int .u64) w A0_5 l0_5.length l0_5) (hc0_5 : l0_5.length ≤ c0_5) (hr0_7 : Kd.C (Kd.int .u64) w A0_7 l0_7.length l0_7) (hc0_7 : l0_7.length ≤ c0_7) (h : impl_Sparse_read.f k a0_0 a0_1 a0_2 a0_3 a0_4 l0_5 a0_6 l0_7 = some (r1, r2)) :
  Calls Try.prog 38 #[.agg #[.int .i64 a0_0, .int .i64 a0_1, .int .i64 a0_2, .int .i64 a0_3, .int .i64 a0_4, .slice A0_5 l0_5.length c0_5, .int .i64 a0_6, .slice A0_7 l0_7.length c0_7]] w fun e w' => ∃ v0_ : Value, e = .returned (.tuple #[v0_, .bool r2]) ∧ Kd.R (Kd.int .i64) 3 w' w.heap.size (fun _ => True) v0_ r1 ∧ Below w.heap.size w w' := by
 have hu33:=Try.underlying33
 have hu31:=Try.underlying31
 have hu29:=Try.underlying29
 have HR0_5:=mk0 hr0_5
 have HC0_5:=mk0 hc0_5
 clear hr0_5 hc0_5
 have HR0_7:=mk0 hr0_7
 have HC0_7:=mk0 hc0_7
 clear hr0_7 hc0_7
 have HB:=mk0 (Below.refl w.heap.size w)
 have H:((impl_PackList.f k a0_2 a0_3 a0_4 l0_5).bind fun t214=>((impl_BitsList.f k a0_6 l0_7).bind fun t217=>(impl_Sparse_read.l0 k ([]:List Int) 0 t214 t217 (t217.length:Int) 0 a0_0 a0_1 a0_2 a0_3 a0_4 l0_5 a0_6 l0_7))) = some (r1,r2):=h
 clear h
 replace H:=Option.bind_eq_some_iff.mp H
 obtain⟨t214,A20,H⟩:=H
 replace H:((impl_BitsList.f k a0_6 l0_7).bind fun t217=>(impl_Sparse_read.l0 k ([]:List Int) 0 t214 t217 (t217.length:Int) 0 a0_0 a0_1 a0_2 a0_3 a0_4 l0_5 a0_6 l0_7)) = some (r1,r2):=H
 have A2:=mk0 A20
 clear A20
 replace H:=Option.bind_eq_some_iff.mp H
 obtain⟨t217,A30,H⟩:=H
 replace H:(impl_Sparse_read.l0 k ([]:List Int) 0 t214 t217 (t217.length:Int) 0 a0_0 a0_1 a0_2 a0_3 a0_4 l0_5 a0_6 l0_7) = some (r1,r2):=H
 have A3:=mk0 A30
 clear A30
 have H':=mk0 H
 clear H
 go_enter Try.func38,Try.ntmps38
 try go_wp2_with (first|((with_reducible refine gate_dst (N:=1) rfl ?_);refine box_event ?hg (N:=1) ?hd (cs:=#[.int .i64 a0_0,.int .i64 a0_1,.int .i64 a0_2,.int .i64 a0_3,.int .i64 a0_4,.slice A0_5 l0_5.length c0_5,.int .i64 a0_6,.slice A0_7 l0_7.length c0_7]) (t:=33) ?hr ?_;(case hd=>rfl);(case hg=>rfl);(case hr=>first|(go_simp;done)|(go_simp;rfl));intro gb213 hg w4 hbox hb;have BK213:=mk0 (hbox);have GW213:=mk0 ((by rw [hg];exact (kZ HB.out):w.heap.size ≤ gb213));have GE213:=mk0 ((by rw [hg];exact (kZ HB.out):w.heap.size ≤ gb213));replace HB:=mk0 (kS HB.out hb);clear hb hbox hg))
 replace BK213:=mk0 (dB BK213.out)
 replace HB:=mk0 (dZ HB.out)
 refine start_ (n:=8) (S:=fun w'=>w'.cell? ⟨gb213,0,none⟩ = some (.int .i64 a0_0) ∧ w'.cell? ⟨gb213,1,none⟩ = some (.int .i64 a0_1) ∧ w'.cell? ⟨gb213,2,none⟩ = some (.int .i64 a0_2) ∧ w'.cell? ⟨gb213,3,none⟩ = some (.int .i64 a0_3) ∧ w'.cell? ⟨gb213,4,none⟩ = some (.int .i64 a0_4) ∧ w'.cell? ⟨gb213,5,none⟩ = some (.slice A0_5 l0_5.length c0_5) ∧ w'.cell? ⟨gb213,6,none⟩ = some (.int .i64 a0_6) ∧ w'.cell? ⟨gb213,7,none⟩ = some (.slice A0_7 l0_7.length c0_7)) (ds:=[]) impl_Sparse_read.m0 (by kernel_rfl) rfl rfl (ck8 BK213.out) (fun hHeld=>?_);refine with_tabW impl_Sparse_read.tab1 impl_Sparse_read.bits1 (fun HT_ HW_=>?_)
 generalize w4.drew = w5 at BK213 HB hHeld ⊢
 refine pure_ (i:=0) (N:=some 12) (v:=?_) (a':=?_) impl_Sparse_read.m1 rfl rfl (any_of HT_.out (by kernel_rfl)) (fun _ _ _ h=>h) (Or.inl ⟨by rfl,?_⟩) ?_ ?_
 rotate_left
 ·intro w'
  go_simp
  with_reducible rfl
 rotate_left
 ·simp only [Act.put,sA,sO,sS,i64_w,i32_w]
  rfl
 refine pure_ (i:=3) (N:=some 15) (v:=?_) (a':=?_) impl_Sparse_read.m2 rfl rfl (any_of HT_.out (by kernel_rfl)) (fun _ _ _ h=>h) (Or.inl ⟨by rfl,?_⟩) ?_ ?_
 rotate_left
 ·intro w'
  go_simp
  with_reducible rfl
 rotate_left
 ·simp only [Act.put,sA,sO,sS,i64_w,i32_w]
  rfl
 refine take_ (i:=1) (N:=some 13) (v:=?_) (a':=?_) impl_Sparse_read.m3 rfl rfl (take_ofW HT_.out HW_.out (by kernel_rfl)) (fun _ _ _ h=>h) (Or.inl ⟨by rfl,?_⟩) hHeld ?_ ?_
 rotate_left
 ·rintro w' ⟨s0,s1,s2,s3,s4,s5,s6,s7⟩
  go_simp
  with_reducible rfl
 rotate_left
 ·simp only [Act.put,sA,sO,sS,i64_w,i32_w]
  rfl
 refine take_ (i:=4) (N:=some 16) (v:=?_) (a':=?_) impl_Sparse_read.m4 rfl rfl (take_ofW HT_.out HW_.out (by kernel_rfl)) (fun _ _ _ h=>h) (Or.inl ⟨by rfl,?_⟩) hHeld ?_ ?_
 rotate_left
 ·rintro w' ⟨s0,s1,s2,s3,s4,s5,s6,s7⟩
  go_simp
  with_reducible rfl
 rotate_left
 ·simp only [Act.put,sA,sO,sS,i64_w,i32_w]
  rfl
 refine one_ (i:=2) (N:=some 14) impl_Sparse_read.m5 rfl rfl (one_of HT_.out (by kernel_rfl)) (by decide) (fun K hK=>?_)
 refine goes_ Try.func60 (by kernel_rfl) rfl #[.agg #[.int .i64 a0_2,.int .i64 a0_3,.int .i64 a0_4,.slice A0_5 l0_5.length c0_5]] (by rfl) rfl rfl (by (try simp only [mA,mC,mN]);first|done|rfl|(simp only [List.length_drop,List.length_take];rfl)) ?_
 with_reducible refine (impl_PackList.calls k a0_2 a0_3 a0_4 _ _ l0_5 t214 _ ?side1 ?side2 A2.out).mono ?_
 (case side1=>exact kC (Kd.C_below HR0_5.out HB.out))
 (case side2=>exact HC0_5.out)
 rintro e w6 ⟨v215,rfl,ho0,hb⟩
 refine⟨_,rfl,?_⟩
 have HO216:=mk0 (Kd.R_lower ho0 (kZ HB.out))
 replace BK213:=mk0 (kK BK213.out hb)
 replace HB:=mk0 (kS HB.out hb)
 (try clear hb)
 (try clear ho0)
 refine hK.out _ _ (ck8 BK213.out) (fun hHeld=>?_)
 clear hK K
 refine norm_ (a':=?_) ?_ ?_
 rotate_left
 ·show Act.put _ (some 14) _ = _
  simp only [Act.put,sA,sO,sS,i64_w,i32_w]
  rfl
 refine one_ (i:=5) (N:=some 17) #[true,true,true,true,true,true,false,false] rfl rfl (one_of HT_.out (by kernel_rfl)) (by decide) (fun K hK=>?_)
 refine goes_ Try.func61 (by kernel_rfl) rfl #[.agg #[.int .i64 a0_6,.slice A0_7 l0_7.length c0_7]] (by rfl) rfl rfl (by (try simp only [mA,mC,mN]);first|done|rfl|(simp only [List.length_drop,List.length_take];rfl)) ?_
 with_reducible refine (impl_BitsList.calls k a0_6 _ _ l0_7 t217 _ ?side1 ?side2 A3.out).mono ?_
 (case side1=>exact kC (Kd.C_below HR0_7.out HB.out))
 (case side2=>exact HC0_7.out)
 rintro e w7 ⟨v218,rfl,ho0,hb⟩
 refine⟨_,rfl,?_⟩
 have HO219:=mk0 (Kd.R_lower (Kd.R_new' ho0 (Kd.R_lt (rR HO216.out))) (kZ HB.out))
 replace HO216:=mk0 (Kd.R_elder' (rR HO216.out) (Kd.R_base ho0) hb)
 replace BK213:=mk0 (kK BK213.out hb)
 replace HB:=mk0 (kS HB.out hb)
 (try clear hb)
 (try clear ho0)
 refine hK.out _ _ (ck8 BK213.out) (fun hHeld=>?_)
 clear hK K
 refine norm_ (a':=?_) ?_ ?_
 rotate_left
 ·show Act.put _ (some 17) _ = _
  simp only [Act.put,sA,sO,sS,i64_w,i32_w]
  rfl
 refine pure_ (i:=6) (N:=some 4) (v:=?_) (a':=?_) #[true,true,true,true,true,true,true,false] rfl rfl (any_of HT_.out (by kernel_rfl)) (fun _ _ _ h=>h) (Or.inl ⟨by rfl,?_⟩) ?_ ?_
 rotate_left
 ·intro w'
  go_simp
  with_reducible rfl
 rotate_left
 ·simp only [Act.put,sA,sO,sS,i64_w,i32_w]
  rfl
 refine pure_ (i:=7) (N:=some 5) (v:=?_) (a':=?_) #[true,true,true,true,true,true,true,true] rfl rfl (any_of HT_.out (by kernel_rfl)) (fun _ _ _ h=>h) (Or.inl ⟨by rfl,?_⟩) ?_ ?_
 rotate_left
 ·intro w'
  go_simp
  with_reducible rfl
 rotate_left
 ·simp only [Act.put,sA,sO,sS,i64_w,i32_w]
  rfl
 refine done_ (done_of HT_.out (by kernel_rfl)) ?_
 obtain⟨Ao8,co8,eo8⟩:=Kd.R_slice HO219.out
 subst eo8
 try go_wp2
 go_loopg [6,7,20] k (fun kq v6 v7 v20 w'=>∃ (x6_1:List Int) (x7_1:Int) (x20_1:Int),v7 = .int .i64 x7_1 ∧ v20 = .int .i64 x20_1 ∧ Aside0 (impl_Sparse_read.l0 kq x6_1 x7_1 t214 t217 (t217.length:Int) x20_1 a0_0 a0_1 a0_2 a0_3 a0_4 l0_5 a0_6 l0_7 = some (r1,r2)) ∧ Aside0 (kq ≤ k) ∧ Aside0 (Kd.R (Kd.int .i64) 3 w' w.heap.size (fun k_=>some k_ ≠ (v215:Value).ownBlock ∧ some k_ ≠ ((.slice Ao8 t217.length co8):Value).ownBlock) v6 x6_1) ∧ Aside0 (Kd.R (Kd.int .i64) 3 w' w.heap.size (fun k_=>some k_ ≠ (v6:Value).ownBlock ∧ some k_ ≠ ((.slice Ao8 t217.length co8):Value).ownBlock) v215 t214) ∧ Aside0 (Kd.R (Kd.int .i64) 3 w' w.heap.size (fun k_=>some k_ ≠ (v6:Value).ownBlock ∧ some k_ ≠ (v215:Value).ownBlock) (.slice Ao8 t217.length co8) t217) ∧ Aside0 (w'.heap[gb213]? = some (.cells #[.int .i64 a0_0,.int .i64 a0_1,.int .i64 a0_2,.int .i64 a0_3,.int .i64 a0_4,(.slice A0_5 l0_5.length c0_5),.int .i64 a0_6,(.slice A0_7 l0_7.length c0_7)] 33 (0,0))) ∧ Aside0 (Below w.heap.size w w'))
 case atStart=>exact⟨(([]:List Int)),(0),(0),(by first|rfl|(simp;done)|(simp [*];done)),(by first|rfl|(simp;done)|(simp [*];done)),H',⟨Nat.le_refl _⟩,⟨by first|exact Kd.R_nil _ _ _ _ _|exact Kd.N_nil _ _ _ _ _|exact Kd.V_nil _ _ _ _ _|exact Kd.Q_nil _ _ _ _ _|exact Kd.S_nil _ _ _ _ _⟩,⟨by (with_reducible repeat (first|apply aR|apply nR|apply dR));exact Kd.R_mono HO216.out (fun _ hk=>⟨(by simp [Value.ownBlock]),hk.2⟩)⟩,⟨by (with_reducible repeat (first|apply aR|apply nR|apply dR));exact Kd.R_mono HO219.out (fun _ hk=>⟨(by simp [Value.ownBlock]),hk.2⟩)⟩,⟨kN BK213.out⟩,⟨kB HB.out⟩⟩
 case round =>
  clear H'
  try clear p2
  try clear c3
  try clear c6
  obtain⟨x6_1,x7_1,x20_1,rfl,rfl,HA,HK1,HO_6,HO_14,HO_17,BK213,HB⟩:=hrel
  cases gk with
  | zero=>exact absurd HA.out (by simp [impl_Sparse_read.l0])
  | succ k1 =>
   have H:=HA.out
   clear HA
   simp only [impl_Sparse_read.l0] at H
   by_cases c9:x20_1 < (t217.length:Int)
   ·rw [if_pos c9] at H
    have c9b0:decide (x20_1 < (t217.length:Int)) = true:=decide_eq_true c9
    clear c9
    by_cases c10:0 ≤ x20_1
    rotate_left
    ·rw [if_neg c10] at H
     exact absurd H (by simp)
    rw [if_pos c10] at H
    have c10b0:decide (0 ≤ x20_1) = true:=decide_eq_true c10
    clear c10
    by_cases c11:x20_1 < (t217.length:Int)
    rotate_left
    ·rw [if_neg c11] at H
     exact absurd H (by simp)
    rw [if_pos c11] at H
    have c11b0:decide (x20_1 < (t217.length:Int)) = true:=decide_eq_true c11
    clear c11
    by_cases c12:(rd t217 x20_1) = 0
    ·rw [if_pos c12] at H
     have c12b0:((rd t217 x20_1) == 0) = true:=beq_iff_eq.mpr c12
     have c12b1:((rd t217 x20_1) != 0) = false:=bne_eq_false_iff_eq.mpr c12
     clear c12
     have H':=mk0 H
     clear H
     have p220:0 ≤ (x20_1:Int):=of_decide_eq_true (by first|(with_reducible assumption)|assumption)
     have q220:x20_1 < (t217.length:Int):=of_decide_eq_true (by first|(with_reducible assumption)|assumption)
     obtain⟨ad220,e220,hx220_0⟩:=Kd.at_int (Kd.R_reads' HO_17.out).2.2 x20_1 p220 q220
     cases e220
     replace p220:=eq_true p220
     replace q220:=eq_true q220
     go_wp2
     go_roundg k1
     case measure=>have:=HK1.out;omega
     case rel=>exact⟨(x6_1),(wrap64 (x7_1 + 1)),(wrap64 (x20_1 + 1)),(by first|rfl|(simp;done)|(simp [*];done)),(by first|rfl|(simp;done)|(simp [*];done)),H',⟨by have:=HK1.out;omega⟩,⟨rR HO_6.out⟩,⟨rR HO_14.out⟩,⟨rR HO_17.out⟩,⟨kN BK213.out⟩,⟨kB HB.out⟩⟩
    rw [if_neg c12] at H
    have c12b0:((rd t217 x20_1) == 0) = false:=beq_eq_false_iff_ne.mpr c12
    have c12b1:((rd t217 x20_1) != 0) = true:=bne_iff_ne.mpr c12
    by_cases c13:(x6_1.length:Int) = (t214.length:Int)
    ·rw [if_pos c13] at H
     have c13b0:((x6_1.length:Int) == (t214.length:Int)) = true:=beq_iff_eq.mpr c13
     have c13b1:((x6_1.length:Int) != (t214.length:Int)) = false:=bne_eq_false_iff_eq.mpr c13
     have c13b2:(x6_1.length == t214.length) = true:=by first|simpa using c13|(simp at c13 ⊢;omega)
     clear c13
     simp only [Option.some.injEq,Prod.mk.injEq] at H
     obtain⟨rfl,rfl⟩:=H
     have p220:0 ≤ (x20_1:Int):=of_decide_eq_true (by first|(with_reducible assumption)|assumption)
     have q220:x20_1 < (t217.length:Int):=of_decide_eq_true (by first|(with_reducible assumption)|assumption)
     obtain⟨ad220,e220,hx220_0⟩:=Kd.at_int (Kd.R_reads' HO_17.out).2.2 x20_1 p220 q220
     cases e220
     replace p220:=eq_true p220
     replace q220:=eq_true q220
     obtain⟨Ao14,co14,eo14⟩:=Kd.R_slice HO_6.out
     subst eo14
     obtain⟨Ao15,co15,eo15⟩:=Kd.R_slice HO_14.out
     subst eo15
     go_wp2
     go_ret2
     exact⟨_,by first|rfl|(simp [errW_none,errW_some] <;> rfl)|(simp [*,errW_none,errW_some] <;> rfl),by first|exact Kd.R_nil _ _ _ _ _|exact Kd.N_nil _ _ _ _ _|exact Kd.V_nil _ _ _ _ _|exact Kd.Q_nil _ _ _ _ _|exact Kd.S_nil _ _ _ _ _,kB HB.out⟩
    rw [if_neg c13] at H
    have c13b0:((x6_1.length:Int) == (t214.length:Int)) = false:=beq_eq_false_iff_ne.mpr c13
    have c13b1:((x6_1.length:Int) != (t214.length:Int)) = true:=bne_iff_ne.mpr c13
    have c13b2:(x6_1.length == t214.length) = false:=by first|simpa using c13|(simp at c13 ⊢;omega)
    by_cases c16:0 ≤ a0_2
    rotate_left
    ·rw [if_neg c16] at H
     exact absurd H (by simp)
    rw [if_pos c16] at H
    have c16b0:=eq_true c16
    have c16b1:decide (0 ≤ a0_2) = true:=decide_eq_true c16
    clear c16
    obtain⟨ji17,hji17⟩:∃ j_:Int,(shl .i64 x7_1 a0_2) = j_:=⟨_,rfl⟩
    replace H:(if 0 ≤ (x6_1.length:Int) then (if (x6_1.length:Int) < (t214.length:Int) then (if x6_1.length < 17592186044416 then (impl_Sparse_read.l0 k1 (x6_1 ++ [Go.bits .or .i64 (ji17) (rd t214 (x6_1.length:Int))]) x7_1 t214 t217 (t217.length:Int) (wrap64 (x20_1 + 1)) a0_0 a0_1 a0_2 a0_3 a0_4 l0_5 a0_6 l0_7) else (none)) else (none)) else (none)) = some (r1,r2):=by first|(rw [hji17] at H;exact H)|(simp only [hji17] at H ⊢;exact H)
    have hji17_:(IntKind.i64.wrap (x7_1 * 2 ^ min a0_2.toNat 64)) = ji17:=hji17
    have hji17z:a0_2 ≤ 64 → (IntKind.i64.wrap (x7_1 * 2 ^ a0_2.toNat)) = ji17:=shl_small hji17
    have hji17y:(wrap64 (x7_1 * 2 ^ min a0_2.toNat 64)) = ji17:=(i64_w _).symm.trans hji17_
    have hji17x:a0_2 ≤ 64 → (wrap64 (x7_1 * 2 ^ a0_2.toNat)) = ji17:=fun h_=>(i64_w _).symm.trans (hji17z h_)
    by_cases c18:0 ≤ (x6_1.length:Int)
    rotate_left
    ·rw [if_neg c18] at H
     exact absurd H (by simp)
    rw [if_pos c18] at H
    have c18b0:decide (0 ≤ (x6_1.length:Int)) = true:=decide_eq_true c18
    have c18b1:decide (0 ≤ x6_1.length) = true:=decide_eq_true (by omega)
    clear c18
    by_cases c19:(x6_1.length:Int) < (t214.length:Int)
    rotate_left
    ·rw [if_neg c19] at H
     exact absurd H (by simp)
    rw [if_pos c19] at H
    have c19b0:decide ((x6_1.length:Int) < (t214.length:Int)) = true:=decide_eq_true c19
    have c19b1:decide (x6_1.length < t214.length) = true:=decide_eq_true (Int.ofNat_lt.mp c19)
    clear c19
    by_cases c20:x6_1.length < 17592186044416
    rotate_left
    ·rw [if_neg c20] at H
     exact absurd H (by simp)
    rw [if_pos c20] at H
    have LMc20:=mk0 c20
    clear c20
    obtain⟨y222,hy222⟩:∃ y_:List Int,y_ = (x6_1 ++ [Go.bits .or .i64 (ji17) (rd t214 (x6_1.length:Int))]):=⟨_,rfl⟩
    replace H:(impl_Sparse_read.l0 k1 y222 x7_1 t214 t217 (t217.length:Int) (wrap64 (x20_1 + 1)) a0_0 a0_1 a0_2 a0_3 a0_4 l0_5 a0_6 l0_7) = some (r1,r2):=by first|(rw [hy222];with_reducible exact H)|(have H2_:=(Option.bind_some _ _).symm.trans H;rw [hy222];with_reducible exact H2_)|(have H2_:=(Option.bind_some _ _).symm.trans H;with_reducible exact H2_)|with_reducible exact H|(rw [hy222];exact H)|exact H
    have Ny222:=mk0 hy222
    clear hy222
    have H':=mk0 H
    clear H
    have p220:0 ≤ (x20_1:Int):=of_decide_eq_true (by first|(with_reducible assumption)|assumption)
    have q220:x20_1 < (t217.length:Int):=of_decide_eq_true (by first|(with_reducible assumption)|assumption)
    obtain⟨ad220,e220,hx220_0⟩:=Kd.at_int (Kd.R_reads' HO_17.out).2.2 x20_1 p220 q220
    cases e220
    replace p220:=eq_true p220
    replace q220:=eq_true q220
    obtain⟨Ao21,co21,eo21⟩:=Kd.R_slice HO_6.out
    subst eo21
    obtain⟨Ao22,co22,eo22⟩:=Kd.R_slice HO_14.out
    subst eo22
    try go_wp2
    replace HO_6:=mk0 (dR HO_6.out)
    replace HO_14:=mk0 (dR HO_14.out)
    replace HO_17:=mk0 (dR HO_17.out)
    replace BK213:=mk0 (dB BK213.out)
    replace HB:=mk0 (dZ HB.out)
    have p221:0 ≤ ((x6_1.length:Int):Int):=of_decide_eq_true (by first|(with_reducible assumption)|assumption)
    have q221:(x6_1.length:Int) < (t214.length:Int):=of_decide_eq_true (by first|(with_reducible assumption)|assumption)
    obtain⟨ad221,e221,hx221_0⟩:=Kd.at_int (Kd.R_reads' HO_14.out).2.2 (x6_1.length:Int) p221 q221
    cases e221
    (try simp only [Go.IntWalk.toNatUp] at hx221_0)
    replace p221:=eq_true p221
    replace q221:=eq_true q221
    refine start_ (n:=15) (S:=fun w'=>w'.cell? ⟨gb213,0,none⟩ = some (.int .i64 a0_0) ∧ w'.cell? ⟨gb213,1,none⟩ = some (.int .i64 a0_1) ∧ w'.cell? ⟨gb213,2,none⟩ = some (.int .i64 a0_2) ∧ w'.cell? ⟨gb213,3,none⟩ = some (.int .i64 a0_3) ∧ w'.cell? ⟨gb213,4,none⟩ = some (.int .i64 a0_4) ∧ w'.cell? ⟨gb213,5,none⟩ = some (.slice A0_5 l0_5.length c0_5) ∧ w'.cell? ⟨gb213,6,none⟩ = some (.int .i64 a0_6) ∧ w'.cell? ⟨gb213,7,none⟩ = some (.slice A0_7 l0_7.length c0_7) ∧ w'.cell? (ad221.add x6_1.length) = some (.int .i64 (rd t214 (x6_1.length:Int)))) (ds:=[12,13]) impl_Sparse_read.m6 (by kernel_rfl) rfl rfl ⟨(blk_cell BK213.out 0).trans rfl,(blk_cell BK213.out 1).trans rfl,(blk_cell BK213.out 2).trans rfl,(blk_cell BK213.out 3).trans rfl,(blk_cell BK213.out 4).trans rfl,(blk_cell BK213.out 5).trans rfl,(blk_cell BK213.out 6).trans rfl,(blk_cell BK213.out 7).trans rfl,hx221_0⟩ (fun hHeld=>?_);refine with_tabW impl_Sparse_read.tab7 impl_Sparse_read.bits7 (fun HT_ HW_=>?_)
    generalize wr.drew = w23 at HO_6 HO_14 HO_17 BK213 HB hx221_0 hHeld ⊢
    refine pure_ (i:=0) (N:=some 24) (v:=?_) (a':=?_) impl_Sparse_read.m7 rfl rfl (any_of HT_.out (by kernel_rfl)) (fun _ _ _ h=>h) (Or.inl ⟨by rfl,?_⟩) ?_ ?_
    rotate_left
    ·intro w'
     go_simp
     with_reducible rfl
    rotate_left
    ·simp only [Act.put,sA,sO,sS,i64_w,i32_w]
     rfl
    refine pure_ (i:=1) (N:=some 25) (v:=?_) (a':=?_) impl_Sparse_read.m8 rfl rfl (any_of HT_.out (by kernel_rfl)) (fun _ _ _ h=>h) (Or.inl ⟨by rfl,?_⟩) ?_ ?_
    rotate_left
    ·intro w'
     go_simp
     with_reducible rfl
    rotate_left
    ·simp only [Act.put,sA,sO,sS,i64_w,i32_w]
     rfl
    refine pure_ (i:=2) (N:=some 26) (v:=?_) (a':=?_) impl_Sparse_read.m9 rfl rfl (any_of HT_.out (by kernel_rfl)) (fun _ _ _ h=>h) (Or.inl ⟨by rfl,?_⟩) ?_ ?_
    rotate_left
    ·intro w'
     go_simp
     with_reducible rfl
    rotate_left
    ·simp only [Act.put,sA,sO,sS,i64_w,i32_w]
     rfl
    refine pure_ (i:=3) (N:=some 27) (v:=?_) (a':=?_) impl_Sparse_read.m10 rfl rfl (any_of HT_.out (by kernel_rfl)) (fun _ _ _ h=>h) (Or.inl ⟨by rfl,?_⟩) ?_ ?_
    rotate_left
    ·intro w'
     go_simp
     with_reducible rfl
    rotate_left
    ·simp only [Act.put,sA,sO,sS,i64_w,i32_w]
     rfl
    refine pure_ (i:=6) (N:=some 30) (v:=?_) (a':=?_) impl_Sparse_read.m11 rfl rfl (any_of HT_.out (by kernel_rfl)) (fun _ _ _ h=>h) (Or.inl ⟨by rfl,?_⟩) ?_ ?_
    rotate_left
    ·intro w'
     go_simp
     with_reducible rfl
    rotate_left
    ·simp only [Act.put,sA,sO,sS,i64_w,i32_w]
     rfl
    refine pure_ (i:=7) (N:=some 31) (v:=?_) (a':=?_) impl_Sparse_read.m12 rfl rfl (any_of HT_.out (by kernel_rfl)) (fun _ _ _ h=>h) (Or.inl ⟨by rfl,?_⟩) ?_ ?_
    rotate_left
    ·intro w'
     go_simp
     with_reducible rfl
    rotate_left
    ·simp only [Act.put,sA,sO,sS,i64_w,i32_w]
     rfl
    refine pure_ (i:=8) (N:=some 32) (v:=?_) (a':=?_) impl_Sparse_read.m13 rfl rfl (any_of HT_.out (by kernel_rfl)) (fun _ _ _ h=>h) (Or.inl ⟨by rfl,?_⟩) ?_ ?_
    rotate_left
    ·intro w'
     go_simp
     with_reducible rfl
    rotate_left
    ·simp only [Act.put,sA,sO,sS,i64_w,i32_w]
     rfl
    refine pure_ (i:=9) (N:=some 33) (v:=?_) (a':=?_) impl_Sparse_read.m14 rfl rfl (any_of HT_.out (by kernel_rfl)) (fun _ _ _ h=>h) (Or.inl ⟨by rfl,?_⟩) ?_ ?_
    rotate_left
    ·intro w'
     go_simp
     with_reducible rfl
    rotate_left
    ·simp only [Act.put,sA,sO,sS,i64_w,i32_w]
     rfl
    refine take_ (i:=4) (N:=some 28) (v:=?_) (a':=?_) impl_Sparse_read.m15 rfl rfl (take_ofW HT_.out HW_.out (by kernel_rfl)) (fun _ _ _ h=>h) (Or.inl ⟨by rfl,?_⟩) hHeld ?_ ?_
    rotate_left
    ·rintro w' ⟨s0,s1,s2,s3,s4,s5,s6,s7,s8⟩
     go_simp
     with_reducible rfl
    rotate_left
    ·simp only [Act.put,sA,sO,sS,i64_w,i32_w]
     rfl
    refine pure_ (i:=5) (N:=some 29) (v:=?_) (a':=?_) impl_Sparse_read.m16 rfl rfl (any_of HT_.out (by kernel_rfl)) (fun _ _ _ h=>h) (Or.inl ⟨by rfl,?_⟩) ?_ ?_
    rotate_left
    ·intro w'
     go_simp
     with_reducible rfl
    rotate_left
    ·simp only [Act.put,sA,sO,sS,i64_w,i32_w]
     rfl
    refine take_ (i:=10) (N:=some 34) (v:=?_) (a':=?_) impl_Sparse_read.m17 rfl rfl (take_ofW HT_.out HW_.out (by kernel_rfl)) (fun _ _ _ h=>h) (Or.inl ⟨by rfl,?_⟩) hHeld ?_ ?_
    rotate_left
    ·rintro w' ⟨s0,s1,s2,s3,s4,s5,s6,s7,s8⟩
     go_simp
     with_reducible rfl
    rotate_left
    ·simp only [Act.put,sA,sO,sS,i64_w,i32_w]
     rfl
    refine pure_ (i:=11) (N:=some 35) (v:=?_) (a':=?_) impl_Sparse_read.m18 rfl rfl (any_of HT_.out (by kernel_rfl)) (fun _ _ _ h=>h) (Or.inl ⟨by rfl,?_⟩) ?_ ?_
    rotate_left
    ·intro w'
     go_simp
     with_reducible rfl
    rotate_left
    ·simp only [Act.put,sA,sO,sS,i64_w,i32_w]
     rfl
    refine last_ (i:=12) (N:=some 36) impl_Sparse_read.m19 rfl rfl (one_of HT_.out (by kernel_rfl)) (by decide) (fun K hK=>?_)
    refine value_ (w1:=?_) (v:=?_) (by rfl) rfl ?_ ?_
    rotate_left 2
    ·go_simp
     constructor
     ·rfl
     ·rfl
    refine hK.out _ _ ?_
    clear hK K
    refine norm_ (a':=?_) ?_ ?_
    rotate_left
    ·show Act.put _ (some 36) _ = _
     simp only [Act.put,sA,sO,sS,i64_w,i32_w]
     rfl
    refine last_ (i:=13) (N:=some 37) impl_Sparse_read.m20 rfl rfl (one_of HT_.out (by kernel_rfl)) (by decide) (fun K hK=>?_)
    refine Kd.R_append_step (Kd.int .i64) (w0:=w) w.heap.size (by rfl) (.tmp 24) (.tmp 36) 24 3 (.int .i64 0) 8 rfl Try.underlying24 info3 rfl (by decide) (by omega) (.slice Ao21 x6_1.length co21) x6_1 (Go.bits .or .i64 (ji17) (rd t214 (x6_1.length:Int))) [.int .i64 (Go.bits .or .i64 (ji17) (rd t214 (x6_1.length:Int)))] (fun k_=>some k_ ≠ (.slice (some ad221) t214.length co22:Value).ownBlock ∧ some k_ ≠ (.slice (some ad220) t217.length co8:Value).ownBlock) (fun _=>False) rfl rfl ?aP (fun _ hk=>hk.elim) ?aF ?aO ?aB ?aS ?aL ?_
    (case aP=>exact rfl)
    (case aB=>exact (kB HB.out))
    (case aF=>exact (fun k_ hk=>⟨Kd.fresh' (Kd.R_lt (rR HO_14.out)) k_ hk,Kd.fresh' (Kd.R_lt (rR HO_17.out)) k_ hk⟩))
    (case aO=>exact (rR HO_6.out))
    (case aS=>exact (kZ HB.out))
    (case aL=>have:=LMc20.out;omega)
    intro v223 w24 ho hb hg hat
    rw [← Ny222.out] at ho
    replace HO_14:=mk0 (Kd.R_after (ok:=(fun k_=>some k_ ≠ (.slice (some ad220) t217.length co8:Value).ownBlock)) (rR (Kd.R_mono HO_14.out (fun _ hk=>⟨hk.2,hk.1⟩))) hg hat)
    replace HO_17:=mk0 (Kd.R_after (ok:=(fun k_=>some k_ ≠ (.slice (some ad221) t214.length co22:Value).ownBlock)) (rR (Kd.R_mono HO_17.out (fun _ hk=>⟨hk.2,hk.1⟩))) hg hat)
    replace BK213:=mk0 (blk_grown (kN BK213.out) hg (Kd.R_ne HO_6.out BK213.out (by decide)))
    replace HB:=mk0 (hb)
    have HO224:=mk0 (ho)
    clear HO_6
    clear ho hb hg hat
    refine hK.out _ _ ?_
    clear hK K
    refine norm_ (a':=?_) ?_ ?_
    rotate_left
    ·show Act.put _ (some 37) _ = _
     simp only [Act.put,sA,sO,sS,i64_w,i32_w]
     rfl
    refine pure_ (i:=14) (N:=some 6) (v:=?_) (a':=?_) impl_Sparse_read.m21 rfl rfl (any_of HT_.out (by kernel_rfl)) (fun _ _ _ h=>h) (Or.inl ⟨by rfl,?_⟩) ?_ ?_
    rotate_left
    ·intro w'
     go_simp
     with_reducible rfl
    rotate_left
    ·simp only [Act.put,sA,sO,sS,i64_w,i32_w]
     rfl
    refine done_ (done_of HT_.out (by kernel_rfl)) ?_
    try go_wp2
    go_roundg k1
    case measure=>have:=HK1.out;omega
    case rel=>exact⟨(y222),(x7_1),(wrap64 (x20_1 + 1)),(by first|rfl|(simp;done)|(simp [*];done)),(by first|rfl|(simp;done)|(simp [*];done)),H',⟨by have:=HK1.out;omega⟩,⟨rR HO224.out⟩,⟨rR (Kd.R_mono HO_14.out (fun _ hk=>⟨hk.2,hk.1⟩))⟩,⟨rR (Kd.R_mono HO_17.out (fun _ hk=>⟨hk.2,hk.1⟩))⟩,⟨kN BK213.out⟩,⟨kB HB.out⟩⟩
   rw [if_neg c9] at H
   have c9b0:decide (x20_1 < (t217.length:Int)) = false:=decide_eq_false c9
   clear c9
   replace H:=Option.bind_eq_some_iff.mp H
   obtain⟨⟨t225,t226,t227,t228,t229,t230,t233,t234,t237⟩,A250,H⟩:=H
   replace H:(if t237 = true then (if t226 = a0_1 then ((impl_samePacked.f k1 t227 t228 t229 t230 a0_2 a0_3 a0_4 l0_5).bind fun t239=>(if t239 = true then ((impl_sameBits.f k1 t233 t234 a0_6 l0_7).bind fun t240=>(some (x6_1,t240))) else (some (x6_1,false)))) else (some (x6_1,false))) else (some (x6_1,false))) = some (r1,r2):=H
   have A25:=mk0 A250
   clear A250
   by_cases c26:t237 = true
   rotate_left
   ·replace c26:=Bool.eq_false_iff.mpr c26
    subst c26
    have H1:(some (x6_1,false)) = some (r1,r2):=by rw [if_neg (show ¬ (false = true) by decide)] at H;exact H
    clear H
    have H:=H1
    clear H1
    simp only [Option.some.injEq,Prod.mk.injEq] at H
    obtain⟨rfl,rfl⟩:=H
    obtain⟨hcz63_0,hcz63_1,hcz63_2,hcz63_3,hcz63_4,hcz63_5,hcz63_6,hcz63_7,hfz63_0,hfz63_1,hfz63_2,hfz63_3,hfz63_4,hfz63_5,hfz63_6,hfz63_7⟩:=cz8 BK213.out
    obtain⟨Ao64,co64,eo64⟩:=Kd.R_slice HO_6.out
    subst eo64
    go_wp2_with (first|((with_reducible refine gate_callee (f:=10) rfl ?_);refine goesL_ (some 54) rfl rfl Try.func10 (by kernel_rfl) rfl #[.slice Ao64 x6_1.length co64,.int .i64 a0_0] rfl (by (try simp only [mA,mC,mN]);first|done|rfl|(simp only [List.length_drop,List.length_take];rfl)) ?_;(with_reducible refine (impl_SparseOf.calls k1 _ _ x6_1 a0_0 t225 t226 t227 t228 t229 t230 t233 t234 false _ ?side1 ?side2 A25.out).mono ?_);(case side1=>exact kC (Kd.R_reads' HO_6.out).2.2);(case side2=>exact (Kd.R_reads' HO_6.out).2.1);rintro e w65 ⟨v231,v235,rfl,ho0,ho1,hb⟩;refine⟨_,rfl,?_⟩;replace HO_6:=mk0 (bR HO_6.out hb);replace HO_14:=mk0 (bR HO_14.out hb);replace HO_17:=mk0 (bR HO_17.out hb);have HO232:=mk0 (Kd.R_lower ho0 (kZ HB.out));have HO236:=mk0 (Kd.R_lower ho1 (kZ HB.out));replace BK213:=mk0 (kK BK213.out hb);replace HB:=mk0 (kS HB.out hb);(try clear hb);(try clear ho0);(try clear ho1))|((with_reducible refine gate_dst (N:=10) rfl ?_);refine box_event ?hg (N:=10) ?hd (cs:=#[.int .i64 0,.int .i64 0,.int .i64 0,.int .i64 0,.int .i64 0,.slice none 0 0,.int .i64 0,.slice none 0 0]) (t:=33) ?hr ?_;(case hd=>rfl);(case hg=>rfl);(case hr=>first|(go_simp;done)|(go_simp;rfl));intro gb238 hg w66 hbox hb;replace HO_6:=mk0 (bR HO_6.out hb);replace HO_14:=mk0 (bR HO_14.out hb);replace HO_17:=mk0 (bR HO_17.out hb);replace HO232:=mk0 (bR HO232.out hb);replace HO236:=mk0 (bR HO236.out hb);have BK238:=mk0 (hbox);have GW238:=mk0 ((by rw [hg];exact (kZ HB.out):w.heap.size ≤ gb238));have GE238:=mk0 ((by rw [hg];exact (kZ HB.out):w.heap.size ≤ gb238));replace HB:=mk0 (kS HB.out hb);have NB213_238:=mk0 ((by rw [hg];exact Nat.ne_of_lt (kL BK213.out):gb213 ≠ gb238));have NB238_213:=mk0 ((by rw [hg];exact Nat.ne_of_gt (kL BK213.out):gb238 ≠ gb213));replace BK213:=mk0 (kK BK213.out hb);clear hb hbox hg;have hnb67:=NB238_213.out;have hnc67:=NB213_238.out;obtain⟨hcz68_0,hcz68_1,hcz68_2,hcz68_3,hcz68_4,hcz68_5,hcz68_6,hcz68_7,hfz68_0,hfz68_1,hfz68_2,hfz68_3,hfz68_4,hfz68_5,hfz68_6,hfz68_7⟩:=cz8 BK238.out;obtain⟨Ao69,co69,eo69⟩:=Kd.R_slice HO232.out;subst eo69;obtain⟨Ao70,co70,eo70⟩:=Kd.R_slice HO236.out;subst eo70))
    go_ret2
    exact⟨_,by first|rfl|(simp [errW_none,errW_some] <;> rfl)|(simp [*,errW_none,errW_some] <;> rfl),by (with_reducible repeat (first|apply aR|apply nR|apply dR));exact Kd.R_mono (Kd.R_far (p:=⟨gb238,7,none⟩) (Kd.R_far (p:=⟨gb238,6,none⟩) (Kd.R_far (p:=⟨gb238,5,none⟩) (Kd.R_far (p:=⟨gb238,4,none⟩) (Kd.R_far (p:=⟨gb238,3,none⟩) (Kd.R_far (p:=⟨gb238,2,none⟩) (Kd.R_far (p:=⟨gb238,1,none⟩) (Kd.R_far (p:=⟨gb238,0,none⟩) (Kd.R_types HO_6.out BK238.out (by decide)) (fun _ hk=>hk.2) (.int .i64 t225)) (fun _ hk=>hk.2) (.int .i64 t226)) (fun _ hk=>hk.2) (.int .i64 t227)) (fun _ hk=>hk.2) (.int .i64 t228)) (fun _ hk=>hk.2) (.int .i64 t229)) (fun _ hk=>hk.2) (.slice Ao69 t230.length co69)) (fun _ hk=>hk.2) (.int .i64 t233)) (fun _ hk=>hk.2) (.slice Ao70 t234.length co70)) (fun _ hk=>trivial),kB HB.out⟩

   subst c26
   have H1:(if t226 = a0_1 then ((impl_samePacked.f k1 t227 t228 t229 t230 a0_2 a0_3 a0_4 l0_5).bind fun t239=>(if t239 = true then ((impl_sameBits.f k1 t233 t234 a0_6 l0_7).bind fun t240=>(some (x6_1,t240))) else (some (x6_1,false)))) else (some (x6_1,false))) = some (r1,r2):=by rw [if_pos rfl] at H;exact H
   clear H
   have H:=H1
   clear H1
   by_cases c27:t226 = a0_1
   rotate_left
   ·rw [if_neg c27] at H
    have c27b0:(t226 == a0_1) = false:=beq_eq_false_iff_ne.mpr c27
    have c27b1:(t226 != a0_1) = true:=bne_iff_ne.mpr c27
    simp only [Option.some.injEq,Prod.mk.injEq] at H
    obtain⟨rfl,rfl⟩:=H
    obtain⟨hcz54_0,hcz54_1,hcz54_2,hcz54_3,hcz54_4,hcz54_5,hcz54_6,hcz54_7,hfz54_0,hfz54_1,hfz54_2,hfz54_3,hfz54_4,hfz54_5,hfz54_6,hfz54_7⟩:=cz8 BK213.out
    obtain⟨Ao55,co55,eo55⟩:=Kd.R_slice HO_6.out
    subst eo55
    go_wp2_with (first|((with_reducible refine gate_callee (f:=10) rfl ?_);refine goesL_ (some 54) rfl rfl Try.func10 (by kernel_rfl) rfl #[.slice Ao55 x6_1.length co55,.int .i64 a0_0] rfl (by (try simp only [mA,mC,mN]);first|done|rfl|(simp only [List.length_drop,List.length_take];rfl)) ?_;(with_reducible refine (impl_SparseOf.calls k1 _ _ x6_1 a0_0 t225 t226 t227 t228 t229 t230 t233 t234 true _ ?side1 ?side2 A25.out).mono ?_);(case side1=>exact kC (Kd.R_reads' HO_6.out).2.2);(case side2=>exact (Kd.R_reads' HO_6.out).2.1);rintro e w56 ⟨v231,v235,rfl,ho0,ho1,hb⟩;refine⟨_,rfl,?_⟩;replace HO_6:=mk0 (bR HO_6.out hb);replace HO_14:=mk0 (bR HO_14.out hb);replace HO_17:=mk0 (bR HO_17.out hb);have HO232:=mk0 (Kd.R_lower ho0 (kZ HB.out));have HO236:=mk0 (Kd.R_lower ho1 (kZ HB.out));replace BK213:=mk0 (kK BK213.out hb);replace HB:=mk0 (kS HB.out hb);(try clear hb);(try clear ho0);(try clear ho1))|((with_reducible refine gate_dst (N:=10) rfl ?_);refine box_event ?hg (N:=10) ?hd (cs:=#[.int .i64 0,.int .i64 0,.int .i64 0,.int .i64 0,.int .i64 0,.slice none 0 0,.int .i64 0,.slice none 0 0]) (t:=33) ?hr ?_;(case hd=>rfl);(case hg=>rfl);(case hr=>first|(go_simp;done)|(go_simp;rfl));intro gb238 hg w57 hbox hb;replace HO_6:=mk0 (bR HO_6.out hb);replace HO_14:=mk0 (bR HO_14.out hb);replace HO_17:=mk0 (bR HO_17.out hb);replace HO232:=mk0 (bR HO232.out hb);replace HO236:=mk0 (bR HO236.out hb);have BK238:=mk0 (hbox);have GW238:=mk0 ((by rw [hg];exact (kZ HB.out):w.heap.size ≤ gb238));have GE238:=mk0 ((by rw [hg];exact (kZ HB.out):w.heap.size ≤ gb238));replace HB:=mk0 (kS HB.out hb);have NB213_238:=mk0 ((by rw [hg];exact Nat.ne_of_lt (kL BK213.out):gb213 ≠ gb238));have NB238_213:=mk0 ((by rw [hg];exact Nat.ne_of_gt (kL BK213.out):gb238 ≠ gb213));replace BK213:=mk0 (kK BK213.out hb);clear hb hbox hg;have hnb58:=NB238_213.out;have hnc58:=NB213_238.out;obtain⟨hcz59_0,hcz59_1,hcz59_2,hcz59_3,hcz59_4,hcz59_5,hcz59_6,hcz59_7,hfz59_0,hfz59_1,hfz59_2,hfz59_3,hfz59_4,hfz59_5,hfz59_6,hfz59_7⟩:=cz8 BK238.out;obtain⟨Ao60,co60,eo60⟩:=Kd.R_slice HO232.out;subst eo60;obtain⟨Ao61,co61,eo61⟩:=Kd.R_slice HO236.out;subst eo61;obtain⟨hcz62_0,hcz62_1,hcz62_2,hcz62_3,hcz62_4,hcz62_5,hcz62_6,hcz62_7,hfz62_0,hfz62_1,hfz62_2,hfz62_3,hfz62_4,hfz62_5,hfz62_6,hfz62_7⟩:=cz8 BK213.out))
    go_ret2
    exact⟨_,by first|rfl|(simp [errW_none,errW_some] <;> rfl)|(simp [*,errW_none,errW_some] <;> rfl),by (with_reducible repeat (first|apply aR|apply nR|apply dR));exact Kd.R_mono (Kd.R_far (p:=⟨gb238,7,none⟩) (Kd.R_far (p:=⟨gb238,6,none⟩) (Kd.R_far (p:=⟨gb238,5,none⟩) (Kd.R_far (p:=⟨gb238,4,none⟩) (Kd.R_far (p:=⟨gb238,3,none⟩) (Kd.R_far (p:=⟨gb238,2,none⟩) (Kd.R_far (p:=⟨gb238,1,none⟩) (Kd.R_far (p:=⟨gb238,0,none⟩) (Kd.R_types HO_6.out BK238.out (by decide)) (fun _ hk=>hk.2) (.int .i64 t225)) (fun _ hk=>hk.2) (.int .i64 t226)) (fun _ hk=>hk.2) (.int .i64 t227)) (fun _ hk=>hk.2) (.int .i64 t228)) (fun _ hk=>hk.2) (.int .i64 t229)) (fun _ hk=>hk.2) (.slice Ao60 t230.length co60)) (fun _ hk=>hk.2) (.int .i64 t233)) (fun _ hk=>hk.2) (.slice Ao61 t234.length co61)) (fun _ hk=>trivial),kB HB.out⟩
   rw [if_pos c27] at H
   have c27b0:(t226 == a0_1) = true:=beq_iff_eq.mpr c27
   have c27b1:(t226 != a0_1) = false:=bne_eq_false_iff_eq.mpr c27
   clear c27
   replace H:=Option.bind_eq_some_iff.mp H
   obtain⟨t239,A280,H⟩:=H
   replace H:(if t239 = true then ((impl_sameBits.f k1 t233 t234 a0_6 l0_7).bind fun t240=>(some (x6_1,t240))) else (some (x6_1,false))) = some (r1,r2):=H
   have A28:=mk0 A280
   clear A280
   by_cases c29:t239 = true
   rotate_left
   ·replace c29:=Bool.eq_false_iff.mpr c29
    subst c29
    have H1:(some (x6_1,false)) = some (r1,r2):=by rw [if_neg (show ¬ (false = true) by decide)] at H;exact H
    clear H
    have H:=H1
    clear H1
    simp only [Option.some.injEq,Prod.mk.injEq] at H
    obtain⟨rfl,rfl⟩:=H
    obtain⟨hcz44_0,hcz44_1,hcz44_2,hcz44_3,hcz44_4,hcz44_5,hcz44_6,hcz44_7,hfz44_0,hfz44_1,hfz44_2,hfz44_3,hfz44_4,hfz44_5,hfz44_6,hfz44_7⟩:=cz8 BK213.out
    obtain⟨Ao45,co45,eo45⟩:=Kd.R_slice HO_6.out
    subst eo45
    go_wp2_with (first|((with_reducible refine gate_callee (f:=10) rfl ?_);refine goesL_ (some 54) rfl rfl Try.func10 (by kernel_rfl) rfl #[.slice Ao45 x6_1.length co45,.int .i64 a0_0] rfl (by (try simp only [mA,mC,mN]);first|done|rfl|(simp only [List.length_drop,List.length_take];rfl)) ?_;(with_reducible refine (impl_SparseOf.calls k1 _ _ x6_1 a0_0 t225 t226 t227 t228 t229 t230 t233 t234 true _ ?side1 ?side2 A25.out).mono ?_);(case side1=>exact kC (Kd.R_reads' HO_6.out).2.2);(case side2=>exact (Kd.R_reads' HO_6.out).2.1);rintro e w46 ⟨v231,v235,rfl,ho0,ho1,hb⟩;refine⟨_,rfl,?_⟩;replace HO_6:=mk0 (bR HO_6.out hb);replace HO_14:=mk0 (bR HO_14.out hb);replace HO_17:=mk0 (bR HO_17.out hb);have HO232:=mk0 (Kd.R_lower ho0 (kZ HB.out));have HO236:=mk0 (Kd.R_lower ho1 (kZ HB.out));replace BK213:=mk0 (kK BK213.out hb);replace HB:=mk0 (kS HB.out hb);(try clear hb);(try clear ho0);(try clear ho1))|((with_reducible refine gate_dst (N:=10) rfl ?_);refine box_event ?hg (N:=10) ?hd (cs:=#[.int .i64 0,.int .i64 0,.int .i64 0,.int .i64 0,.int .i64 0,.slice none 0 0,.int .i64 0,.slice none 0 0]) (t:=33) ?hr ?_;(case hd=>rfl);(case hg=>rfl);(case hr=>first|(go_simp;done)|(go_simp;rfl));intro gb238 hg w47 hbox hb;replace HO_6:=mk0 (bR HO_6.out hb);replace HO_14:=mk0 (bR HO_14.out hb);replace HO_17:=mk0 (bR HO_17.out hb);replace HO232:=mk0 (bR HO232.out hb);replace HO236:=mk0 (bR HO236.out hb);have BK238:=mk0 (hbox);have GW238:=mk0 ((by rw [hg];exact (kZ HB.out):w.heap.size ≤ gb238));have GE238:=mk0 ((by rw [hg];exact (kZ HB.out):w.heap.size ≤ gb238));replace HB:=mk0 (kS HB.out hb);have NB213_238:=mk0 ((by rw [hg];exact Nat.ne_of_lt (kL BK213.out):gb213 ≠ gb238));have NB238_213:=mk0 ((by rw [hg];exact Nat.ne_of_gt (kL BK213.out):gb238 ≠ gb213));replace BK213:=mk0 (kK BK213.out hb);clear hb hbox hg;have hnb48:=NB238_213.out;have hnc48:=NB213_238.out;obtain⟨hcz49_0,hcz49_1,hcz49_2,hcz49_3,hcz49_4,hcz49_5,hcz49_6,hcz49_7,hfz49_0,hfz49_1,hfz49_2,hfz49_3,hfz49_4,hfz49_5,hfz49_6,hfz49_7⟩:=cz8 BK238.out;obtain⟨Ao50,co50,eo50⟩:=Kd.R_slice HO232.out;subst eo50;obtain⟨Ao51,co51,eo51⟩:=Kd.R_slice HO236.out;subst eo51;obtain⟨hcz52_0,hcz52_1,hcz52_2,hcz52_3,hcz52_4,hcz52_5,hcz52_6,hcz52_7,hfz52_0,hfz52_1,hfz52_2,hfz52_3,hfz52_4,hfz52_5,hfz52_6,hfz52_7⟩:=cz8 BK213.out)|(go_at_call 62;(with_reducible refine (impl_samePacked.calls k1 t227 t228 t229 _ _ t230 a0_2 a0_3 a0_4 _ _ l0_5 false _ ?side1 ?side2 ?side3 ?side4 A28.out).mono ?_);(case side1=>refine (Kd.R_reads' (e:=78) (base:=w.heap.size) (ok:=fun k_=>some k_ ≠ (.slice Ao51 t234.length co51:Value).ownBlock) (n:=t230.length) (c:=co50) ?_).2.2;exact (by (with_reducible repeat (first|apply aR|apply nR|apply dR));exact (Kd.R_mono (Kd.R_far (p:=⟨gb238,7,none⟩) (Kd.R_far (p:=⟨gb238,6,none⟩) (Kd.R_far (p:=⟨gb238,5,none⟩) (Kd.R_far (p:=⟨gb238,4,none⟩) (Kd.R_far (p:=⟨gb238,3,none⟩) (Kd.R_far (p:=⟨gb238,2,none⟩) (Kd.R_far (p:=⟨gb238,1,none⟩) (Kd.R_far (p:=⟨gb238,0,none⟩) (Kd.R_types HO232.out BK238.out (by decide)) (fun _ hk=>hk.2) (.int .i64 t225)) (fun _ hk=>hk.2) (.int .i64 t226)) (fun _ hk=>hk.2) (.int .i64 t227)) (fun _ hk=>hk.2) (.int .i64 t228)) (fun _ hk=>hk.2) (.int .i64 t229)) (fun _ hk=>hk.2) (.slice Ao50 t230.length co50)) (fun _ hk=>hk.2) (.int .i64 t233)) (fun _ hk=>hk.2) (.slice Ao51 t234.length co51)) (fun _ h_=>h_.1))));(case side2=>exact (Kd.R_reads' HO232.out).2.1);(case side3=>exact Kd.C_below HR0_5.out (kB HB.out));(case side4=>exact HC0_5.out);rintro e w53 ⟨rfl,hb⟩;replace HO_6:=mk0 (Kd.R_below (by (with_reducible repeat (first|apply aR|apply nR|apply dR));exact (Kd.R_mono (Kd.R_far (p:=⟨gb238,7,none⟩) (Kd.R_far (p:=⟨gb238,6,none⟩) (Kd.R_far (p:=⟨gb238,5,none⟩) (Kd.R_far (p:=⟨gb238,4,none⟩) (Kd.R_far (p:=⟨gb238,3,none⟩) (Kd.R_far (p:=⟨gb238,2,none⟩) (Kd.R_far (p:=⟨gb238,1,none⟩) (Kd.R_far (p:=⟨gb238,0,none⟩) (Kd.R_types HO_6.out BK238.out (by decide)) (fun _ hk=>hk.2) (.int .i64 t225)) (fun _ hk=>hk.2) (.int .i64 t226)) (fun _ hk=>hk.2) (.int .i64 t227)) (fun _ hk=>hk.2) (.int .i64 t228)) (fun _ hk=>hk.2) (.int .i64 t229)) (fun _ hk=>hk.2) (.slice Ao50 t230.length co50)) (fun _ hk=>hk.2) (.int .i64 t233)) (fun _ hk=>hk.2) (.slice Ao51 t234.length co51)) (fun _ h_=>h_.1))) hb);replace HO_14:=mk0 (Kd.R_below (by (with_reducible repeat (first|apply aR|apply nR|apply dR));exact (Kd.R_mono (Kd.R_far (p:=⟨gb238,7,none⟩) (Kd.R_far (p:=⟨gb238,6,none⟩) (Kd.R_far (p:=⟨gb238,5,none⟩) (Kd.R_far (p:=⟨gb238,4,none⟩) (Kd.R_far (p:=⟨gb238,3,none⟩) (Kd.R_far (p:=⟨gb238,2,none⟩) (Kd.R_far (p:=⟨gb238,1,none⟩) (Kd.R_far (p:=⟨gb238,0,none⟩) (Kd.R_types HO_14.out BK238.out (by decide)) (fun _ hk=>hk.2) (.int .i64 t225)) (fun _ hk=>hk.2) (.int .i64 t226)) (fun _ hk=>hk.2) (.int .i64 t227)) (fun _ hk=>hk.2) (.int .i64 t228)) (fun _ hk=>hk.2) (.int .i64 t229)) (fun _ hk=>hk.2) (.slice Ao50 t230.length co50)) (fun _ hk=>hk.2) (.int .i64 t233)) (fun _ hk=>hk.2) (.slice Ao51 t234.length co51)) (fun _ h_=>h_.1))) hb);replace HO_17:=mk0 (Kd.R_below (by (with_reducible repeat (first|apply aR|apply nR|apply dR));exact (Kd.R_mono (Kd.R_far (p:=⟨gb238,7,none⟩) (Kd.R_far (p:=⟨gb238,6,none⟩) (Kd.R_far (p:=⟨gb238,5,none⟩) (Kd.R_far (p:=⟨gb238,4,none⟩) (Kd.R_far (p:=⟨gb238,3,none⟩) (Kd.R_far (p:=⟨gb238,2,none⟩) (Kd.R_far (p:=⟨gb238,1,none⟩) (Kd.R_far (p:=⟨gb238,0,none⟩) (Kd.R_types HO_17.out BK238.out (by decide)) (fun _ hk=>hk.2) (.int .i64 t225)) (fun _ hk=>hk.2) (.int .i64 t226)) (fun _ hk=>hk.2) (.int .i64 t227)) (fun _ hk=>hk.2) (.int .i64 t228)) (fun _ hk=>hk.2) (.int .i64 t229)) (fun _ hk=>hk.2) (.slice Ao50 t230.length co50)) (fun _ hk=>hk.2) (.int .i64 t233)) (fun _ hk=>hk.2) (.slice Ao51 t234.length co51)) (fun _ h_=>h_.1))) hb);replace HO232:=mk0 (Kd.R_below (by (with_reducible repeat (first|apply aR|apply nR|apply dR));exact (Kd.R_mono (Kd.R_far (p:=⟨gb238,7,none⟩) (Kd.R_far (p:=⟨gb238,6,none⟩) (Kd.R_far (p:=⟨gb238,5,none⟩) (Kd.R_far (p:=⟨gb238,4,none⟩) (Kd.R_far (p:=⟨gb238,3,none⟩) (Kd.R_far (p:=⟨gb238,2,none⟩) (Kd.R_far (p:=⟨gb238,1,none⟩) (Kd.R_far (p:=⟨gb238,0,none⟩) (Kd.R_types HO232.out BK238.out (by decide)) (fun _ hk=>hk.2) (.int .i64 t225)) (fun _ hk=>hk.2) (.int .i64 t226)) (fun _ hk=>hk.2) (.int .i64 t227)) (fun _ hk=>hk.2) (.int .i64 t228)) (fun _ hk=>hk.2) (.int .i64 t229)) (fun _ hk=>hk.2) (.slice Ao50 t230.length co50)) (fun _ hk=>hk.2) (.int .i64 t233)) (fun _ hk=>hk.2) (.slice Ao51 t234.length co51)) (fun _ h_=>h_.1))) hb);replace HO236:=mk0 (Kd.R_below (by (with_reducible repeat (first|apply aR|apply nR|apply dR));exact (Kd.R_mono (Kd.R_far (p:=⟨gb238,7,none⟩) (Kd.R_far (p:=⟨gb238,6,none⟩) (Kd.R_far (p:=⟨gb238,5,none⟩) (Kd.R_far (p:=⟨gb238,4,none⟩) (Kd.R_far (p:=⟨gb238,3,none⟩) (Kd.R_far (p:=⟨gb238,2,none⟩) (Kd.R_far (p:=⟨gb238,1,none⟩) (Kd.R_far (p:=⟨gb238,0,none⟩) (Kd.R_types HO236.out BK238.out (by decide)) (fun _ hk=>hk.2) (.int .i64 t225)) (fun _ hk=>hk.2) (.int .i64 t226)) (fun _ hk=>hk.2) (.int .i64 t227)) (fun _ hk=>hk.2) (.int .i64 t228)) (fun _ hk=>hk.2) (.int .i64 t229)) (fun _ hk=>hk.2) (.slice Ao50 t230.length co50)) (fun _ hk=>hk.2) (.int .i64 t233)) (fun _ hk=>hk.2) (.slice Ao51 t234.length co51)) (fun _ h_=>h_.1))) hb);replace BK213:=mk0 (blk_below (g:=gb213) (o:=.cells #[.int .i64 a0_0,.int .i64 a0_1,.int .i64 a0_2,.int .i64 a0_3,.int .i64 a0_4,.slice A0_5 l0_5.length c0_5,.int .i64 a0_6,.slice A0_7 l0_7.length c0_7] 33 (0,0)) (by (with_reducible repeat (first|apply nB|apply dB|apply aB));refine blk_far ?_ NB213_238.out _;(with_reducible repeat (first|apply nB|apply dB|apply aB));refine blk_far ?_ NB213_238.out _;(with_reducible repeat (first|apply nB|apply dB|apply aB));refine blk_far ?_ NB213_238.out _;(with_reducible repeat (first|apply nB|apply dB|apply aB));refine blk_far ?_ NB213_238.out _;(with_reducible repeat (first|apply nB|apply dB|apply aB));refine blk_far ?_ NB213_238.out _;(with_reducible repeat (first|apply nB|apply dB|apply aB));refine blk_far ?_ NB213_238.out _;(with_reducible repeat (first|apply nB|apply dB|apply aB));refine blk_far ?_ NB213_238.out _;(with_reducible repeat (first|apply nB|apply dB|apply aB));refine blk_far ?_ NB213_238.out _;(with_reducible repeat (first|apply nB|apply dB|apply aB));exact BK213.out) hb);replace BK238:=mk0 (blk_below (g:=gb238) (o:=.cells #[.int .i64 t225,.int .i64 t226,.int .i64 t227,.int .i64 t228,.int .i64 t229,.slice Ao50 t230.length co50,.int .i64 t233,.slice Ao51 t234.length co51] 33 (0,0)) (by (with_reducible repeat (first|apply nB|apply dB|apply aB));refine blk_put (cs:=#[.int .i64 t225,.int .i64 t226,.int .i64 t227,.int .i64 t228,.int .i64 t229,.slice Ao50 t230.length co50,.int .i64 t233,.slice none 0 0]) ?_ 7 _ rfl;(with_reducible repeat (first|apply nB|apply dB|apply aB));refine blk_put (cs:=#[.int .i64 t225,.int .i64 t226,.int .i64 t227,.int .i64 t228,.int .i64 t229,.slice Ao50 t230.length co50,.int .i64 0,.slice none 0 0]) ?_ 6 _ rfl;(with_reducible repeat (first|apply nB|apply dB|apply aB));refine blk_put (cs:=#[.int .i64 t225,.int .i64 t226,.int .i64 t227,.int .i64 t228,.int .i64 t229,.slice none 0 0,.int .i64 0,.slice none 0 0]) ?_ 5 _ rfl;(with_reducible repeat (first|apply nB|apply dB|apply aB));refine blk_put (cs:=#[.int .i64 t225,.int .i64 t226,.int .i64 t227,.int .i64 t228,.int .i64 0,.slice none 0 0,.int .i64 0,.slice none 0 0]) ?_ 4 _ rfl;(with_reducible repeat (first|apply nB|apply dB|apply aB));refine blk_put (cs:=#[.int .i64 t225,.int .i64 t226,.int .i64 t227,.int .i64 0,.int .i64 0,.slice none 0 0,.int .i64 0,.slice none 0 0]) ?_ 3 _ rfl;(with_reducible repeat (first|apply nB|apply dB|apply aB));refine blk_put (cs:=#[.int .i64 t225,.int .i64 t226,.int .i64 0,.int .i64 0,.int .i64 0,.slice none 0 0,.int .i64 0,.slice none 0 0]) ?_ 2 _ rfl;(with_reducible repeat (first|apply nB|apply dB|apply aB));refine blk_put (cs:=#[.int .i64 t225,.int .i64 0,.int .i64 0,.int .i64 0,.int .i64 0,.slice none 0 0,.int .i64 0,.slice none 0 0]) ?_ 1 _ rfl;(with_reducible repeat (first|apply nB|apply dB|apply aB));refine blk_put (cs:=#[.int .i64 0,.int .i64 0,.int .i64 0,.int .i64 0,.int .i64 0,.slice none 0 0,.int .i64 0,.slice none 0 0]) ?_ 0 _ rfl;(with_reducible repeat (first|apply nB|apply dB|apply aB));exact BK238.out) hb);replace HB:=mk0 (kS HB.out hb);(try clear hb);(try clear hb2);(try clear hk);(try clear hi)))
    go_ret2
    exact⟨_,by first|rfl|(simp [errW_none,errW_some] <;> rfl)|(simp [*,errW_none,errW_some] <;> rfl),rR (Kd.R_mono HO_6.out (fun _ hk=>trivial)),kB HB.out⟩
   subst c29
   have H1:((impl_sameBits.f k1 t233 t234 a0_6 l0_7).bind fun t240=>(some (x6_1,t240))) = some (r1,r2):=by rw [if_pos rfl] at H;exact H
   clear H
   have H:=H1
   clear H1
   replace H:=Option.bind_eq_some_iff.mp H
   obtain⟨t240,A300,H⟩:=H
   replace H:(some (x6_1,t240)) = some (r1,r2):=H
   have A30:=mk0 A300
   clear A300
   simp only [Option.some.injEq,Prod.mk.injEq] at H
   obtain⟨rfl,rfl⟩:=H
   obtain⟨hcz31_0,hcz31_1,hcz31_2,hcz31_3,hcz31_4,hcz31_5,hcz31_6,hcz31_7,hfz31_0,hfz31_1,hfz31_2,hfz31_3,hfz31_4,hfz31_5,hfz31_6,hfz31_7⟩:=cz8 BK213.out
   obtain⟨Ao32,co32,eo32⟩:=Kd.R_slice HO_6.out
   subst eo32
   go_wp2_with (first|((with_reducible refine gate_callee (f:=10) rfl ?_);refine goesL_ (some 54) rfl rfl Try.func10 (by kernel_rfl) rfl #[.slice Ao32 x6_1.length co32,.int .i64 a0_0] rfl (by (try simp only [mA,mC,mN]);first|done|rfl|(simp only [List.length_drop,List.length_take];rfl)) ?_;(with_reducible refine (impl_SparseOf.calls k1 _ _ x6_1 a0_0 t225 t226 t227 t228 t229 t230 t233 t234 true _ ?side1 ?side2 A25.out).mono ?_);(case side1=>exact kC (Kd.R_reads' HO_6.out).2.2);(case side2=>exact (Kd.R_reads' HO_6.out).2.1);rintro e w33 ⟨v231,v235,rfl,ho0,ho1,hb⟩;refine⟨_,rfl,?_⟩;replace HO_6:=mk0 (bR HO_6.out hb);replace HO_14:=mk0 (bR HO_14.out hb);replace HO_17:=mk0 (bR HO_17.out hb);have HO232:=mk0 (Kd.R_lower ho0 (kZ HB.out));have HO236:=mk0 (Kd.R_lower ho1 (kZ HB.out));replace BK213:=mk0 (kK BK213.out hb);replace HB:=mk0 (kS HB.out hb);(try clear hb);(try clear ho0);(try clear ho1))|((with_reducible refine gate_dst (N:=10) rfl ?_);refine box_event ?hg (N:=10) ?hd (cs:=#[.int .i64 0,.int .i64 0,.int .i64 0,.int .i64 0,.int .i64 0,.slice none 0 0,.int .i64 0,.slice none 0 0]) (t:=33) ?hr ?_;(case hd=>rfl);(case hg=>rfl);(case hr=>first|(go_simp;done)|(go_simp;rfl));intro gb238 hg w34 hbox hb;replace HO_6:=mk0 (bR HO_6.out hb);replace HO_14:=mk0 (bR HO_14.out hb);replace HO_17:=mk0 (bR HO_17.out hb);replace HO232:=mk0 (bR HO232.out hb);replace HO236:=mk0 (bR HO236.out hb);have BK238:=mk0 (hbox);have GW238:=mk0 ((by rw [hg];exact (kZ HB.out):w.heap.size ≤ gb238));have GE238:=mk0 ((by rw [hg];exact (kZ HB.out):w.heap.size ≤ gb238));replace HB:=mk0 (kS HB.out hb);have NB213_238:=mk0 ((by rw [hg];exact Nat.ne_of_lt (kL BK213.out):gb213 ≠ gb238));have NB238_213:=mk0 ((by rw [hg];exact Nat.ne_of_gt (kL BK213.out):gb238 ≠ gb213));replace BK213:=mk0 (kK BK213.out hb);clear hb hbox hg;have hnb35:=NB238_213.out;have hnc35:=NB213_238.out;obtain⟨hcz36_0,hcz36_1,hcz36_2,hcz36_3,hcz36_4,hcz36_5,hcz36_6,hcz36_7,hfz36_0,hfz36_1,hfz36_2,hfz36_3,hfz36_4,hfz36_5,hfz36_6,hfz36_7⟩:=cz8 BK238.out;obtain⟨Ao37,co37,eo37⟩:=Kd.R_slice HO232.out;subst eo37;obtain⟨Ao38,co38,eo38⟩:=Kd.R_slice HO236.out;subst eo38;obtain⟨hcz39_0,hcz39_1,hcz39_2,hcz39_3,hcz39_4,hcz39_5,hcz39_6,hcz39_7,hfz39_0,hfz39_1,hfz39_2,hfz39_3,hfz39_4,hfz39_5,hfz39_6,hfz39_7⟩:=cz8 BK213.out)|(go_at_call 62;(with_reducible refine (impl_samePacked.calls k1 t227 t228 t229 _ _ t230 a0_2 a0_3 a0_4 _ _ l0_5 true _ ?side1 ?side2 ?side3 ?side4 A28.out).mono ?_);(case side1=>refine (Kd.R_reads' (e:=78) (base:=w.heap.size) (ok:=fun k_=>some k_ ≠ (.slice Ao38 t234.length co38:Value).ownBlock) (n:=t230.length) (c:=co37) ?_).2.2;exact (by (with_reducible repeat (first|apply aR|apply nR|apply dR));exact (Kd.R_mono (Kd.R_far (p:=⟨gb238,7,none⟩) (Kd.R_far (p:=⟨gb238,6,none⟩) (Kd.R_far (p:=⟨gb238,5,none⟩) (Kd.R_far (p:=⟨gb238,4,none⟩) (Kd.R_far (p:=⟨gb238,3,none⟩) (Kd.R_far (p:=⟨gb238,2,none⟩) (Kd.R_far (p:=⟨gb238,1,none⟩) (Kd.R_far (p:=⟨gb238,0,none⟩) (Kd.R_types HO232.out BK238.out (by decide)) (fun _ hk=>hk.2) (.int .i64 t225)) (fun _ hk=>hk.2) (.int .i64 t226)) (fun _ hk=>hk.2) (.int .i64 t227)) (fun _ hk=>hk.2) (.int .i64 t228)) (fun _ hk=>hk.2) (.int .i64 t229)) (fun _ hk=>hk.2) (.slice Ao37 t230.length co37)) (fun _ hk=>hk.2) (.int .i64 t233)) (fun _ hk=>hk.2) (.slice Ao38 t234.length co38)) (fun _ h_=>h_.1))));(case side2=>exact (Kd.R_reads' HO232.out).2.1);(case side3=>exact Kd.C_below HR0_5.out (kB HB.out));(case side4=>exact HC0_5.out);rintro e w40 ⟨rfl,hb⟩;replace HO_6:=mk0 (Kd.R_below (by (with_reducible repeat (first|apply aR|apply nR|apply dR));exact (Kd.R_mono (Kd.R_far (p:=⟨gb238,7,none⟩) (Kd.R_far (p:=⟨gb238,6,none⟩) (Kd.R_far (p:=⟨gb238,5,none⟩) (Kd.R_far (p:=⟨gb238,4,none⟩) (Kd.R_far (p:=⟨gb238,3,none⟩) (Kd.R_far (p:=⟨gb238,2,none⟩) (Kd.R_far (p:=⟨gb238,1,none⟩) (Kd.R_far (p:=⟨gb238,0,none⟩) (Kd.R_types HO_6.out BK238.out (by decide)) (fun _ hk=>hk.2) (.int .i64 t225)) (fun _ hk=>hk.2) (.int .i64 t226)) (fun _ hk=>hk.2) (.int .i64 t227)) (fun _ hk=>hk.2) (.int .i64 t228)) (fun _ hk=>hk.2) (.int .i64 t229)) (fun _ hk=>hk.2) (.slice Ao37 t230.length co37)) (fun _ hk=>hk.2) (.int .i64 t233)) (fun _ hk=>hk.2) (.slice Ao38 t234.length co38)) (fun _ h_=>h_.1))) hb);replace HO_14:=mk0 (Kd.R_below (by (with_reducible repeat (first|apply aR|apply nR|apply dR));exact (Kd.R_mono (Kd.R_far (p:=⟨gb238,7,none⟩) (Kd.R_far (p:=⟨gb238,6,none⟩) (Kd.R_far (p:=⟨gb238,5,none⟩) (Kd.R_far (p:=⟨gb238,4,none⟩) (Kd.R_far (p:=⟨gb238,3,none⟩) (Kd.R_far (p:=⟨gb238,2,none⟩) (Kd.R_far (p:=⟨gb238,1,none⟩) (Kd.R_far (p:=⟨gb238,0,none⟩) (Kd.R_types HO_14.out BK238.out (by decide)) (fun _ hk=>hk.2) (.int .i64 t225)) (fun _ hk=>hk.2) (.int .i64 t226)) (fun _ hk=>hk.2) (.int .i64 t227)) (fun _ hk=>hk.2) (.int .i64 t228)) (fun _ hk=>hk.2) (.int .i64 t229)) (fun _ hk=>hk.2) (.slice Ao37 t230.length co37)) (fun _ hk=>hk.2) (.int .i64 t233)) (fun _ hk=>hk.2) (.slice Ao38 t234.length co38)) (fun _ h_=>h_.1))) hb);replace HO_17:=mk0 (Kd.R_below (by (with_reducible repeat (first|apply aR|apply nR|apply dR));exact (Kd.R_mono (Kd.R_far (p:=⟨gb238,7,none⟩) (Kd.R_far (p:=⟨gb238,6,none⟩) (Kd.R_far (p:=⟨gb238,5,none⟩) (Kd.R_far (p:=⟨gb238,4,none⟩) (Kd.R_far (p:=⟨gb238,3,none⟩) (Kd.R_far (p:=⟨gb238,2,none⟩) (Kd.R_far (p:=⟨gb238,1,none⟩) (Kd.R_far (p:=⟨gb238,0,none⟩) (Kd.R_types HO_17.out BK238.out (by decide)) (fun _ hk=>hk.2) (.int .i64 t225)) (fun _ hk=>hk.2) (.int .i64 t226)) (fun _ hk=>hk.2) (.int .i64 t227)) (fun _ hk=>hk.2) (.int .i64 t228)) (fun _ hk=>hk.2) (.int .i64 t229)) (fun _ hk=>hk.2) (.slice Ao37 t230.length co37)) (fun _ hk=>hk.2) (.int .i64 t233)) (fun _ hk=>hk.2) (.slice Ao38 t234.length co38)) (fun _ h_=>h_.1))) hb);replace HO232:=mk0 (Kd.R_below (by (with_reducible repeat (first|apply aR|apply nR|apply dR));exact (Kd.R_mono (Kd.R_far (p:=⟨gb238,7,none⟩) (Kd.R_far (p:=⟨gb238,6,none⟩) (Kd.R_far (p:=⟨gb238,5,none⟩) (Kd.R_far (p:=⟨gb238,4,none⟩) (Kd.R_far (p:=⟨gb238,3,none⟩) (Kd.R_far (p:=⟨gb238,2,none⟩) (Kd.R_far (p:=⟨gb238,1,none⟩) (Kd.R_far (p:=⟨gb238,0,none⟩) (Kd.R_types HO232.out BK238.out (by decide)) (fun _ hk=>hk.2) (.int .i64 t225)) (fun _ hk=>hk.2) (.int .i64 t226)) (fun _ hk=>hk.2) (.int .i64 t227)) (fun _ hk=>hk.2) (.int .i64 t228)) (fun _ hk=>hk.2) (.int .i64 t229)) (fun _ hk=>hk.2) (.slice Ao37 t230.length co37)) (fun _ hk=>hk.2) (.int .i64 t233)) (fun _ hk=>hk.2) (.slice Ao38 t234.length co38)) (fun _ h_=>h_.1))) hb);replace HO236:=mk0 (Kd.R_below (by (with_reducible repeat (first|apply aR|apply nR|apply dR));exact (Kd.R_mono (Kd.R_far (p:=⟨gb238,7,none⟩) (Kd.R_far (p:=⟨gb238,6,none⟩) (Kd.R_far (p:=⟨gb238,5,none⟩) (Kd.R_far (p:=⟨gb238,4,none⟩) (Kd.R_far (p:=⟨gb238,3,none⟩) (Kd.R_far (p:=⟨gb238,2,none⟩) (Kd.R_far (p:=⟨gb238,1,none⟩) (Kd.R_far (p:=⟨gb238,0,none⟩) (Kd.R_types HO236.out BK238.out (by decide)) (fun _ hk=>hk.2) (.int .i64 t225)) (fun _ hk=>hk.2) (.int .i64 t226)) (fun _ hk=>hk.2) (.int .i64 t227)) (fun _ hk=>hk.2) (.int .i64 t228)) (fun _ hk=>hk.2) (.int .i64 t229)) (fun _ hk=>hk.2) (.slice Ao37 t230.length co37)) (fun _ hk=>hk.2) (.int .i64 t233)) (fun _ hk=>hk.2) (.slice Ao38 t234.length co38)) (fun _ h_=>h_.1))) hb);replace BK213:=mk0 (blk_below (g:=gb213) (o:=.cells #[.int .i64 a0_0,.int .i64 a0_1,.int .i64 a0_2,.int .i64 a0_3,.int .i64 a0_4,.slice A0_5 l0_5.length c0_5,.int .i64 a0_6,.slice A0_7 l0_7.length c0_7] 33 (0,0)) (by (with_reducible repeat (first|apply nB|apply dB|apply aB));refine blk_far ?_ NB213_238.out _;(with_reducible repeat (first|apply nB|apply dB|apply aB));refine blk_far ?_ NB213_238.out _;(with_reducible repeat (first|apply nB|apply dB|apply aB));refine blk_far ?_ NB213_238.out _;(with_reducible repeat (first|apply nB|apply dB|apply aB));refine blk_far ?_ NB213_238.out _;(with_reducible repeat (first|apply nB|apply dB|apply aB));refine blk_far ?_ NB213_238.out _;(with_reducible repeat (first|apply nB|apply dB|apply aB));refine blk_far ?_ NB213_238.out _;(with_reducible repeat (first|apply nB|apply dB|apply aB));refine blk_far ?_ NB213_238.out _;(with_reducible repeat (first|apply nB|apply dB|apply aB));refine blk_far ?_ NB213_238.out _;(with_reducible repeat (first|apply nB|apply dB|apply aB));exact BK213.out) hb);replace BK238:=mk0 (blk_below (g:=gb238) (o:=.cells #[.int .i64 t225,.int .i64 t226,.int .i64 t227,.int .i64 t228,.int .i64 t229,.slice Ao37 t230.length co37,.int .i64 t233,.slice Ao38 t234.length co38] 33 (0,0)) (by (with_reducible repeat (first|apply nB|apply dB|apply aB));refine blk_put (cs:=#[.int .i64 t225,.int .i64 t226,.int .i64 t227,.int .i64 t228,.int .i64 t229,.slice Ao37 t230.length co37,.int .i64 t233,.slice none 0 0]) ?_ 7 _ rfl;(with_reducible repeat (first|apply nB|apply dB|apply aB));refine blk_put (cs:=#[.int .i64 t225,.int .i64 t226,.int .i64 t227,.int .i64 t228,.int .i64 t229,.slice Ao37 t230.length co37,.int .i64 0,.slice none 0 0]) ?_ 6 _ rfl;(with_reducible repeat (first|apply nB|apply dB|apply aB));refine blk_put (cs:=#[.int .i64 t225,.int .i64 t226,.int .i64 t227,.int .i64 t228,.int .i64 t229,.slice none 0 0,.int .i64 0,.slice none 0 0]) ?_ 5 _ rfl;(with_reducible repeat (first|apply nB|apply dB|apply aB));refine blk_put (cs:=#[.int .i64 t225,.int .i64 t226,.int .i64 t227,.int .i64 t228,.int .i64 0,.slice none 0 0,.int .i64 0,.slice none 0 0]) ?_ 4 _ rfl;(with_reducible repeat (first|apply nB|apply dB|apply aB));refine blk_put (cs:=#[.int .i64 t225,.int .i64 t226,.int .i64 t227,.int .i64 0,.int .i64 0,.slice none 0 0,.int .i64 0,.slice none 0 0]) ?_ 3 _ rfl;(with_reducible repeat (first|apply nB|apply dB|apply aB));refine blk_put (cs:=#[.int .i64 t225,.int .i64 t226,.int .i64 0,.int .i64 0,.int .i64 0,.slice none 0 0,.int .i64 0,.slice none 0 0]) ?_ 2 _ rfl;(with_reducible repeat (first|apply nB|apply dB|apply aB));refine blk_put (cs:=#[.int .i64 t225,.int .i64 0,.int .i64 0,.int .i64 0,.int .i64 0,.slice none 0 0,.int .i64 0,.slice none 0 0]) ?_ 1 _ rfl;(with_reducible repeat (first|apply nB|apply dB|apply aB));refine blk_put (cs:=#[.int .i64 0,.int .i64 0,.int .i64 0,.int .i64 0,.int .i64 0,.slice none 0 0,.int .i64 0,.slice none 0 0]) ?_ 0 _ rfl;(with_reducible repeat (first|apply nB|apply dB|apply aB));exact BK238.out) hb);replace HB:=mk0 (kS HB.out hb);(try clear hb);(try clear hb2);(try clear hk);(try clear hi);obtain⟨hcz41_0,hcz41_1,hcz41_2,hcz41_3,hcz41_4,hcz41_5,hcz41_6,hcz41_7,hfz41_0,hfz41_1,hfz41_2,hfz41_3,hfz41_4,hfz41_5,hfz41_6,hfz41_7⟩:=cz8 BK238.out;obtain⟨hcz42_0,hcz42_1,hcz42_2,hcz42_3,hcz42_4,hcz42_5,hcz42_6,hcz42_7,hfz42_0,hfz42_1,hfz42_2,hfz42_3,hfz42_4,hfz42_5,hfz42_6,hfz42_7⟩:=cz8 BK213.out)|(go_at_call 63;(with_reducible refine (impl_sameBits.calls k1 t233 _ _ t234 a0_6 _ _ l0_7 t240 _ ?side1 ?side2 ?side3 ?side4 A30.out).mono ?_);(case side1=>exact kC (Kd.R_reads' HO236.out).2.2);(case side2=>exact (Kd.R_reads' HO236.out).2.1);(case side3=>exact kC (Kd.C_below HR0_7.out HB.out));(case side4=>exact HC0_7.out);rintro e w43 ⟨rfl,hb⟩;replace HO_6:=mk0 (bR HO_6.out hb);replace HO_14:=mk0 (bR HO_14.out hb);replace HO_17:=mk0 (bR HO_17.out hb);replace HO232:=mk0 (bR HO232.out hb);replace HO236:=mk0 (bR HO236.out hb);replace BK213:=mk0 (kK BK213.out hb);replace BK238:=mk0 (kK BK238.out hb);replace HB:=mk0 (kS HB.out hb);(try clear hb)))
   go_ret2
   exact⟨_,by first|rfl|(simp [errW_none,errW_some] <;> rfl)|(simp [*,errW_none,errW_some] <;> rfl),rR (Kd.R_mono HO_6.out (fun _ hk=>trivial)),kB HB.out⟩
/-! ### slices_isNaN_int: function 64 -/
def slices_isNaN_int.f (a0 : Int) : Option (Bool) := some (a0 != a0)
set_option maxHeartbeats 8000000 in
set_option maxRecDepth 100000 in
theorem slices_isNaN_int.calls (a0 : Int) (r : Bool) (w : World) (h : slices_isNaN_int.f a0 = some r) :
  Calls Try.prog 64 #[.int .i64 a0] w fun e w' => e = .returned (.bool r) ∧ Drawn0 w w' := by
 have H:(some (a0 != a0)) = some r:=h
 clear h
 obtain rfl:=Option.some.inj H
 go_enter Try.func64,Try.ntmps64
 go_wp2
 go_ret
 exact⟨by first|rfl|(simp;done)|(simp [*];done),by repeat (first|exact Drawn0.refl _|apply Drawn0.step)⟩

/-! ### slices_BinarySearch_int_int: function 39 -/
def slices_BinarySearch_int_int.l0 : Nat → List Int → Int → Int → Int → Int → Option (Int × Bool)
 | 0, _, _, _, _, _ => none
 | k + 1, x0, x1, x6, x7, x8 => if x7 < x8 then (if 0 ≤ (wrap64 ((IntKind.u64.wrap (wrap64 (x7 + x8))) / 2)) then (if (wrap64 ((IntKind.u64.wrap (wrap64 (x7 + x8))) / 2)) < (x0.length : Int) then ((cmp_Less_int.f (rd x0 (wrap64 ((IntKind.u64.wrap (wrap64 (x7 + x8))) / 2))) x1).bind fun t242 => (if t242 = true then (slices_BinarySearch_int_int.l0 k x0 x1 x6 (wrap64 ((wrap64 ((IntKind.u64.wrap (wrap64 (x7 + x8))) / 2)) + 1)) x8) else (slices_BinarySearch_int_int.l0 k x0 x1 x6 x7 (wrap64 ((IntKind.u64.wrap (wrap64 (x7 + x8))) / 2))))) else (none)) else (none)) else (if x7 < x6 then (if 0 ≤ x7 then (if x7 < (x0.length : Int) then (if (rd x0 x7) = x1 then (some (x7, true)) else ((slices_isNaN_int.f (rd x0 x7)).bind fun t245 => (if t245 = true then ((slices_isNaN_int.f x1).bind fun t246 => (some (x7, t246))) else (some (x7, false))))) else (none)) else (none)) else (some (x7, false)))
def slices_BinarySearch_int_int.f (k : Nat) (l0 : List Int) (a1 : Int) : Option (Int × Bool) := slices_BinarySearch_int_int.l0 k l0 a1 (l0.length : Int) 0 (l0.length : Int)
theorem slices_BinarySearch_int_int.mono_l : ∀ k, (∀ y0 y1 y2 y3 y4, LeO (slices_BinarySearch_int_int.l0 k y0 y1 y2 y3 y4) (slices_BinarySearch_int_int.l0 (k + 1) y0 y1 y2 y3 y4))
 | 0 => fun _ _ _ _ _ r h => by simp [slices_BinarySearch_int_int.l0] at h
 | k + 1 => by
  have ih0 := slices_BinarySearch_int_int.mono_l k
  ·intro y0 y1 y2 y3 y4
   unfold slices_BinarySearch_int_int.l0
   repeat' first|(with_reducible first|exact ih0 _ _ _ _ _|exact LeO.refl _|exact LeO.none _|refine LeO.ite ?_ ?_|refine LeO.bind ?_ (fun _ => ?_))|exact LeO.none _|refine LeO.ite ?_ ?_|refine LeO.bind ?_ (fun _ => ?_)
theorem slices_BinarySearch_int_int.mono : ∀ a0 a1 k, LeO (slices_BinarySearch_int_int.f k a0 a1) (slices_BinarySearch_int_int.f (k + 1) a0 a1) := by
 intro a0 a1 k
 have ih0 := slices_BinarySearch_int_int.mono_l k
 unfold slices_BinarySearch_int_int.f
 repeat' first|(with_reducible first|exact ih0 _ _ _ _ _|exact LeO.refl _|exact LeO.none _|refine LeO.ite ?_ ?_|refine LeO.bind ?_ (fun _ => ?_))|exact LeO.none _|refine LeO.ite ?_ ?_|refine LeO.bind ?_ (fun _ => ?_)
set_option maxHeartbeats 8000000 in
set_option maxRecDepth 100000 in
theorem slices_BinarySearch_int_int.calls (k : Nat) (A0 : Option Addr) (c0 : Nat) (l0 : List Int) (a1 : Int) (r1 : Int) (r2 : Bool) (w : World) (hr0 : Kd.C (Kd.int .i64) w A0 l0.length l0) (hc0 : l0.length ≤ c0) (h : slices_BinarySearch_int_int.f k l0 a1 = some (r1, r2)) :
  Calls Try.prog 39 #[.slice A0 l0.length c0, .int .i64 a1] w fun e w' => e = .returned (.tuple #[.int .i64 r1, .bool r2]) ∧ Drawn0 w w' := by
 have HR0:=mk0 hr0
 have HC0:=mk0 hc0
 clear hr0 hc0
 have H:(slices_BinarySearch_int_int.l0 k l0 a1 (l0.length:Int) 0 (l0.length:Int)) = some (r1,r2):=h
 clear h
 have H':=mk0 H
 clear H
 go_enter Try.func39,Try.ntmps39
 go_wp2
 go_loopg [7,8] k (fun kq v7 v8 w'=>∃ (x7_1:Int) (x8_1:Int),v7 = .int .i64 x7_1 ∧ v8 = .int .i64 x8_1 ∧ Aside0 (slices_BinarySearch_int_int.l0 kq l0 a1 (l0.length:Int) x7_1 x8_1 = some (r1,r2)) ∧ Aside0 (kq ≤ k) ∧ Drawn0 w w')
 case atStart=>exact⟨(0),((l0.length:Int)),(by first|rfl|(simp;done)|(simp [*];done)),(by first|rfl|(simp;done)|(simp [*];done)),H',⟨Nat.le_refl _⟩,by repeat (first|exact Drawn0.refl _|apply Drawn0.step)⟩
 case round =>
  clear H'
  try clear p2
  obtain⟨x7_1,x8_1,rfl,rfl,HA,HK1,⟨m1,rfl⟩⟩:=hrel
  cases gk with
  | zero=>exact absurd HA.out (by simp [slices_BinarySearch_int_int.l0])
  | succ k1 =>
   have H:=HA.out
   clear HA
   simp only [slices_BinarySearch_int_int.l0] at H
   by_cases c3:x7_1 < x8_1
   ·rw [if_pos c3] at H
    have c3b0:decide (x7_1 < x8_1) = true:=decide_eq_true c3
    clear c3
    obtain⟨ji4,hji4⟩:∃ j_:Int,(wrap64 ((IntKind.u64.wrap (wrap64 (x7_1 + x8_1))) / 2)) = j_:=⟨_,rfl⟩
    replace H:(if 0 ≤ (ji4) then (if (ji4) < (l0.length:Int) then ((cmp_Less_int.f (rd l0 (ji4)) a1).bind fun t242=>(if t242 = true then (slices_BinarySearch_int_int.l0 k1 l0 a1 (l0.length:Int) (wrap64 ((ji4) + 1)) x8_1) else (slices_BinarySearch_int_int.l0 k1 l0 a1 (l0.length:Int) x7_1 ji4))) else (none)) else (none)) = some (r1,r2):=by first|(rw [hji4] at H;exact H)|(simp only [hji4] at H ⊢;exact H)
    have hji4w:(IntKind.i64.wrap ((IntKind.u64.wrap (wrap64 (x7_1 + x8_1))) / 2)) = ji4:=(i64_w _).trans hji4
    by_cases c5:0 ≤ (ji4)
    ·rw [if_pos c5] at H
     have c5b0:decide (0 ≤ (ji4)) = true:=decide_eq_true c5
     clear c5
     by_cases c6:(ji4) < (l0.length:Int)
     ·rw [if_pos c6] at H
      have c6b0:decide ((ji4) < (l0.length:Int)) = true:=decide_eq_true c6
      clear c6
      replace H:=Option.bind_eq_some_iff.mp H
      obtain⟨t242,A70,H⟩:=H
      replace H:(if t242 = true then (slices_BinarySearch_int_int.l0 k1 l0 a1 (l0.length:Int) (wrap64 ((ji4) + 1)) x8_1) else (slices_BinarySearch_int_int.l0 k1 l0 a1 (l0.length:Int) x7_1 ji4)) = some (r1,r2):=H
      have A7:=mk0 A70
      clear A70
      by_cases c8:t242 = true
      ·subst c8
       have H1:(slices_BinarySearch_int_int.l0 k1 l0 a1 (l0.length:Int) (wrap64 ((ji4) + 1)) x8_1) = some (r1,r2):=by rw [if_pos rfl] at H;exact H
       clear H
       have H:=H1
       clear H1
       have H':=mk0 H
       clear H
       have p241:0 ≤ ((ji4):Int):=of_decide_eq_true (by first|(with_reducible assumption)|assumption)
       have q241:(ji4) < (l0.length:Int):=of_decide_eq_true (by first|(with_reducible assumption)|assumption)
       obtain⟨ad241,e241,hx241_0⟩:=Kd.at_int HR0.out (ji4) p241 q241
       cases e241
       replace p241:=eq_true p241
       replace q241:=eq_true q241
       go_wp2_with (first|((with_reducible refine gate_callee (f:=54) rfl ?_);refine goesL_ (some 27) rfl rfl Try.func54 (by kernel_rfl) rfl #[.int .i64 (rd l0 (ji4)),.int .i64 a1] rfl (by (try simp only [mA,mC,mN]);first|done|(simp only [hji4];rfl)|rfl|(simp only [List.length_drop,List.length_take];rfl)) ?_;(with_reducible refine (cmp_Less_int.calls (rd l0 (ji4)) a1 true _ A7.out).mono ?_);rintro e w' ⟨rfl,⟨nd,rfl⟩⟩;refine⟨_,rfl,?_⟩))
       go_roundg k1
       case measure=>have:=HK1.out;omega
       case rel=>exact⟨(wrap64 ((ji4) + 1)),(x8_1),(by first|rfl|(simp;done)|(simp only [← hji4] <;> (first|rfl|simp))|(simp [*];done)),(by first|rfl|(simp;done)|(simp [*];done)),H',⟨by have:=HK1.out;omega⟩,by repeat (first|exact Drawn0.refl _|apply Drawn0.step)⟩
      ·replace c8:=Bool.eq_false_iff.mpr c8
       subst c8
       have H1:(slices_BinarySearch_int_int.l0 k1 l0 a1 (l0.length:Int) x7_1 ji4) = some (r1,r2):=by rw [if_neg (show ¬ (false = true) by decide)] at H;exact H
       clear H
       have H:=H1
       clear H1
       have H':=mk0 H
       clear H
       have p241:0 ≤ ((ji4):Int):=of_decide_eq_true (by first|(with_reducible assumption)|assumption)
       have q241:(ji4) < (l0.length:Int):=of_decide_eq_true (by first|(with_reducible assumption)|assumption)
       obtain⟨ad241,e241,hx241_0⟩:=Kd.at_int HR0.out (ji4) p241 q241
       cases e241
       replace p241:=eq_true p241
       replace q241:=eq_true q241
       go_wp2_with (first|((with_reducible refine gate_callee (f:=54) rfl ?_);refine goesL_ (some 27) rfl rfl Try.func54 (by kernel_rfl) rfl #[.int .i64 (rd l0 (ji4)),.int .i64 a1] rfl (by (try simp only [mA,mC,mN]);first|done|(simp only [hji4];rfl)|rfl|(simp only [List.length_drop,List.length_take];rfl)) ?_;(with_reducible refine (cmp_Less_int.calls (rd l0 (ji4)) a1 false _ A7.out).mono ?_);rintro e w' ⟨rfl,⟨nd,rfl⟩⟩;refine⟨_,rfl,?_⟩))
       go_roundg k1
       case measure=>have:=HK1.out;omega
       case rel=>exact⟨(x7_1),(ji4),(by first|rfl|(simp;done)|(simp [*];done)),(by first|rfl|(simp;done)|(simp only [← hji4] <;> (first|rfl|simp))|(simp [*];done)),H',⟨by have:=HK1.out;omega⟩,by repeat (first|exact Drawn0.refl _|apply Drawn0.step)⟩
     ·rw [if_neg c6] at H
      exact absurd H (by simp)
    ·rw [if_neg c5] at H
     exact absurd H (by simp)
   ·rw [if_neg c3] at H
    have c3b0:decide (x7_1 < x8_1) = false:=decide_eq_false c3
    clear c3
    by_cases c9:x7_1 < (l0.length:Int)
    ·rw [if_pos c9] at H
     have c9b0:decide (x7_1 < (l0.length:Int)) = true:=decide_eq_true c9
     clear c9
     by_cases c10:0 ≤ x7_1
     ·rw [if_pos c10] at H
      have c10b0:decide (0 ≤ x7_1) = true:=decide_eq_true c10
      clear c10
      by_cases c11:x7_1 < (l0.length:Int)
      ·rw [if_pos c11] at H
       have c11b0:decide (x7_1 < (l0.length:Int)) = true:=decide_eq_true c11
       clear c11
       by_cases c12:(rd l0 x7_1) = a1
       ·rw [if_pos c12] at H
        have c12b0:((rd l0 x7_1) == a1) = true:=beq_iff_eq.mpr c12
        have c12b1:((rd l0 x7_1) != a1) = false:=bne_eq_false_iff_eq.mpr c12
        clear c12
        simp only [Option.some.injEq,Prod.mk.injEq] at H
        obtain⟨rfl,rfl⟩:=H
        have p243:0 ≤ (x7_1:Int):=of_decide_eq_true (by first|(with_reducible assumption)|assumption)
        have q243:x7_1 < (l0.length:Int):=of_decide_eq_true (by first|(with_reducible assumption)|assumption)
        obtain⟨ad243,e243,hx243_0⟩:=Kd.at_int HR0.out x7_1 p243 q243
        cases e243
        replace p243:=eq_true p243
        replace q243:=eq_true q243
        go_wp2
        go_ret2
        exact⟨by first|rfl|(simp;done)|(simp [*];done),by repeat (first|exact Drawn0.refl _|apply Drawn0.step)⟩
       ·rw [if_neg c12] at H
        have c12b0:((rd l0 x7_1) == a1) = false:=beq_eq_false_iff_ne.mpr c12
        have c12b1:((rd l0 x7_1) != a1) = true:=bne_iff_ne.mpr c12
        replace H:=Option.bind_eq_some_iff.mp H
        obtain⟨t245,A130,H⟩:=H
        replace H:(if t245 = true then ((slices_isNaN_int.f a1).bind fun t246=>(some (x7_1,t246))) else (some (x7_1,false))) = some (r1,r2):=H
        have A13:=mk0 A130
        clear A130
        by_cases c14:t245 = true
        ·subst c14
         have H1:((slices_isNaN_int.f a1).bind fun t246=>(some (x7_1,t246))) = some (r1,r2):=by rw [if_pos rfl] at H;exact H
         clear H
         have H:=H1
         clear H1
         replace H:=Option.bind_eq_some_iff.mp H
         obtain⟨t246,A150,H⟩:=H
         replace H:(some (x7_1,t246)) = some (r1,r2):=H
         have A15:=mk0 A150
         clear A150
         simp only [Option.some.injEq,Prod.mk.injEq] at H
         obtain⟨rfl,rfl⟩:=H
         have p243:0 ≤ (x7_1:Int):=of_decide_eq_true (by first|(with_reducible assumption)|assumption)
         have q243:x7_1 < (l0.length:Int):=of_decide_eq_true (by first|(with_reducible assumption)|assumption)
         obtain⟨ad243,e243,hx243_0⟩:=Kd.at_int HR0.out x7_1 p243 q243
         cases e243
         replace p243:=eq_true p243
         replace q243:=eq_true q243
         have p244:0 ≤ (x7_1:Int):=of_decide_eq_true (by first|(with_reducible assumption)|assumption)
         have q244:x7_1 < (l0.length:Int):=of_decide_eq_true (by first|(with_reducible assumption)|assumption)
         obtain⟨ad244,e244,hx244_0⟩:=Kd.at_int HR0.out x7_1 p244 q244
         obtain rfl:ad243 = ad244:=(by injection e244)
         replace p244:=eq_true p244
         replace q244:=eq_true q244
         go_wp2_with (first|(go_at_call 64;(with_reducible refine (slices_isNaN_int.calls (rd l0 x7_1) true _ A13.out).mono ?_);rintro e w' ⟨rfl,⟨nd,rfl⟩⟩)|(go_at_call 64;(with_reducible refine (slices_isNaN_int.calls a1 t246 _ A15.out).mono ?_);rintro e w' ⟨rfl,⟨nd,rfl⟩⟩))
         go_ret2
         exact⟨by first|rfl|(simp;done)|(simp [*];done),by repeat (first|exact Drawn0.refl _|apply Drawn0.step)⟩
        ·replace c14:=Bool.eq_false_iff.mpr c14
         subst c14
         have H1:(some (x7_1,false)) = some (r1,r2):=by rw [if_neg (show ¬ (false = true) by decide)] at H;exact H
         clear H
         have H:=H1
         clear H1
         simp only [Option.some.injEq,Prod.mk.injEq] at H
         obtain⟨rfl,rfl⟩:=H
         have p243:0 ≤ (x7_1:Int):=of_decide_eq_true (by first|(with_reducible assumption)|assumption)
         have q243:x7_1 < (l0.length:Int):=of_decide_eq_true (by first|(with_reducible assumption)|assumption)
         obtain⟨ad243,e243,hx243_0⟩:=Kd.at_int HR0.out x7_1 p243 q243
         cases e243
         replace p243:=eq_true p243
         replace q243:=eq_true q243
         have p244:0 ≤ (x7_1:Int):=of_decide_eq_true (by first|(with_reducible assumption)|assumption)
         have q244:x7_1 < (l0.length:Int):=of_decide_eq_true (by first|(with_reducible assumption)|assumption)
         obtain⟨ad244,e244,hx244_0⟩:=Kd.at_int HR0.out x7_1 p244 q244
         obtain rfl:ad243 = ad244:=(by injection e244)
         replace p244:=eq_true p244
         replace q244:=eq_true q244
         go_wp2_with (first|(go_at_call 64;(with_reducible refine (slices_isNaN_int.calls (rd l0 x7_1) false _ A13.out).mono ?_);rintro e w' ⟨rfl,⟨nd,rfl⟩⟩))
         go_ret2
         exact⟨by first|rfl|(simp;done)|(simp [*];done),by repeat (first|exact Drawn0.refl _|apply Drawn0.step)⟩
      ·rw [if_neg c11] at H
       exact absurd H (by simp)
     ·rw [if_neg c10] at H
      exact absurd H (by simp)
    ·rw [if_neg c9] at H
     have c9b0:decide (x7_1 < (l0.length:Int)) = false:=decide_eq_false c9
     clear c9
     simp only [Option.some.injEq,Prod.mk.injEq] at H
     obtain⟨rfl,rfl⟩:=H
     go_wp2
     go_ret2
     exact⟨by first|rfl|(simp;done)|(simp [*];done),by repeat (first|exact Drawn0.refl _|apply Drawn0.step)⟩

/-! ### impl_SparseRank: function 14 -/
def impl_SparseRank.f (k : Nat) (a0_0 : Int) (a0_1 : Int) (a0_2 : Int) (a0_3 : Int) (a0_4 : Int) (l0_5 : List Int) (a0_6 : Int) (l0_7 : List Int) (a1 : Int) : Option (Int) := (impl_Sparse_read.f k a0_0 a0_1 a0_2 a0_3 a0_4 l0_5 a0_6 l0_7).bind fun bt248 => (if bt248.2 = true then ((slices_BinarySearch_int_int.f k bt248.1 a1).bind fun bt252 => (some bt252.1)) else (some (-1)))
theorem impl_SparseRank.mono : ∀ a0 a1 a2 a3 a4 a5 a6 a7 a8 k, LeO (impl_SparseRank.f k a0 a1 a2 a3 a4 a5 a6 a7 a8) (impl_SparseRank.f (k + 1) a0 a1 a2 a3 a4 a5 a6 a7 a8) := by
 intro a0 a1 a2 a3 a4 a5 a6 a7 a8 k
 unfold impl_SparseRank.f
 repeat' first|(with_reducible first|exact impl_Sparse_read.mono _ _ _ _ _ _ _ _ _|exact slices_BinarySearch_int_int.mono _ _ _|exact LeO.refl _|exact LeO.none _|refine LeO.ite ?_ ?_|refine LeO.bind ?_ (fun _ => ?_))|exact LeO.none _|refine LeO.ite ?_ ?_|refine LeO.bind ?_ (fun _ => ?_)
set_option maxHeartbeats 8000000 in
set_option maxRecDepth 100000 in
theorem impl_SparseRank.calls (k : Nat) (a0_0 : Int) (a0_1 : Int) (a0_2 : Int) (a0_3 : Int) (a0_4 : Int) (A0_5 : Option Addr) (c0_5 : Nat) (l0_5 : List Int) (a0_6 : Int) (A0_7 : Option Addr) (c0_7 : Nat) (l0_7 : List Int) (a1 : Int) (r : Int) (w : World) (hr0_5 : Kd.C (Kd.int .u64) w A0_5 l0_5.length l0_5) (hc0_5 : l0_5.length ≤ c0_5) (hr0_7 : Kd.C (Kd.int .u64) w A0_7 l0_7.length l0_7) (hc0_7 : l0_7.length ≤ c0_7) (h : impl_SparseRank.f k a0_0 a0_1 a0_2 a0_3 a0_4 l0_5 a0_6 l0_7 a1 = some r) :
  Calls Try.prog 14 #[.agg #[.int .i64 a0_0, .int .i64 a0_1, .int .i64 a0_2, .int .i64 a0_3, .int .i64 a0_4, .slice A0_5 l0_5.length c0_5, .int .i64 a0_6, .slice A0_7 l0_7.length c0_7], .int .i64 a1] w fun e w' => e = .returned (.int .i64 r) ∧ Below w.heap.size w w' := by
 have hu33:=Try.underlying33
 have HR0_5:=mk0 hr0_5
 have HC0_5:=mk0 hc0_5
 clear hr0_5 hc0_5
 have HR0_7:=mk0 hr0_7
 have HC0_7:=mk0 hc0_7
 clear hr0_7 hc0_7
 have HB:=mk0 (Below.refl w.heap.size w)
 have H:((impl_Sparse_read.f k a0_0 a0_1 a0_2 a0_3 a0_4 l0_5 a0_6 l0_7).bind fun bt248=>(if bt248.2 = true then ((slices_BinarySearch_int_int.f k bt248.1 a1).bind fun bt252=>(some bt252.1)) else (some (-1)))) = some r:=h
 clear h
 replace H:=Option.bind_eq_some_iff.mp H
 obtain⟨⟨t248,t251⟩,A30,H⟩:=H
 replace H:(if t251 = true then ((slices_BinarySearch_int_int.f k t248 a1).bind fun bt252=>(some bt252.1)) else (some (-1))) = some r:=H
 have A3:=mk0 A30
 clear A30
 by_cases c4:t251 = true
 ·subst c4
  have H1:((slices_BinarySearch_int_int.f k t248 a1).bind fun bt252=>(some bt252.1)) = some r:=by rw [if_pos rfl] at H;exact H
  clear H
  have H:=H1
  clear H1
  replace H:=Option.bind_eq_some_iff.mp H
  obtain⟨⟨t252,t253⟩,A50,H⟩:=H
  replace H:(some t252) = some r:=H
  have A5:=mk0 A50
  clear A50
  obtain rfl:=Option.some.inj H
  go_enter Try.func14,Try.ntmps14
  go_wp2_with (first|((with_reducible refine gate_dst (N:=2) rfl ?_);refine box_event ?hg (N:=2) ?hd (cs:=#[.int .i64 a0_0,.int .i64 a0_1,.int .i64 a0_2,.int .i64 a0_3,.int .i64 a0_4,.slice A0_5 l0_5.length c0_5,.int .i64 a0_6,.slice A0_7 l0_7.length c0_7]) (t:=33) ?hr ?_;(case hd=>rfl);(case hg=>rfl);(case hr=>first|(go_simp;done)|(go_simp;rfl));intro gb247 hg w6 hbox hb;have BK247:=mk0 (hbox);have GW247:=mk0 ((by rw [hg];exact (kZ HB.out):w.heap.size ≤ gb247));have GE247:=mk0 ((by rw [hg];exact (kZ HB.out):w.heap.size ≤ gb247));replace HB:=mk0 (kS HB.out hb);clear hb hbox hg;obtain⟨hcz7_0,hcz7_1,hcz7_2,hcz7_3,hcz7_4,hcz7_5,hcz7_6,hcz7_7,hfz7_0,hfz7_1,hfz7_2,hfz7_3,hfz7_4,hfz7_5,hfz7_6,hfz7_7⟩:=cz8 BK247.out)|((with_reducible refine gate_callee (f:=38) rfl ?_);refine goesL_ (some 11) rfl rfl Try.func38 (by kernel_rfl) rfl #[.agg #[.int .i64 a0_0,.int .i64 a0_1,.int .i64 a0_2,.int .i64 a0_3,.int .i64 a0_4,.slice A0_5 l0_5.length c0_5,.int .i64 a0_6,.slice A0_7 l0_7.length c0_7]] rfl (by (try simp only [mA,mC,mN]);first|done|rfl|(simp only [List.length_drop,List.length_take];rfl)) ?_;(with_reducible refine (impl_Sparse_read.calls k a0_0 a0_1 a0_2 a0_3 a0_4 _ _ l0_5 a0_6 _ _ l0_7 t248 true _ ?side1 ?side2 ?side3 ?side4 A3.out).mono ?_);(case side1=>exact kC (Kd.C_below HR0_5.out HB.out));(case side2=>exact HC0_5.out);(case side3=>exact kC (Kd.C_below HR0_7.out HB.out));(case side4=>exact HC0_7.out);rintro e w8 ⟨v249,rfl,ho0,hb⟩;refine⟨_,rfl,?_⟩;have HO250:=mk0 (Kd.R_lower ho0 (kZ HB.out));replace BK247:=mk0 (kK BK247.out hb);replace HB:=mk0 (kS HB.out hb);(try clear hb);(try clear ho0);obtain⟨Ao9,co9,eo9⟩:=Kd.R_slice HO250.out;subst eo9)|((with_reducible refine gate_callee (f:=39) rfl ?_);refine goesL_ (some 19) rfl rfl Try.func39 (by kernel_rfl) rfl #[.slice Ao9 t248.length co9,.int .i64 a1] rfl (by (try simp only [mA,mC,mN]);first|done|rfl|(simp only [List.length_drop,List.length_take];rfl)) ?_;(with_reducible refine (slices_BinarySearch_int_int.calls k _ _ t248 a1 t252 t253 _ ?side1 ?side2 A5.out).mono ?_);(case side1=>exact kC (Kd.R_reads' HO250.out).2.2);(case side2=>exact (Kd.R_reads' HO250.out).2.1);rintro e w' ⟨rfl,⟨nd,rfl⟩⟩;refine⟨_,rfl,?_⟩))
  go_ret
  exact⟨by first|rfl|(simp [errW_none,errW_some] <;> rfl)|(simp [*,errW_none,errW_some] <;> rfl),kB HB.out⟩
 ·replace c4:=Bool.eq_false_iff.mpr c4
  subst c4
  have H1:(some (-1)) = some r:=by rw [if_neg (show ¬ (false = true) by decide)] at H;exact H
  clear H
  have H:=H1
  clear H1
  obtain rfl:=Option.some.inj H
  go_enter Try.func14,Try.ntmps14
  go_wp2_with (first|((with_reducible refine gate_dst (N:=2) rfl ?_);refine box_event ?hg (N:=2) ?hd (cs:=#[.int .i64 a0_0,.int .i64 a0_1,.int .i64 a0_2,.int .i64 a0_3,.int .i64 a0_4,.slice A0_5 l0_5.length c0_5,.int .i64 a0_6,.slice A0_7 l0_7.length c0_7]) (t:=33) ?hr ?_;(case hd=>rfl);(case hg=>rfl);(case hr=>first|(go_simp;done)|(go_simp;rfl));intro gb247 hg w10 hbox hb;have BK247:=mk0 (hbox);have GW247:=mk0 ((by rw [hg];exact (kZ HB.out):w.heap.size ≤ gb247));have GE247:=mk0 ((by rw [hg];exact (kZ HB.out):w.heap.size ≤ gb247));replace HB:=mk0 (kS HB.out hb);clear hb hbox hg;obtain⟨hcz11_0,hcz11_1,hcz11_2,hcz11_3,hcz11_4,hcz11_5,hcz11_6,hcz11_7,hfz11_0,hfz11_1,hfz11_2,hfz11_3,hfz11_4,hfz11_5,hfz11_6,hfz11_7⟩:=cz8 BK247.out)|((with_reducible refine gate_callee (f:=38) rfl ?_);refine goesL_ (some 11) rfl rfl Try.func38 (by kernel_rfl) rfl #[.agg #[.int .i64 a0_0,.int .i64 a0_1,.int .i64 a0_2,.int .i64 a0_3,.int .i64 a0_4,.slice A0_5 l0_5.length c0_5,.int .i64 a0_6,.slice A0_7 l0_7.length c0_7]] rfl (by (try simp only [mA,mC,mN]);first|done|rfl|(simp only [List.length_drop,List.length_take];rfl)) ?_;(with_reducible refine (impl_Sparse_read.calls k a0_0 a0_1 a0_2 a0_3 a0_4 _ _ l0_5 a0_6 _ _ l0_7 t248 false _ ?side1 ?side2 ?side3 ?side4 A3.out).mono ?_);(case side1=>exact kC (Kd.C_below HR0_5.out HB.out));(case side2=>exact HC0_5.out);(case side3=>exact kC (Kd.C_below HR0_7.out HB.out));(case side4=>exact HC0_7.out);rintro e w12 ⟨v249,rfl,ho0,hb⟩;refine⟨_,rfl,?_⟩;have HO250:=mk0 (Kd.R_lower ho0 (kZ HB.out));replace BK247:=mk0 (kK BK247.out hb);replace HB:=mk0 (kS HB.out hb);(try clear hb);(try clear ho0)))
  go_ret
  exact⟨by first|rfl|(simp [errW_none,errW_some] <;> rfl)|(simp [*,errW_none,errW_some] <;> rfl),kB HB.out⟩

/-! ### laws_szUint64S: function 66 -/
def laws_szUint64S.f (l0 : List Int) (a1 : Int) : Option (Int) := if (wrap64 (a1 - (l0.length : Int))) < 0 then (some (-1)) else (some (wrap64 (a1 - (l0.length : Int))))
set_option maxHeartbeats 8000000 in
set_option maxRecDepth 100000 in
theorem laws_szUint64S.calls (A0 : Option Addr) (c0 : Nat) (l0 : List Int) (a1 : Int) (r : Int) (w : World) (hr0 : Kd.C (Kd.int .u64) w A0 l0.length l0) (hc0 : l0.length ≤ c0) (h : laws_szUint64S.f l0 a1 = some r) :
  Calls Try.prog 66 #[.slice A0 l0.length c0, .int .i64 a1] w fun e w' => e = .returned (.int .i64 r) ∧ Drawn0 w w' := by
 have HR0:=mk0 hr0
 have HC0:=mk0 hc0
 clear hr0 hc0
 have H:(if (wrap64 (a1 - (l0.length:Int))) < 0 then (some (-1)) else (some (wrap64 (a1 - (l0.length:Int))))) = some r:=h
 clear h
 by_cases c3:(wrap64 (a1 - (l0.length:Int))) < 0
 ·rw [if_pos c3] at H
  have c3b0:decide ((wrap64 (a1 - (l0.length:Int))) < 0) = true:=decide_eq_true c3
  clear c3
  obtain rfl:=Option.some.inj H
  go_enter Try.func66,Try.ntmps66
  go_wp2
  go_ret
  exact⟨by first|rfl|(simp;done)|(simp [*];done),by repeat (first|exact Drawn0.refl _|apply Drawn0.step)⟩
 ·rw [if_neg c3] at H
  have c3b0:decide ((wrap64 (a1 - (l0.length:Int))) < 0) = false:=decide_eq_false c3
  clear c3
  obtain rfl:=Option.some.inj H
  go_enter Try.func66,Try.ntmps66
  go_wp2
  go_ret
  exact⟨by first|rfl|(simp;done)|(simp [*];done),by repeat (first|exact Drawn0.refl _|apply Drawn0.step)⟩

/-! ### laws_szBits: function 42 -/
def laws_szBits.f (a0_0 : Int) (l0_1 : List Int) (a1 : Int) : Option (Int) := (laws_szUint64S.f l0_1 a1).bind fun t255 => (if t255 < 0 then (some (-1)) else (some t255))
set_option maxHeartbeats 8000000 in
set_option maxRecDepth 100000 in
theorem laws_szBits.calls (a0_0 : Int) (A0_1 : Option Addr) (c0_1 : Nat) (l0_1 : List Int) (a1 : Int) (r : Int) (w : World) (hr0_1 : Kd.C (Kd.int .u64) w A0_1 l0_1.length l0_1) (hc0_1 : l0_1.length ≤ c0_1) (h : laws_szBits.f a0_0 l0_1 a1 = some r) :
  Calls Try.prog 42 #[.agg #[.int .i64 a0_0, .slice A0_1 l0_1.length c0_1], .int .i64 a1] w fun e w' => e = .returned (.int .i64 r) ∧ Below w.heap.size w w' := by
 have hu41:=Try.underlying41
 have HR0_1:=mk0 hr0_1
 have HC0_1:=mk0 hc0_1
 clear hr0_1 hc0_1
 have HB:=mk0 (Below.refl w.heap.size w)
 have H:((laws_szUint64S.f l0_1 a1).bind fun t255=>(if t255 < 0 then (some (-1)) else (some t255))) = some r:=h
 clear h
 replace H:=Option.bind_eq_some_iff.mp H
 obtain⟨t255,A30,H⟩:=H
 replace H:(if t255 < 0 then (some (-1)) else (some t255)) = some r:=H
 have A3:=mk0 A30
 clear A30
 by_cases c4:t255 < 0
 ·rw [if_pos c4] at H
  have c4b0:decide (t255 < 0) = true:=decide_eq_true c4
  clear c4
  obtain rfl:=Option.some.inj H
  go_enter Try.func42,Try.ntmps42
  go_wp2_with (first|((with_reducible refine gate_dst (N:=2) rfl ?_);refine box_event ?hg (N:=2) ?hd (cs:=#[.int .i64 a0_0,.slice A0_1 l0_1.length c0_1]) (t:=41) ?hr ?_;(case hd=>rfl);(case hg=>rfl);(case hr=>first|(go_simp;done)|(go_simp;rfl));intro gb254 hg w5 hbox hb;have BK254:=mk0 (hbox);have GW254:=mk0 ((by rw [hg];exact (kZ HB.out):w.heap.size ≤ gb254));have GE254:=mk0 ((by rw [hg];exact (kZ HB.out):w.heap.size ≤ gb254));replace HB:=mk0 (kS HB.out hb);clear hb hbox hg;obtain⟨hcz6_0,hcz6_1,hfz6_0,hfz6_1⟩:=cz2 BK254.out)|((with_reducible refine gate_callee (f:=66) rfl ?_);refine goesL_ (some 8) rfl rfl Try.func66 (by kernel_rfl) rfl #[.slice A0_1 l0_1.length c0_1,.int .i64 a1] rfl (by (try simp only [mA,mC,mN]);first|done|rfl|(simp only [List.length_drop,List.length_take];rfl)) ?_;(with_reducible refine (laws_szUint64S.calls _ _ l0_1 a1 t255 _ ?side1 ?side2 A3.out).mono ?_);(case side1=>exact kC (Kd.C_below HR0_1.out HB.out));(case side2=>exact HC0_1.out);rintro e w' ⟨rfl,⟨nd,rfl⟩⟩;refine⟨_,rfl,?_⟩))
  go_ret
  exact⟨by first|rfl|(simp [errW_none,errW_some] <;> rfl)|(simp [*,errW_none,errW_some] <;> rfl),kB HB.out⟩
 ·rw [if_neg c4] at H
  have c4b0:decide (t255 < 0) = false:=decide_eq_false c4
  clear c4
  obtain rfl:=Option.some.inj H
  go_enter Try.func42,Try.ntmps42
  go_wp2_with (first|((with_reducible refine gate_dst (N:=2) rfl ?_);refine box_event ?hg (N:=2) ?hd (cs:=#[.int .i64 a0_0,.slice A0_1 l0_1.length c0_1]) (t:=41) ?hr ?_;(case hd=>rfl);(case hg=>rfl);(case hr=>first|(go_simp;done)|(go_simp;rfl));intro gb254 hg w7 hbox hb;have BK254:=mk0 (hbox);have GW254:=mk0 ((by rw [hg];exact (kZ HB.out):w.heap.size ≤ gb254));have GE254:=mk0 ((by rw [hg];exact (kZ HB.out):w.heap.size ≤ gb254));replace HB:=mk0 (kS HB.out hb);clear hb hbox hg;obtain⟨hcz8_0,hcz8_1,hfz8_0,hfz8_1⟩:=cz2 BK254.out)|((with_reducible refine gate_callee (f:=66) rfl ?_);refine goesL_ (some 8) rfl rfl Try.func66 (by kernel_rfl) rfl #[.slice A0_1 l0_1.length c0_1,.int .i64 a1] rfl (by (try simp only [mA,mC,mN]);first|done|rfl|(simp only [List.length_drop,List.length_take];rfl)) ?_;(with_reducible refine (laws_szUint64S.calls _ _ l0_1 a1 t255 _ ?side1 ?side2 A3.out).mono ?_);(case side1=>exact kC (Kd.C_below HR0_1.out HB.out));(case side2=>exact HC0_1.out);rintro e w' ⟨rfl,⟨nd,rfl⟩⟩;refine⟨_,rfl,?_⟩))
  go_ret
  exact⟨by first|rfl|(simp [errW_none,errW_some] <;> rfl)|(simp [*,errW_none,errW_some] <;> rfl),kB HB.out⟩

end Go.Proofs.Ytmohfjfgpeapfaa.QFnExactSparseRank
