-- A walk, made by walk.py, a program of this session's.
import Derived.Test.YtadhngelhognaaaQFnExactPartsx0
import Derived.Test.YtadhngelhognaaaQFnExactPartsx1
import Derived.Test.YtadhngelhognaaaQFnExactPartsx3
import Derived.Test.YtadhngelhognaaaQFnExactPartsx5
namespace Go.Proofs.Ytadhngelhognaaa.QFnExactParts
open Go.RowKit Go.Proofs.YtadhngelhognaaaW.PrintWords Go.Proofs.YtadhngelhognaaaW.PrintLast Go.Proofs.YtadhngelhognaaaW.PrintMore
attribute [local go_sem] max2_int min2_int max_two min_two max_three min_three max_four min_four   -- for this text's walks alone
set_option linter.unusedVariables false
set_option linter.unusedSimpArgs false


/-! ### laws_markByteS at a row whose block may be frozen behind its end (by hand) -/
set_option maxHeartbeats 8000000 in
set_option maxRecDepth 100000 in
theorem laws_markByteS.callsF (k : Nat) (P0_ : Nat → Prop) (u : Value) (l0 : List Int) (a1 : Int) (r1 : Int) (r2 : List Int) (w0 w : World) (hB : Below w0.heap.size w0 w) (ho0 : Cbk.OwnF w w0.heap.size P0_ u l0) (h : laws_markByteS.f k l0 a1 = some (r1, r2)) :
  Calls Try.prog 16 #[u, .int .i64 a1] w fun e w' => e = .returned (.int .i64 r1) ∧ Cbk.OwnF w' w0.heap.size P0_ u r2 ∧ Below w0.heap.size w0 w' ∧ Kept w w' (fun k_ => P0_ k_) := by
 have HO0:=mk0 ho0
 have HK:=mk0 (Kept.refl w (fun k_=>P0_ k_))
 have HB:=mk0 hB
 clear hB ho0
 have H':=mk0 (show laws_markByteS.l0 k l0 a1 0 = some (r1,r2) from h)
 clear h
 go_enter Try.func16,Try.ntmps16
 go_wp2
 go_loopg [1,5] k (fun kq v1 v5 w'=>∃ (x0_1:List Int) (x1_1:Int) (x5_1:Int),v1 = .int .i64 x1_1 ∧ v5 = .int .i64 x5_1 ∧ Aside0 (laws_markByteS.l0 kq x0_1 x1_1 x5_1 = some (r1,r2)) ∧ Aside0 (kq ≤ k) ∧ Aside0 (Cbk.OwnF w' w0.heap.size P0_ u x0_1) ∧ Aside0 (Kept w w' (fun k_=>P0_ k_)) ∧ Aside0 (Below w0.heap.size w0 w'))
 case atStart=>exact⟨l0,a1,0,rfl,rfl,H',⟨Nat.le_refl _⟩,HO0,HK,HB⟩
 case round =>
  clear H' HO0 HK HB
  obtain⟨x0_1,x1_1,x5_1,rfl,rfl,HA,HK1,HO_0,HK,HB⟩:=hrel
  cases gk with
  | zero=>exact absurd HA.out (by simp [laws_markByteS.l0])
  | succ k1 =>
   have H:=HA.out
   clear HA
   simp only [laws_markByteS.l0] at H
   by_cases c3:x5_1 < (x0_1.length:Int)
   rotate_left
   ·rw [if_neg c3] at H
    have c3b0:decide (x5_1 < (x0_1.length:Int)) = false:=decide_eq_false c3
    clear c3
    obtain⟨rfl,rfl⟩:=Prod.mk.inj (Option.some.inj H)
    obtain⟨Ao9,co9,eo9⟩:=Cbk.own_slice HO_0.out
    subst eo9
    go_wp2
    go_ret
    exact⟨rfl,HO_0.out,HB.out,HK.out⟩
   rw [if_pos c3] at H
   by_cases c4:0 ≤ x5_1
   rotate_left
   ·rw [if_neg c4] at H
    exact absurd H (by simp)
   rw [if_pos c4] at H
   have H':=mk0 H
   clear H
   have c3b0:decide (x5_1 < (x0_1.length:Int)) = true:=decide_eq_true c3
   have c4b0:decide (0 ≤ x5_1) = true:=decide_eq_true c4
   obtain⟨go5,co6,eo5,gb5,ok5,gl5⟩:=Cbk.own_form HO_0.out (by omega)
   subst eo5
   have GB5:=mk0 gb5
   have OK5:=mk0 ok5
   clear gb5 gl5 ok5
   obtain⟨hx5_0,hf5_0⟩:=Cbk.own_cell HO_0.out x5_1 c4 c3
   have p5:=eq_true c4
   have q5:=eq_true c3
   clear c3 c4
   have HP7:=Cbk.own_put HO_0.out x5_1 ((x1_1) % 256)
   go_wp2
   go_roundg k1
   case measure=>have:=HK1.out;omega
   case rel=>exact⟨_,(wrap64 (x1_1 + 1)),(wrap64 (x5_1 + 1)),(by first|rfl|go_num),(by first|rfl|go_num),H',⟨by have:=HK1.out;omega⟩,⟨HP7.1⟩,⟨Kept.of_grown (S:=(fun k_=>P0_ k_)) HP7.2 HK.out (fun k_ e_=>(by simp only [Option.some.injEq] at e_;subst e_;exact .inl OK5.out))⟩,⟨below_set HB.out GB5.out⟩⟩

/-! ### laws_markPartS: function 33 (by hand) -/
def laws_markPartS.l0 : Nat → List S48 → Int → Int → Option (Int × List S48)
 | 0, _, _, _ => none
 | k + 1, x0, x1, x5 => if x5 < (x0.length : Int) then (if 0 ≤ x5 then ((laws_markByteS.f k (x0.getD x5.toNat z48).f0 x1).bind fun t => laws_markPartS.l0 k (x0.set x5.toNat (⟨t.2, t.1, wrap64 (t.1 + 1), wrap64 (wrap64 (t.1 + 1) + 1), wrap64 (wrap64 (wrap64 (t.1 + 1) + 1) + 1)⟩ : S48)) (wrap64 (wrap64 (wrap64 (wrap64 (t.1 + 1) + 1) + 1) + 1)) (wrap64 (x5 + 1))) else none) else some (x1, x0)
def laws_markPartS.f (k : Nat) (l0 : List S48) (a1 : Int) : Option (Int × List S48) := laws_markPartS.l0 k l0 a1 0
theorem laws_markPartS.mono_l : ∀ k, (∀ y0 y1 y2, LeO (laws_markPartS.l0 k y0 y1 y2) (laws_markPartS.l0 (k + 1) y0 y1 y2))
 | 0 => fun _ _ _ r h => by simp [laws_markPartS.l0] at h
 | k + 1 => by
  have ih0 := laws_markPartS.mono_l k
  intro y0 y1 y2
  unfold laws_markPartS.l0
  repeat' first|(with_reducible first|exact ih0 _ _ _|exact laws_markByteS.mono _ _ _|exact LeO.refl _|exact LeO.none _|refine LeO.ite ?_ ?_|refine LeO.bind ?_ (fun _ => ?_))|exact LeO.none _|refine LeO.ite ?_ ?_|refine LeO.bind ?_ (fun _ => ?_)
theorem laws_markPartS.mono : ∀ a0 a1 k, LeO (laws_markPartS.f k a0 a1) (laws_markPartS.f (k + 1) a0 a1) := fun a0 a1 k => laws_markPartS.mono_l k a0 a1 0
theorem partSet (ys : List S48) (i : Int) (x : S48) (h0 : 0 ≤ i) (h1 : i < (ys.length : Int)) : (ys.set i.toNat x).getD i.toNat z48 = x := by
  rw [List.getD_eq_getElem?_getD, List.getElem?_set_self (by omega)]
  rfl
/-- One number of an element is written: the cell is there and not frozen, the row stands, nothing else turns. -/
theorem partPut {W : World} {base : Nat} {ok : Nat → Prop} {g n cap : Nat} {ys : List S48} {x : S48} {i : Int} (h : Kd.S k48c 48 W base ok (.slice (some ⟨g, 0, none⟩) n cap) (ys.set i.toNat x)) (h0 : 0 ≤ i) (h1 : i < (ys.length : Int)) (x' : S48) (j : Nat) (hj : j + 1 ≤ 5) (u : Value)
    (hm : ∀ (ve : Value) (okp : Nat → Prop), Cbk.OwnF W base okp ve x.f0 → k48c.M W base okp x' (([ve, .int .i64 x.f1, .int .i64 x.f2, .int .i64 x.f3, .int .i64 x.f4] : List Value).take j ++ [u] ++ ([ve, .int .i64 x.f1, .int .i64 x.f2, .int .i64 x.f3, .int .i64 x.f4] : List Value).drop (j + 1))) :
    (∃ c, W.cell? ⟨g, i.toNat * 5 + j, none⟩ = some c) ∧ W.frozen? ⟨g, i.toNat * 5 + j, none⟩ = false ∧ Kd.S k48c 48 (W.setCell ⟨g, i.toNat * 5 + j, none⟩ u) base ok (.slice (some ⟨g, 0, none⟩) n cap) (ys.set i.toNat x') ∧ W.grownBy (W.setCell ⟨g, i.toNat * 5 + j, none⟩ u) (some g) := by
  have hn : n = (ys.set i.toNat x).length := (Kd.S_reads' h).1
  rw [List.length_set] at hn
  obtain ⟨oki, c, hcl, hM, hcc, hfr, hoki, hH⟩ := Kd.S_elem h z48 i h0 (by omega)
  rw [partSet ys i x h0 h1] at hM
  obtain ⟨ve, rfl, ge⟩ := k48c_openM hM
  have HP := Kd.S_seg0 hH h0 (by omega) (seg := [u]) (j := j) hj (x' := x') (hm ve oki ge) (fun _ hk => hk)
  rw [List.set_set] at HP
  refine ⟨?_, hfr j, HP.1, HP.2⟩
  obtain ⟨q, hq⟩ : ∃ q, ([ve, .int .i64 x.f1, .int .i64 x.f2, .int .i64 x.f3, .int .i64 x.f4] : List Value)[j]? = some q := ⟨_, List.getElem?_eq_getElem (by show j < 5; omega)⟩
  exact ⟨q, hcc j q hq⟩
theorem partOk {P : Nat → Prop} {g m : Nat} (h : P g) : ∀ k, some g = some k → P k ∨ m ≤ k := fun k e => by injection e with e; exact .inl (e ▸ h)
/-- An element's numbers. -/
theorem partCells {W : World} {base : Nat} {ok : Nat → Prop} {g n cap : Nat} {ys : List S48} {x : S48} {i : Int} (h : Kd.S k48c 48 W base ok (.slice (some ⟨g, 0, none⟩) n cap) (ys.set i.toNat x)) (h0 : 0 ≤ i) (h1 : i < (ys.length : Int)) :
    W.cell? ⟨g, i.toNat * 5 + 1, none⟩ = some (.int .i64 x.f1) ∧ W.cell? ⟨g, i.toNat * 5 + 2, none⟩ = some (.int .i64 x.f2) ∧ W.cell? ⟨g, i.toNat * 5 + 3, none⟩ = some (.int .i64 x.f3) ∧ W.cell? ⟨g, i.toNat * 5 + 4, none⟩ = some (.int .i64 x.f4) ∧ (∀ j, W.frozen? ⟨g, i.toNat * 5 + j, none⟩ = false) := by
  have hn : n = (ys.set i.toNat x).length := (Kd.S_reads' h).1
  rw [List.length_set] at hn
  obtain ⟨oki, c, hcl, hM, hcc, hfr, hoki, hH⟩ := Kd.S_elem h z48 i h0 (by omega)
  rw [partSet ys i x h0 h1] at hM
  obtain ⟨ve, rfl, ge⟩ := k48c_openM hM
  exact ⟨hcc 1 _ rfl, hcc 2 _ rfl, hcc 3 _ rfl, hcc 4 _ rfl, hfr⟩
/-- An element's word is handed to what marks it. -/
theorem partLend {W : World} {base : Nat} {ok : Nat → Prop} {g n cap : Nat} {xs : List S48} {i : Int} (h : Kd.S k48c 48 W base ok (.slice (some ⟨g, 0, none⟩) n cap) xs) (h0 : 0 ≤ i) (h1 : i < (xs.length : Int)) :
    ∃ (ve : Value) (oki : Nat → Prop), W.cell? ⟨g, i.toNat * 5, none⟩ = some ve ∧ Cbk.OwnF W base oki ve (xs.getD i.toNat z48).f0 ∧ (∀ k, oki k → ok k) ∧ ∀ (w2 : World) (r2 : List Int), Kept W w2 oki → Cbk.OwnF w2 base oki ve r2 →
      Kd.S k48c 48 w2 base ok (.slice (some ⟨g, 0, none⟩) n cap) (xs.set i.toNat (⟨r2, (xs.getD i.toNat z48).f1, (xs.getD i.toNat z48).f2, (xs.getD i.toNat z48).f3, (xs.getD i.toNat z48).f4⟩ : S48)) := by
  have hn : n = xs.length := (Kd.S_reads' h).1
  obtain ⟨oki, c, hcl, hM, hcc, hfr, hoki, hH⟩ := Kd.S_elem h z48 i h0 (by omega)
  obtain ⟨ve, rfl, ge⟩ := k48c_openM hM
  refine ⟨ve, oki, hcc 0 _ rfl, ge, fun k hk => (hoki k hk).1, fun w2 r2 hk ho => ?_⟩
  exact Kd.H_back (Kd.H_kept hH hk (fun k_ _ hn => hn)) (k48c_mkM _ _ _ (⟨r2, (xs.getD i.toNat z48).f1, (xs.getD i.toNat z48).f2, (xs.getD i.toNat z48).f3, (xs.getD i.toNat z48).f4⟩ : S48) ho) (fun _ h_ => h_)
set_option maxHeartbeats 8000000 in
set_option maxRecDepth 100000 in
theorem laws_markPartS.calls (k : Nat) (P0_ : Nat → Prop) (u : Value) (l0 : List S48) (a1 : Int) (r1 : Int) (r2 : List S48) (w0 w : World) (hB : Below w0.heap.size w0 w) (ho0 : Kd.S k48c 48 w w0.heap.size P0_ u l0) (h : laws_markPartS.f k l0 a1 = some (r1, r2)) :
  Calls Try.prog 33 #[u, .int .i64 a1] w fun e w' => e = .returned (.int .i64 r1) ∧ Kd.S k48c 48 w' w0.heap.size P0_ u r2 ∧ Below w0.heap.size w0 w' ∧ Kept w w' (fun k_ => P0_ k_) := by
 have HO0:=mk0 ho0
 have HK:=mk0 (Kept.refl w (fun k_=>P0_ k_))
 have HB:=mk0 hB
 clear hB ho0
 have H':=mk0 (show laws_markPartS.l0 k l0 a1 0 = some (r1,r2) from h)
 clear h
 go_enter Try.func33,Try.ntmps33
 go_wp2
 go_loopg [1,5] k (fun kq v1 v5 w'=>∃ (x0_1:List S48) (x1_1:Int) (x5_1:Int),v1 = .int .i64 x1_1 ∧ v5 = .int .i64 x5_1 ∧ Aside0 (laws_markPartS.l0 kq x0_1 x1_1 x5_1 = some (r1,r2)) ∧ Aside0 (kq ≤ k) ∧ Aside0 (Kd.S k48c 48 w' w0.heap.size P0_ u x0_1) ∧ Aside0 (Kept w w' (fun k_=>P0_ k_)) ∧ Aside0 (Below w0.heap.size w0 w'))
 case atStart=>exact⟨l0,a1,0,rfl,rfl,H',⟨Nat.le_refl _⟩,HO0,HK,HB⟩
 case round =>
  clear H' HO0 HK HB
  obtain⟨x0_1,x1_1,x5_1,rfl,rfl,HA,HK1,HO_0,HK,HB⟩:=hrel
  cases gk with
  | zero=>exact absurd HA.out (by simp [laws_markPartS.l0])
  | succ k1 =>
   have H:=HA.out
   clear HA
   simp only [laws_markPartS.l0] at H
   by_cases c3:x5_1 < (x0_1.length:Int)
   rotate_left
   ·rw [if_neg c3] at H
    have c3b0:decide (x5_1 < (x0_1.length:Int)) = false:=decide_eq_false c3
    clear c3
    obtain⟨rfl,rfl⟩:=Prod.mk.inj (Option.some.inj H)
    obtain⟨Ao9,co9,eo9⟩:=Kd.S_slice HO_0.out
    subst eo9
    go_wp2
    go_ret
    exact⟨rfl,HO_0.out,HB.out,HK.out⟩
   rw [if_pos c3] at H
   by_cases c4:0 ≤ x5_1
   rotate_left
   ·rw [if_neg c4] at H
    exact absurd H (by simp)
   rw [if_pos c4] at H
   obtain⟨⟨t1,t2⟩,A1,H⟩:=Option.bind_eq_some_iff.mp H
   obtain⟨m1,hm1⟩:∃ q,wrap64 (t1 + 1) = q:=⟨_,rfl⟩
   obtain⟨m2,hm2⟩:∃ q,wrap64 (m1 + 1) = q:=⟨_,rfl⟩
   obtain⟨m3,hm3⟩:∃ q,wrap64 (m2 + 1) = q:=⟨_,rfl⟩
   obtain⟨m4,hm4⟩:∃ q,wrap64 (m3 + 1) = q:=⟨_,rfl⟩
   replace H:laws_markPartS.l0 k1 (x0_1.set x5_1.toNat (⟨t2,t1,m1,m2,m3⟩ : S48)) m4 (wrap64 (x5_1 + 1)) = some (r1,r2):=by rw [← hm4,← hm3,← hm2,← hm1];exact H
   have AM:=mk0 A1
   have H':=mk0 H
   have M1:=mk0 hm1
   have M2:=mk0 hm2
   have M3:=mk0 hm3
   have M4:=mk0 hm4
   have m1w:(IntKind.i64.wrap (t1 + 1)) = m1:=(i64_w _).trans hm1
   have m2w:(IntKind.i64.wrap (m1 + 1)) = m2:=(i64_w _).trans hm2
   have m3w:(IntKind.i64.wrap (m2 + 1)) = m3:=(i64_w _).trans hm3
   have m4w:(IntKind.i64.wrap (m3 + 1)) = m4:=(i64_w _).trans hm4
   clear A1 H hm1 hm2 hm3 hm4
   have c3b0:decide (x5_1 < (x0_1.length:Int)) = true:=decide_eq_true c3
   have c4b0:decide (0 ≤ x5_1) = true:=decide_eq_true c4
   obtain⟨Ao,co,eo⟩:=Kd.S_slice HO_0.out
   subst eo
   obtain⟨go5,co5,eo5,gb5,gl5,cl5,HG5⟩:=Kd.S_form HO_0.out (by omega)
   (first|cases eo5|(injection eo5 with ea_ en_ ec_;(first|subst ea_|(injection ea_ with ea_;subst ea_));subst ec_;clear en_))
   have GB5:=mk0 gb5
   clear gb5 gl5 HG5
   obtain⟨ve5,oki5,hx5_0,ge5,hoki5,hback5⟩:=partLend HO_0.out c4 c3
   have GE5:=mk0 ge5
   have OK5:=mk0 hoki5
   have BK5:=mk0 hback5
   have c3':=mk0 c3
   have c4':=mk0 c4
   have p5:=eq_true c4
   have q5:=eq_true c3
   have PG5:=mk0 ((Kd.S_R HO_0.out).1 go5 rfl : P0_ go5)
   clear ge5 hoki5 hback5 c3 c4
   go_wp2_with (first
     | (go_at_call 16;(with_reducible refine (laws_markByteS.callsF k1 oki5 ve5 (x0_1.getD x5_1.toNat z48).f0 x1_1 t1 t2 w0 _ ?side1 ?side2 AM.out).mono ?_);(case side1=>exact HB.out);(case side2=>exact GE5.out);rintro e w9 ⟨rfl,hr,hb,hk⟩;have n0_:=mk0 (BK5.out w9 t2 hk hr);have n2_:=mk0 (Kept.then_ HK.out hk (fun k_ h_=>.inl (OK5.out k_ h_)));clear HO_0 HB HK GE5 BK5 OK5 hr hk hx5_0;have HO_0:=n0_;have HB:=mk0 hb;have HK:=n2_;clear n0_ n2_ hb;obtain⟨hx1,hx2,hx3,hx4,hfz⟩:=partCells HO_0.out c4'.out c3'.out;have hf1:=hfz 1;have hf2:=hfz 2;have hf3:=hfz 3;have hf4:=hfz 4;clear hfz))
   have P1:=partPut HO_0.out c4'.out c3'.out (⟨t2,t1,(x0_1.getD x5_1.toNat z48).f2,(x0_1.getD x5_1.toNat z48).f3,(x0_1.getD x5_1.toNat z48).f4⟩ : S48) 1 (by decide) (.int .i64 t1) (fun ve okp ho=>k48c_mkM _ _ _ (⟨t2,t1,(x0_1.getD x5_1.toNat z48).f2,(x0_1.getD x5_1.toNat z48).f3,(x0_1.getD x5_1.toNat z48).f4⟩ : S48) ho)
   have P2:=partPut P1.2.2.1 c4'.out c3'.out (⟨t2,t1,m1,(x0_1.getD x5_1.toNat z48).f3,(x0_1.getD x5_1.toNat z48).f4⟩ : S48) 2 (by decide) (.int .i64 m1) (fun ve okp ho=>k48c_mkM _ _ _ (⟨t2,t1,m1,(x0_1.getD x5_1.toNat z48).f3,(x0_1.getD x5_1.toNat z48).f4⟩ : S48) ho)
   have P3:=partPut P2.2.2.1 c4'.out c3'.out (⟨t2,t1,m1,m2,(x0_1.getD x5_1.toNat z48).f4⟩ : S48) 3 (by decide) (.int .i64 m2) (fun ve okp ho=>k48c_mkM _ _ _ (⟨t2,t1,m1,m2,(x0_1.getD x5_1.toNat z48).f4⟩ : S48) ho)
   have P4:=partPut P3.2.2.1 c4'.out c3'.out (⟨t2,t1,m1,m2,m3⟩ : S48) 4 (by decide) (.int .i64 m3) (fun ve okp ho=>k48c_mkM _ _ _ (⟨t2,t1,m1,m2,m3⟩ : S48) ho)
   go_roundg k1
   case measure=>have:=HK1.out;omega
   case rel=>exact⟨_,m4,wrap64 (x5_1 + 1),(by first|rfl|go_num),(by first|rfl|go_num),H',⟨by have:=HK1.out;omega⟩,⟨P4.2.2.1⟩,⟨Kept.of_grown (S:=(fun k_=>P0_ k_)) P4.2.2.2 (Kept.of_grown (S:=(fun k_=>P0_ k_)) P3.2.2.2 (Kept.of_grown (S:=(fun k_=>P0_ k_)) P2.2.2.2 (Kept.of_grown (S:=(fun k_=>P0_ k_)) P1.2.2.2 HK.out (partOk PG5.out)) (partOk PG5.out)) (partOk PG5.out)) (partOk PG5.out)⟩,⟨below_set (below_set (below_set (below_set HB.out GB5.out) GB5.out) GB5.out) GB5.out⟩⟩

/-! ### laws_heldByteS: function 57 -/
def laws_heldByteS.l0 : Nat → List Int → Int → Int → Option (Int)
 | 0, _, _, _ => none
 | k + 1, x0, x1, x5 => if x5 < (x0.length : Int) then (if 0 ≤ x5 then (if (rd x0 x5) = ((x1) % 256) then (laws_heldByteS.l0 k x0 (wrap64 (x1 + 1)) (wrap64 (x5 + 1))) else (some (-1))) else (none)) else (some x1)
def laws_heldByteS.f (k : Nat) (l0 : List Int) (a1 : Int) : Option (Int) := laws_heldByteS.l0 k l0 a1 0
theorem laws_heldByteS.mono_l : ∀ k, (∀ y0 y1 y2, LeO (laws_heldByteS.l0 k y0 y1 y2) (laws_heldByteS.l0 (k + 1) y0 y1 y2))
 | 0 => fun _ _ _ r h => by simp [laws_heldByteS.l0] at h
 | k + 1 => by
  have ih0 := laws_heldByteS.mono_l k
  ·intro y0 y1 y2
   unfold laws_heldByteS.l0
   repeat' first|(with_reducible first|exact ih0 _ _ _|exact LeO.refl _|exact LeO.none _|refine LeO.ite ?_ ?_|refine LeO.bind ?_ (fun _ => ?_))|exact LeO.none _|refine LeO.ite ?_ ?_|refine LeO.bind ?_ (fun _ => ?_)
theorem laws_heldByteS.mono : ∀ a0 a1 k, LeO (laws_heldByteS.f k a0 a1) (laws_heldByteS.f (k + 1) a0 a1) := by
 intro a0 a1 k
 have ih0 := laws_heldByteS.mono_l k
 unfold laws_heldByteS.f
 repeat' first|(with_reducible first|exact ih0 _ _ _|exact LeO.refl _|exact LeO.none _|refine LeO.ite ?_ ?_|refine LeO.bind ?_ (fun _ => ?_))|exact LeO.none _|refine LeO.ite ?_ ?_|refine LeO.bind ?_ (fun _ => ?_)
set_option maxHeartbeats 8000000 in
set_option maxRecDepth 100000 in
theorem laws_heldByteS.calls (k : Nat) (A0 : Option Addr) (c0 : Nat) (l0 : List Int) (a1 : Int) (r : Int) (w : World) (hr0 : Kd.C (Kd.int .u8) w A0 l0.length l0) (hc0 : l0.length ≤ c0) (h : laws_heldByteS.f k l0 a1 = some r) :
  Calls Try.prog 57 #[.slice A0 l0.length c0, .int .i64 a1] w fun e w' => e = .returned (.int .i64 r) ∧ Drawn0 w w' := by
 have HR0:=mk0 hr0
 have HC0:=mk0 hc0
 clear hr0 hc0
 have H:(laws_heldByteS.l0 k l0 a1 0) = some r:=h
 clear h
 have H':=mk0 H
 clear H
 go_enter Try.func57,Try.ntmps57
 go_wp2
 go_loopg [1,5] k (fun kq v1 v5 w'=>∃ (x1_1:Int) (x5_1:Int),v1 = .int .i64 x1_1 ∧ v5 = .int .i64 x5_1 ∧ Aside0 (laws_heldByteS.l0 kq l0 x1_1 x5_1 = some r) ∧ Aside0 (kq ≤ k) ∧ Drawn0 w w')
 case atStart=>exact⟨(a1),(0),(by first|rfl|(simp;done)|(simp [*];done)),(by first|rfl|(simp;done)|(simp [*];done)),H',⟨Nat.le_refl _⟩,by repeat (first|exact Drawn0.refl _|apply Drawn0.step)⟩
 case round =>
  clear H'
  try clear p2
  obtain⟨x1_1,x5_1,rfl,rfl,HA,HK1,⟨m1,rfl⟩⟩:=hrel
  cases gk with
  | zero=>exact absurd HA.out (by simp [laws_heldByteS.l0])
  | succ k1 =>
   have H:=HA.out
   clear HA
   simp only [laws_heldByteS.l0] at H
   by_cases c3:x5_1 < (l0.length:Int)
   ·rw [if_pos c3] at H
    have c3b0:decide (x5_1 < (l0.length:Int)) = true:=decide_eq_true c3
    clear c3
    by_cases c4:0 ≤ x5_1
    ·rw [if_pos c4] at H
     have c4b0:decide (0 ≤ x5_1) = true:=decide_eq_true c4
     clear c4
     by_cases c5:(rd l0 x5_1) = ((x1_1) % 256)
     ·rw [if_pos c5] at H
      have c5b0:((rd l0 x5_1) == ((x1_1) % 256)) = true:=beq_iff_eq.mpr c5
      have c5b1:((rd l0 x5_1) != ((x1_1) % 256)) = false:=bne_eq_false_iff_eq.mpr c5
      clear c5
      have H':=mk0 H
      clear H
      have p282:0 ≤ (x5_1:Int):=of_decide_eq_true (by first|(with_reducible assumption)|assumption)
      have q282:x5_1 < (l0.length:Int):=of_decide_eq_true (by first|(with_reducible assumption)|assumption)
      obtain⟨ad282,e282,hx282_0⟩:=Kd.at_int HR0.out x5_1 p282 q282
      cases e282
      replace p282:=eq_true p282
      replace q282:=eq_true q282
      go_wp2
      go_roundg k1
      case measure=>have:=HK1.out;omega
      case rel=>exact⟨(wrap64 (x1_1 + 1)),(wrap64 (x5_1 + 1)),(by first|rfl|(simp;done)|(simp [*];done)),(by first|rfl|(simp;done)|(simp [*];done)),H',⟨by have:=HK1.out;omega⟩,by repeat (first|exact Drawn0.refl _|apply Drawn0.step)⟩
     ·rw [if_neg c5] at H
      have c5b0:((rd l0 x5_1) == ((x1_1) % 256)) = false:=beq_eq_false_iff_ne.mpr c5
      have c5b1:((rd l0 x5_1) != ((x1_1) % 256)) = true:=bne_iff_ne.mpr c5
      obtain rfl:=Option.some.inj H
      have p282:0 ≤ (x5_1:Int):=of_decide_eq_true (by first|(with_reducible assumption)|assumption)
      have q282:x5_1 < (l0.length:Int):=of_decide_eq_true (by first|(with_reducible assumption)|assumption)
      obtain⟨ad282,e282,hx282_0⟩:=Kd.at_int HR0.out x5_1 p282 q282
      cases e282
      replace p282:=eq_true p282
      replace q282:=eq_true q282
      go_wp2
      go_ret
      exact⟨by first|rfl|(simp;done)|(simp [*];done),by repeat (first|exact Drawn0.refl _|apply Drawn0.step)⟩
    ·rw [if_neg c4] at H
     exact absurd H (by simp)
   ·rw [if_neg c3] at H
    have c3b0:decide (x5_1 < (l0.length:Int)) = false:=decide_eq_false c3
    clear c3
    obtain rfl:=Option.some.inj H
    go_wp2
    go_ret
    exact⟨by first|rfl|(simp;done)|(simp [*];done),by repeat (first|exact Drawn0.refl _|apply Drawn0.step)⟩

/-! ### laws_heldPartS: function 34 -/
def laws_heldPartS.l0 : Nat → List (S48) → Int → Int → Option (Int)
 | 0, _, _, _ => none
 | k + 1, x0, x1, x5 => if x5 < (x0.length : Int) then (if 0 ≤ x5 then ((laws_heldByteS.f k ((rd_T48 x0 x5).f0) x1).bind fun t284 => (if t284 < 0 then (some (-1)) else (if ((rd_T48 x0 x5).f1) = t284 then (if ((rd_T48 x0 x5).f2) = (wrap64 (t284 + 1)) then (if ((rd_T48 x0 x5).f3) = (wrap64 ((wrap64 (t284 + 1)) + 1)) then (if ((rd_T48 x0 x5).f4) = (wrap64 ((wrap64 ((wrap64 (t284 + 1)) + 1)) + 1)) then (laws_heldPartS.l0 k x0 (wrap64 ((wrap64 ((wrap64 ((wrap64 (t284 + 1)) + 1)) + 1)) + 1)) (wrap64 (x5 + 1))) else (some (-1))) else (some (-1))) else (some (-1))) else (some (-1))))) else (none)) else (some x1)
def laws_heldPartS.f (k : Nat) (l0 : List (S48)) (a1 : Int) : Option (Int) := laws_heldPartS.l0 k l0 a1 0
theorem laws_heldPartS.mono_l : ∀ k, (∀ y0 y1 y2, LeO (laws_heldPartS.l0 k y0 y1 y2) (laws_heldPartS.l0 (k + 1) y0 y1 y2))
 | 0 => fun _ _ _ r h => by simp [laws_heldPartS.l0] at h
 | k + 1 => by
  have ih0 := laws_heldPartS.mono_l k
  ·intro y0 y1 y2
   unfold laws_heldPartS.l0
   repeat' first|(with_reducible first|exact ih0 _ _ _|exact laws_heldByteS.mono _ _ _|exact LeO.refl _|exact LeO.none _|refine LeO.ite ?_ ?_|refine LeO.bind ?_ (fun _ => ?_))|exact LeO.none _|refine LeO.ite ?_ ?_|refine LeO.bind ?_ (fun _ => ?_)
theorem laws_heldPartS.mono : ∀ a0 a1 k, LeO (laws_heldPartS.f k a0 a1) (laws_heldPartS.f (k + 1) a0 a1) := by
 intro a0 a1 k
 have ih0 := laws_heldPartS.mono_l k
 unfold laws_heldPartS.f
 repeat' first|(with_reducible first|exact ih0 _ _ _|exact laws_heldByteS.mono _ _ _|exact LeO.refl _|exact LeO.none _|refine LeO.ite ?_ ?_|refine LeO.bind ?_ (fun _ => ?_))|exact LeO.none _|refine LeO.ite ?_ ?_|refine LeO.bind ?_ (fun _ => ?_)
set_option maxHeartbeats 8000000 in
set_option maxRecDepth 100000 in
theorem laws_heldPartS.calls (k : Nat) (A0 : Option Addr) (c0 : Nat) (l0 : List (S48)) (a1 : Int) (r : Int) (w : World) (hr0 : Kd.C k48 w A0 l0.length l0) (hc0 : l0.length ≤ c0) (h : laws_heldPartS.f k l0 a1 = some r) :
  Calls Try.prog 34 #[.slice A0 l0.length c0, .int .i64 a1] w fun e w' => e = .returned (.int .i64 r) ∧ Drawn0 w w' := by
 have HR0:=mk0 hr0
 have HC0:=mk0 hc0
 clear hr0 hc0
 have H:(laws_heldPartS.l0 k l0 a1 0) = some r:=h
 clear h
 have H':=mk0 H
 clear H
 go_enter Try.func34,Try.ntmps34
 go_wp2
 go_loopg [1,5] k (fun kq v1 v5 w'=>∃ (x1_1:Int) (x5_1:Int),v1 = .int .i64 x1_1 ∧ v5 = .int .i64 x5_1 ∧ Aside0 (laws_heldPartS.l0 kq l0 x1_1 x5_1 = some r) ∧ Aside0 (kq ≤ k) ∧ Drawn0 w w')
 case atStart=>exact⟨(a1),(0),(by first|rfl|(simp;done)|(simp [*];done)),(by first|rfl|(simp;done)|(simp [*];done)),H',⟨Nat.le_refl _⟩,by repeat (first|exact Drawn0.refl _|apply Drawn0.step)⟩
 case round =>
  clear H'
  try clear p2
  obtain⟨x1_1,x5_1,rfl,rfl,HA,HK1,⟨m1,rfl⟩⟩:=hrel
  cases gk with
  | zero=>exact absurd HA.out (by simp [laws_heldPartS.l0])
  | succ k1 =>
   have H:=HA.out
   clear HA
   simp only [laws_heldPartS.l0] at H
   by_cases c3:x5_1 < (l0.length:Int)
   rotate_left
   ·rw [if_neg c3] at H
    have c3b0:decide (x5_1 < (l0.length:Int)) = false:=decide_eq_false c3
    (try simp only [hl283_0] at c3b0)
    (try simp only [hl285_0] at c3b0)
    (try simp only [hl286_0] at c3b0)
    (try simp only [hl287_0] at c3b0)
    (try simp only [hl288_0] at c3b0)
    clear c3
    obtain rfl:=Option.some.inj H
    go_wp2
    go_ret
    exact⟨by first|rfl|(simp;done)|(simp [*];done),by repeat (first|exact Drawn0.refl _|apply Drawn0.step)⟩

   rw [if_pos c3] at H
   have c3b0:decide (x5_1 < (l0.length:Int)) = true:=decide_eq_true c3
   (try simp only [hl283_0] at c3b0)
   (try simp only [hl285_0] at c3b0)
   (try simp only [hl286_0] at c3b0)
   (try simp only [hl287_0] at c3b0)
   (try simp only [hl288_0] at c3b0)
   clear c3
   by_cases c4:0 ≤ x5_1
   rotate_left
   ·rw [if_neg c4] at H
    exact absurd H (by simp)
   rw [if_pos c4] at H
   have c4b0:decide (0 ≤ x5_1) = true:=decide_eq_true c4
   clear c4
   replace H:=Option.bind_eq_some_iff.mp H
   obtain⟨t284,A50,H⟩:=H
   replace H:(if t284 < 0 then (some (-1)) else (if ((rd_T48 l0 x5_1).f1) = t284 then (if ((rd_T48 l0 x5_1).f2) = (wrap64 (t284 + 1)) then (if ((rd_T48 l0 x5_1).f3) = (wrap64 ((wrap64 (t284 + 1)) + 1)) then (if ((rd_T48 l0 x5_1).f4) = (wrap64 ((wrap64 ((wrap64 (t284 + 1)) + 1)) + 1)) then (laws_heldPartS.l0 k1 l0 (wrap64 ((wrap64 ((wrap64 ((wrap64 (t284 + 1)) + 1)) + 1)) + 1)) (wrap64 (x5_1 + 1))) else (some (-1))) else (some (-1))) else (some (-1))) else (some (-1)))) = some r:=H
   have A5:=mk0 A50
   clear A50
   by_cases c6:t284 < 0
   ·rw [if_pos c6] at H
    have c6b0:decide (t284 < 0) = true:=decide_eq_true c6
    clear c6
    obtain rfl:=Option.some.inj H
    have p283:0 ≤ (x5_1:Int):=of_decide_eq_true (by first|(with_reducible assumption)|assumption)
    have q283:x5_1 < (l0.length:Int):=of_decide_eq_true (by first|(with_reducible assumption)|assumption)
    obtain⟨ad283,A283_0,c283_0,e283,hx283_0,hx283_1,hx283_2,hx283_3,hx283_4,hl283_0,hi283_0⟩:=at_T48 HR0.out x5_1 p283 q283
    cases e283
    have HR283_0:=mk0 hi283_0
    have HC283_0:=mk0 hl283_0
    clear hi283_0 hl283_0
    replace p283:=eq_true p283
    replace q283:=eq_true q283
    go_wp2_with (first|((with_reducible refine gate_callee (f:=57) rfl ?_);refine gL (some 18) Try.func57 #[.slice A283_0 ((rd_T48 l0 x5_1).f0).length c283_0,.int .i64 x1_1] ?_;(with_reducible refine (laws_heldByteS.calls k1 _ _ ((rd_T48 l0 x5_1).f0) x1_1 t284 _ ?side1 ?side2 A5.out).mono ?_);(case side1=>repeat (first|exact HR283_0.out|(with_reducible first|apply aC|apply nC|apply dC)));(case side2=>exact HC283_0.out);rintro e w' ⟨rfl,⟨nd,rfl⟩⟩;refine⟨_,rfl,?_⟩))
    go_ret
    exact⟨by first|rfl|(simp;done)|(simp [*];done),by repeat (first|exact Drawn0.refl _|apply Drawn0.step)⟩
   rw [if_neg c6] at H
   have c6b0:decide (t284 < 0) = false:=decide_eq_false c6
   clear c6
   by_cases c7:((rd_T48 l0 x5_1).f1) = t284
   rotate_left
   ·rw [if_neg c7] at H
    have c7b0:(((rd_T48 l0 x5_1).f1) == t284) = false:=beq_eq_false_iff_ne.mpr c7
    have c7b1:(((rd_T48 l0 x5_1).f1) != t284) = true:=bne_iff_ne.mpr c7
    obtain rfl:=Option.some.inj H
    have p283:0 ≤ (x5_1:Int):=of_decide_eq_true (by first|(with_reducible assumption)|assumption)
    have q283:x5_1 < (l0.length:Int):=of_decide_eq_true (by first|(with_reducible assumption)|assumption)
    obtain⟨ad283,A283_0,c283_0,e283,hx283_0,hx283_1,hx283_2,hx283_3,hx283_4,hl283_0,hi283_0⟩:=at_T48 HR0.out x5_1 p283 q283
    cases e283
    have HR283_0:=mk0 hi283_0
    have HC283_0:=mk0 hl283_0
    clear hi283_0 hl283_0
    replace p283:=eq_true p283
    replace q283:=eq_true q283
    go_wp2_with (first|((with_reducible refine gate_callee (f:=57) rfl ?_);refine gL (some 18) Try.func57 #[.slice A283_0 ((rd_T48 l0 x5_1).f0).length c283_0,.int .i64 x1_1] ?_;(with_reducible refine (laws_heldByteS.calls k1 _ _ ((rd_T48 l0 x5_1).f0) x1_1 t284 _ ?side1 ?side2 A5.out).mono ?_);(case side1=>repeat (first|exact HR283_0.out|(with_reducible first|apply aC|apply nC|apply dC)));(case side2=>exact HC283_0.out);rintro e w' ⟨rfl,⟨nd,rfl⟩⟩;refine⟨_,rfl,?_⟩;have p285:0 ≤ (x5_1:Int):=of_decide_eq_true (by first|(with_reducible assumption)|assumption);have q285:x5_1 < (l0.length:Int):=of_decide_eq_true (by first|(with_reducible assumption)|assumption);obtain⟨ad285,A285_0,c285_0,e285,hx285_0,hx285_1,hx285_2,hx285_3,hx285_4,hl285_0,hi285_0⟩:=at_T48 HR0.out x5_1 p285 q285;obtain rfl:ad283 = ad285:=(by injection e285);have HR285_0:=mk0 hi285_0;have HC285_0:=mk0 hl285_0;clear hi285_0 hl285_0;replace p285:=eq_true p285;replace q285:=eq_true q285;have ea_:=Option.some.inj (hx283_0.symm.trans hx285_0);injection ea_ with ea_ en_ ec_;subst ea_;subst ec_;clear en_))
    go_ret
    exact⟨by first|rfl|(simp;done)|(simp [*];done),by repeat (first|exact Drawn0.refl _|apply Drawn0.step)⟩
   rw [if_pos c7] at H
   have c7b0:(((rd_T48 l0 x5_1).f1) == t284) = true:=beq_iff_eq.mpr c7
   have c7b1:(((rd_T48 l0 x5_1).f1) != t284) = false:=bne_eq_false_iff_eq.mpr c7
   clear c7
   by_cases c8:((rd_T48 l0 x5_1).f2) = (wrap64 (t284 + 1))
   rotate_left
   ·rw [if_neg c8] at H
    have c8b0:(((rd_T48 l0 x5_1).f2) == (wrap64 (t284 + 1))) = false:=beq_eq_false_iff_ne.mpr c8
    have c8b1:(((rd_T48 l0 x5_1).f2) != (wrap64 (t284 + 1))) = true:=bne_iff_ne.mpr c8
    obtain rfl:=Option.some.inj H
    have p283:0 ≤ (x5_1:Int):=of_decide_eq_true (by first|(with_reducible assumption)|assumption)
    have q283:x5_1 < (l0.length:Int):=of_decide_eq_true (by first|(with_reducible assumption)|assumption)
    obtain⟨ad283,A283_0,c283_0,e283,hx283_0,hx283_1,hx283_2,hx283_3,hx283_4,hl283_0,hi283_0⟩:=at_T48 HR0.out x5_1 p283 q283
    cases e283
    have HR283_0:=mk0 hi283_0
    have HC283_0:=mk0 hl283_0
    clear hi283_0 hl283_0
    replace p283:=eq_true p283
    replace q283:=eq_true q283
    go_wp2_with (first|((with_reducible refine gate_callee (f:=57) rfl ?_);refine gL (some 18) Try.func57 #[.slice A283_0 ((rd_T48 l0 x5_1).f0).length c283_0,.int .i64 x1_1] ?_;(with_reducible refine (laws_heldByteS.calls k1 _ _ ((rd_T48 l0 x5_1).f0) x1_1 t284 _ ?side1 ?side2 A5.out).mono ?_);(case side1=>repeat (first|exact HR283_0.out|(with_reducible first|apply aC|apply nC|apply dC)));(case side2=>exact HC283_0.out);rintro e w' ⟨rfl,⟨nd,rfl⟩⟩;refine⟨_,rfl,?_⟩;have p285:0 ≤ (x5_1:Int):=of_decide_eq_true (by first|(with_reducible assumption)|assumption);have q285:x5_1 < (l0.length:Int):=of_decide_eq_true (by first|(with_reducible assumption)|assumption);obtain⟨ad285,A285_0,c285_0,e285,hx285_0,hx285_1,hx285_2,hx285_3,hx285_4,hl285_0,hi285_0⟩:=at_T48 HR0.out x5_1 p285 q285;obtain rfl:ad283 = ad285:=(by injection e285);have HR285_0:=mk0 hi285_0;have HC285_0:=mk0 hl285_0;clear hi285_0 hl285_0;replace p285:=eq_true p285;replace q285:=eq_true q285;have ea_:=Option.some.inj (hx283_0.symm.trans hx285_0);injection ea_ with ea_ en_ ec_;subst ea_;subst ec_;clear en_;have p286:0 ≤ (x5_1:Int):=of_decide_eq_true (by first|(with_reducible assumption)|assumption);have q286:x5_1 < (l0.length:Int):=of_decide_eq_true (by first|(with_reducible assumption)|assumption);obtain⟨ad286,A286_0,c286_0,e286,hx286_0,hx286_1,hx286_2,hx286_3,hx286_4,hl286_0,hi286_0⟩:=at_T48 HR0.out x5_1 p286 q286;obtain rfl:ad283 = ad286:=(by injection e286);have HR286_0:=mk0 hi286_0;have HC286_0:=mk0 hl286_0;clear hi286_0 hl286_0;replace p286:=eq_true p286;replace q286:=eq_true q286;have ea_:=Option.some.inj (hx283_0.symm.trans hx286_0);injection ea_ with ea_ en_ ec_;subst ea_;subst ec_;clear en_))
    go_ret
    exact⟨by first|rfl|(simp;done)|(simp [*];done),by repeat (first|exact Drawn0.refl _|apply Drawn0.step)⟩
   rw [if_pos c8] at H
   have c8b0:(((rd_T48 l0 x5_1).f2) == (wrap64 (t284 + 1))) = true:=beq_iff_eq.mpr c8
   have c8b1:(((rd_T48 l0 x5_1).f2) != (wrap64 (t284 + 1))) = false:=bne_eq_false_iff_eq.mpr c8
   clear c8
   by_cases c9:((rd_T48 l0 x5_1).f3) = (wrap64 ((wrap64 (t284 + 1)) + 1))
   rotate_left
   ·rw [if_neg c9] at H
    have c9b0:(((rd_T48 l0 x5_1).f3) == (wrap64 ((wrap64 (t284 + 1)) + 1))) = false:=beq_eq_false_iff_ne.mpr c9
    have c9b1:(((rd_T48 l0 x5_1).f3) != (wrap64 ((wrap64 (t284 + 1)) + 1))) = true:=bne_iff_ne.mpr c9
    obtain rfl:=Option.some.inj H
    have p283:0 ≤ (x5_1:Int):=of_decide_eq_true (by first|(with_reducible assumption)|assumption)
    have q283:x5_1 < (l0.length:Int):=of_decide_eq_true (by first|(with_reducible assumption)|assumption)
    obtain⟨ad283,A283_0,c283_0,e283,hx283_0,hx283_1,hx283_2,hx283_3,hx283_4,hl283_0,hi283_0⟩:=at_T48 HR0.out x5_1 p283 q283
    cases e283
    have HR283_0:=mk0 hi283_0
    have HC283_0:=mk0 hl283_0
    clear hi283_0 hl283_0
    replace p283:=eq_true p283
    replace q283:=eq_true q283
    go_wp2_with (first|((with_reducible refine gate_callee (f:=57) rfl ?_);refine gL (some 18) Try.func57 #[.slice A283_0 ((rd_T48 l0 x5_1).f0).length c283_0,.int .i64 x1_1] ?_;(with_reducible refine (laws_heldByteS.calls k1 _ _ ((rd_T48 l0 x5_1).f0) x1_1 t284 _ ?side1 ?side2 A5.out).mono ?_);(case side1=>repeat (first|exact HR283_0.out|(with_reducible first|apply aC|apply nC|apply dC)));(case side2=>exact HC283_0.out);rintro e w' ⟨rfl,⟨nd,rfl⟩⟩;refine⟨_,rfl,?_⟩;have p285:0 ≤ (x5_1:Int):=of_decide_eq_true (by first|(with_reducible assumption)|assumption);have q285:x5_1 < (l0.length:Int):=of_decide_eq_true (by first|(with_reducible assumption)|assumption);obtain⟨ad285,A285_0,c285_0,e285,hx285_0,hx285_1,hx285_2,hx285_3,hx285_4,hl285_0,hi285_0⟩:=at_T48 HR0.out x5_1 p285 q285;obtain rfl:ad283 = ad285:=(by injection e285);have HR285_0:=mk0 hi285_0;have HC285_0:=mk0 hl285_0;clear hi285_0 hl285_0;replace p285:=eq_true p285;replace q285:=eq_true q285;have ea_:=Option.some.inj (hx283_0.symm.trans hx285_0);injection ea_ with ea_ en_ ec_;subst ea_;subst ec_;clear en_;have p286:0 ≤ (x5_1:Int):=of_decide_eq_true (by first|(with_reducible assumption)|assumption);have q286:x5_1 < (l0.length:Int):=of_decide_eq_true (by first|(with_reducible assumption)|assumption);obtain⟨ad286,A286_0,c286_0,e286,hx286_0,hx286_1,hx286_2,hx286_3,hx286_4,hl286_0,hi286_0⟩:=at_T48 HR0.out x5_1 p286 q286;obtain rfl:ad283 = ad286:=(by injection e286);have HR286_0:=mk0 hi286_0;have HC286_0:=mk0 hl286_0;clear hi286_0 hl286_0;replace p286:=eq_true p286;replace q286:=eq_true q286;have ea_:=Option.some.inj (hx283_0.symm.trans hx286_0);injection ea_ with ea_ en_ ec_;subst ea_;subst ec_;clear en_;have p287:0 ≤ (x5_1:Int):=of_decide_eq_true (by first|(with_reducible assumption)|assumption);have q287:x5_1 < (l0.length:Int):=of_decide_eq_true (by first|(with_reducible assumption)|assumption);obtain⟨ad287,A287_0,c287_0,e287,hx287_0,hx287_1,hx287_2,hx287_3,hx287_4,hl287_0,hi287_0⟩:=at_T48 HR0.out x5_1 p287 q287;obtain rfl:ad283 = ad287:=(by injection e287);have HR287_0:=mk0 hi287_0;have HC287_0:=mk0 hl287_0;clear hi287_0 hl287_0;replace p287:=eq_true p287;replace q287:=eq_true q287;have ea_:=Option.some.inj (hx283_0.symm.trans hx287_0);injection ea_ with ea_ en_ ec_;subst ea_;subst ec_;clear en_))
    go_ret
    exact⟨by first|rfl|(simp;done)|(simp [*];done),by repeat (first|exact Drawn0.refl _|apply Drawn0.step)⟩
   rw [if_pos c9] at H
   have c9b0:(((rd_T48 l0 x5_1).f3) == (wrap64 ((wrap64 (t284 + 1)) + 1))) = true:=beq_iff_eq.mpr c9
   have c9b1:(((rd_T48 l0 x5_1).f3) != (wrap64 ((wrap64 (t284 + 1)) + 1))) = false:=bne_eq_false_iff_eq.mpr c9
   clear c9
   by_cases c10:((rd_T48 l0 x5_1).f4) = (wrap64 ((wrap64 ((wrap64 (t284 + 1)) + 1)) + 1))
   rotate_left
   ·rw [if_neg c10] at H
    have c10b0:(((rd_T48 l0 x5_1).f4) == (wrap64 ((wrap64 ((wrap64 (t284 + 1)) + 1)) + 1))) = false:=beq_eq_false_iff_ne.mpr c10
    have c10b1:(((rd_T48 l0 x5_1).f4) != (wrap64 ((wrap64 ((wrap64 (t284 + 1)) + 1)) + 1))) = true:=bne_iff_ne.mpr c10
    obtain rfl:=Option.some.inj H
    have p283:0 ≤ (x5_1:Int):=of_decide_eq_true (by first|(with_reducible assumption)|assumption)
    have q283:x5_1 < (l0.length:Int):=of_decide_eq_true (by first|(with_reducible assumption)|assumption)
    obtain⟨ad283,A283_0,c283_0,e283,hx283_0,hx283_1,hx283_2,hx283_3,hx283_4,hl283_0,hi283_0⟩:=at_T48 HR0.out x5_1 p283 q283
    cases e283
    have HR283_0:=mk0 hi283_0
    have HC283_0:=mk0 hl283_0
    clear hi283_0 hl283_0
    replace p283:=eq_true p283
    replace q283:=eq_true q283
    go_wp2_with (first|((with_reducible refine gate_callee (f:=57) rfl ?_);refine gL (some 18) Try.func57 #[.slice A283_0 ((rd_T48 l0 x5_1).f0).length c283_0,.int .i64 x1_1] ?_;(with_reducible refine (laws_heldByteS.calls k1 _ _ ((rd_T48 l0 x5_1).f0) x1_1 t284 _ ?side1 ?side2 A5.out).mono ?_);(case side1=>repeat (first|exact HR283_0.out|(with_reducible first|apply aC|apply nC|apply dC)));(case side2=>exact HC283_0.out);rintro e w' ⟨rfl,⟨nd,rfl⟩⟩;refine⟨_,rfl,?_⟩;have p285:0 ≤ (x5_1:Int):=of_decide_eq_true (by first|(with_reducible assumption)|assumption);have q285:x5_1 < (l0.length:Int):=of_decide_eq_true (by first|(with_reducible assumption)|assumption);obtain⟨ad285,A285_0,c285_0,e285,hx285_0,hx285_1,hx285_2,hx285_3,hx285_4,hl285_0,hi285_0⟩:=at_T48 HR0.out x5_1 p285 q285;obtain rfl:ad283 = ad285:=(by injection e285);have HR285_0:=mk0 hi285_0;have HC285_0:=mk0 hl285_0;clear hi285_0 hl285_0;replace p285:=eq_true p285;replace q285:=eq_true q285;have ea_:=Option.some.inj (hx283_0.symm.trans hx285_0);injection ea_ with ea_ en_ ec_;subst ea_;subst ec_;clear en_;have p286:0 ≤ (x5_1:Int):=of_decide_eq_true (by first|(with_reducible assumption)|assumption);have q286:x5_1 < (l0.length:Int):=of_decide_eq_true (by first|(with_reducible assumption)|assumption);obtain⟨ad286,A286_0,c286_0,e286,hx286_0,hx286_1,hx286_2,hx286_3,hx286_4,hl286_0,hi286_0⟩:=at_T48 HR0.out x5_1 p286 q286;obtain rfl:ad283 = ad286:=(by injection e286);have HR286_0:=mk0 hi286_0;have HC286_0:=mk0 hl286_0;clear hi286_0 hl286_0;replace p286:=eq_true p286;replace q286:=eq_true q286;have ea_:=Option.some.inj (hx283_0.symm.trans hx286_0);injection ea_ with ea_ en_ ec_;subst ea_;subst ec_;clear en_;have p287:0 ≤ (x5_1:Int):=of_decide_eq_true (by first|(with_reducible assumption)|assumption);have q287:x5_1 < (l0.length:Int):=of_decide_eq_true (by first|(with_reducible assumption)|assumption);obtain⟨ad287,A287_0,c287_0,e287,hx287_0,hx287_1,hx287_2,hx287_3,hx287_4,hl287_0,hi287_0⟩:=at_T48 HR0.out x5_1 p287 q287;obtain rfl:ad283 = ad287:=(by injection e287);have HR287_0:=mk0 hi287_0;have HC287_0:=mk0 hl287_0;clear hi287_0 hl287_0;replace p287:=eq_true p287;replace q287:=eq_true q287;have ea_:=Option.some.inj (hx283_0.symm.trans hx287_0);injection ea_ with ea_ en_ ec_;subst ea_;subst ec_;clear en_;have p288:0 ≤ (x5_1:Int):=of_decide_eq_true (by first|(with_reducible assumption)|assumption);have q288:x5_1 < (l0.length:Int):=of_decide_eq_true (by first|(with_reducible assumption)|assumption);obtain⟨ad288,A288_0,c288_0,e288,hx288_0,hx288_1,hx288_2,hx288_3,hx288_4,hl288_0,hi288_0⟩:=at_T48 HR0.out x5_1 p288 q288;obtain rfl:ad283 = ad288:=(by injection e288);have HR288_0:=mk0 hi288_0;have HC288_0:=mk0 hl288_0;clear hi288_0 hl288_0;replace p288:=eq_true p288;replace q288:=eq_true q288;have ea_:=Option.some.inj (hx283_0.symm.trans hx288_0);injection ea_ with ea_ en_ ec_;subst ea_;subst ec_;clear en_))
    go_ret
    exact⟨by first|rfl|(simp;done)|(simp [*];done),by repeat (first|exact Drawn0.refl _|apply Drawn0.step)⟩
   rw [if_pos c10] at H
   have c10b0:(((rd_T48 l0 x5_1).f4) == (wrap64 ((wrap64 ((wrap64 (t284 + 1)) + 1)) + 1))) = true:=beq_iff_eq.mpr c10
   have c10b1:(((rd_T48 l0 x5_1).f4) != (wrap64 ((wrap64 ((wrap64 (t284 + 1)) + 1)) + 1))) = false:=bne_eq_false_iff_eq.mpr c10
   clear c10
   have H':=mk0 H
   clear H
   have p283:0 ≤ (x5_1:Int):=of_decide_eq_true (by first|(with_reducible assumption)|assumption)
   have q283:x5_1 < (l0.length:Int):=of_decide_eq_true (by first|(with_reducible assumption)|assumption)
   obtain⟨ad283,A283_0,c283_0,e283,hx283_0,hx283_1,hx283_2,hx283_3,hx283_4,hl283_0,hi283_0⟩:=at_T48 HR0.out x5_1 p283 q283
   cases e283
   have HR283_0:=mk0 hi283_0
   have HC283_0:=mk0 hl283_0
   clear hi283_0 hl283_0
   replace p283:=eq_true p283
   replace q283:=eq_true q283
   go_wp2_with (first|((with_reducible refine gate_callee (f:=57) rfl ?_);refine gL (some 18) Try.func57 #[.slice A283_0 ((rd_T48 l0 x5_1).f0).length c283_0,.int .i64 x1_1] ?_;(with_reducible refine (laws_heldByteS.calls k1 _ _ ((rd_T48 l0 x5_1).f0) x1_1 t284 _ ?side1 ?side2 A5.out).mono ?_);(case side1=>repeat (first|exact HR283_0.out|(with_reducible first|apply aC|apply nC|apply dC)));(case side2=>exact HC283_0.out);rintro e w' ⟨rfl,⟨nd,rfl⟩⟩;refine⟨_,rfl,?_⟩;have p285:0 ≤ (x5_1:Int):=of_decide_eq_true (by first|(with_reducible assumption)|assumption);have q285:x5_1 < (l0.length:Int):=of_decide_eq_true (by first|(with_reducible assumption)|assumption);obtain⟨ad285,A285_0,c285_0,e285,hx285_0,hx285_1,hx285_2,hx285_3,hx285_4,hl285_0,hi285_0⟩:=at_T48 HR0.out x5_1 p285 q285;obtain rfl:ad283 = ad285:=(by injection e285);have HR285_0:=mk0 hi285_0;have HC285_0:=mk0 hl285_0;clear hi285_0 hl285_0;replace p285:=eq_true p285;replace q285:=eq_true q285;have ea_:=Option.some.inj (hx283_0.symm.trans hx285_0);injection ea_ with ea_ en_ ec_;subst ea_;subst ec_;clear en_;have p286:0 ≤ (x5_1:Int):=of_decide_eq_true (by first|(with_reducible assumption)|assumption);have q286:x5_1 < (l0.length:Int):=of_decide_eq_true (by first|(with_reducible assumption)|assumption);obtain⟨ad286,A286_0,c286_0,e286,hx286_0,hx286_1,hx286_2,hx286_3,hx286_4,hl286_0,hi286_0⟩:=at_T48 HR0.out x5_1 p286 q286;obtain rfl:ad283 = ad286:=(by injection e286);have HR286_0:=mk0 hi286_0;have HC286_0:=mk0 hl286_0;clear hi286_0 hl286_0;replace p286:=eq_true p286;replace q286:=eq_true q286;have ea_:=Option.some.inj (hx283_0.symm.trans hx286_0);injection ea_ with ea_ en_ ec_;subst ea_;subst ec_;clear en_;have p287:0 ≤ (x5_1:Int):=of_decide_eq_true (by first|(with_reducible assumption)|assumption);have q287:x5_1 < (l0.length:Int):=of_decide_eq_true (by first|(with_reducible assumption)|assumption);obtain⟨ad287,A287_0,c287_0,e287,hx287_0,hx287_1,hx287_2,hx287_3,hx287_4,hl287_0,hi287_0⟩:=at_T48 HR0.out x5_1 p287 q287;obtain rfl:ad283 = ad287:=(by injection e287);have HR287_0:=mk0 hi287_0;have HC287_0:=mk0 hl287_0;clear hi287_0 hl287_0;replace p287:=eq_true p287;replace q287:=eq_true q287;have ea_:=Option.some.inj (hx283_0.symm.trans hx287_0);injection ea_ with ea_ en_ ec_;subst ea_;subst ec_;clear en_;have p288:0 ≤ (x5_1:Int):=of_decide_eq_true (by first|(with_reducible assumption)|assumption);have q288:x5_1 < (l0.length:Int):=of_decide_eq_true (by first|(with_reducible assumption)|assumption);obtain⟨ad288,A288_0,c288_0,e288,hx288_0,hx288_1,hx288_2,hx288_3,hx288_4,hl288_0,hi288_0⟩:=at_T48 HR0.out x5_1 p288 q288;obtain rfl:ad283 = ad288:=(by injection e288);have HR288_0:=mk0 hi288_0;have HC288_0:=mk0 hl288_0;clear hi288_0 hl288_0;replace p288:=eq_true p288;replace q288:=eq_true q288;have ea_:=Option.some.inj (hx283_0.symm.trans hx288_0);injection ea_ with ea_ en_ ec_;subst ea_;subst ec_;clear en_))
   go_roundg k1
   case measure=>have:=HK1.out;omega
   case rel=>exact⟨(wrap64 ((wrap64 ((wrap64 ((wrap64 (t284 + 1)) + 1)) + 1)) + 1)),(wrap64 (x5_1 + 1)),(by first|rfl|(simp;done)|(simp [*];done)),(by first|rfl|(simp;done)|(simp [*];done)),H',⟨by have:=HK1.out;omega⟩,by repeat (first|exact Drawn0.refl _|apply Drawn0.step)⟩
/-! ### laws_FnExactParts: function 8 -/
def laws_FnExactParts.f (k : Nat) (l0 : List Int) (l1 : List Int) (a2 : Int) : Option (Bool) := if (l0.length : Int) > 1048576 then (some true) else (if (l1.length : Int) > 1048576 then (some true) else
 ((laws_toByteS.f k l0).bind fun t0 => ((laws_toByteS.f k l1).bind fun t1 => ((spec_Parts.f k t0 t1 a2).bind fun p => ((impl_Parts.f k t0 t1 a2).bind fun g => ((laws_eqPartS.f k g p).bind fun q0 => ((laws_eqByteS.f k t0 t0).bind fun q1 => ((laws_eqByteS.f k t1 t1).bind fun q2 => ((laws_markByteS.f k t0 1).bind fun m0 => ((laws_markByteS.f k t1 m0.1).bind fun m1 =>
 ((laws_markPartS.f k g 1).bind fun m2 => ((laws_heldPartS.f k m2.2 1).bind fun q3 => (if q0 = true ∧ q1 = true ∧ q2 = true ∧ 0 ≤ m1.1 ∧ 0 ≤ q3 ∧ q3 = m2.1 then (some true) else (none))))))))))))))
set_option maxHeartbeats 8000000 in
set_option maxRecDepth 100000 in
theorem laws_FnExactParts.calls (k : Nat) (A0 : Option Addr) (c0 : Nat) (l0 : List Int) (A1 : Option Addr) (c1 : Nat) (l1 : List Int) (a2 : Int) (r : Bool) (w : World) (hr0 : Kd.C (Kd.int .u8) w A0 l0.length l0) (hc0 : l0.length ≤ c0) (hr1 : Kd.C (Kd.int .u8) w A1 l1.length l1) (hc1 : l1.length ≤ c1) (h : laws_FnExactParts.f k l0 l1 a2 = some r) :
  Calls Try.prog 8 #[.slice A0 l0.length c0, .slice A1 l1.length c1, .int .i64 a2] w fun e w' => e = .returned (.bool r) ∧ Below w.heap.size w w' := by
 have hu48:=Try.underlying48
 have HR0:=mk0 hr0
 have HC0:=mk0 hc0
 clear hr0 hc0
 have HR1:=mk0 hr1
 have HC1:=mk0 hc1
 clear hr1 hc1
 have HB:=mk0 (Below.refl w.heap.size w)
 unfold laws_FnExactParts.f at h
 by_cases c4:(l0.length:Int) > 1048576
 ·rw [if_pos c4] at h
  have c4b0:decide (1048576 < (l0.length:Int)) = true:=decide_eq_true c4
  have c4b1:decide (1048576 < l0.length) = true:=decide_eq_true (by omega)
  clear c4
  obtain rfl:=Option.some.inj h
  go_enter Try.func8,Try.ntmps8
  go_wp2
  go_ret
  exact⟨rfl,kB HB.out⟩
 rw [if_neg c4] at h
 have c4b0:decide (1048576 < (l0.length:Int)) = false:=decide_eq_false c4
 have c4b1:decide (1048576 < l0.length) = false:=decide_eq_false (by omega)
 clear c4
 by_cases c5:(l1.length:Int) > 1048576
 ·rw [if_pos c5] at h
  have c5b0:decide (1048576 < (l1.length:Int)) = true:=decide_eq_true c5
  have c5b1:decide (1048576 < l1.length) = true:=decide_eq_true (by omega)
  clear c5
  obtain rfl:=Option.some.inj h
  go_enter Try.func8,Try.ntmps8
  go_wp2
  go_ret
  exact⟨rfl,kB HB.out⟩
 rw [if_neg c5] at h
 have c5b0:decide (1048576 < (l1.length:Int)) = false:=decide_eq_false c5
 have c5b1:decide (1048576 < l1.length) = false:=decide_eq_false (by omega)
 clear c5
 replace h:=Option.bind_eq_some_iff.mp h
 obtain⟨t0,h0,h⟩:=h
 replace h:=Option.bind_eq_some_iff.mp h
 obtain⟨t1,h1,h⟩:=h
 replace h:=Option.bind_eq_some_iff.mp h
 obtain⟨p,h2,h⟩:=h
 replace h:=Option.bind_eq_some_iff.mp h
 obtain⟨g,h3,h⟩:=h
 replace h:=Option.bind_eq_some_iff.mp h
 obtain⟨q0,h4,h⟩:=h
 replace h:=Option.bind_eq_some_iff.mp h
 obtain⟨q1,h5,h⟩:=h
 replace h:=Option.bind_eq_some_iff.mp h
 obtain⟨q2,h6,h⟩:=h
 replace h:=Option.bind_eq_some_iff.mp h
 obtain⟨⟨n0,u0⟩,h7,h⟩:=h
 replace h:=Option.bind_eq_some_iff.mp h
 obtain⟨⟨n1,u1⟩,h8,h⟩:=h
 replace h:=Option.bind_eq_some_iff.mp h
 obtain⟨⟨m,g'⟩,h9,h⟩:=h
 replace h:=Option.bind_eq_some_iff.mp h
 obtain⟨q3,h10,h⟩:=h
 split at h
 rotate_left
 ·cases h
 rename_i hc
 obtain⟨rfl,rfl,rfl,hn,hm,e3⟩:=hc
 replace e3:q3 = m:=e3
 subst e3
 obtain rfl:=Option.some.inj h
 have F0_:=mk0 h0
 have F1_:=mk0 h1
 have F2_:=mk0 h2
 have F3_:=mk0 h3
 have F4_:=mk0 h4
 have F5_:=mk0 h5
 have F6_:=mk0 h6
 have F7_:=mk0 h7
 have F8_:=mk0 h8
 have F9_:=mk0 h9
 have F10_:=mk0 h10
 have c6b0:decide (n1 < 0) = false:=decide_eq_false (by have hn_:0 ≤ n1:=hn;omega)
 have c7b0:decide (q3 < 0) = false:=decide_eq_false (by have hm_:0 ≤ q3:=hm;omega)
 have c8b0:(q3 == q3) = true:=beq_self_eq_true _
 have c8b1:(q3 != q3) = false:=bne_self_eq_false _
 clear h h0 h1 h2 h3 h4 h5 h6 h7 h8 h9 h10 hn hm
 go_enter Try.func8,Try.ntmps8
 go_wp2_with (first
  |((with_reducible refine gate_callee (f:=10) rfl ?_);refine gL (some 22) Try.func10 #[.slice A0 l0.length c0] ?_;(with_reducible refine (laws_toByteS.calls k _ _ l0 t0 _ ?side1 ?side2 F0_.out).mono ?_);(case side1=>exact Kd.C_below HR0.out (kB HB.out));(case side2=>exact HC0.out);rintro e w1_ ⟨vU0,rfl,ho0,hb⟩;refine⟨_,rfl,?_⟩;have U0:=mk0 (Kd.R_lower ho0 (kZ HB.out));replace HB:=mk0 (kS HB.out hb);clear hb ho0)
  |((with_reducible refine gate_callee (f:=10) rfl ?_);refine gL (some 24) Try.func10 #[.slice A1 l1.length c1] ?_;(with_reducible refine (laws_toByteS.calls k _ _ l1 t1 _ ?side1 ?side2 F1_.out).mono ?_);(case side1=>exact Kd.C_below HR1.out (kB HB.out));(case side2=>exact HC1.out);rintro e w2_ ⟨vU1,rfl,ho0,hb⟩;refine⟨_,rfl,?_⟩;replace U0:=mk0 (bR U0.out hb);have U1:=mk0 (Kd.R_lower ho0 (kZ HB.out));replace HB:=mk0 (kS HB.out hb);clear hb ho0;obtain⟨AU0,cU0,eU0⟩:=Kd.R_slice U0.out;subst eU0;obtain⟨AU1,cU1,eU1⟩:=Kd.R_slice U1.out;subst eU1)
  |((with_reducible refine gate_callee (f:=27) rfl ?_);refine gL (some 26) Try.func27 #[.slice AU0 t0.length cU0,.slice AU1 t1.length cU1,.int .i64 a2] ?_;(with_reducible refine (spec_Parts.calls k (fun _=>True) _ _ t0 (fun _=>True) _ _ t1 a2 p _ ?side1 ?side2 F2_.out).mono ?_);(case side1=>exact Kd.R_V (ok:=fun _=>True) (rR U0.out));(case side2=>exact Kd.R_V (ok:=fun _=>True) (rR U1.out));rintro e w3_ ⟨vPP,rfl,ho0,hb⟩;refine⟨_,rfl,?_⟩;have PP:=mk0 (show Kd.N k48 48 w3_ w.heap.size (fun k_=>k_ < w3_.heap.size) vPP p from Kd.N_lower (Kd.N_mono (Kd.N_bound ho0) (fun k_ h_=>h_.2)) (kZ HB.out));replace HB:=mk0 (kS HB.out hb);clear hb ho0 U0 U1;obtain⟨APP,cPP,ePP⟩:=Kd.N_slice PP.out;subst ePP)
  |((with_reducible refine gate_callee (f:=10) rfl ?_);refine gL (some 28) Try.func10 #[.slice A0 l0.length c0] ?_;(with_reducible refine (laws_toByteS.calls k _ _ l0 t0 _ ?side1 ?side2 F0_.out).mono ?_);(case side1=>exact Kd.C_below HR0.out (kB HB.out));(case side2=>exact HC0.out);rintro e w4_ ⟨vX0,rfl,ho0,hb⟩;refine⟨_,rfl,?_⟩;replace PP:=mk0 (bN PP.out hb);have X0:=mk0 (show Kd.R (Kd.int .u8) 5 w4_ w.heap.size (fun k_=>w3_.heap.size ≤ k_ ∧ k_ < w4_.heap.size) vX0 t0 from Kd.R_lower (Kd.R_mono (Kd.R_bound ho0) (fun k_ h_=>⟨h_.2.1,h_.2.2.1⟩)) (kZ HB.out));replace HB:=mk0 (kS HB.out hb);have SZ0:=mk0 (show w3_.heap.size ≤ w4_.heap.size from hb.size);clear hb ho0)
  |((with_reducible refine gate_callee (f:=10) rfl ?_);refine gL (some 30) Try.func10 #[.slice A1 l1.length c1] ?_;(with_reducible refine (laws_toByteS.calls k _ _ l1 t1 _ ?side1 ?side2 F1_.out).mono ?_);(case side1=>exact Kd.C_below HR1.out (kB HB.out));(case side2=>exact HC1.out);rintro e w5_ ⟨vX1,rfl,ho0,hb⟩;refine⟨_,rfl,?_⟩;replace PP:=mk0 (bN PP.out hb);replace X0:=mk0 (bR X0.out hb);have X1:=mk0 (show Kd.R (Kd.int .u8) 5 w5_ w.heap.size (fun k_=>w4_.heap.size ≤ k_ ∧ k_ < w5_.heap.size) vX1 t1 from Kd.R_lower (Kd.R_mono (Kd.R_bound ho0) (fun k_ h_=>⟨h_.2.1,h_.2.2.1⟩)) (kZ HB.out));replace HB:=mk0 (kS HB.out hb);have SZ1:=mk0 (show w4_.heap.size ≤ w5_.heap.size from hb.size);clear hb ho0;obtain⟨AX0,cX0,eX0⟩:=Kd.R_slice X0.out;subst eX0;obtain⟨AX1,cX1,eX1⟩:=Kd.R_slice X1.out;subst eX1)
  |((with_reducible refine gate_callee (f:=28) rfl ?_);refine gL (some 34) Try.func28 #[.slice AX0 t0.length cX0,.slice AX1 t1.length cX1,.int .i64 a2] ?_;(with_reducible refine (impl_Parts.calls k _ _ t0 _ _ t1 a2 g _ ?side1 ?side2 ?side3 ?side4 F3_.out).mono ?_);(case side1=>exact kC (Kd.R_reads' X0.out).2.2);(case side2=>exact (Kd.R_reads' X0.out).2.1);(case side3=>exact kC (Kd.R_reads' X1.out).2.2);(case side4=>exact (Kd.R_reads' X1.out).2.1);rintro e w6_ ⟨vGG,rfl,ho0,hb⟩;refine⟨_,rfl,?_⟩;replace PP:=mk0 (bN PP.out hb);replace X0:=mk0 (bR X0.out hb);replace X1:=mk0 (bR X1.out hb);have GG:=mk0 (show Kd.S k48c 48 w6_ w.heap.size (fun k_=>w5_.heap.size ≤ k_) vGG g from Kd.S_lower (Kd.S_mono (Kd.S_bound ho0) (fun k_ h_=>h_.2.1)) (kZ HB.out));replace HB:=mk0 (kS HB.out hb);clear hb ho0;obtain⟨AGG,cGG,eGG⟩:=Kd.S_slice GG.out;subst eGG)
  |((with_reducible refine gate_callee (f:=32) rfl ?_);refine gL (some 37) Try.func32 #[.slice AGG g.length cGG,.slice APP p.length cPP] ?_;(with_reducible refine (laws_eqPartS.calls k _ _ g _ _ p true _ ?side1 ?side2 ?side3 ?side4 F4_.out).mono ?_);(case side1=>exact k48c_C (kC (Kd.S_reads' GG.out).2.2));(case side2=>exact (Kd.S_reads' GG.out).2.1);(case side3=>exact kC (Kd.N_reads' PP.out).2.2);(case side4=>exact (Kd.N_reads' PP.out).2.1);rintro e w7_ ⟨rfl,hb⟩;refine⟨_,rfl,?_⟩;replace PP:=mk0 (bN PP.out hb);replace X0:=mk0 (bR X0.out hb);replace X1:=mk0 (bR X1.out hb);replace GG:=mk0 (bS GG.out hb);replace HB:=mk0 (kS HB.out hb);clear hb)
  |((with_reducible refine gate_callee (f:=10) rfl ?_);refine gL (some 41) Try.func10 #[.slice A0 l0.length c0] ?_;(with_reducible refine (laws_toByteS.calls k _ _ l0 t0 _ ?side1 ?side2 F0_.out).mono ?_);(case side1=>exact Kd.C_below HR0.out (kB HB.out));(case side2=>exact HC0.out);rintro e w8_ ⟨vY0,rfl,ho0,hb⟩;refine⟨_,rfl,?_⟩;replace PP:=mk0 (bN PP.out hb);replace X0:=mk0 (bR X0.out hb);replace X1:=mk0 (bR X1.out hb);replace GG:=mk0 (bS GG.out hb);have Y0:=mk0 (Kd.R_lower ho0 (kZ HB.out));replace HB:=mk0 (kS HB.out hb);clear hb ho0;obtain⟨AY0,cY0,eY0⟩:=Kd.R_slice Y0.out;subst eY0)
  |((with_reducible refine gate_callee (f:=12) rfl ?_);refine gL (some 42) Try.func12 #[.slice AX0 t0.length cX0,.slice AY0 t0.length cY0] ?_;(with_reducible refine (laws_eqByteS.calls k _ _ t0 _ _ t0 true _ ?side1 ?side2 ?side3 ?side4 F5_.out).mono ?_);(case side1=>exact kC (Kd.R_reads' X0.out).2.2);(case side2=>exact (Kd.R_reads' X0.out).2.1);(case side3=>exact kC (Kd.R_reads' Y0.out).2.2);(case side4=>exact (Kd.R_reads' Y0.out).2.1);rintro e w' ⟨rfl,⟨nd,rfl⟩⟩;refine⟨_,rfl,?_⟩;clear Y0)
  |((with_reducible refine gate_callee (f:=10) rfl ?_);refine gL (some 46) Try.func10 #[.slice A1 l1.length c1] ?_;(with_reducible refine (laws_toByteS.calls k _ _ l1 t1 _ ?side1 ?side2 F1_.out).mono ?_);(case side1=>exact Kd.C_below HR1.out (kB HB.out));(case side2=>exact HC1.out);rintro e w9_ ⟨vY1,rfl,ho0,hb⟩;refine⟨_,rfl,?_⟩;replace PP:=mk0 (bN PP.out hb);replace X0:=mk0 (bR X0.out hb);replace X1:=mk0 (bR X1.out hb);replace GG:=mk0 (bS GG.out hb);have Y1:=mk0 (Kd.R_lower ho0 (kZ HB.out));replace HB:=mk0 (kS HB.out hb);clear hb ho0;obtain⟨AY1,cY1,eY1⟩:=Kd.R_slice Y1.out;subst eY1)
  |((with_reducible refine gate_callee (f:=12) rfl ?_);refine gL (some 47) Try.func12 #[.slice AX1 t1.length cX1,.slice AY1 t1.length cY1] ?_;(with_reducible refine (laws_eqByteS.calls k _ _ t1 _ _ t1 true _ ?side1 ?side2 ?side3 ?side4 F6_.out).mono ?_);(case side1=>exact kC (Kd.R_reads' X1.out).2.2);(case side2=>exact (Kd.R_reads' X1.out).2.1);(case side3=>exact kC (Kd.R_reads' Y1.out).2.2);(case side4=>exact (Kd.R_reads' Y1.out).2.1);rintro e w' ⟨rfl,⟨nd,rfl⟩⟩;refine⟨_,rfl,?_⟩;clear Y1)
  |((with_reducible refine gate_callee (f:=16) rfl ?_);refine gL (some 51) Try.func16 #[.slice AX0 t0.length cX0,.int .i64 1] ?_;(with_reducible refine (laws_markByteS.calls k (fun k_=>w3_.heap.size ≤ k_ ∧ k_ < w4_.heap.size) _ t0 1 n0 u0 w _ ?side1 ?side2 F7_.out).mono ?_);(case side1=>exact kB HB.out);(case side2=>exact rR X0.out);rintro e w10_ ⟨rfl,ho0,hb,hk⟩;refine⟨_,rfl,?_⟩;replace X1:=mk0 (Kd.R_kept (rR X1.out) hk (fun k_ h_ s_=>(by omega)));replace PP:=mk0 (Kd.N_kept (rN PP.out) hk (fun k_ h_ s_=>(by omega)));replace GG:=mk0 (Kd.S_kept (rS GG.out) hk (fun k_ h_ s_=>(by have z_:w4_.heap.size ≤ w5_.heap.size:=SZ1.out;omega)));replace HB:=mk0 hb;clear hb hk ho0 X0)
  |((with_reducible refine gate_callee (f:=16) rfl ?_);refine gL (some 54) Try.func16 #[.slice AX1 t1.length cX1,.int .i64 n0] ?_;(with_reducible refine (laws_markByteS.calls k (fun k_=>w4_.heap.size ≤ k_ ∧ k_ < w5_.heap.size) _ t1 n0 n1 u1 w _ ?side1 ?side2 F8_.out).mono ?_);(case side1=>exact kB HB.out);(case side2=>exact rR X1.out);rintro e w11_ ⟨rfl,ho0,hb,hk⟩;refine⟨_,rfl,?_⟩;replace PP:=mk0 (Kd.N_kept (rN PP.out) hk (fun k_ h_ s_=>(by have z_:w3_.heap.size ≤ w4_.heap.size:=SZ0.out;omega)));replace GG:=mk0 (Kd.S_kept (rS GG.out) hk (fun k_ h_ s_=>(by omega)));replace HB:=mk0 hb;clear hb hk ho0 X1)
  |(go_at_call 32;(with_reducible refine (laws_eqPartS.calls k _ _ g _ _ p true _ ?side1 ?side2 ?side3 ?side4 F4_.out).mono ?_);(case side1=>exact k48c_C (kC (Kd.S_reads' GG.out).2.2));(case side2=>exact (Kd.S_reads' GG.out).2.1);(case side3=>exact kC (Kd.N_reads' PP.out).2.2);(case side4=>exact (Kd.N_reads' PP.out).2.1);rintro e w12_ ⟨rfl,hb⟩;replace PP:=mk0 (bN PP.out hb);replace GG:=mk0 (bS GG.out hb);replace HB:=mk0 (kS HB.out hb);clear hb)
  |((with_reducible refine gate_callee (f:=33) rfl ?_);refine gL (some 65) Try.func33 #[.slice AGG g.length cGG,.int .i64 1] ?_;(with_reducible refine (laws_markPartS.calls k (fun k_=>w5_.heap.size ≤ k_) _ g 1 q3 g' w _ ?side1 ?side2 F9_.out).mono ?_);(case side1=>exact kB HB.out);(case side2=>exact rS GG.out);rintro e w13_ ⟨rfl,ho0,hb,hk⟩;refine⟨_,rfl,?_⟩;replace PP:=mk0 (Kd.N_kept (rN PP.out) hk (fun k_ h_ s_=>(by have z_:w3_.heap.size ≤ w4_.heap.size:=SZ0.out;have y_:w4_.heap.size ≤ w5_.heap.size:=SZ1.out;omega)));replace HB:=mk0 hb;have hl_:g.length = g'.length:=(Kd.S_reads' ho0).1;rw [hl_] at ho0;(try rw [hl_]);clear GG hb hk;have GG:=mk0 ho0;clear ho0 hl_)
  |((with_reducible refine gate_callee (f:=34) rfl ?_);refine gL (some 68) Try.func34 #[.slice AGG g'.length cGG,.int .i64 1] ?_;(with_reducible refine (laws_heldPartS.calls k _ _ g' 1 q3 _ ?side1 ?side2 F10_.out).mono ?_);(case side1=>exact k48c_C (kC (Kd.S_reads' GG.out).2.2));(case side2=>exact (Kd.S_reads' GG.out).2.1);rintro e w' ⟨rfl,⟨nd,rfl⟩⟩;refine⟨_,rfl,?_⟩)
  |((with_reducible refine gate_callee (f:=10) rfl ?_);refine gL (some 75) Try.func10 #[.slice A0 l0.length c0] ?_;(with_reducible refine (laws_toByteS.calls k _ _ l0 t0 _ ?side1 ?side2 F0_.out).mono ?_);(case side1=>exact Kd.C_below HR0.out (kB HB.out));(case side2=>exact HC0.out);rintro e w14_ ⟨vZ0,rfl,ho0,hb⟩;refine⟨_,rfl,?_⟩;replace PP:=mk0 (bN PP.out hb);replace GG:=mk0 (bS GG.out hb);have Z0:=mk0 (Kd.R_lower ho0 (kZ HB.out));replace HB:=mk0 (kS HB.out hb);clear hb ho0)
  |((with_reducible refine gate_callee (f:=10) rfl ?_);refine gL (some 77) Try.func10 #[.slice A1 l1.length c1] ?_;(with_reducible refine (laws_toByteS.calls k _ _ l1 t1 _ ?side1 ?side2 F1_.out).mono ?_);(case side1=>exact Kd.C_below HR1.out (kB HB.out));(case side2=>exact HC1.out);rintro e w15_ ⟨vZ1,rfl,ho0,hb⟩;refine⟨_,rfl,?_⟩;replace PP:=mk0 (bN PP.out hb);replace GG:=mk0 (bS GG.out hb);replace Z0:=mk0 (bR Z0.out hb);have Z1:=mk0 (Kd.R_lower ho0 (kZ HB.out));replace HB:=mk0 (kS HB.out hb);clear hb ho0;obtain⟨AZ0,cZ0,eZ0⟩:=Kd.R_slice Z0.out;subst eZ0;obtain⟨AZ1,cZ1,eZ1⟩:=Kd.R_slice Z1.out;subst eZ1)
  |((with_reducible refine gate_callee (f:=28) rfl ?_);refine gL (some 79) Try.func28 #[.slice AZ0 t0.length cZ0,.slice AZ1 t1.length cZ1,.int .i64 a2] ?_;(with_reducible refine (impl_Parts.calls k _ _ t0 _ _ t1 a2 g _ ?side1 ?side2 ?side3 ?side4 F3_.out).mono ?_);(case side1=>exact kC (Kd.R_reads' Z0.out).2.2);(case side2=>exact (Kd.R_reads' Z0.out).2.1);(case side3=>exact kC (Kd.R_reads' Z1.out).2.2);(case side4=>exact (Kd.R_reads' Z1.out).2.1);rintro e w16_ ⟨vHH,rfl,ho0,hb⟩;refine⟨_,rfl,?_⟩;replace PP:=mk0 (bN PP.out hb);replace GG:=mk0 (bS GG.out hb);replace Z0:=mk0 (bR Z0.out hb);replace Z1:=mk0 (bR Z1.out hb);have HH:=mk0 (Kd.S_lower ho0 (kZ HB.out));replace HB:=mk0 (kS HB.out hb);clear hb ho0;obtain⟨AHH,cHH,eHH⟩:=Kd.S_slice HH.out;subst eHH)
  |((with_reducible refine gate_callee (f:=32) rfl ?_);refine gL (some 82) Try.func32 #[.slice AHH g.length cHH,.slice APP p.length cPP] ?_;(with_reducible refine (laws_eqPartS.calls k _ _ g _ _ p true _ ?side1 ?side2 ?side3 ?side4 F4_.out).mono ?_);(case side1=>exact k48c_C (kC (Kd.S_reads' HH.out).2.2));(case side2=>exact (Kd.S_reads' HH.out).2.1);(case side3=>exact kC (Kd.N_reads' PP.out).2.2);(case side4=>exact (Kd.N_reads' PP.out).2.1);rintro e w17_ ⟨rfl,hb⟩;refine⟨_,rfl,?_⟩;replace PP:=mk0 (bN PP.out hb);replace GG:=mk0 (bS GG.out hb);replace Z0:=mk0 (bR Z0.out hb);replace Z1:=mk0 (bR Z1.out hb);replace HH:=mk0 (bS HH.out hb);replace HB:=mk0 (kS HB.out hb);clear hb)
  |((with_reducible refine gate_callee (f:=34) rfl ?_);refine gL (some 86) Try.func34 #[.slice AGG g'.length cGG,.int .i64 1] ?_;(with_reducible refine (laws_heldPartS.calls k _ _ g' 1 q3 _ ?side1 ?side2 F10_.out).mono ?_);(case side1=>exact k48c_C (kC (Kd.S_reads' GG.out).2.2));(case side2=>exact (Kd.S_reads' GG.out).2.1);rintro e w' ⟨rfl,⟨nd,rfl⟩⟩;refine⟨_,rfl,?_⟩))
 go_ret
 exact⟨rfl,kB HB.out⟩

def laws_FnExactParts.Pure : Prop := ∀ (l0 : List Int) (l1 : List Int) (a2 : Int), l0.length ≤ maxLen → l0.length * 1 ≤ 140737488351232 → (∀ x ∈ l0, (Lit.int .u8 x).wf = true) → l1.length ≤ maxLen → l1.length * 1 ≤ 140737488351232 → (∀ x ∈ l1, (Lit.int .u8 x).wf = true) → (Lit.int .i64 a2).wf = true → ∃ k, laws_FnExactParts.f k l0 l1 a2 = some true
theorem laws_FnExactParts.walk (P : laws_FnExactParts.Pure) (a0 : Option Addr) (len0 cap0 : Nat) (z0 : List Int) (a1 : Option Addr) (len1 cap1 : Nat) (z1 : List Int) (a2 : Int) (w : World) (w0 : (a0 = none ∧ len0 = 0 ∧ cap0 = 0 ∧ z0 = []) ∨ ∃ x, a0 = some x ∧ len0 ≤ cap0 ∧ cap0 ≤ maxLen ∧ z0.length = cap0 ∧ (∀ i, i < z0.length → w.cell? (x.add i) = some (.int .u8 (z0.getD i 0))) ∧ ∀ n ∈ z0, (Lit.int .u8 n).wf = true) (y0 : len0 * 1 ≤ 140737488351232) (w1 : (a1 = none ∧ len1 = 0 ∧ cap1 = 0 ∧ z1 = []) ∨ ∃ x, a1 = some x ∧ len1 ≤ cap1 ∧ cap1 ≤ maxLen ∧ z1.length = cap1 ∧ (∀ i, i < z1.length → w.cell? (x.add i) = some (.int .u8 (z1.getD i 0))) ∧ ∀ n ∈ z1, (Lit.int .u8 n).wf = true) (y1 : len1 * 1 ≤ 140737488351232) (w2 : (Lit.int .i64 a2).wf = true) :
    Calls Try.prog 8 #[.slice a0 len0 cap0, .slice a1 len1 cap1, .int .i64 a2] w fun e w' => e = .returned (.bool true) ∧ Below w.heap.size w w' := by
  obtain ⟨l0, rfl, hr0, hm0, hw0, hc0⟩ := ReadsInt.ofRowC w0
  obtain ⟨l1, rfl, hr1, hm1, hw1, hc1⟩ := ReadsInt.ofRowC w1
  obtain ⟨k, h⟩ := P l0 l1 a2 hm0 y0 hw0 hm1 y1 hw1 w2
  refine (laws_FnExactParts.calls k _ _ l0 _ _ l1 a2 true w (Kd.C_of_reads (d := (0 : Int)) (h1 := fun _ => rfl) hr0) hc0 (Kd.C_of_reads (d := (0 : Int)) (h1 := fun _ => rfl) hr1) hc1 h).mono ?_
  rintro e w' ⟨rfl, hd⟩
  exact ⟨rfl, hd⟩

end Go.Proofs.Ytadhngelhognaaa.QFnExactParts
