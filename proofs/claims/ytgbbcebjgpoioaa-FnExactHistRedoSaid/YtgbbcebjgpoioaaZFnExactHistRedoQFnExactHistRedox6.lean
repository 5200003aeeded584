/- Walks (lines of the print; no condition). -/
import Derived.Test.YtgbbcebjgpoioaaZFnExactHistRedoQFnExactHistRedox5
namespace Go.Proofs.Ytgbbcebjgpoioaa.PFnExactHistRedo
open Go.RowKit Go.Proofs.YtgbbcebjgpoioaaW.PrintWords Go.Proofs.YtgbbcebjgpoioaaW.PrintLast Go.Proofs.YtgbbcebjgpoioaaW.PrintMore
attribute [local go_sem] max2_int min2_int max_two min_two max_three min_three max_four min_four
set_option linter.unusedVariables false
set_option linter.unusedSimpArgs false
set_option maxHeartbeats 8000000
set_option maxRecDepth 100000
def impl_histCopy.f (k : Nat) (aA : List (S72)) (aB : List (List (S72))) (aC : List (List (S72))) : Option ((List (S72)) × (List (List (S72))) × (List (List (S72)))) := (impl_storeCopy.f k aA).bind fun aD => ((impl_storesCopy.f k aB).bind fun aE => ((impl_storesCopy.f k aC).bind fun aF => (some (aD, aE, aF))))
def impl_histCopy.T1 : Bool × List (List Nat × List Nat) := (true, [([], []), ([0], [0]), ([1], [1]), ([], []), ([3], [3]), ([4, 2], [4]), ([], []), ([6], [6]), ([7, 5], [7]), ([2, 5, 8], [2, 5, 8]), ([9, 8, 0, 1, 2, 3, 4, 5, 6, 7, 8, 9], [9])])
def impl_histCopy.B1 : List Nat := [0, 1, 3, 0, 8, 31, 0, 64, 255, 511, 1023]
theorem impl_histCopy.tab1 : rtab .any (opsOf Try.f28 1) = impl_histCopy.T1 := by kernel_rfl
theorem impl_histCopy.bits1 : waitsOk impl_histCopy.T1.2 impl_histCopy.B1 = true := by kernel_rfl
theorem impl_histCopy.calls (k : Nat) (aV : Option Addr) (aW : Nat) (aI : List (S72)) (aX : Option Addr) (aY : Nat) (aJ : List (List (S72))) (aZ : Option Addr) (a3 : Nat) (aK : List (List (S72))) (r1 : List (S72)) (r2 : List (List (S72))) (r3 : List (List (S72))) (w : World) (a4 : Kd.C k72 w aV aI.length aI) (a5 : aI.length ≤ aW) (a6 : Kd.C (Kd.slice 72 k72) w aX aJ.length aJ) (a7 : aJ.length ≤ aY) (a8 : Kd.C (Kd.slice 72 k72) w aZ aK.length aK) (a9 : aK.length ≤ a3) (h : impl_histCopy.f k aI aJ aK = some (r1, r2, r3)) :
  Calls Try.prog 28 #[.agg #[.slice aV aI.length aW, .slice aX aJ.length aY, .slice aZ aK.length a3]] w fun e w' => ∃ (cI cJ cK : Value) (f_ : Nat → Nat), e = .returned (.agg #[cI, cJ, cK]) ∧ Kd.S k72 72 w' w.heap.size (fun k => f_ k = 0) cI r1 ∧ Kd.S (Kd.rows 72 k72) 23 w' w.heap.size (fun k => f_ k = 1) cJ r2 ∧ Kd.S (Kd.rows 72 k72) 23 w' w.heap.size (fun k => f_ k = 2) cK r3 ∧ Below w.heap.size w w' := by
 have cV := Try.underlying26; have bF := A_ a4; have bG := A_ a5; clear a4 a5; have bH := A_ a6; have bI := A_ a7; clear a6 a7; have bJ := A_ a8; have bK := A_ a9; clear a8 a9; have HB := A_ (Below.refl w.heap.size w); have HS := A_ (Nat.le_refl w.heap.size); have HE := A_ (Nat.le_refl w.heap.size); have H := h; unfold impl_histCopy.f at H; clear h; replace H := bS H; obtain ⟨bL, cL, H⟩ := H
 try dsimp only at H
 have A2 := A_ cL; clear cL; replace H := bS H; obtain ⟨bM, cM, H⟩ := H
 try dsimp only at H
 have A3 := A_ cM; clear cM; replace H := bS H; obtain ⟨bN, cN, H⟩ := H
 try dsimp only at H
 have A4 := A_ cN; clear cN; simp only [Option.some.injEq, Prod.mk.injEq] at H; obtain ⟨rfl, rfl, rfl⟩ := H
 go_enter Try.func28, Try.ntmps28
 try go_wp2_with (first | ((with_reducible refine gate_dst (N := 1) rfl ?_); refine be (cs := #[.slice aV aI.length aW, .slice aX aJ.length aY, .slice aZ aK.length a3]) (t := 26) ?_; intro aL hg w5 hbox hb; have aR := A_ (bst Z1 hb); have aS := A_ (hbox); have aT := A_ (gl hg (bz Z1)); have aU := A_ (gl hg (bz Z1)); have ne_ := A_ (sz_below Z14 hb); clear HE; have HE := ne_; clear ne_; clear HB; have HB := aR; have aB := aS; have cO := aT; have aD := aU; clear aR aS aT aU; clear hb hbox hg) | ((with_reducible refine gate_dst (N := 2) rfl ?_); refine be (cs := #[.slice none 0 0, .slice none 0 0, .slice none 0 0]) (t := 26) ?_; intro aH hg w6 hbox hb; have aR := A_ (bb (Z2 aB.out) hb); have aS := A_ (bst (Z3 aD.out) hb); have aT := A_ (hbox); have aU := A_ (gl hg (bz (Z3 aD.out))); have bA := A_ (gl hg (bz (Z3 aD.out))); have bO := A_ ((by rw [hg]; exact nl (blk_lt (Z2 aB.out)) : aL ≠ aH)); have cP := A_ ((by rw [hg]; exact Nat.ne_of_gt (blk_lt (Z2 aB.out)) : aH ≠ aL)); have ne_ := A_ (sz_below Z14 hb); clear HE; have HE := ne_; clear ne_; clear aB; clear HB; have aB := aR; have HB := aS; have aC := aT; have cQ := aU; have aG := bA; have aA := bO; have aE := cP; clear aR aS aT aU bA bO cP; clear hb hbox hg))
 replace aB := A_ (blk_drew aB.out); replace aC := A_ (blk_drew aC.out); replace HB := A_ (below_drew1 HB.out)
 refine start_ (n := 11) (S := fun w' => w'.cell? ⟨aL, 0, none⟩ = some (.slice aV aI.length aW) ∧ w'.cell? ⟨aL, 1, none⟩ = some (.slice aX aJ.length aY) ∧ w'.cell? ⟨aL, 2, none⟩ = some (.slice aZ aK.length a3)) (ds := []) #[F,F,F,F,F,F,F,F,F,F,F] (by kernel_rfl) rfl rfl ⟨(bc aB.out 0).trans rfl, (bc aB.out 1).trans rfl, (bc aB.out 2).trans rfl⟩ (fun hHeld => ?_); refine with_tabW impl_histCopy.tab1 impl_histCopy.bits1 (fun HT_ HW_ => ?_)
 replace HE := A_ (sz_drew HE.out); generalize w6.drew = w7 at aB aC HB HE hHeld ⊢; refine pU 0 3 #[T,F,F,F,F,F,F,F,F,F,F] ?_; refine pU 3 6 #[T,F,F,T,F,F,F,F,F,F,F] ?_; refine pU 6 9 #[T,F,F,T,F,F,T,F,F,F,F] ?_; refine take_ (i := 1) (N := some 4) (v := ?_) (a' := ?_) #[T,T,F,T,F,F,T,F,F,F,F] rfl rfl (take_ofW HT_.out HW_.out (by kernel_rfl)) ZF (Or.inl ⟨by rfl, ?_⟩) hHeld ?_ ?_; rotate_left
 ·rintro w' ⟨s0, s1, s2⟩
  go_simp
  with_reducible rfl
 rotate_left; (·exact Z0); refine take_ (i := 4) (N := some 7) (v := ?_) (a' := ?_) #[T,T,F,T,T,F,T,F,F,F,F] rfl rfl (take_ofW HT_.out HW_.out (by kernel_rfl)) ZF (Or.inl ⟨by rfl, ?_⟩) hHeld ?_ ?_
 rotate_left
 ·rintro w' ⟨s0, s1, s2⟩
  go_simp
  with_reducible rfl
 rotate_left; (·exact Z0); refine take_ (i := 7) (N := some 10) (v := ?_) (a' := ?_) #[T,T,F,T,T,F,T,T,F,F,F] rfl rfl (take_ofW HT_.out HW_.out (by kernel_rfl)) ZF (Or.inl ⟨by rfl, ?_⟩) hHeld ?_ ?_
 rotate_left
 ·rintro w' ⟨s0, s1, s2⟩
  go_simp
  with_reducible rfl
 rotate_left; (·exact Z0)
 refine oU 2 (some 5) #[T,T,T,T,T,F,T,T,F,F,F] (fun K hK => ?_)
 refine goes_ Try.func56 (by kernel_rfl) rfl #[.slice aV aI.length aW] (by rfl) rfl rfl Z16 ?_
 (with_reducible refine (impl_storeCopy.calls k _ _ aI bL _ ?s1 bG.out A2.out).mono ?_); (case s1 => exact Z4 bF.out); rintro e w8 ⟨cW, rfl, bB, hb⟩; refine ⟨_, rfl, ?_⟩; obtain ⟨bP, bQ, aM, aN, aO, aP⟩ := Kd.S_win1 bB (bz (Z5 aD.out aG.out)) Z14 hb.size; have aR := A_ (aM); have aS := A_ (bb (Z2 aB.out) hb); have aT := A_ (bb (Z2 aC.out) hb); have aU := A_ (bst (Z5 aD.out aG.out) hb); have nS_ := A_ (And.intro HS.out (And.intro aN aO)); have ne_ := A_ (aP); clear aM aN aO aP; clear HS; have HS := nS_; clear nS_; clear HE; have HE := ne_; clear ne_; clear aB; clear aC; clear HB; have aF := aR; have aB := aS; have aC := aT; have HB := aU; clear aR aS aT aU
 (try clear hb); (try clear cR); (try clear hk); (try clear hi); (try clear bB)
 refine hK.out _ _ ⟨(bc aB.out 0).trans rfl, (bc aB.out 1).trans rfl, (bc aB.out 2).trans rfl⟩ (fun hHeld => ?_)
 clear hK K
 refine norm_ (a' := ?_) ?_ ?_
 rotate_left
 ·show Act.put _ (some 5) _ = _
  simp only [Act.put, List.setIfInBounds_toArray, List.set_cons_zero, List.set_cons_succ, i64_w, i32_w]
  rfl
 refine oU 5 (some 8) #[T,T,T,T,T,T,T,T,F,F,F] (fun K hK => ?_)
 refine goes_ Try.func57 (by kernel_rfl) rfl #[.slice aX aJ.length aY] (by rfl) rfl rfl Z16 ?_
 (with_reducible refine (impl_storesCopy.calls k _ _ aJ bM _ ?s1 bI.out A3.out).mono ?_); (case s1 => exact Z4 bH.out); rintro e w9 ⟨cX, rfl, bB, hb⟩; refine ⟨_, rfl, ?_⟩; obtain ⟨bR, bT, aM, aN, aO, aP⟩ := Kd.S_win1 bB (bz (Z5 aD.out aG.out)) Z14 hb.size; have aR := A_ (Kd.S_below (Z8 aF.out) hb); have aS := A_ (aM); have aT := A_ (bb (Z2 aB.out) hb); have aU := A_ (bb (Z2 aC.out) hb); have bA := A_ (bst (Z5 aD.out aG.out) hb); have nS_ := A_ (And.intro HS.out (And.intro aN aO)); have ne_ := A_ (aP); clear aM aN aO aP; clear HS; have HS := nS_; clear nS_; clear HE; have HE := ne_; clear ne_; clear aF; clear aB; clear aC; clear HB; have aF := aR; have aQ := aS; have aB := aT; have aC := aU; have HB := bA; clear aR aS aT aU bA
 (try clear hb); (try clear cR); (try clear hk); (try clear hi); (try clear bB)
 refine hK.out _ _ ⟨(bc aB.out 0).trans rfl, (bc aB.out 1).trans rfl, (bc aB.out 2).trans rfl⟩ (fun hHeld => ?_)
 clear hK K
 refine norm_ (a' := ?_) ?_ ?_
 rotate_left
 ·show Act.put _ (some 8) _ = _
  simp only [Act.put, List.setIfInBounds_toArray, List.set_cons_zero, List.set_cons_succ, i64_w, i32_w]
  rfl
 refine oU 8 (some 11) #[T,T,T,T,T,T,T,T,T,F,F] (fun K hK => ?_)
 refine goes_ Try.func57 (by kernel_rfl) rfl #[.slice aZ aK.length a3] (by rfl) rfl rfl Z16 ?_
 (with_reducible refine (impl_storesCopy.calls k _ _ aK bN _ ?s1 bK.out A4.out).mono ?_); (case s1 => exact Z4 bJ.out); rintro e cB ⟨cY, rfl, bB, hb⟩; refine ⟨_, rfl, ?_⟩; obtain ⟨bU, bV, aM, aN, aO, aP⟩ := Kd.S_win1 bB (bz (Z5 aD.out aG.out)) Z14 hb.size; have aR := A_ (Kd.S_below (Z8 aF.out) hb); have aS := A_ (Kd.S_below (Z8 aQ.out) hb); have aT := A_ (aM); have aU := A_ (bb (Z2 aB.out) hb); have bA := A_ (bb (Z2 aC.out) hb); have bO := A_ (bst (Z5 aD.out aG.out) hb); have nS_ := A_ (And.intro HS.out (And.intro aN aO)); have ne_ := A_ (aP); clear aM aN aO aP; clear HS; have HS := nS_; clear nS_; clear HE; have HE := ne_; clear ne_; clear aF; clear aQ; clear aB; clear aC; clear HB; have aF := aR; have aQ := aS; have bC := aT; have aB := aU; have aC := bA; have HB := bO; clear aR aS aT aU bA bO
 (try clear hb); (try clear cR); (try clear hk); (try clear hi); (try clear bB); obtain ⟨cC, cD, bW⟩ := Kd.S_slice bC.out; (first | subst bW | (injection bW with bD bX bE; have bY := bD.symm; have bZ := bE.symm; clear bD bX bE; subst bY; subst bZ)); obtain ⟨cE, cF, b3⟩ := Kd.S_slice aQ.out; (first | subst b3 | (injection b3 with bD bX bE; have bY := bD.symm; have bZ := bE.symm; clear bD bX bE; subst bY; subst bZ)); obtain ⟨cG, cH, b4⟩ := Kd.S_slice aF.out; (first | subst b4 | (injection b4 with bD bX bE; have bY := bD.symm; have bZ := bE.symm; clear bD bX bE; subst bY; subst bZ))
 refine hK.out _ _ ⟨(bc aB.out 0).trans rfl, (bc aB.out 1).trans rfl, (bc aB.out 2).trans rfl⟩ (fun hHeld => ?_)
 clear hK K
 refine norm_ (a' := ?_) ?_ ?_
 rotate_left
 ·show Act.put _ (some 11) _ = _
  simp only [Act.put, List.setIfInBounds_toArray, List.set_cons_zero, List.set_cons_succ, i64_w, i32_w]
  rfl
 refine pU 9 12 #[T,T,T,T,T,T,T,T,T,T,F] ?_
 refine oU 10 none #[T,T,T,T,T,T,T,T,T,T,T] (fun K hK => ?_)
 have cZ : cB.cell? ⟨aH, 0, none⟩ = some (.slice none 0 0) := (bc aC.out 0).trans rfl; have cS := blk_frozen aC.out 0; have b5 := aA.out; have b6 := aE.out; have dA : cB.cell? ⟨aH, 1, none⟩ = some (.slice none 0 0) := (bc aC.out 1).trans rfl; have cT := blk_frozen aC.out 1; have b7 := aA.out; have b8 := aE.out; have dB : cB.cell? ⟨aH, 2, none⟩ = some (.slice none 0 0) := (bc aC.out 2).trans rfl; have cU := blk_frozen aC.out 2; have b9 := aA.out; have cA := aE.out
 refine skip_ (w1 := ?_) (by rfl) rfl ?_ ?_
 rotate_left
 ·go_simp
  rfl
 refine hK.out _ _ ⟨(cf aA.out (cf aA.out (cf aA.out hHeld.1))), (cf aA.out (cf aA.out (cf aA.out hHeld.2.1))), (cf aA.out (cf aA.out (cf aA.out hHeld.2.2)))⟩ (fun hHeld => ?_)
 clear hK K
 refine done_ (done_of HT_.out (by kernel_rfl)) ?_
 try go_wp2
 refine bodyPost_ret (results_cell_row rfl _ _ aH 26 #[.slice cG bL.length cH, .slice cE bM.length cF, .slice cC bN.length cD] (0, 0) _ rfl (bp0 aC.out) Try.underlying26 rfl (by kernel_rfl)) rfl ?_
 have hs_ := HS.out; obtain ⟨fh, dC, dD, dE⟩ := Kd.three (a0 := bP) (b0 := bQ) (a1 := bR) (b1 := bT) (a2 := bU) (b2 := bV) (by omega) (by omega) (by omega)
 exact ⟨_, _, _, fh, Z7, by (with_reducible repeat (first | apply Kd.S_alloc | apply Kd.S_drewN | apply Kd.S_drew)); exact Kd.S_mono (Sf (Sf (Sf (Kd.S_types aF.out aC.out (by decide))))) (fun k hk => dC k hk.1), by (with_reducible repeat (first | apply Kd.S_alloc | apply Kd.S_drewN | apply Kd.S_drew)); exact Kd.S_mono (Sf (Sf (Sf (Kd.S_types aQ.out aC.out (by decide))))) (fun k hk => dD k hk.1), by (with_reducible repeat (first | apply Kd.S_alloc | apply Kd.S_drewN | apply Kd.S_drew)); exact Kd.S_mono (Sf (Sf (Sf (Kd.S_types bC.out aC.out (by decide))))) (fun k hk => dE k hk.1), Z5 aD.out aG.out⟩
def laws_szSlotS.f (l0 : List (S127)) (a1 : Int) : Option (Int) := if (wrap64 (a1 - (l0.length : Int))) < 0 then (some (-1)) else (some (wrap64 (a1 - (l0.length : Int))))
theorem laws_szSlotS.calls (A0 : Option Addr) (c0 : Nat) (l0 : List (S127)) (a1 : Int) (r : Int) (w : World) (aB : Kd.C k127 w A0 l0.length l0) (hc0 : l0.length ≤ c0) (h : laws_szSlotS.f l0 a1 = some r) :
  Calls Try.prog 83 #[.slice A0 l0.length c0, .int .i64 a1] w fun e w' => e = .returned (.int .i64 r) ∧ Drawn0 w w' := by
 have aC := A_ aB; have aD := A_ hc0; clear aB hc0; have H := h; unfold laws_szSlotS.f at H; clear h
 by_cases c3 : (wrap64 (a1 - (l0.length : Int))) < 0
 ·rw [if_pos c3] at H
  have aA := dt c3; clear c3; obtain rfl := Option.some.inj H
  go_enter Try.func83, Try.ntmps83
  go_wp2
  go_ret
  exact ⟨Z17, Z23⟩
 ·rw [if_neg c3] at H
  have aA := df c3; clear c3; obtain rfl := Option.some.inj H
  go_enter Try.func83, Try.ntmps83
  go_wp2
  go_ret
  exact ⟨Z17, Z23⟩
def laws_szValue.f (aB : Int) (aC : Int) (aA : ByteArray) (a1 : Int) : Option (Int) := if (wrap64 (a1 - (aA.size : Int))) < 0 then (some (-1)) else (some (wrap64 (a1 - (aA.size : Int))))
theorem laws_szValue.calls (aE : Int) (aF : Int) (aA : ByteArray) (a1 : Int) (r : Int) (w : World) (h : laws_szValue.f aE aF aA a1 = some r) :
  Calls Try.prog 99 #[.agg #[.int .i64 aE, .int .i64 aF, .string aA], .int .i64 a1] w fun e w' => e = .returned (.int .i64 r) ∧ Below w.heap.size w w' := by
 have aU := Try.underlying125; have HB := A_ (Below.refl w.heap.size w); have H := h; unfold laws_szValue.f at H; clear h
 by_cases c3 : (wrap64 (a1 - (aA.size : Int))) < 0
 ·rw [if_pos c3] at H
  have aH := dt c3; clear c3; obtain rfl := Option.some.inj H
  go_enter Try.func99, Try.ntmps99
  go_wp2_with (first | ((with_reducible refine gate_dst (N := 2) rfl ?_); refine be (cs := #[.int .i64 aE, .int .i64 aF, .string aA]) (t := 125) ?_; intro aG hg w4 hbox hb; have aB := A_ hbox; have aC := A_ (gl hg (bz Z1)); have aD := aC; replace HB := A_ (bst Z1 hb); clear hb hbox hg; obtain ⟨aI, aJ, aK, aL, aM, aN⟩ := C3 aB.out))
  go_ret
  exact ⟨Z7, Z3 aD.out⟩
 ·rw [if_neg c3] at H
  have aH := df c3; clear c3; obtain rfl := Option.some.inj H
  go_enter Try.func99, Try.ntmps99
  go_wp2_with (first | ((with_reducible refine gate_dst (N := 2) rfl ?_); refine be (cs := #[.int .i64 aE, .int .i64 aF, .string aA]) (t := 125) ?_; intro aG hg w6 hbox hb; have aB := A_ hbox; have aC := A_ (gl hg (bz Z1)); have aD := aC; replace HB := A_ (bst Z1 hb); clear hb hbox hg; obtain ⟨aO, aP, aQ, aR, aS, aT⟩ := C3 aB.out))
  go_ret
  exact ⟨Z7, Z3 aD.out⟩
def laws_szValueS.l0 : Nat → List (S125) → Int → Int → Option (Int)
 | 0, _, _, _ => none
 | k + 1, x0, x1, x5 => if x5 < (x0.length : Int) then (if 0 ≤ x5 then ((laws_szValue.f ((rd_T125 x0 x5).f0) ((rd_T125 x0 x5).f1) ((rd_T125 x0 x5).f2) x1).bind fun aA => (if aA < 0 then (some (-1)) else (laws_szValueS.l0 k x0 aA (wrap64 (x5 + 1))))) else (none)) else (some x1)
def laws_szValueS.f (k : Nat) (l0 : List (S125)) (a1 : Int) : Option (Int) := if (wrap64 (a1 - (l0.length : Int))) < 0 then (some (-1)) else (laws_szValueS.l0 k l0 (wrap64 (a1 - (l0.length : Int))) 0)
theorem laws_szValueS.calls (k : Nat) (A0 : Option Addr) (c0 : Nat) (l0 : List (S125)) (a1 : Int) (r : Int) (w : World) (aN : Kd.C k125 w A0 l0.length l0) (hc0 : l0.length ≤ c0) (h : laws_szValueS.f k l0 a1 = some r) :
  Calls Try.prog 84 #[.slice A0 l0.length c0, .int .i64 a1] w fun e w' => e = .returned (.int .i64 r) ∧ Below w.heap.size w w' := by
 have aO := Try.underlying125; have aP := A_ aN; have aT := A_ hc0; clear aN hc0; have HB := A_ (Below.refl w.heap.size w); have H := h; unfold laws_szValueS.f at H; clear h
 by_cases c3 : (wrap64 (a1 - (l0.length : Int))) < 0
 ·rw [if_pos c3] at H
  have aJ := dt c3; clear c3; obtain rfl := Option.some.inj H
  go_enter Try.func84, Try.ntmps84
  go_wp2
  go_ret
  exact ⟨Z7, Z1⟩
 ·rw [if_neg c3] at H
  have aJ := df c3; clear c3; have H' := A_ H; clear H
  go_enter Try.func84, Try.ntmps84
  go_wp2
  go_loopg [1, 5] k (fun kq v1 v5 w' => ∃ (aE : Int) (aA : Int), v1 = .int .i64 aE ∧ v5 = .int .i64 aA ∧ Aside0 (laws_szValueS.l0 kq l0 aE aA = some r) ∧ Aside0 (kq ≤ k) ∧ Aside0 (Below w.heap.size w w'))
  case atStart => exact ⟨(wrap64 (a1 - (l0.length : Int))), (0), Z17, Z17, H', ⟨Nat.le_refl _⟩, ⟨Z1⟩⟩
  case round =>
   clear H'; try clear c3
   try clear aJ
   obtain ⟨aE, aA, rfl, rfl, HA, aQ, HB⟩ := hrel
   cases gk with
   | zero => exact absurd HA.out (by simp [laws_szValueS.l0])
   | succ k1 =>
    have H := HA.out; clear HA; simp only [laws_szValueS.l0] at H
    by_cases c4 : aA < (l0.length : Int)
    ·rw [if_pos c4] at H
     have aL := dt c4; clear c4
     by_cases c5 : 0 ≤ aA
     ·rw [if_pos c5] at H
      have aS := dt c5; clear c5; replace H := bS H; obtain ⟨aH, aR, H⟩ := H
      try dsimp only at H
      have A6 := A_ aR; clear aR
      by_cases c7 : aH < 0
      ·rw [if_pos c7] at H
       have aM := dt c7; clear c7; obtain rfl := Option.some.inj H; have aF : 0 ≤ (aA : Int) := odt; have aG : aA < (l0.length : Int) := odt; obtain ⟨aK, aI, aB, aC, aD⟩ := at_T125 aP.out aA aF aG; cases aI; replace aB := ZC HB.out aB; replace aC := ZC HB.out aC; replace aD := ZC HB.out aD; replace aF := eq_true aF; replace aG := eq_true aG
       go_wp2_with (first | ((with_reducible refine gate_callee (f := 99) rfl ?_); refine gL 23 Try.func99 #[.agg #[.int .i64 ((rd_T125 l0 aA).f0), .int .i64 ((rd_T125 l0 aA).f1), .string ((rd_T125 l0 aA).f2)], .int .i64 aE] ?_; (with_reducible refine (laws_szValue.calls ((rd_T125 l0 aA).f0) ((rd_T125 l0 aA).f1) ((rd_T125 l0 aA).f2) aE aH _ A6.out).mono ?_); rintro e w8 ⟨rfl, hb⟩; refine ⟨_, rfl, ?_⟩; replace HB := A_ (bst Z1 hb); (try clear hb)))
       go_ret
       exact ⟨Z7, Z1⟩
      ·rw [if_neg c7] at H
       have aM := df c7; clear c7; have H' := A_ H; clear H; have aF : 0 ≤ (aA : Int) := odt; have aG : aA < (l0.length : Int) := odt; obtain ⟨aK, aI, aB, aC, aD⟩ := at_T125 aP.out aA aF aG; cases aI; replace aB := ZC HB.out aB; replace aC := ZC HB.out aC; replace aD := ZC HB.out aD; replace aF := eq_true aF; replace aG := eq_true aG
       go_wp2_with (first | ((with_reducible refine gate_callee (f := 99) rfl ?_); refine gL 23 Try.func99 #[.agg #[.int .i64 ((rd_T125 l0 aA).f0), .int .i64 ((rd_T125 l0 aA).f1), .string ((rd_T125 l0 aA).f2)], .int .i64 aE] ?_; (with_reducible refine (laws_szValue.calls ((rd_T125 l0 aA).f0) ((rd_T125 l0 aA).f1) ((rd_T125 l0 aA).f2) aE aH _ A6.out).mono ?_); rintro e w9 ⟨rfl, hb⟩; refine ⟨_, rfl, ?_⟩; replace HB := A_ (bst Z1 hb); (try clear hb)))
       go_roundg k1
       case measure => have := aQ.out; omega
       case rel => exact ⟨(aH), (wrap64 (aA + 1)), Z17, Z17, H', ⟨by have := aQ.out; omega⟩, ⟨Z1⟩⟩
     ·rw [if_neg c5] at H
      exact absurd H (by simp)
    ·rw [if_neg c4] at H
     have aL := df c4; clear c4; obtain rfl := Option.some.inj H
     go_wp2
     go_ret
     exact ⟨Z7, Z1⟩
def laws_szCell.f (k : Nat) (aC : List (S127)) (aD : List (S125)) (a1 : Int) : Option (Int) := (laws_szSlotS.f aC a1).bind fun aA => (if aA < 0 then (some (-1)) else ((laws_szValueS.f k aD aA).bind fun aB => (if aB < 0 then (some (-1)) else (some aB))))
theorem laws_szCell.calls (k : Nat) (aE : Option Addr) (aF : Nat) (aA : List (S127)) (aI : Option Addr) (aJ : Nat) (aD : List (S125)) (a1 : Int) (r : Int) (w : World) (aM : Kd.C k127 w aE aA.length aA) (aN : aA.length ≤ aF) (aO : Kd.C k125 w aI aD.length aD) (aP : aD.length ≤ aJ) (h : laws_szCell.f k aA aD a1 = some r) :
  Calls Try.prog 64 #[.agg #[.slice aE aA.length aF, .slice aI aD.length aJ], .int .i64 a1] w fun e w' => e = .returned (.int .i64 r) ∧ Below w.heap.size w w' := by
 have bB := Try.underlying89; have aK := A_ aM; have aL := A_ aN; clear aM aN; have aQ := A_ aO; have aR := A_ aP; clear aO aP; have HB := A_ (Below.refl w.heap.size w); have H := h; unfold laws_szCell.f at H; clear h; replace H := bS H; obtain ⟨aG, a9, H⟩ := H
 try dsimp only at H
 have A3 := A_ a9; clear a9
 by_cases c4 : aG < 0
 ·rw [if_pos c4] at H
  have a3 := dt c4; clear c4; obtain rfl := Option.some.inj H
  go_enter Try.func64, Try.ntmps64
  go_wp2_with (first | ((with_reducible refine gate_dst (N := 2) rfl ?_); refine be (cs := #[.slice aE aA.length aF, .slice aI aD.length aJ]) (t := 89) ?_; intro aS hg w5 hbox hb; have aB := A_ hbox; have aH := A_ (gl hg (bz Z1)); have aC := aH; replace HB := A_ (bst Z1 hb); clear hb hbox hg; obtain ⟨a4, a5, a6, a7⟩ := C2 aB.out) | ((with_reducible refine gate_callee (f := 83) rfl ?_); refine gL 8 Try.func83 #[.slice aE aA.length aF, .int .i64 a1] ?_; (with_reducible refine (laws_szSlotS.calls _ _ aA a1 aG _ ?s1 aL.out A3.out).mono ?_); (case s1 => exact Z4 aK.out); rintro e w' ⟨rfl, ⟨nd, rfl⟩⟩; refine ⟨_, rfl, ?_⟩))
  go_ret
  exact ⟨Z7, Z3 aC.out⟩
 ·rw [if_neg c4] at H
  have a3 := df c4; clear c4; replace H := bS H; obtain ⟨aT, bA, H⟩ := H
  try dsimp only at H
  have A7 := A_ bA; clear bA
  by_cases c8 : aT < 0
  ·rw [if_pos c8] at H
   have a8 := dt c8; clear c8; obtain rfl := Option.some.inj H
   go_enter Try.func64, Try.ntmps64
   go_wp2_with (first | ((with_reducible refine gate_dst (N := 2) rfl ?_); refine be (cs := #[.slice aE aA.length aF, .slice aI aD.length aJ]) (t := 89) ?_; intro aS hg w9 hbox hb; have aB := A_ hbox; have aH := A_ (gl hg (bz Z1)); have aC := aH; replace HB := A_ (bst Z1 hb); clear hb hbox hg; obtain ⟨aU, aV, aW, aX⟩ := C2 aB.out) | ((with_reducible refine gate_callee (f := 83) rfl ?_); refine gL 8 Try.func83 #[.slice aE aA.length aF, .int .i64 a1] ?_; (with_reducible refine (laws_szSlotS.calls _ _ aA a1 aG _ ?s1 aL.out A3.out).mono ?_); (case s1 => exact Z4 aK.out); rintro e w' ⟨rfl, ⟨nd, rfl⟩⟩; refine ⟨_, rfl, ?_⟩) | ((with_reducible refine gate_callee (f := 84) rfl ?_); refine gL 14 Try.func84 #[.slice aI aD.length aJ, .int .i64 aG] ?_; (with_reducible refine (laws_szValueS.calls k _ _ aD aG aT _ ?s1 aR.out A7.out).mono ?_); (case s1 => repeat (first | exact (Kd.C_below aQ.out (Z3 aC.out)) | (with_reducible refine Kd.C_alloc ?_ _) | (with_reducible refine Kd.C_drewN ?_ _) | (with_reducible refine Kd.C_drew ?_))); rintro e bC ⟨rfl, hb⟩; refine ⟨_, rfl, ?_⟩; replace aB := A_ (bb (Z2 aB.out) hb); replace HB := A_ (bst (Z3 aC.out) hb); (try clear hb)))
   go_ret
   exact ⟨Z7, Z3 aC.out⟩
  ·rw [if_neg c8] at H
   have a8 := df c8; clear c8; obtain rfl := Option.some.inj H
   go_enter Try.func64, Try.ntmps64
   go_wp2_with (first | ((with_reducible refine gate_dst (N := 2) rfl ?_); refine be (cs := #[.slice aE aA.length aF, .slice aI aD.length aJ]) (t := 89) ?_; intro aS hg bD hbox hb; have aB := A_ hbox; have aH := A_ (gl hg (bz Z1)); have aC := aH; replace HB := A_ (bst Z1 hb); clear hb hbox hg; obtain ⟨aY, aZ, a0, a2⟩ := C2 aB.out) | ((with_reducible refine gate_callee (f := 83) rfl ?_); refine gL 8 Try.func83 #[.slice aE aA.length aF, .int .i64 a1] ?_; (with_reducible refine (laws_szSlotS.calls _ _ aA a1 aG _ ?s1 aL.out A3.out).mono ?_); (case s1 => exact Z4 aK.out); rintro e w' ⟨rfl, ⟨nd, rfl⟩⟩; refine ⟨_, rfl, ?_⟩) | ((with_reducible refine gate_callee (f := 84) rfl ?_); refine gL 14 Try.func84 #[.slice aI aD.length aJ, .int .i64 aG] ?_; (with_reducible refine (laws_szValueS.calls k _ _ aD aG aT _ ?s1 aR.out A7.out).mono ?_); (case s1 => repeat (first | exact (Kd.C_below aQ.out (Z3 aC.out)) | (with_reducible refine Kd.C_alloc ?_ _) | (with_reducible refine Kd.C_drewN ?_ _) | (with_reducible refine Kd.C_drew ?_))); rintro e bE ⟨rfl, hb⟩; refine ⟨_, rfl, ?_⟩; replace aB := A_ (bb (Z2 aB.out) hb); replace HB := A_ (bst (Z3 aC.out) hb); (try clear hb)))
   go_ret
   exact ⟨Z7, Z3 aC.out⟩
def laws_szCellS.l0 : Nat → List (S89) → Int → Int → Option (Int)
 | 0, _, _, _ => none
 | k + 1, x0, x1, x5 => if x5 < (x0.length : Int) then (if 0 ≤ x5 then ((laws_szCell.f k ((rd_T89 x0 x5).f0) ((rd_T89 x0 x5).f1) x1).bind fun aA => (if aA < 0 then (some (-1)) else (laws_szCellS.l0 k x0 aA (wrap64 (x5 + 1))))) else (none)) else (some x1)
def laws_szCellS.f (k : Nat) (l0 : List (S89)) (a1 : Int) : Option (Int) := if (wrap64 (a1 - (l0.length : Int))) < 0 then (some (-1)) else (laws_szCellS.l0 k l0 (wrap64 (a1 - (l0.length : Int))) 0)
theorem laws_szCellS.calls (k : Nat) (A0 : Option Addr) (c0 : Nat) (l0 : List (S89)) (a1 : Int) (r : Int) (w : World) (aY : Kd.C k89 w A0 l0.length l0) (hc0 : l0.length ≤ c0) (h : laws_szCellS.f k l0 a1 = some r) :
  Calls Try.prog 36 #[.slice A0 l0.length c0, .int .i64 a1] w fun e w' => e = .returned (.int .i64 r) ∧ Below w.heap.size w w' := by
 have a3 := Try.underlying89; have aZ := A_ aY; have a5 := A_ hc0; clear aY hc0; have HB := A_ (Below.refl w.heap.size w); have H := h; unfold laws_szCellS.f at H; clear h
 by_cases c3 : (wrap64 (a1 - (l0.length : Int))) < 0
 ·rw [if_pos c3] at H
  have aU := dt c3; clear c3; obtain rfl := Option.some.inj H
  go_enter Try.func36, Try.ntmps36
  go_wp2
  go_ret
  exact ⟨Z7, Z1⟩
 ·rw [if_neg c3] at H
  have aU := df c3; clear c3; have H' := A_ H; clear H
  go_enter Try.func36, Try.ntmps36
  go_wp2
  go_loopg [1, 5] k (fun kq v1 v5 w' => ∃ (aL : Int) (aA : Int), v1 = .int .i64 aL ∧ v5 = .int .i64 aA ∧ Aside0 (laws_szCellS.l0 kq l0 aL aA = some r) ∧ Aside0 (kq ≤ k) ∧ Aside0 (Below w.heap.size w w'))
  case atStart => exact ⟨(wrap64 (a1 - (l0.length : Int))), (0), Z17, Z17, H', ⟨Nat.le_refl _⟩, ⟨Z1⟩⟩
  case round =>
   clear H'; try clear c3
   try clear aU
   obtain ⟨aL, aA, rfl, rfl, HA, a0, HB⟩ := hrel
   cases gk with
   | zero => exact absurd HA.out (by simp [laws_szCellS.l0])
   | succ k1 =>
    have H := HA.out; clear HA; simp only [laws_szCellS.l0] at H
    by_cases c4 : aA < (l0.length : Int)
    ·rw [if_pos c4] at H
     have aW := dt c4; clear c4
     by_cases c5 : 0 ≤ aA
     ·rw [if_pos c5] at H
      have a4 := dt c5; clear c5; replace H := bS H; obtain ⟨aS, a2, H⟩ := H
      try dsimp only at H
      have A6 := A_ a2; clear a2
      by_cases c7 : aS < 0
      ·rw [if_pos c7] at H
       have aX := dt c7; clear c7; obtain rfl := Option.some.inj H; have aM : 0 ≤ (aA : Int) := odt; have aN : aA < (l0.length : Int) := odt; obtain ⟨aV, aO, aP, aQ, aR, aT, aB, aC, aD, aE, aF, aG⟩ := at_T89 aZ.out aA aM aN; cases aT; replace aB := ZC HB.out aB; replace aC := ZC HB.out aC; have aH := A_ aE; have aI := A_ aD; clear aE aD; have aJ := A_ aG; have aK := A_ aF; clear aG aF; replace aM := eq_true aM; replace aN := eq_true aN
       go_wp2_with (first | ((with_reducible refine gate_callee (f := 64) rfl ?_); refine gL 23 Try.func64 #[.agg #[.slice aO ((rd_T89 l0 aA).f0).length aP, .slice aQ ((rd_T89 l0 aA).f1).length aR], .int .i64 aL] ?_; (with_reducible refine (laws_szCell.calls k1 _ _ ((rd_T89 l0 aA).f0) _ _ ((rd_T89 l0 aA).f1) aL aS _ ?s1 aI.out ?s3 aK.out A6.out).mono ?_); (case s1 => exact Z4 aH.out); (case s3 => exact Z4 aJ.out); rintro e w8 ⟨rfl, hb⟩; refine ⟨_, rfl, ?_⟩; replace HB := A_ (bst Z1 hb); (try clear hb)))
       go_ret
       exact ⟨Z7, Z1⟩
      ·rw [if_neg c7] at H
       have aX := df c7; clear c7; have H' := A_ H; clear H; have aM : 0 ≤ (aA : Int) := odt; have aN : aA < (l0.length : Int) := odt; obtain ⟨aV, aO, aP, aQ, aR, aT, aB, aC, aD, aE, aF, aG⟩ := at_T89 aZ.out aA aM aN; cases aT; replace aB := ZC HB.out aB; replace aC := ZC HB.out aC; have aH := A_ aE; have aI := A_ aD; clear aE aD; have aJ := A_ aG; have aK := A_ aF; clear aG aF; replace aM := eq_true aM; replace aN := eq_true aN
       go_wp2_with (first | ((with_reducible refine gate_callee (f := 64) rfl ?_); refine gL 23 Try.func64 #[.agg #[.slice aO ((rd_T89 l0 aA).f0).length aP, .slice aQ ((rd_T89 l0 aA).f1).length aR], .int .i64 aL] ?_; (with_reducible refine (laws_szCell.calls k1 _ _ ((rd_T89 l0 aA).f0) _ _ ((rd_T89 l0 aA).f1) aL aS _ ?s1 aI.out ?s3 aK.out A6.out).mono ?_); (case s1 => exact Z4 aH.out); (case s3 => exact Z4 aJ.out); rintro e w9 ⟨rfl, hb⟩; refine ⟨_, rfl, ?_⟩; replace HB := A_ (bst Z1 hb); (try clear hb)))
       go_roundg k1
       case measure => have := a0.out; omega
       case rel => exact ⟨(aS), (wrap64 (aA + 1)), Z17, Z17, H', ⟨by have := a0.out; omega⟩, ⟨Z1⟩⟩
     ·rw [if_neg c5] at H
      exact absurd H (by simp)
    ·rw [if_neg c4] at H
     have aW := df c4; clear c4; obtain rfl := Option.some.inj H
     go_wp2
     go_ret
     exact ⟨Z7, Z1⟩
def laws_szCellSS.l0 : Nat → List (List (S89)) → Int → Int → Option (Int)
 | 0, _, _, _ => none
 | k + 1, x0, x1, x5 => if x5 < (x0.length : Int) then (if 0 ≤ x5 then ((laws_szCellS.f k (rd_L13 x0 x5) x1).bind fun aA => (if aA < 0 then (some (-1)) else (laws_szCellSS.l0 k x0 aA (wrap64 (x5 + 1))))) else (none)) else (some x1)
def laws_szCellSS.f (k : Nat) (l0 : List (List (S89))) (a1 : Int) : Option (Int) := if (wrap64 (a1 - (l0.length : Int))) < 0 then (some (-1)) else (laws_szCellSS.l0 k l0 (wrap64 (a1 - (l0.length : Int))) 0)
theorem laws_szCellSS.calls (k : Nat) (A0 : Option Addr) (c0 : Nat) (l0 : List (List (S89))) (a1 : Int) (r : Int) (w : World) (aR : Kd.C (Kd.slice 89 k89) w A0 l0.length l0) (hc0 : l0.length ≤ c0) (h : laws_szCellSS.f k l0 a1 = some r) :
  Calls Try.prog 37 #[.slice A0 l0.length c0, .int .i64 a1] w fun e w' => e = .returned (.int .i64 r) ∧ Below w.heap.size w w' := by
 have aS := A_ aR; have aW := A_ hc0; clear aR hc0; have HB := A_ (Below.refl w.heap.size w); have H := h; unfold laws_szCellSS.f at H; clear h
 by_cases c3 : (wrap64 (a1 - (l0.length : Int))) < 0
 ·rw [if_pos c3] at H
  have aN := dt c3; clear c3; obtain rfl := Option.some.inj H
  go_enter Try.func37, Try.ntmps37
  go_wp2
  go_ret
  exact ⟨Z7, Z1⟩
 ·rw [if_neg c3] at H
  have aN := df c3; clear c3; have H' := A_ H; clear H
  go_enter Try.func37, Try.ntmps37
  go_wp2
  go_loopg [1, 5] k (fun kq v1 v5 w' => ∃ (aG : Int) (aA : Int), v1 = .int .i64 aG ∧ v5 = .int .i64 aA ∧ Aside0 (laws_szCellSS.l0 kq l0 aG aA = some r) ∧ Aside0 (kq ≤ k) ∧ Aside0 (Below w.heap.size w w'))
  case atStart => exact ⟨(wrap64 (a1 - (l0.length : Int))), (0), Z17, Z17, H', ⟨Nat.le_refl _⟩, ⟨Z1⟩⟩
  case round =>
   clear H'; try clear c3
   try clear aN
   obtain ⟨aG, aA, rfl, rfl, HA, aT, HB⟩ := hrel
   cases gk with
   | zero => exact absurd HA.out (by simp [laws_szCellSS.l0])
   | succ k1 =>
    have H := HA.out; clear HA; simp only [laws_szCellSS.l0] at H
    by_cases c4 : aA < (l0.length : Int)
    ·rw [if_pos c4] at H
     have aP := dt c4; clear c4
     by_cases c5 : 0 ≤ aA
     ·rw [if_pos c5] at H
      have aV := dt c5; clear c5; replace H := bS H; obtain ⟨aL, aU, H⟩ := H
      try dsimp only at H
      have A6 := A_ aU; clear aU
      by_cases c7 : aL < 0
      ·rw [if_pos c7] at H
       have aQ := dt c7; clear c7; obtain rfl := Option.some.inj H; have aH : 0 ≤ (aA : Int) := odt; have aI : aA < (l0.length : Int) := odt; obtain ⟨aO, aJ, aK, aM, aB, aC, aD⟩ := at_L13 aS.out aA aH aI; cases aM; replace aB := ZC HB.out aB; have aE := A_ aD; have aF := A_ aC; clear aD aC; replace aH := eq_true aH; replace aI := eq_true aI
       go_wp2_with (first | ((with_reducible refine gate_callee (f := 36) rfl ?_); refine gL 23 Try.func36 #[.slice aJ (rd_L13 l0 aA).length aK, .int .i64 aG] ?_; (with_reducible refine (laws_szCellS.calls k1 _ _ (rd_L13 l0 aA) aG aL _ ?s1 aF.out A6.out).mono ?_); (case s1 => exact Z4 aE.out); rintro e w8 ⟨rfl, hb⟩; refine ⟨_, rfl, ?_⟩; replace HB := A_ (bst Z1 hb); (try clear hb)))
       go_ret
       exact ⟨Z7, Z1⟩
      ·rw [if_neg c7] at H
       have aQ := df c7; clear c7; have H' := A_ H; clear H; have aH : 0 ≤ (aA : Int) := odt; have aI : aA < (l0.length : Int) := odt; obtain ⟨aO, aJ, aK, aM, aB, aC, aD⟩ := at_L13 aS.out aA aH aI; cases aM; replace aB := ZC HB.out aB; have aE := A_ aD; have aF := A_ aC; clear aD aC; replace aH := eq_true aH; replace aI := eq_true aI
       go_wp2_with (first | ((with_reducible refine gate_callee (f := 36) rfl ?_); refine gL 23 Try.func36 #[.slice aJ (rd_L13 l0 aA).length aK, .int .i64 aG] ?_; (with_reducible refine (laws_szCellS.calls k1 _ _ (rd_L13 l0 aA) aG aL _ ?s1 aF.out A6.out).mono ?_); (case s1 => exact Z4 aE.out); rintro e w9 ⟨rfl, hb⟩; refine ⟨_, rfl, ?_⟩; replace HB := A_ (bst Z1 hb); (try clear hb)))
       go_roundg k1
       case measure => have := aT.out; omega
       case rel => exact ⟨(aL), (wrap64 (aA + 1)), Z17, Z17, H', ⟨by have := aT.out; omega⟩, ⟨Z1⟩⟩
     ·rw [if_neg c5] at H
      exact absurd H (by simp)
    ·rw [if_neg c4] at H
     have aP := df c4; clear c4; obtain rfl := Option.some.inj H
     go_wp2
     go_ret
     exact ⟨Z7, Z1⟩
def laws_szHist.f (k : Nat) (aD : List (S89)) (aE : List (List (S89))) (aF : List (List (S89))) (a1 : Int) : Option (Int) := (laws_szCellS.f k aD a1).bind fun aA => (if aA < 0 then (some (-1)) else ((laws_szCellSS.f k aE aA).bind fun aB => (if aB < 0 then (some (-1)) else ((laws_szCellSS.f k aF aB).bind fun aC => (if aC < 0 then (some (-1)) else (some aC))))))
theorem laws_szHist.calls (k : Nat) (aH : Option Addr) (aI : Nat) (aC : List (S89)) (aJ : Option Addr) (aK : Nat) (aD : List (List (S89))) (aL : Option Addr) (aM : Nat) (aE : List (List (S89))) (a1 : Int) (r : Int) (w : World) (aT : Kd.C k89 w aH aC.length aC) (aU : aC.length ≤ aI) (aV : Kd.C (Kd.slice 89 k89) w aJ aD.length aD) (aW : aD.length ≤ aK) (aX : Kd.C (Kd.slice 89 k89) w aL aE.length aE) (aY : aE.length ≤ aM) (h : laws_szHist.f k aC aD aE a1 = some r) :
  Calls Try.prog 13 #[.agg #[.slice aH aC.length aI, .slice aJ aD.length aK, .slice aL aE.length aM], .int .i64 a1] w fun e w' => e = .returned (.int .i64 r) ∧ Below w.heap.size w w' := by
 have cU := Try.underlying36; have aO := A_ aT; have aP := A_ aU; clear aT aU; have aQ := A_ aV; have aR := A_ aW; clear aV aW; have aZ := A_ aX; have a0 := A_ aY; clear aX aY; have HB := A_ (Below.refl w.heap.size w); have H := h; unfold laws_szHist.f at H; clear h; replace H := bS H; obtain ⟨aF, cR, H⟩ := H
 try dsimp only at H
 have A3 := A_ cR; clear cR
 by_cases c4 : aF < 0
 ·rw [if_pos c4] at H
  have cJ := dt c4; clear c4; obtain rfl := Option.some.inj H
  go_enter Try.func13, Try.ntmps13
  go_wp2_with (first | ((with_reducible refine gate_dst (N := 2) rfl ?_); refine be (cs := #[.slice aH aC.length aI, .slice aJ aD.length aK, .slice aL aE.length aM]) (t := 36) ?_; intro aS hg w5 hbox hb; have aA := A_ hbox; have aG := A_ (gl hg (bz Z1)); have aB := aG; replace HB := A_ (bst Z1 hb); clear hb hbox hg; obtain ⟨cK, cL, cM, cN, cO, cP⟩ := C3 aA.out) | ((with_reducible refine gate_callee (f := 36) rfl ?_); refine gL 8 Try.func36 #[.slice aH aC.length aI, .int .i64 a1] ?_; (with_reducible refine (laws_szCellS.calls k _ _ aC a1 aF _ ?s1 aP.out A3.out).mono ?_); (case s1 => exact Z4 aO.out); rintro e w7 ⟨rfl, hb⟩; refine ⟨_, rfl, ?_⟩; replace aA := A_ (bb (Z2 aA.out) hb); replace HB := A_ (bst (Z3 aB.out) hb); (try clear hb)))
  go_ret
  exact ⟨Z7, Z3 aB.out⟩
 ·rw [if_neg c4] at H
  have cJ := df c4; clear c4; replace H := bS H; obtain ⟨aN, cS, H⟩ := H
  try dsimp only at H
  have A8 := A_ cS; clear cS
  by_cases c9 : aN < 0
  ·rw [if_pos c9] at H
   have cQ := dt c9; clear c9; obtain rfl := Option.some.inj H
   go_enter Try.func13, Try.ntmps13
   go_wp2_with (first | ((with_reducible refine gate_dst (N := 2) rfl ?_); refine be (cs := #[.slice aH aC.length aI, .slice aJ aD.length aK, .slice aL aE.length aM]) (t := 36) ?_; intro aS hg cV hbox hb; have aA := A_ hbox; have aG := A_ (gl hg (bz Z1)); have aB := aG; replace HB := A_ (bst Z1 hb); clear hb hbox hg; obtain ⟨a6, a7, a8, a9, bA, bB⟩ := C3 aA.out) | ((with_reducible refine gate_callee (f := 36) rfl ?_); refine gL 8 Try.func36 #[.slice aH aC.length aI, .int .i64 a1] ?_; (with_reducible refine (laws_szCellS.calls k _ _ aC a1 aF _ ?s1 aP.out A3.out).mono ?_); (case s1 => exact Z4 aO.out); rintro e cW ⟨rfl, hb⟩; refine ⟨_, rfl, ?_⟩; replace aA := A_ (bb (Z2 aA.out) hb); replace HB := A_ (bst (Z3 aB.out) hb); (try clear hb); obtain ⟨bC, bD, bE, bF, bG, bH⟩ := C3 aA.out) | ((with_reducible refine gate_callee (f := 37) rfl ?_); refine gL 14 Try.func37 #[.slice aJ aD.length aK, .int .i64 aF] ?_; (with_reducible refine (laws_szCellSS.calls k _ _ aD aF aN _ ?s1 aR.out A8.out).mono ?_); (case s1 => exact Z4 aQ.out); rintro e cX ⟨rfl, hb⟩; refine ⟨_, rfl, ?_⟩; replace aA := A_ (bb (Z2 aA.out) hb); replace HB := A_ (bst (Z3 aB.out) hb); (try clear hb)))
   go_ret
   exact ⟨Z7, Z3 aB.out⟩
  ·rw [if_neg c9] at H
   have cQ := df c9; clear c9; replace H := bS H; obtain ⟨a2, a4, H⟩ := H
   try dsimp only at H
   have cT := A_ a4; clear a4
   by_cases a3 : a2 < 0
   ·rw [if_pos a3] at H
    have a5 := dt a3; clear a3; obtain rfl := Option.some.inj H
    go_enter Try.func13, Try.ntmps13
    go_wp2_with (first | ((with_reducible refine gate_dst (N := 2) rfl ?_); refine be (cs := #[.slice aH aC.length aI, .slice aJ aD.length aK, .slice aL aE.length aM]) (t := 36) ?_; intro aS hg cY hbox hb; have aA := A_ hbox; have aG := A_ (gl hg (bz Z1)); have aB := aG; replace HB := A_ (bst Z1 hb); clear hb hbox hg; obtain ⟨bI, bJ, bK, bL, bM, bN⟩ := C3 aA.out) | ((with_reducible refine gate_callee (f := 36) rfl ?_); refine gL 8 Try.func36 #[.slice aH aC.length aI, .int .i64 a1] ?_; (with_reducible refine (laws_szCellS.calls k _ _ aC a1 aF _ ?s1 aP.out A3.out).mono ?_); (case s1 => exact Z4 aO.out); rintro e cZ ⟨rfl, hb⟩; refine ⟨_, rfl, ?_⟩; replace aA := A_ (bb (Z2 aA.out) hb); replace HB := A_ (bst (Z3 aB.out) hb); (try clear hb); obtain ⟨bO, bP, bQ, bR, bT, bU⟩ := C3 aA.out) | ((with_reducible refine gate_callee (f := 37) rfl ?_); refine gL 14 Try.func37 #[.slice aJ aD.length aK, .int .i64 aF] ?_; (with_reducible refine (laws_szCellSS.calls k _ _ aD aF aN _ ?s1 aR.out A8.out).mono ?_); (case s1 => exact Z4 aQ.out); rintro e dA ⟨rfl, hb⟩; refine ⟨_, rfl, ?_⟩; replace aA := A_ (bb (Z2 aA.out) hb); replace HB := A_ (bst (Z3 aB.out) hb); (try clear hb); obtain ⟨bV, bW, bX, bY, bZ, b0⟩ := C3 aA.out) | ((with_reducible refine gate_callee (f := 37) rfl ?_); refine gL 20 Try.func37 #[.slice aL aE.length aM, .int .i64 aN] ?_; (with_reducible refine (laws_szCellSS.calls k _ _ aE aN a2 _ ?s1 a0.out cT.out).mono ?_); (case s1 => exact Z4 aZ.out); rintro e dB ⟨rfl, hb⟩; refine ⟨_, rfl, ?_⟩; replace aA := A_ (bb (Z2 aA.out) hb); replace HB := A_ (bst (Z3 aB.out) hb); (try clear hb)))
    go_ret
    exact ⟨Z7, Z3 aB.out⟩
   ·rw [if_neg a3] at H
    have a5 := df a3; clear a3; obtain rfl := Option.some.inj H
    go_enter Try.func13, Try.ntmps13
    go_wp2_with (first | ((with_reducible refine gate_dst (N := 2) rfl ?_); refine be (cs := #[.slice aH aC.length aI, .slice aJ aD.length aK, .slice aL aE.length aM]) (t := 36) ?_; intro aS hg dC hbox hb; have aA := A_ hbox; have aG := A_ (gl hg (bz Z1)); have aB := aG; replace HB := A_ (bst Z1 hb); clear hb hbox hg; obtain ⟨b1, b2, b3, b4, b5, b6⟩ := C3 aA.out) | ((with_reducible refine gate_callee (f := 36) rfl ?_); refine gL 8 Try.func36 #[.slice aH aC.length aI, .int .i64 a1] ?_; (with_reducible refine (laws_szCellS.calls k _ _ aC a1 aF _ ?s1 aP.out A3.out).mono ?_); (case s1 => exact Z4 aO.out); rintro e dD ⟨rfl, hb⟩; refine ⟨_, rfl, ?_⟩; replace aA := A_ (bb (Z2 aA.out) hb); replace HB := A_ (bst (Z3 aB.out) hb); (try clear hb); obtain ⟨b7, b8, b9, cA, cB, cC⟩ := C3 aA.out) | ((with_reducible refine gate_callee (f := 37) rfl ?_); refine gL 14 Try.func37 #[.slice aJ aD.length aK, .int .i64 aF] ?_; (with_reducible refine (laws_szCellSS.calls k _ _ aD aF aN _ ?s1 aR.out A8.out).mono ?_); (case s1 => exact Z4 aQ.out); rintro e dE ⟨rfl, hb⟩; refine ⟨_, rfl, ?_⟩; replace aA := A_ (bb (Z2 aA.out) hb); replace HB := A_ (bst (Z3 aB.out) hb); (try clear hb); obtain ⟨cD, cE, cF, cG, cH, cI⟩ := C3 aA.out) | ((with_reducible refine gate_callee (f := 37) rfl ?_); refine gL 20 Try.func37 #[.slice aL aE.length aM, .int .i64 aN] ?_; (with_reducible refine (laws_szCellSS.calls k _ _ aE aN a2 _ ?s1 a0.out cT.out).mono ?_); (case s1 => exact Z4 aZ.out); rintro e dF ⟨rfl, hb⟩; refine ⟨_, rfl, ?_⟩; replace aA := A_ (bb (Z2 aA.out) hb); replace HB := A_ (bst (Z3 aB.out) hb); (try clear hb)))
    go_ret
    exact ⟨Z7, Z3 aB.out⟩
end Go.Proofs.Ytgbbcebjgpoioaa.PFnExactHistRedo
