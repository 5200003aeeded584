/- Walks (lines of the print; no condition). -/
import Derived.Test.YtgbbcebjgpoioaaZFnExactHistUndoQFnExactHistUndox5
namespace Go.Proofs.Ytgbbcebjgpoioaa.PFnExactHistUndo
open Go.RowKit Go.Proofs.YtgbbcebjgpoioaaW.PrintWords Go.Proofs.YtgbbcebjgpoioaaW.PrintLast Go.Proofs.YtgbbcebjgpoioaaW.PrintMore
attribute [local go_sem] max2_int min2_int max_two min_two max_three min_three max_four min_four
set_option linter.unusedVariables false
set_option linter.unusedSimpArgs false
set_option maxHeartbeats 8000000
set_option maxRecDepth 100000
def impl_histCopy.f (k : Nat) (aA : List (S72)) (aB : List (List (S72))) (aC : List (List (S72))) : Option ((List (S72)) × (List (List (S72))) × (List (List (S72)))) := (impl_storeCopy.f k aA).bind fun aD => ((impl_storesCopy.f k aB).bind fun aE => ((impl_storesCopy.f k aC).bind fun aF => (some (aD, aE, aF))))
def impl_histCopy.T1 : Bool × List (List Nat × List Nat) := (true, [([], []), ([0], [0]), ([1], [1]), ([], []), ([3], [3]), ([4, 2], [4]), ([], []), ([6], [6]), ([7, 5], [7]), ([2, 5, 8], [2, 5, 8]), ([9, 8, 0, 1, 2, 3, 4, 5, 6, 7, 8, 9], [9])])
def impl_histCopy.B1 : List Nat := [0, 1, 3, 0, 8, 31, 0, 64, 255, 511, 1023]
theorem impl_histCopy.tab1 : rtab .any (opsOf Try.f28 1) = impl_histCopy.T1 := by kernel_rfl
theorem impl_histCopy.bits1 : waitsOk impl_histCopy.T1.2 impl_histCopy.B1 = true := by kernel_rfl
theorem impl_histCopy.calls (k : Nat) (aV : Option Addr) (aW : Nat) (aI : List (S72)) (aX : Option Addr) (aY : Nat) (aJ : List (List (S72))) (aZ : Option Addr) (a3 : Nat) (aK : List (List (S72))) (r1 : List (S72)) (r2 : List (List (S72))) (r3 : List (List (S72))) (w : World) (a4 : Kd.C k72 w aV aI.length aI) (a5 : aI.length ≤ aW) (a6 : Kd.C (Kd.slice 72 k72) w aX aJ.length aJ) (a7 : aJ.length ≤ aY) (a8 : Kd.C (Kd.slice 72 k72) w aZ aK.length aK) (a9 : aK.length ≤ a3) (h : impl_histCopy.f k aI aJ aK = some (r1, r2, r3)) :
  Calls Try.prog 28 #[.agg #[.slice aV aI.length aW, .slice aX aJ.length aY, .slice aZ aK.length a3]] w fun e w' => ∃ (cI cJ cK : Value) (f_ : Nat → Nat), e = .returned (.agg #[cI, cJ, cK]) ∧ Kd.S k72 72 w' w.heap.size (fun k => f_ k = 0) cI r1 ∧ Kd.S (Kd.rows 72 k72) 23 w' w.heap.size (fun k => f_ k = 1) cJ r2 ∧ Kd.S (Kd.rows 72 k72) 23 w' w.heap.size (fun k => f_ k = 2) cK r3 ∧ Below w.heap.size w w' := by
 have cV := Try.underlying26; have bF := A_ a4; have bG := A_ a5; clear a4 a5; have bH := A_ a6; have bI := A_ a7; clear a6 a7; have bJ := A_ a8; have bK := A_ a9; clear a8 a9; have HB := A_ (Below.refl w.heap.size w); have HS := A_ (Nat.le_refl w.heap.size); have HE := A_ (Nat.le_refl w.heap.size); have H := h; unfold impl_histCopy.f at H; clear h; replace H := bS H; obtain ⟨bL, cL, H⟩ := H
 try dsimp only at H
 have A2 := A_ cL; clear cL; replace H := bS H; obtain ⟨bM, cM, H⟩ := H
 try dsimp only at H
 have A3 := A_ cM; clear cM; replace H := bS H; obtain ⟨bN, cN, H⟩ := H
 try dsimp only at H
 have A4 := A_ cN; clear cN; simp only [Option.some.injEq, Prod.mk.injEq] at H; obtain ⟨rfl, rfl, rfl⟩ := H
 go_enter Try.func28, Try.ntmps28
 try go_wp2_with (first | ((with_reducible refine gate_dst (N := 1) rfl ?_); refine be (cs := #[.slice aV aI.length aW, .slice aX aJ.length aY, .slice aZ aK.length a3]) (t := 26) ?_; intro aL hg w5 hbox hb; have aR := A_ (bst Z1 hb); have aS := A_ (hbox); have aT := A_ (gl hg (bz Z1)); have aU := A_ (gl hg (bz Z1)); have ne_ := A_ (sz_below Z14 hb); clear HE; have HE := ne_; clear ne_; clear HB; have HB := aR; have aB := aS; have cO := aT; have aD := aU; clear aR aS aT aU; clear hb hbox hg) | ((with_reducible refine gate_dst (N := 2) rfl ?_); refine be (cs := #[.slice none 0 0, .slice none 0 0, .slice none 0 0]) (t := 26) ?_; intro aH hg w6 hbox hb; have aR := A_ (bb (Z2 aB.out) hb); have aS := A_ (bst (Z3 aD.out) hb); have aT := A_ (hbox); have aU := A_ (gl hg (bz (Z3 aD.out))); have bA := A_ (gl hg (bz (Z3 aD.out))); have bO := A_ ((by rw [hg]; exact nl (blk_lt (Z2 aB.out)) : aL ≠ aH)); have cP := A_ ((by rw [hg]; exact Nat.ne_of_gt (blk_lt (Z2 aB.out)) : aH ≠ aL)); have ne_ := A_ (sz_below Z14 hb); clear HE; have HE := ne_; clear ne_; clear aB; clear HB; have aB := aR; have HB := aS; have aC := aT; have cQ := aU; have aG := bA; have aA := bO; have aE := cP; clear aR aS aT aU bA bO cP; clear hb hbox hg))
 replace aB := A_ (blk_drew aB.out); replace aC := A_ (blk_drew aC.out); replace HB := A_ (below_drew1 HB.out)
 refine start_ (n := 11) (S := fun w' => w'.cell? ⟨aL, 0, none⟩ = some (.slice aV aI.length aW) ∧ w'.cell? ⟨aL, 1, none⟩ = some (.slice aX aJ.length aY) ∧ w'.cell? ⟨aL, 2, none⟩ = some (.slice aZ aK.length a3)) (ds := []) #[F,F,F,F,F,F,F,F,F,F,F] (by kernel_rfl) rfl rfl ⟨(bc aB.out 0).trans rfl, (bc aB.out 1).trans rfl, (bc aB.out 2).trans rfl⟩ (fun hHeld => ?_); refine with_tabW impl_histCopy.tab1 impl_histCopy.bits1 (fun HT_ HW_ => ?_)
 replace HE := A_ (sz_drew HE.out); generalize w6.drew = w7 at aB aC HB HE hHeld ⊢; refine pU 0 3 #[T,F,F,F,F,F,F,F,F,F,F] ?_; refine pU 3 6 #[T,F,F,T,F,F,F,F,F,F,F] ?_; refine pU 6 9 #[T,F,F,T,F,F,T,F,F,F,F] ?_; refine take_ (i := 1) (N := some 4) (v := ?_) (a' := ?_) #[T,T,F,T,F,F,T,F,F,F,F] rfl rfl (take_ofW HT_.out HW_.out (by kernel_rfl)) ZF (Or.inl ⟨by rfl, ?_⟩) hHeld ?_ ?_; rotate_left
 ·rintro w' ⟨s0, s1, s2⟩
  go_simp
  with_reducible rfl
 rotate_left; (·exact Z0); refine take_ (i := 4) (N := some 7) (v := ?_) (a' := ?_) #[T,T,F,T,T,F,T,F,F,F,F] rfl rfl (take_ofW HT_.out HW_.out (by kernel_rfl)) ZF (Or.inl ⟨by rfl, ?_⟩) hHeld ?_ ?_
 rotate_left
 ·rintro w' ⟨s0, s1, s2⟩
  go_simp
  with_reducible rfl
 rotate_left; (·exact Z0); refine take_ (i := 7) (N := some 10) (v := ?_) (a' := ?_) #[T,T,F,T,T,F,T,T,F,F,F] rfl rfl (take_ofW HT_.out HW_.out (by kernel_rfl)) ZF (Or.inl ⟨by rfl, ?_⟩) hHeld ?_ ?_
 rotate_left
 ·rintro w' ⟨s0, s1, s2⟩
  go_simp
  with_reducible rfl
 rotate_left; (·exact Z0)
 refine oU 2 (some 5) #[T,T,T,T,T,F,T,T,F,F,F] (fun K hK => ?_)
 refine goes_ Try.func56 (by kernel_rfl) rfl #[.slice aV aI.length aW] (by rfl) rfl rfl Z16 ?_
 (with_reducible refine (impl_storeCopy.calls k _ _ aI bL _ ?s1 bG.out A2.out).mono ?_); (case s1 => exact Z4 bF.out); rintro e w8 ⟨cW, rfl, bB, hb⟩; refine ⟨_, rfl, ?_⟩; obtain ⟨bP, bQ, aM, aN, aO, aP⟩ := Kd.S_win1 bB (bz (Z5 aD.out aG.out)) Z14 hb.size; have aR := A_ (aM); have aS := A_ (bb (Z2 aB.out) hb); have aT := A_ (bb (Z2 aC.out) hb); have aU := A_ (bst (Z5 aD.out aG.out) hb); have nS_ := A_ (And.intro HS.out (And.intro aN aO)); have ne_ := A_ (aP); clear aM aN aO aP; clear HS; have HS := nS_; clear nS_; clear HE; have HE := ne_; clear ne_; clear aB; clear aC; clear HB; have aF := aR; have aB := aS; have aC := aT; have HB := aU; clear aR aS aT aU
 (try clear hb); (try clear cR); (try clear hk); (try clear hi); (try clear bB)
 refine hK.out _ _ ⟨(bc aB.out 0).trans rfl, (bc aB.out 1).trans rfl, (bc aB.out 2).trans rfl⟩ (fun hHeld => ?_)
 clear hK K
 refine norm_ (a' := ?_) ?_ ?_
 rotate_left
 ·show Act.put _ (some 5) _ = _
  simp only [Act.put, List.setIfInBounds_toArray, List.set_cons_zero, List.set_cons_succ, i64_w, i32_w]
  rfl
 refine oU 5 (some 8) #[T,T,T,T,T,T,T,T,F,F,F] (fun K hK => ?_)
 refine goes_ Try.func57 (by kernel_rfl) rfl #[.slice aX aJ.length aY] (by rfl) rfl rfl Z16 ?_
 (with_reducible refine (impl_storesCopy.calls k _ _ aJ bM _ ?s1 bI.out A3.out).mono ?_); (case s1 => exact Z4 bH.out); rintro e w9 ⟨cX, rfl, bB, hb⟩; refine ⟨_, rfl, ?_⟩; obtain ⟨bR, bT, aM, aN, aO, aP⟩ := Kd.S_win1 bB (bz (Z5 aD.out aG.out)) Z14 hb.size; have aR := A_ (Kd.S_below (Z8 aF.out) hb); have aS := A_ (aM); have aT := A_ (bb (Z2 aB.out) hb); have aU := A_ (bb (Z2 aC.out) hb); have bA := A_ (bst (Z5 aD.out aG.out) hb); have nS_ := A_ (And.intro HS.out (And.intro aN aO)); have ne_ := A_ (aP); clear aM aN aO aP; clear HS; have HS := nS_; clear nS_; clear HE; have HE := ne_; clear ne_; clear aF; clear aB; clear aC; clear HB; have aF := aR; have aQ := aS; have aB := aT; have aC := aU; have HB := bA; clear aR aS aT aU bA
 (try clear hb); (try clear cR); (try clear hk); (try clear hi); (try clear bB)
 refine hK.out _ _ ⟨(bc aB.out 0).trans rfl, (bc aB.out 1).trans rfl, (bc aB.out 2).trans rfl⟩ (fun hHeld => ?_)
 clear hK K
 refine norm_ (a' := ?_) ?_ ?_
 rotate_left
 ·show Act.put _ (some 8) _ = _
  simp only [Act.put, List.setIfInBounds_toArray, List.set_cons_zero, List.set_cons_succ, i64_w, i32_w]
  rfl
 refine oU 8 (some 11) #[T,T,T,T,T,T,T,T,T,F,F] (fun K hK => ?_)
 refine goes_ Try.func57 (by kernel_rfl) rfl #[.slice aZ aK.length a3] (by rfl) rfl rfl Z16 ?_
 (with_reducible refine (impl_storesCopy.calls k _ _ aK bN _ ?s1 bK.out A4.out).mono ?_); (case s1 => exact Z4 bJ.out); rintro e cB ⟨cY, rfl, bB, hb⟩; refine ⟨_, rfl, ?_⟩; obtain ⟨bU, bV, aM, aN, aO, aP⟩ := Kd.S_win1 bB (bz (Z5 aD.out aG.out)) Z14 hb.size; have aR := A_ (Kd.S_below (Z8 aF.out) hb); have aS := A_ (Kd.S_below (Z8 aQ.out) hb); have aT := A_ (aM); have aU := A_ (bb (Z2 aB.out) hb); have bA := A_ (bb (Z2 aC.out) hb); have bO := A_ (bst (Z5 aD.out aG.out) hb); have nS_ := A_ (And.intro HS.out (And.intro aN aO)); have ne_ := A_ (aP); clear aM aN aO aP; clear HS; have HS := nS_; clear nS_; clear HE; have HE := ne_; clear ne_; clear aF; clear aQ; clear aB; clear aC; clear HB; have aF := aR; have aQ := aS; have bC := aT; have aB := aU; have aC := bA; have HB := bO; clear aR aS aT aU bA bO
 (try clear hb); (try clear cR); (try clear hk); (try clear hi); (try clear bB); obtain ⟨cC, cD, bW⟩ := Kd.S_slice bC.out; (first | subst bW | (injection bW with bD bX bE; have bY := bD.symm; have bZ := bE.symm; clear bD bX bE; subst bY; subst bZ)); obtain ⟨cE, cF, b3⟩ := Kd.S_slice aQ.out; (first | subst b3 | (injection b3 with bD bX bE; have bY := bD.symm; have bZ := bE.symm; clear bD bX bE; subst bY; subst bZ)); obtain ⟨cG, cH, b4⟩ := Kd.S_slice aF.out; (first | subst b4 | (injection b4 with bD bX bE; have bY := bD.symm; have bZ := bE.symm; clear bD bX bE; subst bY; subst bZ))
 refine hK.out _ _ ⟨(bc aB.out 0).trans rfl, (bc aB.out 1).trans rfl, (bc aB.out 2).trans rfl⟩ (fun hHeld => ?_)
 clear hK K
 refine norm_ (a' := ?_) ?_ ?_
 rotate_left
 ·show Act.put _ (some 11) _ = _
  simp only [Act.put, List.setIfInBounds_toArray, List.set_cons_zero, List.set_cons_succ, i64_w, i32_w]
  rfl
 refine pU 9 12 #[T,T,T,T,T,T,T,T,T,T,F] ?_
 refine oU 10 none #[T,T,T,T,T,T,T,T,T,T,T] (fun K hK => ?_)
 have cZ : cB.cell? ⟨aH, 0, none⟩ = some (.slice none 0 0) := (bc aC.out 0).trans rfl; have cS := blk_frozen aC.out 0; have b5 := aA.out; have b6 := aE.out; have dA : cB.cell? ⟨aH, 1, none⟩ = some (.slice none 0 0) := (bc aC.out 1).trans rfl; have cT := blk_frozen aC.out 1; have b7 := aA.out; have b8 := aE.out; have dB : cB.cell? ⟨aH, 2, none⟩ = some (.slice none 0 0) := (bc aC.out 2).trans rfl; have cU := blk_frozen aC.out 2; have b9 := aA.out; have cA := aE.out
 refine skip_ (w1 := ?_) (by rfl) rfl ?_ ?_
 rotate_left
 ·go_simp
  rfl
 refine hK.out _ _ ⟨(cf aA.out (cf aA.out (cf aA.out hHeld.1))), (cf aA.out (cf aA.out (cf aA.out hHeld.2.1))), (cf aA.out (cf aA.out (cf aA.out hHeld.2.2)))⟩ (fun hHeld => ?_)
 clear hK K
 refine done_ (done_of HT_.out (by kernel_rfl)) ?_
 try go_wp2
 refine bodyPost_ret (results_cell_row rfl _ _ aH 26 #[.slice cG bL.length cH, .slice cE bM.length cF, .slice cC bN.length cD] (0, 0) _ rfl (bp0 aC.out) Try.underlying26 rfl (by kernel_rfl)) rfl ?_
 have hs_ := HS.out; obtain ⟨fh, dC, dD, dE⟩ := Kd.three (a0 := bP) (b0 := bQ) (a1 := bR) (b1 := bT) (a2 := bU) (b2 := bV) (by omega) (by omega) (by omega)
 exact ⟨_, _, _, fh, Z7, by (with_reducible repeat (first | apply Kd.S_alloc | apply Kd.S_drewN | apply Kd.S_drew)); exact Kd.S_mono (Sf (Sf (Sf (Kd.S_types aF.out aC.out (by decide))))) (fun k hk => dC k hk.1), by (with_reducible repeat (first | apply Kd.S_alloc | apply Kd.S_drewN | apply Kd.S_drew)); exact Kd.S_mono (Sf (Sf (Sf (Kd.S_types aQ.out aC.out (by decide))))) (fun k hk => dD k hk.1), by (with_reducible repeat (first | apply Kd.S_alloc | apply Kd.S_drewN | apply Kd.S_drew)); exact Kd.S_mono (Sf (Sf (Sf (Kd.S_types bC.out aC.out (by decide))))) (fun k hk => dE k hk.1), Z5 aD.out aG.out⟩
def spec_inRange.f (a0 : Int) (a1 : Int) (a2 : Int) : Option (Bool) := if a0 ≥ a1 then (some (decide (a0 ≤ a2))) else (some false)
theorem spec_inRange.calls (a0 : Int) (a1 : Int) (a2 : Int) (r : Bool) (w : World) (h : spec_inRange.f a0 a1 a2 = some r) :
  Calls Try.prog 77 #[.int .i64 a0, .int .i64 a1, .int .i64 a2] w fun e w' => e = .returned (.bool r) ∧ Drawn0 w w' := by
 have H := h; unfold spec_inRange.f at H; clear h
 by_cases c4 : a0 ≥ a1
 ·rw [if_pos c4] at H
  have aA : decide (a1 ≤ a0) = true := dt c4; clear c4; obtain rfl := Option.some.inj H
  go_enter Try.func77, Try.ntmps77
  go_wp2
  go_ret
  exact ⟨Z17, Z23⟩
 ·rw [if_neg c4] at H
  have aA : decide (a1 ≤ a0) = false := df c4; clear c4; obtain rfl := Option.some.inj H
  go_enter Try.func77, Try.ntmps77
  go_wp2
  go_ret
  exact ⟨Z17, Z23⟩
def spec_validSlot.f (aA : Int) (aB : Int) : Option (Bool) := (spec_inRange.f aA 0 3).bind fun aC => (if aC = true then ((spec_inRange.f aB 0 103).bind fun aD => (some aD)) else (some false))
theorem spec_validSlot.calls (aA : Int) (aB : Int) (r : Bool) (w : World) (h : spec_validSlot.f aA aB = some r) :
  Calls Try.prog 73 #[.agg #[.int .i64 aA, .int .i64 aB]] w fun e w' => e = .returned (.bool r) ∧ Below w.heap.size w w' := by
 have aS := Try.underlying96; have HB := A_ (Below.refl w.heap.size w); have H := h; unfold spec_validSlot.f at H; clear h; replace H := bS H; obtain ⟨aG, aQ, H⟩ := H
 try dsimp only at H
 have A2 := A_ aQ; clear aQ
 by_cases c3 : aG = true
 ·subst c3
  rw [if_pos rfl] at H; replace H := bS H; obtain ⟨aH, aR, H⟩ := H
  try dsimp only at H
  have A4 := A_ aR; clear aR; obtain rfl := Option.some.inj H
  go_enter Try.func73, Try.ntmps73
  go_wp2_with (first | ((with_reducible refine gate_dst (N := 1) rfl ?_); refine be (cs := #[.int .i64 aA, .int .i64 aB]) (t := 96) ?_; intro aF hg w5 hbox hb; have aC := A_ hbox; have aD := A_ (gl hg (bz Z1)); have aE := aD; replace HB := A_ (bst Z1 hb); clear hb hbox hg; obtain ⟨aI, aJ, aK, aL⟩ := C2 aC.out) | ((with_reducible refine gate_callee (f := 77) rfl ?_); refine gL 5 Try.func77 #[.int .i64 aA, .int .i64 0, .int .i64 3] ?_; (with_reducible refine (spec_inRange.calls aA 0 3 true _ A2.out).mono ?_); rintro e w' ⟨rfl, ⟨nd, rfl⟩⟩; refine ⟨_, rfl, ?_⟩) | (go_at_call 77; (with_reducible refine (spec_inRange.calls aB 0 103 aH _ A4.out).mono ?_); rintro e w' ⟨rfl, ⟨nd, rfl⟩⟩))
  go_ret
  exact ⟨Z7, Z3 aE.out⟩
 ·replace c3 := Bool.eq_false_iff.mpr c3
  subst c3; rw [if_neg (show ¬ (false = true) by decide)] at H; obtain rfl := Option.some.inj H
  go_enter Try.func73, Try.ntmps73
  go_wp2_with (first | ((with_reducible refine gate_dst (N := 1) rfl ?_); refine be (cs := #[.int .i64 aA, .int .i64 aB]) (t := 96) ?_; intro aF hg w7 hbox hb; have aC := A_ hbox; have aD := A_ (gl hg (bz Z1)); have aE := aD; replace HB := A_ (bst Z1 hb); clear hb hbox hg; obtain ⟨aM, aN, aO, aP⟩ := C2 aC.out) | ((with_reducible refine gate_callee (f := 77) rfl ?_); refine gL 5 Try.func77 #[.int .i64 aA, .int .i64 0, .int .i64 3] ?_; (with_reducible refine (spec_inRange.calls aA 0 3 false _ A2.out).mono ?_); rintro e w' ⟨rfl, ⟨nd, rfl⟩⟩; refine ⟨_, rfl, ?_⟩))
  go_ret
  exact ⟨Z7, Z3 aE.out⟩
def spec_validPlace.l0 : Nat → List (S96) → Int → Option (Bool)
 | 0, _, _ => none
 | k + 1, x0, x3 => if x3 < (x0.length : Int) then (if 0 ≤ x3 then ((spec_validSlot.f ((rd_T96 x0 x3).f0) ((rd_T96 x0 x3).f1)).bind fun aA => (if aA = true then (spec_validPlace.l0 k x0 (wrap64 (x3 + 1))) else (some false))) else (none)) else (some true)
def spec_validPlace.f (k : Nat) (l0 : List (S96)) : Option (Bool) := if (l0.length : Int) > 20 then (some false) else (spec_validPlace.l0 k l0 0)
theorem spec_validPlace.calls (k : Nat) (A0 : Option Addr) (c0 : Nat) (l0 : List (S96)) (r : Bool) (w : World) (aL : Kd.C k96 w A0 l0.length l0) (hc0 : l0.length ≤ c0) (h : spec_validPlace.f k l0 = some r) :
  Calls Try.prog 48 #[.slice A0 l0.length c0] w fun e w' => e = .returned (.bool r) ∧ Below w.heap.size w w' := by
 have aP := Try.underlying96; have aM := A_ aL; have aR := A_ hc0; clear aL hc0; have HB := A_ (Below.refl w.heap.size w); have H := h; unfold spec_validPlace.f at H; clear h
 by_cases c2 : (l0.length : Int) > 20
 ·rw [if_pos c2] at H
  have aG : decide (20 < (l0.length : Int)) = true := dt c2; have aH : decide (20 < l0.length) = true := dt (by omega); clear c2; obtain rfl := Option.some.inj H
  go_enter Try.func48, Try.ntmps48
  go_wp2
  go_ret
  exact ⟨Z7, Z1⟩
 ·rw [if_neg c2] at H
  have aG : decide (20 < (l0.length : Int)) = false := df c2; have aH : decide (20 < l0.length) = false := df (by omega); clear c2; have H' := A_ H; clear H
  go_enter Try.func48, Try.ntmps48
  go_wp2
  go_loopg [3] k (fun kq v3 w' => ∃ (aA : Int), v3 = .int .i64 aA ∧ Aside0 (spec_validPlace.l0 kq l0 aA = some r) ∧ Aside0 (kq ≤ k) ∧ Aside0 (Below w.heap.size w w'))
  case atStart => exact ⟨(0), Z17, H', ⟨Nat.le_refl _⟩, ⟨Z1⟩⟩
  case round =>
   clear H'; try clear c2
   try clear aG
   try clear aH
   obtain ⟨aA, rfl, HA, aN, HB⟩ := hrel
   cases gk with
   | zero => exact absurd HA.out (by simp [spec_validPlace.l0])
   | succ k1 =>
    have H := HA.out; clear HA; simp only [spec_validPlace.l0] at H
    by_cases c3 : aA < (l0.length : Int)
    ·rw [if_pos c3] at H
     have aJ := dt c3; clear c3
     by_cases c4 : 0 ≤ aA
     ·rw [if_pos c4] at H
      have aQ := dt c4; clear c4; replace H := bS H; obtain ⟨aK, aO, H⟩ := H
      try dsimp only at H
      have A5 := A_ aO; clear aO
      by_cases c6 : aK = true
      ·subst c6
       rw [if_pos rfl] at H; have H' := A_ H; clear H; have aD : 0 ≤ (aA : Int) := odt; have aE : aA < (l0.length : Int) := odt; obtain ⟨aI, aF, aB, aC⟩ := at_T96 aM.out aA aD aE; cases aF; replace aB := ZC HB.out aB; replace aC := ZC HB.out aC; replace aD := eq_true aD; replace aE := eq_true aE
       go_wp2_with (first | ((with_reducible refine gate_callee (f := 73) rfl ?_); refine gL 17 Try.func73 #[.agg #[.int .i64 ((rd_T96 l0 aA).f0), .int .i64 ((rd_T96 l0 aA).f1)]] ?_; (with_reducible refine (spec_validSlot.calls ((rd_T96 l0 aA).f0) ((rd_T96 l0 aA).f1) true _ A5.out).mono ?_); rintro e w7 ⟨rfl, hb⟩; refine ⟨_, rfl, ?_⟩; replace HB := A_ (bst Z1 hb); (try clear hb)))
       go_roundg k1
       case measure => have := aN.out; omega
       case rel => exact ⟨(wrap64 (aA + 1)), Z17, H', ⟨by have := aN.out; omega⟩, ⟨Z1⟩⟩
      ·replace c6 := Bool.eq_false_iff.mpr c6
       subst c6; rw [if_neg (show ¬ (false = true) by decide)] at H; obtain rfl := Option.some.inj H; have aD : 0 ≤ (aA : Int) := odt; have aE : aA < (l0.length : Int) := odt; obtain ⟨aI, aF, aB, aC⟩ := at_T96 aM.out aA aD aE; cases aF; replace aB := ZC HB.out aB; replace aC := ZC HB.out aC; replace aD := eq_true aD; replace aE := eq_true aE
       go_wp2_with (first | ((with_reducible refine gate_callee (f := 73) rfl ?_); refine gL 17 Try.func73 #[.agg #[.int .i64 ((rd_T96 l0 aA).f0), .int .i64 ((rd_T96 l0 aA).f1)]] ?_; (with_reducible refine (spec_validSlot.calls ((rd_T96 l0 aA).f0) ((rd_T96 l0 aA).f1) false _ A5.out).mono ?_); rintro e w8 ⟨rfl, hb⟩; refine ⟨_, rfl, ?_⟩; replace HB := A_ (bst Z1 hb); (try clear hb)))
       go_ret
       exact ⟨Z7, Z1⟩
     ·exact Z45
    ·rw [if_neg c3] at H
     have aJ := df c3; clear c3; obtain rfl := Option.some.inj H
     go_wp2
     go_ret
     exact ⟨Z7, Z1⟩
end Go.Proofs.Ytgbbcebjgpoioaa.PFnExactHistUndo
