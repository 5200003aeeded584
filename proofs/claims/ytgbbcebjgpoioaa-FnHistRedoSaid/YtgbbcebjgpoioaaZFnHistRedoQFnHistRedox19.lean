/- Walks (lines of the print; no condition). -/
import Derived.Test.YtgbbcebjgpoioaaZFnHistRedoQFnHistRedox17
namespace Go.Proofs.Ytgbbcebjgpoioaa.PFnHistRedo
open Go.RowKit Go.Proofs.YtgbbcebjgpoioaaW.PrintWords Go.Proofs.YtgbbcebjgpoioaaW.PrintLast Go.Proofs.YtgbbcebjgpoioaaW.PrintMore
attribute [local go_sem] max2_int min2_int max_two min_two max_three min_three max_four min_four
set_option linter.unusedVariables false
set_option linter.unusedSimpArgs false
def spec_told.f (aD : Int) (aA : Int) (aH : Int) (aI : Int) (aJ : ByteArray) (aE : List (S98)) (aF : List (S98)) (aB : List Int) (aG : List (S98)) : Option (Int × Int × ByteArray) := if aD = 1 then (if 0 ≤ aA then (if aA < (aE.length : Int) then (some ((rd_T98 aE aA).f0, (rd_T98 aE aA).f1, (rd_T98 aE aA).f2)) else (none)) else (none)) else (if aD = 2 then (if 0 ≤ aA then (if aA < (aF.length : Int) then (some ((rd_T98 aF aA).f0, (rd_T98 aF aA).f1, (rd_T98 aF aA).f2)) else (none)) else (none)) else (if aD = 3 then (if 0 ≤ (wrap64 ((wrap64 ((aB.length : Int) - 1)) - aA)) then (if (wrap64 ((wrap64 ((aB.length : Int) - 1)) - aA)) < (aB.length : Int) then ((spec_number.f (rd aB (wrap64 ((wrap64 ((aB.length : Int) - 1)) - aA)))).bind fun aC => (some (aC.1, aC.2.1, aC.2.2))) else (none)) else (none)) else (if aD = 4 then (if 0 ≤ aA then (if aA < (aG.length : Int) then (some ((rd_T98 aG aA).f0, (rd_T98 aG aA).f1, (rd_T98 aG aA).f2)) else (none)) else (none)) else (some (aH, aI, aJ)))))
set_option maxHeartbeats 8000000 in
set_option maxRecDepth 100000 in
theorem spec_told.calls (aM : Int) (aL : Int) (aV : Int) (aW : Int) (aX : ByteArray) (a0 : Option Addr) (a1 : Nat) (aP : List (S98)) (a2 : Option Addr) (a3 : Nat) (aQ : List (S98)) (a4 : Option Addr) (a5 : Nat) (aO : List Int) (a6 : Option Addr) (a7 : Nat) (aR : List (S98)) (r1 : Int) (r2 : Int) (r3 : ByteArray) (w : World) (bI : Kd.C k98 w a0 aP.length aP) (bJ : aP.length ≤ a1) (bK : Kd.C k98 w a2 aQ.length aQ) (bL : aQ.length ≤ a3) (bM : Kd.C (Kd.int .i64) w a4 aO.length aO) (bN : aO.length ≤ a5) (bO : Kd.C k98 w a6 aR.length aR) (bP : aR.length ≤ a7) (h : spec_told.f aM aL aV aW aX aP aQ aO aR = some (r1, r2, r3)) :
  Calls Try.prog 111 #[.agg #[.int .i64 aM, .int .i64 aL, .int .i64 aV, .int .i64 aW, .string aX], .agg #[.slice a0 aP.length a1, .slice a2 aQ.length a3, .slice a4 aO.length a5, .slice a6 aR.length a7]] w fun e w' => e = .returned (.agg #[.int .i64 r1, .int .i64 r2, .string r3]) ∧ Below w.heap.size w w' := by
 have gB := Try.underlying116; have gC := Try.underlying135; have iA := Try.underlying98; have b2 := A_ bI; have gD := A_ bJ; clear bI bJ; have b3 := A_ bK; have gE := A_ bL; clear bK bL; have b4 := A_ bM; have gF := A_ bN; clear bM bN; have b5 := A_ bO; have gG := A_ bP; clear bO bP; have HB := A_ (Below.refl w.heap.size w); have H := h; unfold spec_told.f at H; clear h
 by_cases c3 : aM = 1
 ·rw [if_pos c3] at H
  have f4 : (aM == 1) = true := beq_iff_eq.mpr c3; have f5 : (aM != 1) = false := bne_eq_false_iff_eq.mpr c3; clear c3
  by_cases c4 : 0 ≤ aL
  ·rw [if_pos c4] at H
   have iB := dt c4; clear c4
   by_cases c5 : aL < (aP.length : Int)
   ·rw [if_pos c5] at H
    have iC := dt c5; clear c5; simp only [Option.some.injEq, Prod.mk.injEq] at H; obtain ⟨rfl, rfl, rfl⟩ := H
    go_enter Try.func111, Try.ntmps111
    go_wp2_with (first | ((with_reducible refine gate_dst (N := 2) rfl ?_); refine be (cs := #[.int .i64 aM, .int .i64 aL, .int .i64 aV, .int .i64 aW, .string aX]) (t := 116) ?_; intro aD hg w6 hbox hb; have aA := A_ hbox; have aS := A_ (gl hg (bz Z2)); have GE728 := aS; replace HB := A_ (bst Z2 hb); clear hb hbox hg) | ((with_reducible refine gate_dst (N := 3) rfl ?_); refine be (cs := #[.slice a0 aP.length a1, .slice a2 aQ.length a3, .slice a4 aO.length a5, .slice a6 aR.length a7]) (t := 135) ?_; intro aE hg w7 hbox hb; have aB := A_ hbox; have aT := A_ (gl hg (bz (Z3 GE728.out))); have GE729 := aT; replace HB := A_ (bst (Z3 GE728.out) hb); have aF := A_ ((by rw [hg]; exact nl (blk_lt (Z0 aA.out)) : aD ≠ aE)); have aG := A_ ((by rw [hg]; exact Nat.ne_of_gt (blk_lt (Z0 aA.out)) : aE ≠ aD)); replace aA := A_ (bb (Z0 aA.out) hb); clear hb hbox hg) | ((with_reducible refine gate_dst (N := 4) rfl ?_); refine be (cs := #[.int .i64 0, .int .i64 0, .string (⟨#[]⟩ : ByteArray)]) (t := 98) ?_; intro aC hg w8 hbox hb; have aN := A_ hbox; have aU := A_ (gl hg (bz (Z4 GE728.out GE729.out))); have GE730 := aU; replace HB := A_ (bst (Z4 GE728.out GE729.out) hb); have aH := A_ ((by rw [hg]; exact nl (blk_lt (Z0 aA.out)) : aD ≠ aC)); have aI := A_ ((by rw [hg]; exact Nat.ne_of_gt (blk_lt (Z0 aA.out)) : aC ≠ aD)); replace aA := A_ (bb (Z0 aA.out) hb); have aJ := A_ ((by rw [hg]; exact nl (blk_lt (Z0 aB.out)) : aE ≠ aC)); have aK := A_ ((by rw [hg]; exact Nat.ne_of_gt (blk_lt (Z0 aB.out)) : aC ≠ aE)); replace aB := A_ (bb (Z0 aB.out) hb); clear hb hbox hg; have iD := aF.out; have iE := aG.out; have gH := aH.out; have gI := aI.out; obtain ⟨cG, cH, cI, cJ, cK, cL, cM, cN, cO, cP⟩ := C5 aA.out; have gJ := aJ.out; have gK := aK.out; obtain ⟨cQ, cR, cS, cT, cU, cV, cW, cX⟩ := C4 aB.out; have bQ : 0 ≤ (aL : Int) := odt; have bR : aL < (aP.length : Int) := odt; obtain ⟨gM, f6, a8, a9, bA⟩ := at_T98 b2.out aL bQ bR; cases f6; replace a8 := ZC HB.out a8; replace a9 := ZC HB.out a9; replace bA := ZC HB.out bA; replace bQ := eq_true bQ; replace bR := eq_true bR; obtain ⟨cY, cZ, dA, dB, dC, dD⟩ := C3 aN.out))
    refine bodyPost_ret (results_cell_row rfl _ _ aC 98 #[.int .i64 ((rd_T98 aP aL).f0), .int .i64 ((rd_T98 aP aL).f1), .string ((rd_T98 aP aL).f2)] (0, 0) _ rfl (bp0 aN.out) Try.underlying98 rfl (by kernel_rfl)) rfl ?_
    exact ⟨Z11, Z53⟩
   ·rw [if_neg c5] at H
    exact absurd H (by simp)
  ·exact Z84
 ·rw [if_neg c3] at H
  have f4 : (aM == 1) = false := beq_eq_false_iff_ne.mpr c3; have f5 : (aM != 1) = true := bne_iff_ne.mpr c3
  by_cases bT : aM = 2
  ·rw [if_pos bT] at H
   have b6 : (aM == 2) = true := beq_iff_eq.mpr bT; have b7 : (aM != 2) = false := bne_eq_false_iff_eq.mpr bT; clear bT
   by_cases dE : 0 ≤ aL
   ·rw [if_pos dE] at H
    have gN := dt dE; clear dE
    by_cases dF : aL < (aQ.length : Int)
    ·rw [if_pos dF] at H
     have gO := dt dF; clear dF; simp only [Option.some.injEq, Prod.mk.injEq] at H; obtain ⟨rfl, rfl, rfl⟩ := H
     go_enter Try.func111, Try.ntmps111
     go_wp2_with (first | ((with_reducible refine gate_dst (N := 2) rfl ?_); refine be (cs := #[.int .i64 aM, .int .i64 aL, .int .i64 aV, .int .i64 aW, .string aX]) (t := 116) ?_; intro aD hg iG hbox hb; have aA := A_ hbox; have aS := A_ (gl hg (bz Z2)); have GE728 := aS; replace HB := A_ (bst Z2 hb); clear hb hbox hg) | ((with_reducible refine gate_dst (N := 3) rfl ?_); refine be (cs := #[.slice a0 aP.length a1, .slice a2 aQ.length a3, .slice a4 aO.length a5, .slice a6 aR.length a7]) (t := 135) ?_; intro aE hg iH hbox hb; have aB := A_ hbox; have aT := A_ (gl hg (bz (Z3 GE728.out))); have GE729 := aT; replace HB := A_ (bst (Z3 GE728.out) hb); have aF := A_ ((by rw [hg]; exact nl (blk_lt (Z0 aA.out)) : aD ≠ aE)); have aG := A_ ((by rw [hg]; exact Nat.ne_of_gt (blk_lt (Z0 aA.out)) : aE ≠ aD)); replace aA := A_ (bb (Z0 aA.out) hb); clear hb hbox hg) | ((with_reducible refine gate_dst (N := 4) rfl ?_); refine be (cs := #[.int .i64 0, .int .i64 0, .string (⟨#[]⟩ : ByteArray)]) (t := 98) ?_; intro aC hg iI hbox hb; have aN := A_ hbox; have aU := A_ (gl hg (bz (Z4 GE728.out GE729.out))); have GE730 := aU; replace HB := A_ (bst (Z4 GE728.out GE729.out) hb); have aH := A_ ((by rw [hg]; exact nl (blk_lt (Z0 aA.out)) : aD ≠ aC)); have aI := A_ ((by rw [hg]; exact Nat.ne_of_gt (blk_lt (Z0 aA.out)) : aC ≠ aD)); replace aA := A_ (bb (Z0 aA.out) hb); have aJ := A_ ((by rw [hg]; exact nl (blk_lt (Z0 aB.out)) : aE ≠ aC)); have aK := A_ ((by rw [hg]; exact Nat.ne_of_gt (blk_lt (Z0 aB.out)) : aC ≠ aE)); replace aB := A_ (bb (Z0 aB.out) hb); clear hb hbox hg; have gP := aF.out; have gQ := aG.out; have gR := aH.out; have gS := aI.out; obtain ⟨dG, dH, dI, dJ, dK, dL, dM, dN, dO, dP⟩ := C5 aA.out; have gT := aJ.out; have gU := aK.out; obtain ⟨dQ, dR, dS, dT, dU, dV, dW, dX⟩ := C4 aB.out; have bU : 0 ≤ (aL : Int) := odt; have bV : aL < (aQ.length : Int) := odt; obtain ⟨gV, f7, bB, bC, bD⟩ := at_T98 b3.out aL bU bV; cases f7; replace bB := ZC HB.out bB; replace bC := ZC HB.out bC; replace bD := ZC HB.out bD; replace bU := eq_true bU; replace bV := eq_true bV; obtain ⟨dY, dZ, d0, d1, d2, d3⟩ := C3 aN.out))
     refine bodyPost_ret (results_cell_row rfl _ _ aC 98 #[.int .i64 ((rd_T98 aQ aL).f0), .int .i64 ((rd_T98 aQ aL).f1), .string ((rd_T98 aQ aL).f2)] (0, 0) _ rfl (bp0 aN.out) Try.underlying98 rfl (by kernel_rfl)) rfl ?_
     exact ⟨Z11, Z53⟩
    ·rw [if_neg dF] at H
     exact absurd H (by simp)
   ·rw [if_neg dE] at H
    exact absurd H (by simp)
  ·rw [if_neg bT] at H
   have b6 : (aM == 2) = false := beq_eq_false_iff_ne.mpr bT; have b7 : (aM != 2) = true := bne_iff_ne.mpr bT
   by_cases bW : aM = 3
   ·rw [if_pos bW] at H
    have b8 : (aM == 3) = true := beq_iff_eq.mpr bW; have b9 : (aM != 3) = false := bne_eq_false_iff_eq.mpr bW; clear bW; obtain ⟨aY, aZ⟩ : ∃ j_ : Int, (wrap64 ((wrap64 ((aO.length : Int) - 1)) - aL)) = j_ := ⟨_, rfl⟩
    first | rw [aZ] at H | simp only [aZ] at H
    have f8 : (IntKind.i64.wrap ((wrap64 ((aO.length : Int) - 1)) - aL)) = aY := (i64_w _).trans aZ
    by_cases d4 : 0 ≤ (aY)
    ·rw [if_pos d4] at H
     have gW := dt d4; clear d4
     by_cases d5 : (aY) < (aO.length : Int)
     ·rw [if_pos d5] at H
      have gX := dt d5; clear d5; replace H := bS H; obtain ⟨⟨cA, cB, cC⟩, cD, H⟩ := H
      try dsimp only at H
      have iF := A_ cD; clear cD; simp only [Option.some.injEq, Prod.mk.injEq] at H; obtain ⟨rfl, rfl, rfl⟩ := H
      go_enter Try.func111, Try.ntmps111
      go_wp2_with (first | ((with_reducible refine gate_dst (N := 2) rfl ?_); refine be (cs := #[.int .i64 aM, .int .i64 aL, .int .i64 aV, .int .i64 aW, .string aX]) (t := 116) ?_; intro aD hg iJ hbox hb; have aA := A_ hbox; have aS := A_ (gl hg (bz Z2)); have GE728 := aS; replace HB := A_ (bst Z2 hb); clear hb hbox hg) | ((with_reducible refine gate_dst (N := 3) rfl ?_); refine be (cs := #[.slice a0 aP.length a1, .slice a2 aQ.length a3, .slice a4 aO.length a5, .slice a6 aR.length a7]) (t := 135) ?_; intro aE hg iK hbox hb; have aB := A_ hbox; have aT := A_ (gl hg (bz (Z3 GE728.out))); have GE729 := aT; replace HB := A_ (bst (Z3 GE728.out) hb); have aF := A_ ((by rw [hg]; exact nl (blk_lt (Z0 aA.out)) : aD ≠ aE)); have aG := A_ ((by rw [hg]; exact Nat.ne_of_gt (blk_lt (Z0 aA.out)) : aE ≠ aD)); replace aA := A_ (bb (Z0 aA.out) hb); clear hb hbox hg) | ((with_reducible refine gate_dst (N := 4) rfl ?_); refine be (cs := #[.int .i64 0, .int .i64 0, .string (⟨#[]⟩ : ByteArray)]) (t := 98) ?_; intro aC hg iL hbox hb; have aN := A_ hbox; have aU := A_ (gl hg (bz (Z4 GE728.out GE729.out))); have GE730 := aU; replace HB := A_ (bst (Z4 GE728.out GE729.out) hb); have aH := A_ ((by rw [hg]; exact nl (blk_lt (Z0 aA.out)) : aD ≠ aC)); have aI := A_ ((by rw [hg]; exact Nat.ne_of_gt (blk_lt (Z0 aA.out)) : aC ≠ aD)); replace aA := A_ (bb (Z0 aA.out) hb); have aJ := A_ ((by rw [hg]; exact nl (blk_lt (Z0 aB.out)) : aE ≠ aC)); have aK := A_ ((by rw [hg]; exact Nat.ne_of_gt (blk_lt (Z0 aB.out)) : aC ≠ aE)); replace aB := A_ (bb (Z0 aB.out) hb); clear hb hbox hg; have gY := aF.out; have gZ := aG.out; have g3 := aH.out; have g4 := aI.out; obtain ⟨d6, d7, d8, d9, eA, eB, eC, eD, eE, eF⟩ := C5 aA.out; have g5 := aJ.out; have g6 := aK.out; obtain ⟨eG, eH, eI, eJ, eK, eL, eM, eN⟩ := C4 aB.out; have bX : 0 ≤ ((aY) : Int) := odt; have bY : (aY) < (aO.length : Int) := odt; obtain ⟨g7, f9, bE⟩ := Kd.at_int b4.out (aY) bX bY; cases f9; replace bE := ZC HB.out bE; replace bX := eq_true bX; replace bY := eq_true bY) | ((with_reducible refine gate_callee (f := 114) rfl ?_); refine goesL_ (some 36) rfl rfl Try.func114 (by kernel_rfl) rfl #[.int .i64 (rd aO (aY))] rfl (by (try simp only [List.map_toArray, List.map_cons, List.map_nil]); first | done | (simp only [aZ]; rfl) | rfl | (simp only [List.length_drop, List.length_take]; rfl)) ?_; (with_reducible refine (spec_number.calls (rd aO (aY)) cA cB cC _ iF.out).mono ?_); rintro e iM ⟨rfl, hb⟩; refine ⟨_, rfl, ?_⟩; replace aA := A_ (bb (Z0 aA.out) hb); replace aB := A_ (bb (Z0 aB.out) hb); replace aN := A_ (bb (Z0 aN.out) hb); replace HB := A_ (bst Z53 hb); (try clear hb); obtain ⟨eO, eP, eQ, eR, eS, eT⟩ := C3 aN.out))
      refine bodyPost_ret (results_cell_row rfl _ _ aC 98 #[.int .i64 cA, .int .i64 cB, .string cC] (0, 0) _ rfl (bp0 aN.out) Try.underlying98 rfl (by kernel_rfl)) rfl ?_
      exact ⟨by first | rfl | (simp [errW_none, errW_some] <;> rfl) | (simp only [← aZ]; first | rfl | (simp [errW_none, errW_some] <;> rfl)) | (simp [*, errW_none, errW_some] <;> rfl), Z53⟩
     ·rw [if_neg d5] at H
      exact absurd H (by simp)
    ·rw [if_neg d4] at H
     exact absurd H (by simp)
   ·rw [if_neg bW] at H
    have b8 : (aM == 3) = false := beq_eq_false_iff_ne.mpr bW; have b9 : (aM != 3) = true := bne_iff_ne.mpr bW
    by_cases bZ : aM = 4
    ·rw [if_pos bZ] at H
     have cE : (aM == 4) = true := beq_iff_eq.mpr bZ; have cF : (aM != 4) = false := bne_eq_false_iff_eq.mpr bZ; clear bZ
     by_cases eU : 0 ≤ aL
     ·rw [if_pos eU] at H
      have g8 := dt eU; clear eU
      by_cases eV : aL < (aR.length : Int)
      ·rw [if_pos eV] at H
       have g9 := dt eV; clear eV; simp only [Option.some.injEq, Prod.mk.injEq] at H; obtain ⟨rfl, rfl, rfl⟩ := H
       go_enter Try.func111, Try.ntmps111
       go_wp2_with (first | ((with_reducible refine gate_dst (N := 2) rfl ?_); refine be (cs := #[.int .i64 aM, .int .i64 aL, .int .i64 aV, .int .i64 aW, .string aX]) (t := 116) ?_; intro aD hg iN hbox hb; have aA := A_ hbox; have aS := A_ (gl hg (bz Z2)); have GE728 := aS; replace HB := A_ (bst Z2 hb); clear hb hbox hg) | ((with_reducible refine gate_dst (N := 3) rfl ?_); refine be (cs := #[.slice a0 aP.length a1, .slice a2 aQ.length a3, .slice a4 aO.length a5, .slice a6 aR.length a7]) (t := 135) ?_; intro aE hg iO hbox hb; have aB := A_ hbox; have aT := A_ (gl hg (bz (Z3 GE728.out))); have GE729 := aT; replace HB := A_ (bst (Z3 GE728.out) hb); have aF := A_ ((by rw [hg]; exact nl (blk_lt (Z0 aA.out)) : aD ≠ aE)); have aG := A_ ((by rw [hg]; exact Nat.ne_of_gt (blk_lt (Z0 aA.out)) : aE ≠ aD)); replace aA := A_ (bb (Z0 aA.out) hb); clear hb hbox hg) | ((with_reducible refine gate_dst (N := 4) rfl ?_); refine be (cs := #[.int .i64 0, .int .i64 0, .string (⟨#[]⟩ : ByteArray)]) (t := 98) ?_; intro aC hg iP hbox hb; have aN := A_ hbox; have aU := A_ (gl hg (bz (Z4 GE728.out GE729.out))); have GE730 := aU; replace HB := A_ (bst (Z4 GE728.out GE729.out) hb); have aH := A_ ((by rw [hg]; exact nl (blk_lt (Z0 aA.out)) : aD ≠ aC)); have aI := A_ ((by rw [hg]; exact Nat.ne_of_gt (blk_lt (Z0 aA.out)) : aC ≠ aD)); replace aA := A_ (bb (Z0 aA.out) hb); have aJ := A_ ((by rw [hg]; exact nl (blk_lt (Z0 aB.out)) : aE ≠ aC)); have aK := A_ ((by rw [hg]; exact Nat.ne_of_gt (blk_lt (Z0 aB.out)) : aC ≠ aE)); replace aB := A_ (bb (Z0 aB.out) hb); clear hb hbox hg; have hD := aF.out; have hG := aG.out; have hH := aH.out; have hI := aI.out; obtain ⟨eW, eX, eY, eZ, e0, e1, e2, e3, e4, e5⟩ := C5 aA.out; have hJ := aJ.out; have hL := aK.out; obtain ⟨e6, e7, e8, e9, fA, fB, fC, fD⟩ := C4 aB.out; have b0 : 0 ≤ (aL : Int) := odt; have b1 : aL < (aR.length : Int) := odt; obtain ⟨hO, gA, bF, bG, bH⟩ := at_T98 b5.out aL b0 b1; cases gA; replace bF := ZC HB.out bF; replace bG := ZC HB.out bG; replace bH := ZC HB.out bH; replace b0 := eq_true b0; replace b1 := eq_true b1; obtain ⟨fE, fF, fG, fH, fI, fJ⟩ := C3 aN.out))
       refine bodyPost_ret (results_cell_row rfl _ _ aC 98 #[.int .i64 ((rd_T98 aR aL).f0), .int .i64 ((rd_T98 aR aL).f1), .string ((rd_T98 aR aL).f2)] (0, 0) _ rfl (bp0 aN.out) Try.underlying98 rfl (by kernel_rfl)) rfl ?_
       exact ⟨Z11, Z53⟩
      ·rw [if_neg eV] at H
       exact absurd H (by simp)
     ·rw [if_neg eU] at H
      exact absurd H (by simp)
    ·rw [if_neg bZ] at H
     have cE : (aM == 4) = false := beq_eq_false_iff_ne.mpr bZ; have cF : (aM != 4) = true := bne_iff_ne.mpr bZ; simp only [Option.some.injEq, Prod.mk.injEq] at H; obtain ⟨rfl, rfl, rfl⟩ := H
     go_enter Try.func111, Try.ntmps111
     go_wp2_with (first | ((with_reducible refine gate_dst (N := 2) rfl ?_); refine be (cs := #[.int .i64 aM, .int .i64 aL, .int .i64 aV, .int .i64 aW, .string aX]) (t := 116) ?_; intro aD hg iQ hbox hb; have aA := A_ hbox; have aS := A_ (gl hg (bz Z2)); have GE728 := aS; replace HB := A_ (bst Z2 hb); clear hb hbox hg) | ((with_reducible refine gate_dst (N := 3) rfl ?_); refine be (cs := #[.slice a0 aP.length a1, .slice a2 aQ.length a3, .slice a4 aO.length a5, .slice a6 aR.length a7]) (t := 135) ?_; intro aE hg iR hbox hb; have aB := A_ hbox; have aT := A_ (gl hg (bz (Z3 GE728.out))); have GE729 := aT; replace HB := A_ (bst (Z3 GE728.out) hb); have aF := A_ ((by rw [hg]; exact nl (blk_lt (Z0 aA.out)) : aD ≠ aE)); have aG := A_ ((by rw [hg]; exact Nat.ne_of_gt (blk_lt (Z0 aA.out)) : aE ≠ aD)); replace aA := A_ (bb (Z0 aA.out) hb); clear hb hbox hg) | ((with_reducible refine gate_dst (N := 4) rfl ?_); refine be (cs := #[.int .i64 0, .int .i64 0, .string (⟨#[]⟩ : ByteArray)]) (t := 98) ?_; intro aC hg iS hbox hb; have aN := A_ hbox; have aU := A_ (gl hg (bz (Z4 GE728.out GE729.out))); have GE730 := aU; replace HB := A_ (bst (Z4 GE728.out GE729.out) hb); have aH := A_ ((by rw [hg]; exact nl (blk_lt (Z0 aA.out)) : aD ≠ aC)); have aI := A_ ((by rw [hg]; exact Nat.ne_of_gt (blk_lt (Z0 aA.out)) : aC ≠ aD)); replace aA := A_ (bb (Z0 aA.out) hb); have aJ := A_ ((by rw [hg]; exact nl (blk_lt (Z0 aB.out)) : aE ≠ aC)); have aK := A_ ((by rw [hg]; exact Nat.ne_of_gt (blk_lt (Z0 aB.out)) : aC ≠ aE)); replace aB := A_ (bb (Z0 aB.out) hb); clear hb hbox hg; have hP := aF.out; have hU := aG.out; have hV := aH.out; have hX := aI.out; obtain ⟨fK, fL, fM, fN, fO, fP, fQ, fR, fS, fT⟩ := C5 aA.out; have hY := aK.out; have hZ := aJ.out; obtain ⟨fU, fV, fW, fX, fY, fZ⟩ := C3 aN.out))
     refine bodyPost_ret (results_cell_row rfl _ _ aC 98 #[.int .i64 aV, .int .i64 aW, .string aX] (0, 0) _ rfl (bp0 aN.out) Try.underlying98 rfl (by kernel_rfl)) rfl ?_
     exact ⟨Z11, Z53⟩
end Go.Proofs.Ytgbbcebjgpoioaa.PFnHistRedo
