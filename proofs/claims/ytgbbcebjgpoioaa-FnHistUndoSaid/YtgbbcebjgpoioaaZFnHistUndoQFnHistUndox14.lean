/- Walks (lines of the print; no condition). -/
import Derived.Test.YtgbbcebjgpoioaaZFnHistUndoQFnHistUndox13
namespace Go.Proofs.Ytgbbcebjgpoioaa.PFnHistUndo
open Go.RowKit Go.Proofs.YtgbbcebjgpoioaaW.PrintWords Go.Proofs.YtgbbcebjgpoioaaW.PrintLast Go.Proofs.YtgbbcebjgpoioaaW.PrintMore
attribute [local go_sem] max2_int min2_int max_two min_two max_three min_three max_four min_four
set_option linter.unusedVariables false
set_option linter.unusedSimpArgs false
set_option maxHeartbeats 8000000
set_option maxRecDepth 100000
attribute [local go_sem high] eqA98
def spec_do.j0 : Nat → Int → Bool → Int → Int → ByteArray → Int → Int → ByteArray → Option (Int × Int × ByteArray)
 | 0, _, _, _, _, _, _, _, _ => none
 | k + 1, x0, x7, aC, aA, aD, aE, aB, aF => if x0 = 4 then ((spec_boolean.f (aC == aE && (aA == aB && (aD.toList == aF.toList)))).bind fun aG => (some (aG.1, aG.2.1, aG.2.2))) else (if x0 = 6 then ((spec_truth.f aC aA aD).bind fun aN => (if aN = true then (some (aE, aB, aF)) else (some (aC, aA, aD)))) else (if x0 = 5 then ((spec_show.f k aC aA aD).bind fun aL => ((spec_show.f k aE aB aF).bind fun aM => (if aL.size + aM.size ≤ 9223372036854775807 then ((spec_validWord.f k (aL ++ aM)).bind fun aO => (if aO = true then (some (2, 0, aL ++ aM)) else (some (0, 0, (⟨#[]⟩ : ByteArray))))) else (none)))) else (if x7 = true then (if x0 = 0 then ((spec_number.f (wrap64 (aA + aB))).bind fun aH => (some (aH.1, aH.2.1, aH.2.2))) else (if x0 = 1 then ((spec_number.f (wrap64 (aA - aB))).bind fun aI => (some (aI.1, aI.2.1, aI.2.2))) else (if x0 = 2 then ((spec_number.f (wrap64 (aA * aB))).bind fun aJ => (some (aJ.1, aJ.2.1, aJ.2.2))) else ((spec_boolean.f (decide (aA < aB))).bind fun aK => (some (aK.1, aK.2.1, aK.2.2)))))) else (some (0, 0, (⟨#[]⟩ : ByteArray))))))
def spec_do.f (k : Nat) (a0 : Int) (aA : Int) (aC : Int) (aD : ByteArray) (aB : Int) (aE : Int) (aF : ByteArray) : Option (Int × Int × ByteArray) := if aA = 1 then (spec_do.j0 k a0 (aB == 1) aA aC aD aB aE aF) else (spec_do.j0 k a0 false aA aC aD aB aE aF)
theorem spec_do.calls (k : Nat) (a0 : Int) (aL : Int) (aJ : Int) (aN : ByteArray) (aQ : Int) (aM : Int) (aR : ByteArray) (r1 : Int) (r2 : Int) (r3 : ByteArray) (w : World) (h : spec_do.f k a0 aL aJ aN aQ aM aR = some (r1, r2, r3)) :
  Calls Try.prog 109 #[.int .i64 a0, .agg #[.int .i64 aL, .int .i64 aJ, .string aN], .agg #[.int .i64 aQ, .int .i64 aM, .string aR]] w fun e w' => e = .returned (.agg #[.int .i64 r1, .int .i64 r2, .string r3]) ∧ Below w.heap.size w w' := by
 have kE := Try.underlying98; have HB := A_ (Below.refl w.heap.size w); have H := h; unfold spec_do.f at H; clear h; have hU := A_ H; clear H
 go_enter Try.func109, Try.ntmps109
 go_upto_region 1 with (first | ((with_reducible refine gate_dst (N := 4) rfl ?_); refine be (cs := #[.int .i64 aL, .int .i64 aJ, .string aN]) (t := 98) ?_; intro aO hg w5 hbox hb; have aA := A_ hbox; have a6 := A_ (gl hg (bz Z2)); have GE585 := a6; replace HB := A_ (bst Z2 hb); clear hb hbox hg) | ((with_reducible refine gate_dst (N := 5) rfl ?_); refine be (cs := #[.int .i64 aQ, .int .i64 aM, .string aR]) (t := 98) ?_; intro aP hg w6 hbox hb; have aB := A_ hbox; have a7 := A_ (gl hg (bz (Z3 GE585.out))); have GE586 := a7; replace HB := A_ (bst (Z3 GE585.out) hb); have aH := A_ ((by rw [hg]; exact nl (blk_lt (Z0 aA.out)) : aO ≠ aP)); have aI := A_ ((by rw [hg]; exact Nat.ne_of_gt (blk_lt (Z0 aA.out)) : aP ≠ aO)); replace aA := A_ (bb (Z0 aA.out) hb); clear hb hbox hg) | ((with_reducible refine gate_dst (N := 6) rfl ?_); refine be (cs := #[.int .i64 0, .int .i64 0, .string (⟨#[]⟩ : ByteArray)]) (t := 98) ?_; intro aK hg w7 hbox hb; have aC := A_ hbox; have a8 := A_ (gl hg (bz (Z4 GE585.out GE586.out))); have GE587 := a8; replace HB := A_ (bst (Z4 GE585.out GE586.out) hb); have aD := A_ ((by rw [hg]; exact nl (blk_lt (Z0 aA.out)) : aO ≠ aK)); have aE := A_ ((by rw [hg]; exact Nat.ne_of_gt (blk_lt (Z0 aA.out)) : aK ≠ aO)); replace aA := A_ (bb (Z0 aA.out) hb); have aF := A_ ((by rw [hg]; exact nl (blk_lt (Z0 aB.out)) : aP ≠ aK)); have aG := A_ ((by rw [hg]; exact Nat.ne_of_gt (blk_lt (Z0 aB.out)) : aK ≠ aP)); replace aB := A_ (bb (Z0 aB.out) hb); clear hb hbox hg))
 (try simp only [Act.put, List.setIfInBounds_toArray, List.set_cons_zero, List.set_cons_succ])
 go_cut [7] (fun v7 wc => ∃ (kq : Nat) (aV : Bool), v7 = .bool aV ∧ Aside0 (spec_do.j0 kq a0 aV aL aJ aN aQ aM aR = some (r1, r2, r3)) ∧ Aside0 (kq ≤ k) ∧ Aside0 (wc.heap[aO]? = some (.cells #[.int .i64 aL, .int .i64 aJ, .string aN] 98 (0, 0))) ∧ Aside0 (wc.heap[aP]? = some (.cells #[.int .i64 aQ, .int .i64 aM, .string aR] 98 (0, 0))) ∧ Aside0 (wc.heap[aK]? = some (.cells #[.int .i64 0, .int .i64 0, .string (⟨#[]⟩ : ByteArray)] 98 (0, 0))) ∧ Aside0 (Below w.heap.size w wc))
 case first =>
  have H := hU.out; clear hU
  by_cases c8 : aL = 1
  ·rw [if_pos c8] at H
   have aU : (aL == 1) = true := beq_iff_eq.mpr c8; have hV : (aL != 1) = false := bne_eq_false_iff_eq.mpr c8; clear c8; (first | rw [aU] | (simp only [i64_w, i32_w]; rw [aU]) | skip); have H' := A_ H; clear H; have kF := aH.out; have kG := aI.out; have iA := aD.out; have iB := aE.out; obtain ⟨cF, cG, cH, cI, cJ, cK⟩ := C3 aA.out; have iC := aF.out; have iD := aG.out; obtain ⟨cL, cM, cN, cO, cP, cQ⟩ := C3 aB.out
   go_wp2
   go_meet
   case rel => exact ⟨_, ((aQ == 1)), Z26, H', ⟨Z85⟩, ⟨Z0 aA.out⟩, ⟨Z0 aB.out⟩, ⟨Z0 aC.out⟩, ⟨Z25⟩⟩
  ·rw [if_neg c8] at H
   have aU : (aL == 1) = false := beq_eq_false_iff_ne.mpr c8; have hV : (aL != 1) = true := bne_iff_ne.mpr c8; (first | rw [aU] | (simp only [i64_w, i32_w]; rw [aU]) | skip); have H' := A_ H; clear H; have iE := aH.out; have iF := aI.out; have iG := aD.out; have iH := aE.out; obtain ⟨cR, cS, cT, cU, cV, cW⟩ := C3 aA.out
   go_wp2
   go_meet
   case rel => exact ⟨_, (false), Z26, H', ⟨Z85⟩, ⟨Z0 aA.out⟩, ⟨Z0 aB.out⟩, ⟨Z0 aC.out⟩, ⟨Z25⟩⟩
 case rest =>
  clear hU; try clear c8
  obtain ⟨kq, aV, rfl, HA, kM, aA, aB, aC, HB⟩ := hcut
  cases kq with
  | zero => exact absurd HA.out (by simp [spec_do.j0])
  | succ a5 =>
   have H := HA.out; clear HA; simp only [spec_do.j0] at H
   by_cases aW : a0 = 4
   ·rw [if_pos aW] at H
    have a9 : (a0 == 4) = true := beq_iff_eq.mpr aW; have bA : (a0 != 4) = false := bne_eq_false_iff_eq.mpr aW; clear aW; replace H := bS H; obtain ⟨⟨bB, bC, bD⟩, bE, H⟩ := H
    try dsimp only at H
    have kH := A_ bE; clear bE; simp only [Option.some.injEq, Prod.mk.injEq] at H; obtain ⟨rfl, rfl, rfl⟩ := H; have iI := aH.out; have iJ := aI.out; have iK := aD.out; have iL := aE.out; obtain ⟨cX, cY, cZ, dA, dB, dC⟩ := C3 aA.out; have iM := aF.out; have iN := aG.out; obtain ⟨dD, dE, dF, dG, dH, dI⟩ := C3 aB.out
    go_wp2_with (first | ((with_reducible refine gate_callee (f := 112) rfl ?_); refine gL 23 Try.func112 #[.bool (aL == aQ && (aJ == aM && (aN.toList == aR.toList)))] ?_; (with_reducible refine (spec_boolean.calls (aL == aQ && (aJ == aM && (aN.toList == aR.toList))) bB bC bD _ kH.out).mono ?_); rintro e kN ⟨rfl, hb⟩; refine ⟨_, rfl, ?_⟩; replace aA := A_ (bb (Z0 aA.out) hb); replace aB := A_ (bb (Z0 aB.out) hb); replace aC := A_ (bb (Z0 aC.out) hb); replace HB := A_ (bst Z25 hb); (try clear hb); obtain ⟨dJ, dK, dL, dM, dN, dO⟩ := C3 aC.out))
    refine bodyPost_ret (results_cell_row rfl _ _ aK 98 #[.int .i64 bB, .int .i64 bC, .string bD] (0, 0) _ rfl (bp0 aC.out) Try.underlying98 rfl (by kernel_rfl)) rfl ?_
    exact ⟨Z11, Z25⟩
   ·rw [if_neg aW] at H
    have a9 : (a0 == 4) = false := beq_eq_false_iff_ne.mpr aW; have bA : (a0 != 4) = true := bne_iff_ne.mpr aW
    by_cases aX : a0 = 6
    ·rw [if_pos aX] at H
     have bF : (a0 == 6) = true := beq_iff_eq.mpr aX; have bG : (a0 != 6) = false := bne_eq_false_iff_eq.mpr aX; clear aX; replace H := bS H; obtain ⟨hX, bH, H⟩ := H
     try dsimp only at H
     have iO := A_ bH; clear bH
     by_cases dP : hX = true
     ·subst dP
      rw [if_pos rfl] at H; simp only [Option.some.injEq, Prod.mk.injEq] at H; obtain ⟨rfl, rfl, rfl⟩ := H; have iP := aH.out; have iQ := aI.out; have iR := aD.out; have iS := aE.out; obtain ⟨dQ, dR, dS, dT, dU, dV⟩ := C3 aA.out
      go_wp2_with (first | ((with_reducible refine gate_callee (f := 110) rfl ?_); refine gL 28 Try.func110 #[.agg #[.int .i64 aL, .int .i64 aJ, .string aN]] ?_; (with_reducible refine (spec_truth.calls aL aJ aN true _ iO.out).mono ?_); rintro e kO ⟨rfl, hb⟩; refine ⟨_, rfl, ?_⟩; replace aA := A_ (bb (Z0 aA.out) hb); replace aB := A_ (bb (Z0 aB.out) hb); replace aC := A_ (bb (Z0 aC.out) hb); replace HB := A_ (bst Z25 hb); (try clear hb); have iT := aF.out; have iU := aG.out; obtain ⟨dW, dX, dY, dZ, d0, d1⟩ := C3 aB.out; obtain ⟨d2, d3, d4, d5, d6, d7⟩ := C3 aC.out))
      refine bodyPost_ret (results_cell_row rfl _ _ aK 98 #[.int .i64 aQ, .int .i64 aM, .string aR] (0, 0) _ rfl (bp0 aC.out) Try.underlying98 rfl (by kernel_rfl)) rfl ?_
      exact ⟨Z11, Z25⟩
     ·replace dP := Bool.eq_false_iff.mpr dP
      subst dP; rw [if_neg (show ¬ (false = true) by decide)] at H; simp only [Option.some.injEq, Prod.mk.injEq] at H; obtain ⟨rfl, rfl, rfl⟩ := H; have iV := aH.out; have iW := aI.out; have iX := aD.out; have iY := aE.out; obtain ⟨d8, d9, eA, eB, eC, eD⟩ := C3 aA.out
      go_wp2_with (first | ((with_reducible refine gate_callee (f := 110) rfl ?_); refine gL 28 Try.func110 #[.agg #[.int .i64 aL, .int .i64 aJ, .string aN]] ?_; (with_reducible refine (spec_truth.calls aL aJ aN false _ iO.out).mono ?_); rintro e kP ⟨rfl, hb⟩; refine ⟨_, rfl, ?_⟩; replace aA := A_ (bb (Z0 aA.out) hb); replace aB := A_ (bb (Z0 aB.out) hb); replace aC := A_ (bb (Z0 aC.out) hb); replace HB := A_ (bst Z25 hb); (try clear hb); obtain ⟨eE, eF, eG, eH, eI, eJ⟩ := C3 aA.out; have iZ := aG.out; have i6 := aF.out; obtain ⟨eK, eL, eM, eN, eO, eP⟩ := C3 aC.out))
      refine bodyPost_ret (results_cell_row rfl _ _ aK 98 #[.int .i64 aL, .int .i64 aJ, .string aN] (0, 0) _ rfl (bp0 aC.out) Try.underlying98 rfl (by kernel_rfl)) rfl ?_
      exact ⟨Z11, Z25⟩
    ·rw [if_neg aX] at H
     have bF : (a0 == 6) = false := beq_eq_false_iff_ne.mpr aX; have bG : (a0 != 6) = true := bne_iff_ne.mpr aX
     by_cases aY : a0 = 5
     ·rw [if_pos aY] at H
      have bI : (a0 == 5) = true := beq_iff_eq.mpr aY; have bJ : (a0 != 5) = false := bne_eq_false_iff_eq.mpr aY; clear aY; replace H := bS H; obtain ⟨aS, bK, H⟩ := H
      try dsimp only at H
      have i7 := A_ bK; clear bK; replace H := bS H; obtain ⟨aT, bL, H⟩ := H
      try dsimp only at H
      have i8 := A_ bL; clear bL
      by_cases bM : aS.size + aT.size ≤ 9223372036854775807
      ·rw [if_pos bM] at H
       have i9 := eq_true bM; have jA := dt bM
       try have jB : (9223372036854775807 < aS.size + aT.size) = False := eq_false (Nat.not_lt.2 bM)
       replace H := bS H; obtain ⟨hY, bN, H⟩ := H
       try dsimp only at H
       have jC := A_ bN; clear bN
       by_cases eQ : hY = true
       ·subst eQ
        rw [if_pos rfl] at H; simp only [Option.some.injEq, Prod.mk.injEq] at H; obtain ⟨rfl, rfl, rfl⟩ := H
        try go_wp2
        replace aA := A_ (blk_drew aA.out); replace aB := A_ (blk_drew aB.out); replace aC := A_ (blk_drew aC.out); replace HB := A_ (below_drew1 HB.out)
        refine start_ (n := 6) (S := fun w' => w'.cell? ⟨aO, 0, none⟩ = some (.int .i64 aL) ∧ w'.cell? ⟨aO, 1, none⟩ = some (.int .i64 aJ) ∧ w'.cell? ⟨aO, 2, none⟩ = some (.string aN) ∧ w'.cell? ⟨aP, 0, none⟩ = some (.int .i64 aQ) ∧ w'.cell? ⟨aP, 1, none⟩ = some (.int .i64 aM) ∧ w'.cell? ⟨aP, 2, none⟩ = some (.string aR)) (ds := []) #[F,F,F,F,F,F] (by kernel_rfl) rfl rfl ⟨(bc aA.out 0).trans rfl, (bc aA.out 1).trans rfl, (bc aA.out 2).trans rfl, (bc aB.out 0).trans rfl, (bc aB.out 1).trans rfl, (bc aB.out 2).trans rfl⟩ (fun hHeld => ?_)
        generalize wc.drew = kQ at aA aB aC HB hHeld ⊢; refine tU 0 34 #[T,F,F,F,F,F] ?_ (y := Z83) (hc := by kernel_rfl); refine tU 2 36 #[T,F,T,F,F,F] ?_ (y := Z83) (hc := by kernel_rfl)
        refine oU 1 (some 35) #[T,T,T,F,F,F] (fun K hK => ?_) (hc := by kernel_rfl)
        refine goes_ Try.func113 (by kernel_rfl) rfl #[.agg #[.int .i64 aL, .int .i64 aJ, .string aN]] (by rfl) rfl rfl Z23 ?_
        with_reducible refine (spec_show.calls a5 aL aJ aN aS _ i7.out).mono ?_
        rintro e kR ⟨rfl, hb⟩
        refine ⟨_, rfl, ?_⟩
        replace aA := A_ (bb (Z0 aA.out) hb); replace aB := A_ (bb (Z0 aB.out) hb); replace aC := A_ (bb (Z0 aC.out) hb); replace HB := A_ (bst Z25 hb); (try clear hb); (try clear hZ); (try clear hk); (try clear hi)
        refine hK.out _ _ ⟨(bc aA.out 0).trans rfl, (bc aA.out 1).trans rfl, (bc aA.out 2).trans rfl, (bc aB.out 0).trans rfl, (bc aB.out 1).trans rfl, (bc aB.out 2).trans rfl⟩ (fun hHeld => ?_)
        clear hK K
        refine norm_ (a' := ?_) ?_ ?_
        rotate_left; (·exact Z58)
        refine oU 3 (some 37) #[T,T,T,T,F,F] (fun K hK => ?_) (hc := by kernel_rfl)
        refine goes_ Try.func113 (by kernel_rfl) rfl #[.agg #[.int .i64 aQ, .int .i64 aM, .string aR]] (by rfl) rfl rfl Z23 ?_
        with_reducible refine (spec_show.calls a5 aQ aM aR aT _ i8.out).mono ?_
        rintro e aZ ⟨rfl, hb⟩
        refine ⟨_, rfl, ?_⟩
        replace aA := A_ (bb (Z0 aA.out) hb); replace aB := A_ (bb (Z0 aB.out) hb); replace aC := A_ (bb (Z0 aC.out) hb); replace HB := A_ (bst Z25 hb); (try clear hb); (try clear hZ); (try clear hk); (try clear hi)
        refine hK.out _ _ ⟨(bc aA.out 0).trans rfl, (bc aA.out 1).trans rfl, (bc aA.out 2).trans rfl, (bc aB.out 0).trans rfl, (bc aB.out 1).trans rfl, (bc aB.out 2).trans rfl⟩ (fun hHeld => ?_)
        clear hK K
        refine norm_ (a' := ?_) ?_ ?_
        rotate_left; (·exact Z99); refine pU 4 38 #[T,T,T,T,T,F] ?_ (hc := by kernel_rfl); refine pU 5 8 #[T,T,T,T,T,T] ?_ (hc := by kernel_rfl)
        refine done_ (by kernel_rfl) ?_
        try go_wp2_with (first | ((with_reducible refine gate_callee (f := 105) rfl ?_); refine gL 40 Try.func105 #[.string (aS ++ aT)] ?_; (with_reducible refine (spec_validWord.calls a5 (aS ++ aT) true _ jC.out).mono ?_); rintro e w' ⟨rfl, ⟨nd, rfl⟩⟩; refine ⟨_, rfl, ?_⟩; (try (rw [drewN_self aZ]; generalize hq_ : World.drewN aZ _ = aZ; have bO : Aside0 (aZ.heap[aO]? = some (.cells #[.int .i64 aL, .int .i64 aJ, .string aN] 98 (0, 0))) := ⟨by rw [← hq_]; exact (Z0 aA.out)⟩; have bP : Aside0 (aZ.heap[aP]? = some (.cells #[.int .i64 aQ, .int .i64 aM, .string aR] 98 (0, 0))) := ⟨by rw [← hq_]; exact (Z0 aB.out)⟩; have bQ : Aside0 (aZ.heap[aK]? = some (.cells #[.int .i64 0, .int .i64 0, .string (⟨#[]⟩ : ByteArray)] 98 (0, 0))) := ⟨by rw [← hq_]; exact (Z0 aC.out)⟩; have bR : Aside0 (Below w.heap.size w aZ) := ⟨by rw [← hq_]; exact Z25⟩; clear aA aB aC HB hq_; have aA := bO; have aB := bP; have aC := bQ; have HB := bR; clear bO bP bQ bR)); have jD := aE.out; have jE := aD.out; have jF := aG.out; have jG := aF.out; obtain ⟨eR, eS, eT, eU, eV, eW⟩ := C3 aC.out))
        refine bodyPost_ret (results_cell_row rfl _ _ aK 98 #[.int .i64 2, .int .i64 0, .string (aS ++ aT)] (0, 0) _ rfl (bp0 aC.out) Try.underlying98 rfl (by kernel_rfl)) rfl ?_
        exact ⟨Z11, Z25⟩
       ·replace eQ := Bool.eq_false_iff.mpr eQ
        subst eQ; rw [if_neg (show ¬ (false = true) by decide)] at H; simp only [Option.some.injEq, Prod.mk.injEq] at H; obtain ⟨rfl, rfl, rfl⟩ := H
        try go_wp2
        replace aA := A_ (blk_drew aA.out); replace aB := A_ (blk_drew aB.out); replace aC := A_ (blk_drew aC.out); replace HB := A_ (below_drew1 HB.out)
        refine start_ (n := 6) (S := fun w' => w'.cell? ⟨aO, 0, none⟩ = some (.int .i64 aL) ∧ w'.cell? ⟨aO, 1, none⟩ = some (.int .i64 aJ) ∧ w'.cell? ⟨aO, 2, none⟩ = some (.string aN) ∧ w'.cell? ⟨aP, 0, none⟩ = some (.int .i64 aQ) ∧ w'.cell? ⟨aP, 1, none⟩ = some (.int .i64 aM) ∧ w'.cell? ⟨aP, 2, none⟩ = some (.string aR)) (ds := []) #[F,F,F,F,F,F] (by kernel_rfl) rfl rfl ⟨(bc aA.out 0).trans rfl, (bc aA.out 1).trans rfl, (bc aA.out 2).trans rfl, (bc aB.out 0).trans rfl, (bc aB.out 1).trans rfl, (bc aB.out 2).trans rfl⟩ (fun hHeld => ?_)
        generalize wc.drew = kS at aA aB aC HB hHeld ⊢; refine tU 0 34 #[T,F,F,F,F,F] ?_ (y := Z83) (hc := by kernel_rfl); refine tU 2 36 #[T,F,T,F,F,F] ?_ (y := Z83) (hc := by kernel_rfl)
        refine oU 1 (some 35) #[T,T,T,F,F,F] (fun K hK => ?_) (hc := by kernel_rfl)
        refine goes_ Try.func113 (by kernel_rfl) rfl #[.agg #[.int .i64 aL, .int .i64 aJ, .string aN]] (by rfl) rfl rfl Z23 ?_
        with_reducible refine (spec_show.calls a5 aL aJ aN aS _ i7.out).mono ?_
        rintro e kT ⟨rfl, hb⟩
        refine ⟨_, rfl, ?_⟩
        replace aA := A_ (bb (Z0 aA.out) hb); replace aB := A_ (bb (Z0 aB.out) hb); replace aC := A_ (bb (Z0 aC.out) hb); replace HB := A_ (bst Z25 hb); (try clear hb); (try clear hZ); (try clear hk); (try clear hi)
        refine hK.out _ _ ⟨(bc aA.out 0).trans rfl, (bc aA.out 1).trans rfl, (bc aA.out 2).trans rfl, (bc aB.out 0).trans rfl, (bc aB.out 1).trans rfl, (bc aB.out 2).trans rfl⟩ (fun hHeld => ?_)
        clear hK K
        refine norm_ (a' := ?_) ?_ ?_
        rotate_left; (·exact Z58)
        refine oU 3 (some 37) #[T,T,T,T,F,F] (fun K hK => ?_) (hc := by kernel_rfl)
        refine goes_ Try.func113 (by kernel_rfl) rfl #[.agg #[.int .i64 aQ, .int .i64 aM, .string aR]] (by rfl) rfl rfl Z23 ?_
        with_reducible refine (spec_show.calls a5 aQ aM aR aT _ i8.out).mono ?_
        rintro e a1 ⟨rfl, hb⟩
        refine ⟨_, rfl, ?_⟩
        replace aA := A_ (bb (Z0 aA.out) hb); replace aB := A_ (bb (Z0 aB.out) hb); replace aC := A_ (bb (Z0 aC.out) hb); replace HB := A_ (bst Z25 hb); (try clear hb); (try clear hZ); (try clear hk); (try clear hi)
        refine hK.out _ _ ⟨(bc aA.out 0).trans rfl, (bc aA.out 1).trans rfl, (bc aA.out 2).trans rfl, (bc aB.out 0).trans rfl, (bc aB.out 1).trans rfl, (bc aB.out 2).trans rfl⟩ (fun hHeld => ?_)
        clear hK K
        refine norm_ (a' := ?_) ?_ ?_
        rotate_left; (·exact Z99); refine pU 4 38 #[T,T,T,T,T,F] ?_ (hc := by kernel_rfl); refine pU 5 8 #[T,T,T,T,T,T] ?_ (hc := by kernel_rfl)
        refine done_ (by kernel_rfl) ?_
        try go_wp2_with (first | ((with_reducible refine gate_callee (f := 105) rfl ?_); refine gL 40 Try.func105 #[.string (aS ++ aT)] ?_; (with_reducible refine (spec_validWord.calls a5 (aS ++ aT) false _ jC.out).mono ?_); rintro e w' ⟨rfl, ⟨nd, rfl⟩⟩; refine ⟨_, rfl, ?_⟩; (try (rw [drewN_self a1]; generalize hq_ : World.drewN a1 _ = a1; have bO : Aside0 (a1.heap[aO]? = some (.cells #[.int .i64 aL, .int .i64 aJ, .string aN] 98 (0, 0))) := ⟨by rw [← hq_]; exact (Z0 aA.out)⟩; have bP : Aside0 (a1.heap[aP]? = some (.cells #[.int .i64 aQ, .int .i64 aM, .string aR] 98 (0, 0))) := ⟨by rw [← hq_]; exact (Z0 aB.out)⟩; have bQ : Aside0 (a1.heap[aK]? = some (.cells #[.int .i64 0, .int .i64 0, .string (⟨#[]⟩ : ByteArray)] 98 (0, 0))) := ⟨by rw [← hq_]; exact (Z0 aC.out)⟩; have bR : Aside0 (Below w.heap.size w a1) := ⟨by rw [← hq_]; exact Z25⟩; clear aA aB aC HB hq_; have aA := bO; have aB := bP; have aC := bQ; have HB := bR; clear bO bP bQ bR)); have jH := aE.out; have jI := aD.out; have jJ := aG.out; have jK := aF.out; obtain ⟨eX, eY, eZ, e0, e1, e2⟩ := C3 aC.out))
        refine bodyPost_ret (results_cell_row rfl _ _ aK 98 #[.int .i64 0, .int .i64 0, .string (⟨#[]⟩ : ByteArray)] (0, 0) _ rfl (bp0 aC.out) Try.underlying98 rfl (by kernel_rfl)) rfl ?_
        exact ⟨Z11, Z25⟩
      ·rw [if_neg bM] at H
       exact absurd H (by simp)
     ·rw [if_neg aY] at H
      have bI : (a0 == 5) = false := beq_eq_false_iff_ne.mpr aY; have bJ : (a0 != 5) = true := bne_iff_ne.mpr aY
      by_cases e3 : aV = true
      ·subst e3
       rw [if_pos rfl] at H
       by_cases a2 : a0 = 0
       ·rw [if_pos a2] at H
        have bT : (a0 == 0) = true := beq_iff_eq.mpr a2; have bU : (a0 != 0) = false := bne_eq_false_iff_eq.mpr a2; clear a2; replace H := bS H; obtain ⟨⟨bV, bW, bX⟩, bY, H⟩ := H
        try dsimp only at H
        have kI := A_ bY; clear bY; simp only [Option.some.injEq, Prod.mk.injEq] at H; obtain ⟨rfl, rfl, rfl⟩ := H; have jL := aH.out; have jM := aI.out; have jN := aD.out; have jO := aE.out; obtain ⟨e4, e5, e6, e7, e8, e9⟩ := C3 aA.out; have jP := aF.out; have jQ := aG.out; obtain ⟨fA, fB, fC, fD, fE, fF⟩ := C3 aB.out
        go_wp2_with (first | ((with_reducible refine gate_callee (f := 114) rfl ?_); refine gL 57 Try.func114 #[.int .i64 (wrap64 (aJ + aM))] ?_; (with_reducible refine (spec_number.calls (wrap64 (aJ + aM)) bV bW bX _ kI.out).mono ?_); rintro e kU ⟨rfl, hb⟩; refine ⟨_, rfl, ?_⟩; replace aA := A_ (bb (Z0 aA.out) hb); replace aB := A_ (bb (Z0 aB.out) hb); replace aC := A_ (bb (Z0 aC.out) hb); replace HB := A_ (bst Z25 hb); (try clear hb); obtain ⟨fG, fH, fI, fJ, fK, fL⟩ := C3 aC.out))
        refine bodyPost_ret (results_cell_row rfl _ _ aK 98 #[.int .i64 bV, .int .i64 bW, .string bX] (0, 0) _ rfl (bp0 aC.out) Try.underlying98 rfl (by kernel_rfl)) rfl ?_
        exact ⟨Z11, Z25⟩
       ·rw [if_neg a2] at H
        have bT : (a0 == 0) = false := beq_eq_false_iff_ne.mpr a2; have bU : (a0 != 0) = true := bne_iff_ne.mpr a2
        by_cases a3 : a0 = 1
        ·rw [if_pos a3] at H
         have bZ : (a0 == 1) = true := beq_iff_eq.mpr a3; have b0 : (a0 != 1) = false := bne_eq_false_iff_eq.mpr a3; clear a3; replace H := bS H; obtain ⟨⟨b1, b2, b3⟩, b4, H⟩ := H
         try dsimp only at H
         have kJ := A_ b4; clear b4; simp only [Option.some.injEq, Prod.mk.injEq] at H; obtain ⟨rfl, rfl, rfl⟩ := H; have jR := aH.out; have jS := aI.out; have jT := aD.out; have jU := aE.out; obtain ⟨fM, fN, fO, fP, fQ, fR⟩ := C3 aA.out; have jV := aF.out; have jW := aG.out; obtain ⟨fS, fT, fU, fV, fW, fX⟩ := C3 aB.out
         go_wp2_with (first | ((with_reducible refine gate_callee (f := 114) rfl ?_); refine gL 66 Try.func114 #[.int .i64 (wrap64 (aJ - aM))] ?_; (with_reducible refine (spec_number.calls (wrap64 (aJ - aM)) b1 b2 b3 _ kJ.out).mono ?_); rintro e kV ⟨rfl, hb⟩; refine ⟨_, rfl, ?_⟩; replace aA := A_ (bb (Z0 aA.out) hb); replace aB := A_ (bb (Z0 aB.out) hb); replace aC := A_ (bb (Z0 aC.out) hb); replace HB := A_ (bst Z25 hb); (try clear hb); obtain ⟨fY, fZ, f4, f5, f6, f7⟩ := C3 aC.out))
         refine bodyPost_ret (results_cell_row rfl _ _ aK 98 #[.int .i64 b1, .int .i64 b2, .string b3] (0, 0) _ rfl (bp0 aC.out) Try.underlying98 rfl (by kernel_rfl)) rfl ?_
         exact ⟨Z11, Z25⟩
        ·rw [if_neg a3] at H
         have bZ : (a0 == 1) = false := beq_eq_false_iff_ne.mpr a3; have b0 : (a0 != 1) = true := bne_iff_ne.mpr a3
         by_cases a4 : a0 = 2
         ·rw [if_pos a4] at H
          have b5 : (a0 == 2) = true := beq_iff_eq.mpr a4; have b6 : (a0 != 2) = false := bne_eq_false_iff_eq.mpr a4; clear a4; replace H := bS H; obtain ⟨⟨b7, b8, b9⟩, cA, H⟩ := H
          try dsimp only at H
          have kK := A_ cA; clear cA; simp only [Option.some.injEq, Prod.mk.injEq] at H; obtain ⟨rfl, rfl, rfl⟩ := H; have jX := aH.out; have jY := aI.out; have jZ := aD.out; have j1 := aE.out; obtain ⟨f8, f9, gA, gB, gC, gD⟩ := C3 aA.out; have j2 := aF.out; have j3 := aG.out; obtain ⟨gE, gF, gG, gH, gI, gJ⟩ := C3 aB.out
          go_wp2_with (first | ((with_reducible refine gate_callee (f := 114) rfl ?_); refine gL 75 Try.func114 #[.int .i64 (wrap64 (aJ * aM))] ?_; (with_reducible refine (spec_number.calls (wrap64 (aJ * aM)) b7 b8 b9 _ kK.out).mono ?_); rintro e kW ⟨rfl, hb⟩; refine ⟨_, rfl, ?_⟩; replace aA := A_ (bb (Z0 aA.out) hb); replace aB := A_ (bb (Z0 aB.out) hb); replace aC := A_ (bb (Z0 aC.out) hb); replace HB := A_ (bst Z25 hb); (try clear hb); obtain ⟨gK, gM, gN, gO, gP, gQ⟩ := C3 aC.out))
          refine bodyPost_ret (results_cell_row rfl _ _ aK 98 #[.int .i64 b7, .int .i64 b8, .string b9] (0, 0) _ rfl (bp0 aC.out) Try.underlying98 rfl (by kernel_rfl)) rfl ?_
          exact ⟨Z11, Z25⟩
         ·rw [if_neg a4] at H
          have b5 : (a0 == 2) = false := beq_eq_false_iff_ne.mpr a4; have b6 : (a0 != 2) = true := bne_iff_ne.mpr a4; replace H := bS H; obtain ⟨⟨cB, cC, cD⟩, cE, H⟩ := H
          try dsimp only at H
          have kL := A_ cE; clear cE; simp only [Option.some.injEq, Prod.mk.injEq] at H; obtain ⟨rfl, rfl, rfl⟩ := H; have j4 := aH.out; have j5 := aI.out; have j6 := aD.out; have j7 := aE.out; obtain ⟨gR, gS, gT, gU, gV, gW⟩ := C3 aA.out; have j8 := aF.out; have j9 := aG.out; obtain ⟨gX, gY, gZ, g3, g4, g5⟩ := C3 aB.out
          go_wp2_with (first | ((with_reducible refine gate_callee (f := 112) rfl ?_); refine gL 81 Try.func112 #[.bool (decide (aJ < aM))] ?_; (with_reducible refine (spec_boolean.calls (decide (aJ < aM)) cB cC cD _ kL.out).mono ?_); rintro e kX ⟨rfl, hb⟩; refine ⟨_, rfl, ?_⟩; replace aA := A_ (bb (Z0 aA.out) hb); replace aB := A_ (bb (Z0 aB.out) hb); replace aC := A_ (bb (Z0 aC.out) hb); replace HB := A_ (bst Z25 hb); (try clear hb); obtain ⟨g6, g7, g8, g9, hD, hG⟩ := C3 aC.out))
          refine bodyPost_ret (results_cell_row rfl _ _ aK 98 #[.int .i64 cB, .int .i64 cC, .string cD] (0, 0) _ rfl (bp0 aC.out) Try.underlying98 rfl (by kernel_rfl)) rfl ?_
          exact ⟨Z11, Z25⟩
      ·replace e3 := Bool.eq_false_iff.mpr e3
       subst e3; rw [if_neg (show ¬ (false = true) by decide)] at H; simp only [Option.some.injEq, Prod.mk.injEq] at H; obtain ⟨rfl, rfl, rfl⟩ := H; have kA := aE.out; have kB := aD.out; have kC := aG.out; have kD := aF.out; obtain ⟨hH, hI, hJ, hL, hO, hP⟩ := C3 aC.out
       go_wp2
       refine bodyPost_ret (results_cell_row rfl _ _ aK 98 #[.int .i64 0, .int .i64 0, .string (⟨#[]⟩ : ByteArray)] (0, 0) _ rfl (bp0 aC.out) Try.underlying98 rfl (by kernel_rfl)) rfl ?_
       exact ⟨Z11, Z25⟩
def spec_told.f (aD : Int) (aA : Int) (aH : Int) (aI : Int) (aJ : ByteArray) (aE : List (S98)) (aF : List (S98)) (aB : List Int) (aG : List (S98)) : Option (Int × Int × ByteArray) := if aD = 1 then (if 0 ≤ aA then (if aA < (aE.length : Int) then (some ((rd_T98 aE aA).f0, (rd_T98 aE aA).f1, (rd_T98 aE aA).f2)) else (none)) else (none)) else (if aD = 2 then (if 0 ≤ aA then (if aA < (aF.length : Int) then (some ((rd_T98 aF aA).f0, (rd_T98 aF aA).f1, (rd_T98 aF aA).f2)) else (none)) else (none)) else (if aD = 3 then (if 0 ≤ (wrap64 ((wrap64 ((aB.length : Int) - 1)) - aA)) then (if (wrap64 ((wrap64 ((aB.length : Int) - 1)) - aA)) < (aB.length : Int) then ((spec_number.f (rd aB (wrap64 ((wrap64 ((aB.length : Int) - 1)) - aA)))).bind fun aC => (some (aC.1, aC.2.1, aC.2.2))) else (none)) else (none)) else (if aD = 4 then (if 0 ≤ aA then (if aA < (aG.length : Int) then (some ((rd_T98 aG aA).f0, (rd_T98 aG aA).f1, (rd_T98 aG aA).f2)) else (none)) else (none)) else (some (aH, aI, aJ)))))
theorem spec_told.calls (aM : Int) (aL : Int) (aV : Int) (aW : Int) (aX : ByteArray) (a0 : Option Addr) (a1 : Nat) (aP : List (S98)) (a2 : Option Addr) (a3 : Nat) (aQ : List (S98)) (a4 : Option Addr) (a5 : Nat) (aO : List Int) (a6 : Option Addr) (a7 : Nat) (aR : List (S98)) (r1 : Int) (r2 : Int) (r3 : ByteArray) (w : World) (bI : Kd.C k98 w a0 aP.length aP) (bJ : aP.length ≤ a1) (bK : Kd.C k98 w a2 aQ.length aQ) (bL : aQ.length ≤ a3) (bM : Kd.C (Kd.int .i64) w a4 aO.length aO) (bN : aO.length ≤ a5) (bO : Kd.C k98 w a6 aR.length aR) (bP : aR.length ≤ a7) (h : spec_told.f aM aL aV aW aX aP aQ aO aR = some (r1, r2, r3)) :
  Calls Try.prog 111 #[.agg #[.int .i64 aM, .int .i64 aL, .int .i64 aV, .int .i64 aW, .string aX], .agg #[.slice a0 aP.length a1, .slice a2 aQ.length a3, .slice a4 aO.length a5, .slice a6 aR.length a7]] w fun e w' => e = .returned (.agg #[.int .i64 r1, .int .i64 r2, .string r3]) ∧ Below w.heap.size w w' := by
 have gB := Try.underlying116; have gC := Try.underlying135; have iA := Try.underlying98; have b2 := A_ bI; have gD := A_ bJ; clear bI bJ; have b3 := A_ bK; have gE := A_ bL; clear bK bL; have b4 := A_ bM; have gF := A_ bN; clear bM bN; have b5 := A_ bO; have gG := A_ bP; clear bO bP; have HB := A_ (Below.refl w.heap.size w); have H := h; unfold spec_told.f at H; clear h
 by_cases c3 : aM = 1
 ·rw [if_pos c3] at H
  have f4 : (aM == 1) = true := beq_iff_eq.mpr c3; have f5 : (aM != 1) = false := bne_eq_false_iff_eq.mpr c3; clear c3
  by_cases c4 : 0 ≤ aL
  ·rw [if_pos c4] at H
   have iB := dt c4; clear c4
   by_cases c5 : aL < (aP.length : Int)
   ·rw [if_pos c5] at H
    have iC := dt c5; clear c5; simp only [Option.some.injEq, Prod.mk.injEq] at H; obtain ⟨rfl, rfl, rfl⟩ := H
    go_enter Try.func111, Try.ntmps111
    go_wp2_with (first | ((with_reducible refine gate_dst (N := 2) rfl ?_); refine be (cs := #[.int .i64 aM, .int .i64 aL, .int .i64 aV, .int .i64 aW, .string aX]) (t := 116) ?_; intro aD hg w6 hbox hb; have aA := A_ hbox; have aS := A_ (gl hg (bz Z2)); have GE607 := aS; replace HB := A_ (bst Z2 hb); clear hb hbox hg) | ((with_reducible refine gate_dst (N := 3) rfl ?_); refine be (cs := #[.slice a0 aP.length a1, .slice a2 aQ.length a3, .slice a4 aO.length a5, .slice a6 aR.length a7]) (t := 135) ?_; intro aE hg w7 hbox hb; have aB := A_ hbox; have aT := A_ (gl hg (bz (Z3 GE607.out))); have GE608 := aT; replace HB := A_ (bst (Z3 GE607.out) hb); have aF := A_ ((by rw [hg]; exact nl (blk_lt (Z0 aA.out)) : aD ≠ aE)); have aG := A_ ((by rw [hg]; exact Nat.ne_of_gt (blk_lt (Z0 aA.out)) : aE ≠ aD)); replace aA := A_ (bb (Z0 aA.out) hb); clear hb hbox hg) | ((with_reducible refine gate_dst (N := 4) rfl ?_); refine be (cs := #[.int .i64 0, .int .i64 0, .string (⟨#[]⟩ : ByteArray)]) (t := 98) ?_; intro aC hg w8 hbox hb; have aN := A_ hbox; have aU := A_ (gl hg (bz (Z4 GE607.out GE608.out))); have GE609 := aU; replace HB := A_ (bst (Z4 GE607.out GE608.out) hb); have aH := A_ ((by rw [hg]; exact nl (blk_lt (Z0 aA.out)) : aD ≠ aC)); have aI := A_ ((by rw [hg]; exact Nat.ne_of_gt (blk_lt (Z0 aA.out)) : aC ≠ aD)); replace aA := A_ (bb (Z0 aA.out) hb); have aJ := A_ ((by rw [hg]; exact nl (blk_lt (Z0 aB.out)) : aE ≠ aC)); have aK := A_ ((by rw [hg]; exact Nat.ne_of_gt (blk_lt (Z0 aB.out)) : aC ≠ aE)); replace aB := A_ (bb (Z0 aB.out) hb); clear hb hbox hg; have iD := aF.out; have iE := aG.out; have gH := aH.out; have gI := aI.out; obtain ⟨cG, cH, cI, cJ, cK, cL, cM, cN, cO, cP⟩ := C5 aA.out; have gJ := aJ.out; have gK := aK.out; obtain ⟨cQ, cR, cS, cT, cU, cV, cW, cX⟩ := C4 aB.out; have bQ : 0 ≤ (aL : Int) := odt; have bR : aL < (aP.length : Int) := odt; obtain ⟨gM, f6, a8, a9, bA⟩ := at_T98 b2.out aL bQ bR; cases f6; replace a8 := ZC HB.out a8; replace a9 := ZC HB.out a9; replace bA := ZC HB.out bA; replace bQ := eq_true bQ; replace bR := eq_true bR; obtain ⟨cY, cZ, dA, dB, dC, dD⟩ := C3 aN.out))
    refine bodyPost_ret (results_cell_row rfl _ _ aC 98 #[.int .i64 ((rd_T98 aP aL).f0), .int .i64 ((rd_T98 aP aL).f1), .string ((rd_T98 aP aL).f2)] (0, 0) _ rfl (bp0 aN.out) Try.underlying98 rfl (by kernel_rfl)) rfl ?_
    exact ⟨Z11, Z53⟩
   ·rw [if_neg c5] at H
    exact absurd H (by simp)
  ·exact Z84
 ·rw [if_neg c3] at H
  have f4 : (aM == 1) = false := beq_eq_false_iff_ne.mpr c3; have f5 : (aM != 1) = true := bne_iff_ne.mpr c3
  by_cases bT : aM = 2
  ·rw [if_pos bT] at H
   have b6 : (aM == 2) = true := beq_iff_eq.mpr bT; have b7 : (aM != 2) = false := bne_eq_false_iff_eq.mpr bT; clear bT
   by_cases dE : 0 ≤ aL
   ·rw [if_pos dE] at H
    have gN := dt dE; clear dE
    by_cases dF : aL < (aQ.length : Int)
    ·rw [if_pos dF] at H
     have gO := dt dF; clear dF; simp only [Option.some.injEq, Prod.mk.injEq] at H; obtain ⟨rfl, rfl, rfl⟩ := H
     go_enter Try.func111, Try.ntmps111
     go_wp2_with (first | ((with_reducible refine gate_dst (N := 2) rfl ?_); refine be (cs := #[.int .i64 aM, .int .i64 aL, .int .i64 aV, .int .i64 aW, .string aX]) (t := 116) ?_; intro aD hg iG hbox hb; have aA := A_ hbox; have aS := A_ (gl hg (bz Z2)); have GE607 := aS; replace HB := A_ (bst Z2 hb); clear hb hbox hg) | ((with_reducible refine gate_dst (N := 3) rfl ?_); refine be (cs := #[.slice a0 aP.length a1, .slice a2 aQ.length a3, .slice a4 aO.length a5, .slice a6 aR.length a7]) (t := 135) ?_; intro aE hg iH hbox hb; have aB := A_ hbox; have aT := A_ (gl hg (bz (Z3 GE607.out))); have GE608 := aT; replace HB := A_ (bst (Z3 GE607.out) hb); have aF := A_ ((by rw [hg]; exact nl (blk_lt (Z0 aA.out)) : aD ≠ aE)); have aG := A_ ((by rw [hg]; exact Nat.ne_of_gt (blk_lt (Z0 aA.out)) : aE ≠ aD)); replace aA := A_ (bb (Z0 aA.out) hb); clear hb hbox hg) | ((with_reducible refine gate_dst (N := 4) rfl ?_); refine be (cs := #[.int .i64 0, .int .i64 0, .string (⟨#[]⟩ : ByteArray)]) (t := 98) ?_; intro aC hg iI hbox hb; have aN := A_ hbox; have aU := A_ (gl hg (bz (Z4 GE607.out GE608.out))); have GE609 := aU; replace HB := A_ (bst (Z4 GE607.out GE608.out) hb); have aH := A_ ((by rw [hg]; exact nl (blk_lt (Z0 aA.out)) : aD ≠ aC)); have aI := A_ ((by rw [hg]; exact Nat.ne_of_gt (blk_lt (Z0 aA.out)) : aC ≠ aD)); replace aA := A_ (bb (Z0 aA.out) hb); have aJ := A_ ((by rw [hg]; exact nl (blk_lt (Z0 aB.out)) : aE ≠ aC)); have aK := A_ ((by rw [hg]; exact Nat.ne_of_gt (blk_lt (Z0 aB.out)) : aC ≠ aE)); replace aB := A_ (bb (Z0 aB.out) hb); clear hb hbox hg; have gP := aF.out; have gQ := aG.out; have gR := aH.out; have gS := aI.out; obtain ⟨dG, dH, dI, dJ, dK, dL, dM, dN, dO, dP⟩ := C5 aA.out; have gT := aJ.out; have gU := aK.out; obtain ⟨dQ, dR, dS, dT, dU, dV, dW, dX⟩ := C4 aB.out; have bU : 0 ≤ (aL : Int) := odt; have bV : aL < (aQ.length : Int) := odt; obtain ⟨gV, f7, bB, bC, bD⟩ := at_T98 b3.out aL bU bV; cases f7; replace bB := ZC HB.out bB; replace bC := ZC HB.out bC; replace bD := ZC HB.out bD; replace bU := eq_true bU; replace bV := eq_true bV; obtain ⟨dY, dZ, d0, d1, d2, d3⟩ := C3 aN.out))
     refine bodyPost_ret (results_cell_row rfl _ _ aC 98 #[.int .i64 ((rd_T98 aQ aL).f0), .int .i64 ((rd_T98 aQ aL).f1), .string ((rd_T98 aQ aL).f2)] (0, 0) _ rfl (bp0 aN.out) Try.underlying98 rfl (by kernel_rfl)) rfl ?_
     exact ⟨Z11, Z53⟩
    ·rw [if_neg dF] at H
     exact absurd H (by simp)
   ·rw [if_neg dE] at H
    exact absurd H (by simp)
  ·rw [if_neg bT] at H
   have b6 : (aM == 2) = false := beq_eq_false_iff_ne.mpr bT; have b7 : (aM != 2) = true := bne_iff_ne.mpr bT
   by_cases bW : aM = 3
   ·rw [if_pos bW] at H
    have b8 : (aM == 3) = true := beq_iff_eq.mpr bW; have b9 : (aM != 3) = false := bne_eq_false_iff_eq.mpr bW; clear bW; obtain ⟨aY, aZ⟩ : ∃ j_ : Int, (wrap64 ((wrap64 ((aO.length : Int) - 1)) - aL)) = j_ := ⟨_, rfl⟩
    first | rw [aZ] at H | simp only [aZ] at H
    have f8 : (IntKind.i64.wrap ((wrap64 ((aO.length : Int) - 1)) - aL)) = aY := (i64_w _).trans aZ
    by_cases d4 : 0 ≤ (aY)
    ·rw [if_pos d4] at H
     have gW := dt d4; clear d4
     by_cases d5 : (aY) < (aO.length : Int)
     ·rw [if_pos d5] at H
      have gX := dt d5; clear d5; replace H := bS H; obtain ⟨⟨cA, cB, cC⟩, cD, H⟩ := H
      try dsimp only at H
      have iF := A_ cD; clear cD; simp only [Option.some.injEq, Prod.mk.injEq] at H; obtain ⟨rfl, rfl, rfl⟩ := H
      go_enter Try.func111, Try.ntmps111
      go_wp2_with (first | ((with_reducible refine gate_dst (N := 2) rfl ?_); refine be (cs := #[.int .i64 aM, .int .i64 aL, .int .i64 aV, .int .i64 aW, .string aX]) (t := 116) ?_; intro aD hg iJ hbox hb; have aA := A_ hbox; have aS := A_ (gl hg (bz Z2)); have GE607 := aS; replace HB := A_ (bst Z2 hb); clear hb hbox hg) | ((with_reducible refine gate_dst (N := 3) rfl ?_); refine be (cs := #[.slice a0 aP.length a1, .slice a2 aQ.length a3, .slice a4 aO.length a5, .slice a6 aR.length a7]) (t := 135) ?_; intro aE hg iK hbox hb; have aB := A_ hbox; have aT := A_ (gl hg (bz (Z3 GE607.out))); have GE608 := aT; replace HB := A_ (bst (Z3 GE607.out) hb); have aF := A_ ((by rw [hg]; exact nl (blk_lt (Z0 aA.out)) : aD ≠ aE)); have aG := A_ ((by rw [hg]; exact Nat.ne_of_gt (blk_lt (Z0 aA.out)) : aE ≠ aD)); replace aA := A_ (bb (Z0 aA.out) hb); clear hb hbox hg) | ((with_reducible refine gate_dst (N := 4) rfl ?_); refine be (cs := #[.int .i64 0, .int .i64 0, .string (⟨#[]⟩ : ByteArray)]) (t := 98) ?_; intro aC hg iL hbox hb; have aN := A_ hbox; have aU := A_ (gl hg (bz (Z4 GE607.out GE608.out))); have GE609 := aU; replace HB := A_ (bst (Z4 GE607.out GE608.out) hb); have aH := A_ ((by rw [hg]; exact nl (blk_lt (Z0 aA.out)) : aD ≠ aC)); have aI := A_ ((by rw [hg]; exact Nat.ne_of_gt (blk_lt (Z0 aA.out)) : aC ≠ aD)); replace aA := A_ (bb (Z0 aA.out) hb); have aJ := A_ ((by rw [hg]; exact nl (blk_lt (Z0 aB.out)) : aE ≠ aC)); have aK := A_ ((by rw [hg]; exact Nat.ne_of_gt (blk_lt (Z0 aB.out)) : aC ≠ aE)); replace aB := A_ (bb (Z0 aB.out) hb); clear hb hbox hg; have gY := aF.out; have gZ := aG.out; have g3 := aH.out; have g4 := aI.out; obtain ⟨d6, d7, d8, d9, eA, eB, eC, eD, eE, eF⟩ := C5 aA.out; have g5 := aJ.out; have g6 := aK.out; obtain ⟨eG, eH, eI, eJ, eK, eL, eM, eN⟩ := C4 aB.out; have bX : 0 ≤ ((aY) : Int) := odt; have bY : (aY) < (aO.length : Int) := odt; obtain ⟨g7, f9, bE⟩ := Kd.at_int b4.out (aY) bX bY; cases f9; replace bE := ZC HB.out bE; replace bX := eq_true bX; replace bY := eq_true bY) | ((with_reducible refine gate_callee (f := 114) rfl ?_); refine goesL_ (some 36) rfl rfl Try.func114 (by kernel_rfl) rfl #[.int .i64 (rd aO (aY))] rfl (by (try simp only [List.map_toArray, List.map_cons, List.map_nil]); first | done | (simp only [aZ]; rfl) | rfl | (simp only [List.length_drop, List.length_take]; rfl)) ?_; (with_reducible refine (spec_number.calls (rd aO (aY)) cA cB cC _ iF.out).mono ?_); rintro e iM ⟨rfl, hb⟩; refine ⟨_, rfl, ?_⟩; replace aA := A_ (bb (Z0 aA.out) hb); replace aB := A_ (bb (Z0 aB.out) hb); replace aN := A_ (bb (Z0 aN.out) hb); replace HB := A_ (bst Z53 hb); (try clear hb); obtain ⟨eO, eP, eQ, eR, eS, eT⟩ := C3 aN.out))
      refine bodyPost_ret (results_cell_row rfl _ _ aC 98 #[.int .i64 cA, .int .i64 cB, .string cC] (0, 0) _ rfl (bp0 aN.out) Try.underlying98 rfl (by kernel_rfl)) rfl ?_
      exact ⟨by first | rfl | (simp [errW_none, errW_some] <;> rfl) | (simp only [← aZ]; first | rfl | (simp [errW_none, errW_some] <;> rfl)) | (simp [*, errW_none, errW_some] <;> rfl), Z53⟩
     ·rw [if_neg d5] at H
      exact absurd H (by simp)
    ·rw [if_neg d4] at H
     exact absurd H (by simp)
   ·rw [if_neg bW] at H
    have b8 : (aM == 3) = false := beq_eq_false_iff_ne.mpr bW; have b9 : (aM != 3) = true := bne_iff_ne.mpr bW
    by_cases bZ : aM = 4
    ·rw [if_pos bZ] at H
     have cE : (aM == 4) = true := beq_iff_eq.mpr bZ; have cF : (aM != 4) = false := bne_eq_false_iff_eq.mpr bZ; clear bZ
     by_cases eU : 0 ≤ aL
     ·rw [if_pos eU] at H
      have g8 := dt eU; clear eU
      by_cases eV : aL < (aR.length : Int)
      ·rw [if_pos eV] at H
       have g9 := dt eV; clear eV; simp only [Option.some.injEq, Prod.mk.injEq] at H; obtain ⟨rfl, rfl, rfl⟩ := H
       go_enter Try.func111, Try.ntmps111
       go_wp2_with (first | ((with_reducible refine gate_dst (N := 2) rfl ?_); refine be (cs := #[.int .i64 aM, .int .i64 aL, .int .i64 aV, .int .i64 aW, .string aX]) (t := 116) ?_; intro aD hg iN hbox hb; have aA := A_ hbox; have aS := A_ (gl hg (bz Z2)); have GE607 := aS; replace HB := A_ (bst Z2 hb); clear hb hbox hg) | ((with_reducible refine gate_dst (N := 3) rfl ?_); refine be (cs := #[.slice a0 aP.length a1, .slice a2 aQ.length a3, .slice a4 aO.length a5, .slice a6 aR.length a7]) (t := 135) ?_; intro aE hg iO hbox hb; have aB := A_ hbox; have aT := A_ (gl hg (bz (Z3 GE607.out))); have GE608 := aT; replace HB := A_ (bst (Z3 GE607.out) hb); have aF := A_ ((by rw [hg]; exact nl (blk_lt (Z0 aA.out)) : aD ≠ aE)); have aG := A_ ((by rw [hg]; exact Nat.ne_of_gt (blk_lt (Z0 aA.out)) : aE ≠ aD)); replace aA := A_ (bb (Z0 aA.out) hb); clear hb hbox hg) | ((with_reducible refine gate_dst (N := 4) rfl ?_); refine be (cs := #[.int .i64 0, .int .i64 0, .string (⟨#[]⟩ : ByteArray)]) (t := 98) ?_; intro aC hg iP hbox hb; have aN := A_ hbox; have aU := A_ (gl hg (bz (Z4 GE607.out GE608.out))); have GE609 := aU; replace HB := A_ (bst (Z4 GE607.out GE608.out) hb); have aH := A_ ((by rw [hg]; exact nl (blk_lt (Z0 aA.out)) : aD ≠ aC)); have aI := A_ ((by rw [hg]; exact Nat.ne_of_gt (blk_lt (Z0 aA.out)) : aC ≠ aD)); replace aA := A_ (bb (Z0 aA.out) hb); have aJ := A_ ((by rw [hg]; exact nl (blk_lt (Z0 aB.out)) : aE ≠ aC)); have aK := A_ ((by rw [hg]; exact Nat.ne_of_gt (blk_lt (Z0 aB.out)) : aC ≠ aE)); replace aB := A_ (bb (Z0 aB.out) hb); clear hb hbox hg; have hD := aF.out; have hG := aG.out; have hH := aH.out; have hI := aI.out; obtain ⟨eW, eX, eY, eZ, e0, e1, e2, e3, e4, e5⟩ := C5 aA.out; have hJ := aJ.out; have hL := aK.out; obtain ⟨e6, e7, e8, e9, fA, fB, fC, fD⟩ := C4 aB.out; have b0 : 0 ≤ (aL : Int) := odt; have b1 : aL < (aR.length : Int) := odt; obtain ⟨hO, gA, bF, bG, bH⟩ := at_T98 b5.out aL b0 b1; cases gA; replace bF := ZC HB.out bF; replace bG := ZC HB.out bG; replace bH := ZC HB.out bH; replace b0 := eq_true b0; replace b1 := eq_true b1; obtain ⟨fE, fF, fG, fH, fI, fJ⟩ := C3 aN.out))
       refine bodyPost_ret (results_cell_row rfl _ _ aC 98 #[.int .i64 ((rd_T98 aR aL).f0), .int .i64 ((rd_T98 aR aL).f1), .string ((rd_T98 aR aL).f2)] (0, 0) _ rfl (bp0 aN.out) Try.underlying98 rfl (by kernel_rfl)) rfl ?_
       exact ⟨Z11, Z53⟩
      ·rw [if_neg eV] at H
       exact absurd H (by simp)
     ·rw [if_neg eU] at H
      exact absurd H (by simp)
    ·rw [if_neg bZ] at H
     have cE : (aM == 4) = false := beq_eq_false_iff_ne.mpr bZ; have cF : (aM != 4) = true := bne_iff_ne.mpr bZ; simp only [Option.some.injEq, Prod.mk.injEq] at H; obtain ⟨rfl, rfl, rfl⟩ := H
     go_enter Try.func111, Try.ntmps111
     go_wp2_with (first | ((with_reducible refine gate_dst (N := 2) rfl ?_); refine be (cs := #[.int .i64 aM, .int .i64 aL, .int .i64 aV, .int .i64 aW, .string aX]) (t := 116) ?_; intro aD hg iQ hbox hb; have aA := A_ hbox; have aS := A_ (gl hg (bz Z2)); have GE607 := aS; replace HB := A_ (bst Z2 hb); clear hb hbox hg) | ((with_reducible refine gate_dst (N := 3) rfl ?_); refine be (cs := #[.slice a0 aP.length a1, .slice a2 aQ.length a3, .slice a4 aO.length a5, .slice a6 aR.length a7]) (t := 135) ?_; intro aE hg iR hbox hb; have aB := A_ hbox; have aT := A_ (gl hg (bz (Z3 GE607.out))); have GE608 := aT; replace HB := A_ (bst (Z3 GE607.out) hb); have aF := A_ ((by rw [hg]; exact nl (blk_lt (Z0 aA.out)) : aD ≠ aE)); have aG := A_ ((by rw [hg]; exact Nat.ne_of_gt (blk_lt (Z0 aA.out)) : aE ≠ aD)); replace aA := A_ (bb (Z0 aA.out) hb); clear hb hbox hg) | ((with_reducible refine gate_dst (N := 4) rfl ?_); refine be (cs := #[.int .i64 0, .int .i64 0, .string (⟨#[]⟩ : ByteArray)]) (t := 98) ?_; intro aC hg iS hbox hb; have aN := A_ hbox; have aU := A_ (gl hg (bz (Z4 GE607.out GE608.out))); have GE609 := aU; replace HB := A_ (bst (Z4 GE607.out GE608.out) hb); have aH := A_ ((by rw [hg]; exact nl (blk_lt (Z0 aA.out)) : aD ≠ aC)); have aI := A_ ((by rw [hg]; exact Nat.ne_of_gt (blk_lt (Z0 aA.out)) : aC ≠ aD)); replace aA := A_ (bb (Z0 aA.out) hb); have aJ := A_ ((by rw [hg]; exact nl (blk_lt (Z0 aB.out)) : aE ≠ aC)); have aK := A_ ((by rw [hg]; exact Nat.ne_of_gt (blk_lt (Z0 aB.out)) : aC ≠ aE)); replace aB := A_ (bb (Z0 aB.out) hb); clear hb hbox hg; have hP := aF.out; have hU := aG.out; have hV := aH.out; have hX := aI.out; obtain ⟨fK, fL, fM, fN, fO, fP, fQ, fR, fS, fT⟩ := C5 aA.out; have hY := aK.out; have hZ := aJ.out; obtain ⟨fU, fV, fW, fX, fY, fZ⟩ := C3 aN.out))
     refine bodyPost_ret (results_cell_row rfl _ _ aC 98 #[.int .i64 aV, .int .i64 aW, .string aX] (0, 0) _ rfl (bp0 aN.out) Try.underlying98 rfl (by kernel_rfl)) rfl ?_
     exact ⟨Z11, Z53⟩
end Go.Proofs.Ytgbbcebjgpoioaa.PFnHistUndo
