/- Walks (lines of the print; no condition). -/
import Derived.Test.YtgbbcebjgpoioaaZFnHistRedoQFnHistRedox9
namespace Go.Proofs.Ytgbbcebjgpoioaa.PFnHistRedo
open Go.RowKit Go.Proofs.YtgbbcebjgpoioaaW.PrintWords Go.Proofs.YtgbbcebjgpoioaaW.PrintLast Go.Proofs.YtgbbcebjgpoioaaW.PrintMore
attribute [local go_sem] max2_int min2_int max_two min_two max_three min_three max_four min_four
set_option linter.unusedVariables false
set_option linter.unusedSimpArgs false
set_option maxHeartbeats 8000000
set_option maxRecDepth 100000
attribute [local go_sem high] eqA98
def spec_validStep.f (k : Nat) (aA : Int) (aB : Int) (aC : Int) (aD : Int) (aE : ByteArray) (a1 : Int) (a2 : Int) (a3 : Int) : Option (Bool) := if aA = 0 then (if aB = 0 then ((spec_validValue.f k aC aD aE).bind fun aF => (some aF)) else (some false)) else (if aA = 1 then ((spec_inRange.f aB 0 (wrap64 (a1 - 1))).bind fun aG => (if aG = true then (some (aC == 0 && (aD == 0 && (aE.toList == ([] : List UInt8))))) else (some false))) else (if aA = 2 then ((spec_inRange.f aB 0 (wrap64 (a2 - 1))).bind fun aH => (if aH = true then (some (aC == 0 && (aD == 0 && (aE.toList == ([] : List UInt8))))) else (some false))) else (if aA = 3 then ((spec_inRange.f aB 0 (wrap64 (a3 - 1))).bind fun aI => (if aI = true then (some (aC == 0 && (aD == 0 && (aE.toList == ([] : List UInt8))))) else (some false))) else (if aA = 4 then ((spec_inRange.f aB 0 1).bind fun aJ => (if aJ = true then (some (aC == 0 && (aD == 0 && (aE.toList == ([] : List UInt8))))) else (some false))) else (if aA = 5 then ((spec_inRange.f aB 0 6).bind fun aK => (if aK = true then (some (aC == 0 && (aD == 0 && (aE.toList == ([] : List UInt8))))) else (some false))) else (if aA = 6 then (if aB = 0 then (some (aC == 0 && (aD == 0 && (aE.toList == ([] : List UInt8))))) else (some false)) else (some false)))))))
theorem spec_validStep.calls (k : Nat) (aA : Int) (aB : Int) (aG : Int) (aH : Int) (aI : ByteArray) (a1 : Int) (a2 : Int) (a3 : Int) (r : Bool) (w : World) (h : spec_validStep.f k aA aB aG aH aI a1 a2 a3 = some r) :
  Calls Try.prog 93 #[.agg #[.int .i64 aA, .int .i64 aB, .int .i64 aG, .int .i64 aH, .string aI], .int .i64 a1, .int .i64 a2, .int .i64 a3] w fun e w' => e = .returned (.bool r) ∧ Below w.heap.size w w' := by
 have gC := Try.underlying116; have gJ := Try.underlying98; have HB := A_ (Below.refl w.heap.size w); have H := h; unfold spec_validStep.f at H; clear h
 by_cases c5 : aA = 0
 ·rw [if_pos c5] at H
  have fO : (aA == 0) = true := beq_iff_eq.mpr c5; have fP : (aA != 0) = false := bne_eq_false_iff_eq.mpr c5; clear c5
  by_cases c6 : aB = 0
  ·rw [if_pos c6] at H
   have fQ : (aB == 0) = true := beq_iff_eq.mpr c6; have fR : (aB != 0) = false := bne_eq_false_iff_eq.mpr c6; clear c6; replace H := bS H; obtain ⟨fS, gD, H⟩ := H
   try dsimp only at H
   have A7 := A_ gD; clear gD; obtain rfl := Option.some.inj H
   go_enter Try.func93, Try.ntmps93
   go_wp2_with (first | ((with_reducible refine gate_dst (N := 4) rfl ?_); refine be (cs := #[.int .i64 aA, .int .i64 aB, .int .i64 aG, .int .i64 aH, .string aI]) (t := 116) ?_; intro aF hg w8 hbox hb; have aC := A_ hbox; have aE := A_ (gl hg (bz Z2)); have aD := aE; replace HB := A_ (bst Z2 hb); clear hb hbox hg; obtain ⟨fT, fU, fV, fW, fX, fY, fZ, f4, f5, f6⟩ := C5 aC.out) | (go_at_call 91; (with_reducible refine (spec_validValue.calls k aG aH aI fS _ A7.out).mono ?_); rintro e gK ⟨rfl, hb⟩; replace aC := A_ (bb (Z0 aC.out) hb); replace HB := A_ (bst (Z3 aD.out) hb); (try clear hb)))
   go_ret
   exact ⟨Z11, Z3 aD.out⟩
  ·rw [if_neg c6] at H
   have fQ : (aB == 0) = false := beq_eq_false_iff_ne.mpr c6; have fR : (aB != 0) = true := bne_iff_ne.mpr c6; obtain rfl := Option.some.inj H
   go_enter Try.func93, Try.ntmps93
   go_wp2_with (first | ((with_reducible refine gate_dst (N := 4) rfl ?_); refine be (cs := #[.int .i64 aA, .int .i64 aB, .int .i64 aG, .int .i64 aH, .string aI]) (t := 116) ?_; intro aF hg gM hbox hb; have aC := A_ hbox; have aE := A_ (gl hg (bz Z2)); have aD := aE; replace HB := A_ (bst Z2 hb); clear hb hbox hg; obtain ⟨bC, bD, bE, bF, bG, bH, bI, bJ, bK, bL⟩ := C5 aC.out))
   go_ret
   exact ⟨Z11, Z3 aD.out⟩
 ·rw [if_neg c5] at H
  have fO : (aA == 0) = false := beq_eq_false_iff_ne.mpr c5; have fP : (aA != 0) = true := bne_iff_ne.mpr c5
  by_cases aJ : aA = 1
  ·rw [if_pos aJ] at H
   have aQ : (aA == 1) = true := beq_iff_eq.mpr aJ; have aR : (aA != 1) = false := bne_eq_false_iff_eq.mpr aJ; clear aJ; replace H := bS H; obtain ⟨f7, aS, H⟩ := H
   try dsimp only at H
   have gE := A_ aS; clear aS
   by_cases bM : f7 = true
   ·subst bM
    rw [if_pos rfl] at H; obtain rfl := Option.some.inj H
    go_enter Try.func93, Try.ntmps93
    go_wp2_with (first | ((with_reducible refine gate_dst (N := 4) rfl ?_); refine be (cs := #[.int .i64 aA, .int .i64 aB, .int .i64 aG, .int .i64 aH, .string aI]) (t := 116) ?_; intro aF hg gN hbox hb; have aC := A_ hbox; have aE := A_ (gl hg (bz Z2)); have aD := aE; replace HB := A_ (bst Z2 hb); clear hb hbox hg; obtain ⟨bN, bO, bP, bQ, bR, bT, bU, bV, bW, bX⟩ := C5 aC.out) | ((with_reducible refine gate_callee (f := 77) rfl ?_); refine gL 27 Try.func77 #[.int .i64 aB, .int .i64 0, .int .i64 (wrap64 (a1 - 1))] ?_; (with_reducible refine (spec_inRange.calls aB 0 (wrap64 (a1 - 1)) true _ gE.out).mono ?_); rintro e w' ⟨rfl, ⟨nd, rfl⟩⟩; refine ⟨_, rfl, ?_⟩))
    go_ret
    exact ⟨Z11, Z3 aD.out⟩
   ·replace bM := Bool.eq_false_iff.mpr bM
    subst bM; rw [if_neg (show ¬ (false = true) by decide)] at H; obtain rfl := Option.some.inj H
    go_enter Try.func93, Try.ntmps93
    go_wp2_with (first | ((with_reducible refine gate_dst (N := 4) rfl ?_); refine be (cs := #[.int .i64 aA, .int .i64 aB, .int .i64 aG, .int .i64 aH, .string aI]) (t := 116) ?_; intro aF hg gO hbox hb; have aC := A_ hbox; have aE := A_ (gl hg (bz Z2)); have aD := aE; replace HB := A_ (bst Z2 hb); clear hb hbox hg; obtain ⟨bY, bZ, b0, b1, b2, b3, b4, b5, b6, b7⟩ := C5 aC.out) | ((with_reducible refine gate_callee (f := 77) rfl ?_); refine gL 27 Try.func77 #[.int .i64 aB, .int .i64 0, .int .i64 (wrap64 (a1 - 1))] ?_; (with_reducible refine (spec_inRange.calls aB 0 (wrap64 (a1 - 1)) false _ gE.out).mono ?_); rintro e w' ⟨rfl, ⟨nd, rfl⟩⟩; refine ⟨_, rfl, ?_⟩))
    go_ret
    exact ⟨Z11, Z3 aD.out⟩
  ·rw [if_neg aJ] at H
   have aQ : (aA == 1) = false := beq_eq_false_iff_ne.mpr aJ; have aR : (aA != 1) = true := bne_iff_ne.mpr aJ
   by_cases aK : aA = 2
   ·rw [if_pos aK] at H
    have aT : (aA == 2) = true := beq_iff_eq.mpr aK; have aU : (aA != 2) = false := bne_eq_false_iff_eq.mpr aK; clear aK; replace H := bS H; obtain ⟨f8, aV, H⟩ := H
    try dsimp only at H
    have gF := A_ aV; clear aV
    by_cases b8 : f8 = true
    ·subst b8
     rw [if_pos rfl] at H; obtain rfl := Option.some.inj H
     go_enter Try.func93, Try.ntmps93
     go_wp2_with (first | ((with_reducible refine gate_dst (N := 4) rfl ?_); refine be (cs := #[.int .i64 aA, .int .i64 aB, .int .i64 aG, .int .i64 aH, .string aI]) (t := 116) ?_; intro aF hg gP hbox hb; have aC := A_ hbox; have aE := A_ (gl hg (bz Z2)); have aD := aE; replace HB := A_ (bst Z2 hb); clear hb hbox hg; obtain ⟨b9, cA, cB, cC, cD, cE, cF, cG, cH, cI⟩ := C5 aC.out) | ((with_reducible refine gate_callee (f := 77) rfl ?_); refine gL 40 Try.func77 #[.int .i64 aB, .int .i64 0, .int .i64 (wrap64 (a2 - 1))] ?_; (with_reducible refine (spec_inRange.calls aB 0 (wrap64 (a2 - 1)) true _ gF.out).mono ?_); rintro e w' ⟨rfl, ⟨nd, rfl⟩⟩; refine ⟨_, rfl, ?_⟩))
     go_ret
     exact ⟨Z11, Z3 aD.out⟩
    ·replace b8 := Bool.eq_false_iff.mpr b8
     subst b8; rw [if_neg (show ¬ (false = true) by decide)] at H; obtain rfl := Option.some.inj H
     go_enter Try.func93, Try.ntmps93
     go_wp2_with (first | ((with_reducible refine gate_dst (N := 4) rfl ?_); refine be (cs := #[.int .i64 aA, .int .i64 aB, .int .i64 aG, .int .i64 aH, .string aI]) (t := 116) ?_; intro aF hg gQ hbox hb; have aC := A_ hbox; have aE := A_ (gl hg (bz Z2)); have aD := aE; replace HB := A_ (bst Z2 hb); clear hb hbox hg; obtain ⟨cJ, cK, cL, cM, cN, cO, cP, cQ, cR, cS⟩ := C5 aC.out) | ((with_reducible refine gate_callee (f := 77) rfl ?_); refine gL 40 Try.func77 #[.int .i64 aB, .int .i64 0, .int .i64 (wrap64 (a2 - 1))] ?_; (with_reducible refine (spec_inRange.calls aB 0 (wrap64 (a2 - 1)) false _ gF.out).mono ?_); rintro e w' ⟨rfl, ⟨nd, rfl⟩⟩; refine ⟨_, rfl, ?_⟩))
     go_ret
     exact ⟨Z11, Z3 aD.out⟩
   ·rw [if_neg aK] at H
    have aT : (aA == 2) = false := beq_eq_false_iff_ne.mpr aK; have aU : (aA != 2) = true := bne_iff_ne.mpr aK
    by_cases aL : aA = 3
    ·rw [if_pos aL] at H
     have aW : (aA == 3) = true := beq_iff_eq.mpr aL; have aX : (aA != 3) = false := bne_eq_false_iff_eq.mpr aL; clear aL; replace H := bS H; obtain ⟨f9, aY, H⟩ := H
     try dsimp only at H
     have gG := A_ aY; clear aY
     by_cases cT : f9 = true
     ·subst cT
      rw [if_pos rfl] at H; obtain rfl := Option.some.inj H
      go_enter Try.func93, Try.ntmps93
      go_wp2_with (first | ((with_reducible refine gate_dst (N := 4) rfl ?_); refine be (cs := #[.int .i64 aA, .int .i64 aB, .int .i64 aG, .int .i64 aH, .string aI]) (t := 116) ?_; intro aF hg gR hbox hb; have aC := A_ hbox; have aE := A_ (gl hg (bz Z2)); have aD := aE; replace HB := A_ (bst Z2 hb); clear hb hbox hg; obtain ⟨cU, cV, cW, cX, cY, cZ, dA, dB, dC, dD⟩ := C5 aC.out) | ((with_reducible refine gate_callee (f := 77) rfl ?_); refine gL 53 Try.func77 #[.int .i64 aB, .int .i64 0, .int .i64 (wrap64 (a3 - 1))] ?_; (with_reducible refine (spec_inRange.calls aB 0 (wrap64 (a3 - 1)) true _ gG.out).mono ?_); rintro e w' ⟨rfl, ⟨nd, rfl⟩⟩; refine ⟨_, rfl, ?_⟩))
      go_ret
      exact ⟨Z11, Z3 aD.out⟩
     ·replace cT := Bool.eq_false_iff.mpr cT
      subst cT; rw [if_neg (show ¬ (false = true) by decide)] at H; obtain rfl := Option.some.inj H
      go_enter Try.func93, Try.ntmps93
      go_wp2_with (first | ((with_reducible refine gate_dst (N := 4) rfl ?_); refine be (cs := #[.int .i64 aA, .int .i64 aB, .int .i64 aG, .int .i64 aH, .string aI]) (t := 116) ?_; intro aF hg gS hbox hb; have aC := A_ hbox; have aE := A_ (gl hg (bz Z2)); have aD := aE; replace HB := A_ (bst Z2 hb); clear hb hbox hg; obtain ⟨dE, dF, dG, dH, dI, dJ, dK, dL, dM, dN⟩ := C5 aC.out) | ((with_reducible refine gate_callee (f := 77) rfl ?_); refine gL 53 Try.func77 #[.int .i64 aB, .int .i64 0, .int .i64 (wrap64 (a3 - 1))] ?_; (with_reducible refine (spec_inRange.calls aB 0 (wrap64 (a3 - 1)) false _ gG.out).mono ?_); rintro e w' ⟨rfl, ⟨nd, rfl⟩⟩; refine ⟨_, rfl, ?_⟩))
      go_ret
      exact ⟨Z11, Z3 aD.out⟩
    ·rw [if_neg aL] at H
     have aW : (aA == 3) = false := beq_eq_false_iff_ne.mpr aL; have aX : (aA != 3) = true := bne_iff_ne.mpr aL
     by_cases aM : aA = 4
     ·rw [if_pos aM] at H
      have aZ : (aA == 4) = true := beq_iff_eq.mpr aM; have a0 : (aA != 4) = false := bne_eq_false_iff_eq.mpr aM; clear aM; replace H := bS H; obtain ⟨gA, a4, H⟩ := H
      try dsimp only at H
      have gH := A_ a4; clear a4
      by_cases dO : gA = true
      ·subst dO
       rw [if_pos rfl] at H; obtain rfl := Option.some.inj H
       go_enter Try.func93, Try.ntmps93
       go_wp2_with (first | ((with_reducible refine gate_dst (N := 4) rfl ?_); refine be (cs := #[.int .i64 aA, .int .i64 aB, .int .i64 aG, .int .i64 aH, .string aI]) (t := 116) ?_; intro aF hg gT hbox hb; have aC := A_ hbox; have aE := A_ (gl hg (bz Z2)); have aD := aE; replace HB := A_ (bst Z2 hb); clear hb hbox hg; obtain ⟨dP, dQ, dR, dS, dT, dU, dV, dW, dX, dY⟩ := C5 aC.out) | ((with_reducible refine gate_callee (f := 77) rfl ?_); refine gL 64 Try.func77 #[.int .i64 aB, .int .i64 0, .int .i64 1] ?_; (with_reducible refine (spec_inRange.calls aB 0 1 true _ gH.out).mono ?_); rintro e w' ⟨rfl, ⟨nd, rfl⟩⟩; refine ⟨_, rfl, ?_⟩))
       go_ret
       exact ⟨Z11, Z3 aD.out⟩
      ·replace dO := Bool.eq_false_iff.mpr dO
       subst dO; rw [if_neg (show ¬ (false = true) by decide)] at H; obtain rfl := Option.some.inj H
       go_enter Try.func93, Try.ntmps93
       go_wp2_with (first | ((with_reducible refine gate_dst (N := 4) rfl ?_); refine be (cs := #[.int .i64 aA, .int .i64 aB, .int .i64 aG, .int .i64 aH, .string aI]) (t := 116) ?_; intro aF hg gU hbox hb; have aC := A_ hbox; have aE := A_ (gl hg (bz Z2)); have aD := aE; replace HB := A_ (bst Z2 hb); clear hb hbox hg; obtain ⟨dZ, d0, d1, d2, d3, d4, d5, d6, d7, d8⟩ := C5 aC.out) | ((with_reducible refine gate_callee (f := 77) rfl ?_); refine gL 64 Try.func77 #[.int .i64 aB, .int .i64 0, .int .i64 1] ?_; (with_reducible refine (spec_inRange.calls aB 0 1 false _ gH.out).mono ?_); rintro e w' ⟨rfl, ⟨nd, rfl⟩⟩; refine ⟨_, rfl, ?_⟩))
       go_ret
       exact ⟨Z11, Z3 aD.out⟩
     ·rw [if_neg aM] at H
      have aZ : (aA == 4) = false := beq_eq_false_iff_ne.mpr aM; have a0 : (aA != 4) = true := bne_iff_ne.mpr aM
      by_cases aN : aA = 5
      ·rw [if_pos aN] at H
       have a5 : (aA == 5) = true := beq_iff_eq.mpr aN; have a6 : (aA != 5) = false := bne_eq_false_iff_eq.mpr aN; clear aN; replace H := bS H; obtain ⟨gB, a7, H⟩ := H
       try dsimp only at H
       have gI := A_ a7; clear a7
       by_cases d9 : gB = true
       ·subst d9
        rw [if_pos rfl] at H; obtain rfl := Option.some.inj H
        go_enter Try.func93, Try.ntmps93
        go_wp2_with (first | ((with_reducible refine gate_dst (N := 4) rfl ?_); refine be (cs := #[.int .i64 aA, .int .i64 aB, .int .i64 aG, .int .i64 aH, .string aI]) (t := 116) ?_; intro aF hg gV hbox hb; have aC := A_ hbox; have aE := A_ (gl hg (bz Z2)); have aD := aE; replace HB := A_ (bst Z2 hb); clear hb hbox hg; obtain ⟨eA, eB, eC, eD, eE, eF, eG, eH, eI, eJ⟩ := C5 aC.out) | ((with_reducible refine gate_callee (f := 77) rfl ?_); refine gL 75 Try.func77 #[.int .i64 aB, .int .i64 0, .int .i64 6] ?_; (with_reducible refine (spec_inRange.calls aB 0 6 true _ gI.out).mono ?_); rintro e w' ⟨rfl, ⟨nd, rfl⟩⟩; refine ⟨_, rfl, ?_⟩))
        go_ret
        exact ⟨Z11, Z3 aD.out⟩
       ·replace d9 := Bool.eq_false_iff.mpr d9
        subst d9; rw [if_neg (show ¬ (false = true) by decide)] at H; obtain rfl := Option.some.inj H
        go_enter Try.func93, Try.ntmps93
        go_wp2_with (first | ((with_reducible refine gate_dst (N := 4) rfl ?_); refine be (cs := #[.int .i64 aA, .int .i64 aB, .int .i64 aG, .int .i64 aH, .string aI]) (t := 116) ?_; intro aF hg gW hbox hb; have aC := A_ hbox; have aE := A_ (gl hg (bz Z2)); have aD := aE; replace HB := A_ (bst Z2 hb); clear hb hbox hg; obtain ⟨eK, eL, eM, eN, eO, eP, eQ, eR, eS, eT⟩ := C5 aC.out) | ((with_reducible refine gate_callee (f := 77) rfl ?_); refine gL 75 Try.func77 #[.int .i64 aB, .int .i64 0, .int .i64 6] ?_; (with_reducible refine (spec_inRange.calls aB 0 6 false _ gI.out).mono ?_); rintro e w' ⟨rfl, ⟨nd, rfl⟩⟩; refine ⟨_, rfl, ?_⟩))
        go_ret
        exact ⟨Z11, Z3 aD.out⟩
      ·rw [if_neg aN] at H
       have a5 : (aA == 5) = false := beq_eq_false_iff_ne.mpr aN; have a6 : (aA != 5) = true := bne_iff_ne.mpr aN
       by_cases aO : aA = 6
       ·rw [if_pos aO] at H
        have a8 : (aA == 6) = true := beq_iff_eq.mpr aO; have a9 : (aA != 6) = false := bne_eq_false_iff_eq.mpr aO; clear aO
        by_cases aP : aB = 0
        ·rw [if_pos aP] at H
         have bA : (aB == 0) = true := beq_iff_eq.mpr aP; have bB : (aB != 0) = false := bne_eq_false_iff_eq.mpr aP; clear aP; obtain rfl := Option.some.inj H
         go_enter Try.func93, Try.ntmps93
         go_wp2_with (first | ((with_reducible refine gate_dst (N := 4) rfl ?_); refine be (cs := #[.int .i64 aA, .int .i64 aB, .int .i64 aG, .int .i64 aH, .string aI]) (t := 116) ?_; intro aF hg gX hbox hb; have aC := A_ hbox; have aE := A_ (gl hg (bz Z2)); have aD := aE; replace HB := A_ (bst Z2 hb); clear hb hbox hg; obtain ⟨eU, eV, eW, eX, eY, eZ, e0, e1, e2, e3⟩ := C5 aC.out))
         go_ret
         exact ⟨Z11, Z3 aD.out⟩
        ·rw [if_neg aP] at H
         have bA : (aB == 0) = false := beq_eq_false_iff_ne.mpr aP; have bB : (aB != 0) = true := bne_iff_ne.mpr aP; obtain rfl := Option.some.inj H
         go_enter Try.func93, Try.ntmps93
         go_wp2_with (first | ((with_reducible refine gate_dst (N := 4) rfl ?_); refine be (cs := #[.int .i64 aA, .int .i64 aB, .int .i64 aG, .int .i64 aH, .string aI]) (t := 116) ?_; intro aF hg gY hbox hb; have aC := A_ hbox; have aE := A_ (gl hg (bz Z2)); have aD := aE; replace HB := A_ (bst Z2 hb); clear hb hbox hg; obtain ⟨e4, e5, e6, e7, e8, e9, fA, fB, fC, fD⟩ := C5 aC.out))
         go_ret
         exact ⟨Z11, Z3 aD.out⟩
       ·rw [if_neg aO] at H
        have a8 : (aA == 6) = false := beq_eq_false_iff_ne.mpr aO; have a9 : (aA != 6) = true := bne_iff_ne.mpr aO; obtain rfl := Option.some.inj H
        go_enter Try.func93, Try.ntmps93
        go_wp2_with (first | ((with_reducible refine gate_dst (N := 4) rfl ?_); refine be (cs := #[.int .i64 aA, .int .i64 aB, .int .i64 aG, .int .i64 aH, .string aI]) (t := 116) ?_; intro aF hg gZ hbox hb; have aC := A_ hbox; have aE := A_ (gl hg (bz Z2)); have aD := aE; replace HB := A_ (bst Z2 hb); clear hb hbox hg; obtain ⟨fE, fF, fG, fH, fI, fJ, fK, fL, fM, fN⟩ := C5 aC.out))
        go_ret
        exact ⟨Z11, Z3 aD.out⟩
def spec_takes.f (aA : Int) (aB : Int) (aC : Int) (aD : Int) (aE : ByteArray) : Option (Int) := if aA = 5 then (some 2) else (if aA = 6 then (some 3) else (some 0))
theorem spec_takes.calls (aA : Int) (aE : Int) (aF : Int) (aG : Int) (aH : ByteArray) (r : Int) (w : World) (h : spec_takes.f aA aE aF aG aH = some r) :
  Calls Try.prog 94 #[.agg #[.int .i64 aA, .int .i64 aE, .int .i64 aF, .int .i64 aG, .string aH]] w fun e w' => e = .returned (.int .i64 r) ∧ Below w.heap.size w w' := by
 have bH := Try.underlying116; have HB := A_ (Below.refl w.heap.size w); have H := h; unfold spec_takes.f at H; clear h
 by_cases c2 : aA = 5
 ·rw [if_pos c2] at H
  have aJ : (aA == 5) = true := beq_iff_eq.mpr c2; have aK : (aA != 5) = false := bne_eq_false_iff_eq.mpr c2; clear c2; obtain rfl := Option.some.inj H
  go_enter Try.func94, Try.ntmps94
  go_wp2_with (first | ((with_reducible refine gate_dst (N := 1) rfl ?_); refine be (cs := #[.int .i64 aA, .int .i64 aE, .int .i64 aF, .int .i64 aG, .string aH]) (t := 116) ?_; intro aI hg w3 hbox hb; have aB := A_ hbox; have aC := A_ (gl hg (bz Z2)); have aD := aC; replace HB := A_ (bst Z2 hb); clear hb hbox hg; obtain ⟨aL, aM, aN, aO, aP, aQ, aR, aS, aT, aU⟩ := C5 aB.out))
  go_ret
  exact ⟨Z11, Z3 aD.out⟩
 ·rw [if_neg c2] at H
  have aJ : (aA == 5) = false := beq_eq_false_iff_ne.mpr c2; have aK : (aA != 5) = true := bne_iff_ne.mpr c2
  by_cases c5 : aA = 6
  ·rw [if_pos c5] at H
   have aV : (aA == 6) = true := beq_iff_eq.mpr c5; have aW : (aA != 6) = false := bne_eq_false_iff_eq.mpr c5; clear c5; obtain rfl := Option.some.inj H
   go_enter Try.func94, Try.ntmps94
   go_wp2_with (first | ((with_reducible refine gate_dst (N := 1) rfl ?_); refine be (cs := #[.int .i64 aA, .int .i64 aE, .int .i64 aF, .int .i64 aG, .string aH]) (t := 116) ?_; intro aI hg w6 hbox hb; have aB := A_ hbox; have aC := A_ (gl hg (bz Z2)); have aD := aC; replace HB := A_ (bst Z2 hb); clear hb hbox hg; obtain ⟨aX, aY, aZ, a0, a1, a2, a3, a4, a5, a6⟩ := C5 aB.out))
   go_ret
   exact ⟨Z11, Z3 aD.out⟩
  ·rw [if_neg c5] at H
   have aV : (aA == 6) = false := beq_eq_false_iff_ne.mpr c5; have aW : (aA != 6) = true := bne_iff_ne.mpr c5; obtain rfl := Option.some.inj H
   go_enter Try.func94, Try.ntmps94
   go_wp2_with (first | ((with_reducible refine gate_dst (N := 1) rfl ?_); refine be (cs := #[.int .i64 aA, .int .i64 aE, .int .i64 aF, .int .i64 aG, .string aH]) (t := 116) ?_; intro aI hg w8 hbox hb; have aB := A_ hbox; have aC := A_ (gl hg (bz Z2)); have aD := aC; replace HB := A_ (bst Z2 hb); clear hb hbox hg; obtain ⟨a7, a8, a9, bA, bB, bC, bD, bE, bF, bG⟩ := C5 aB.out))
   go_ret
   exact ⟨Z11, Z3 aD.out⟩
def spec_validForm.l0 : Nat → List (S116) → Int → Int → Int → Int → Int → Option (Bool)
 | 0, _, _, _, _, _, _ => none
 | k + 1, x0, x1, x2, x3, x9, aA => if aA < (x0.length : Int) then (if 0 ≤ aA then ((spec_validStep.f k ((rd_T116 x0 aA).f0) ((rd_T116 x0 aA).f1) ((rd_T116 x0 aA).f2.f0) ((rd_T116 x0 aA).f2.f1) ((rd_T116 x0 aA).f2.f2) x1 x2 x3).bind fun aB => (if aB = true then ((spec_takes.f ((rd_T116 x0 aA).f0) ((rd_T116 x0 aA).f1) ((rd_T116 x0 aA).f2.f0) ((rd_T116 x0 aA).f2.f1) ((rd_T116 x0 aA).f2.f2)).bind fun aC => (if x9 < aC then (some false) else ((spec_takes.f ((rd_T116 x0 aA).f0) ((rd_T116 x0 aA).f1) ((rd_T116 x0 aA).f2.f0) ((rd_T116 x0 aA).f2.f1) ((rd_T116 x0 aA).f2.f2)).bind fun aD => (spec_validForm.l0 k x0 x1 x2 x3 (wrap64 ((wrap64 (x9 - aD)) + 1)) (wrap64 (aA + 1)))))) else (some false))) else (none)) else (some (x9 == 1))
def spec_validForm.f (k : Nat) (l0 : List (S116)) (a1 : Int) (a2 : Int) (a3 : Int) : Option (Bool) := if (l0.length : Int) > 9 then (some false) else (spec_validForm.l0 k l0 a1 a2 a3 0 0)
theorem spec_validForm.calls (k : Nat) (A0 : Option Addr) (c0 : Nat) (l0 : List (S116)) (a1 : Int) (a2 : Int) (a3 : Int) (r : Bool) (w : World) (bH : Kd.C k116 w A0 l0.length l0) (hc0 : l0.length ≤ c0) (h : spec_validForm.f k l0 a1 a2 a3 = some r) :
  Calls Try.prog 78 #[.slice A0 l0.length c0, .int .i64 a1, .int .i64 a2, .int .i64 a3] w fun e w' => e = .returned (.bool r) ∧ Below w.heap.size w w' := by
 have bI := Try.underlying116; have a5 := A_ bH; have bP := A_ hc0; clear bH hc0; have HB := A_ (Below.refl w.heap.size w); have H := h; unfold spec_validForm.f at H; clear h
 by_cases c5 : (l0.length : Int) > 9
 ·rw [if_pos c5] at H
  have a7 : decide (9 < (l0.length : Int)) = true := dt c5; have a8 : decide (9 < l0.length) = true := dt (by omega); clear c5; obtain rfl := Option.some.inj H
  go_enter Try.func78, Try.ntmps78
  go_wp2
  go_ret
  exact ⟨Z11, Z2⟩
 ·rw [if_neg c5] at H
  have a7 : decide (9 < (l0.length : Int)) = false := df c5; have a8 : decide (9 < l0.length) = false := df (by omega); clear c5; have H' := A_ H; clear H
  go_enter Try.func78, Try.ntmps78
  go_wp2
  go_loopg [9, 10] k (fun kq v9 bM w' => ∃ (aV : Int) (aA : Int), v9 = .int .i64 aV ∧ bM = .int .i64 aA ∧ Aside0 (spec_validForm.l0 kq l0 a1 a2 a3 aV aA = some r) ∧ Aside0 (kq ≤ k) ∧ Aside0 (Below w.heap.size w w'))
  case atStart => exact ⟨(0), (0), Z26, Z26, H', ⟨Nat.le_refl _⟩, ⟨Z2⟩⟩
  case round =>
   clear H'; try clear c5
   try clear a7
   try clear a8
   obtain ⟨aV, aA, rfl, rfl, HA, bJ, HB⟩ := hrel
   cases gk with
   | zero => exact absurd HA.out (by simp [spec_validForm.l0])
   | succ k1 =>
    have H := HA.out; clear HA; simp only [spec_validForm.l0] at H
    by_cases c6 : aA < (l0.length : Int)
    ·rw [if_pos c6] at H
     have bE := dt c6; clear c6
     by_cases c7 : 0 ≤ aA
     ·rw [if_pos c7] at H
      have bN := dt c7; clear c7; replace H := bS H; obtain ⟨bF, bK, H⟩ := H
      try dsimp only at H
      have A8 := A_ bK; clear bK
      by_cases c9 : bF = true
      ·subst c9
       rw [if_pos rfl] at H; replace H := bS H; obtain ⟨aY, a9, H⟩ := H
       try dsimp only at H
       have bL := A_ a9; clear a9
       by_cases a6 : aV < aY
       ·rw [if_pos a6] at H
        have bA := dt a6; clear a6; obtain rfl := Option.some.inj H; have aL : 0 ≤ (aA : Int) := odt; have aM : aA < (l0.length : Int) := odt; obtain ⟨aN, aW, aB, aC, aD, aE, aF⟩ := at_T116 a5.out aA aL aM; cases aW; replace aB := ZC HB.out aB; replace aC := ZC HB.out aC; replace aD := ZC HB.out aD; replace aE := ZC HB.out aE; replace aF := ZC HB.out aF; replace aL := eq_true aL; replace aM := eq_true aM
        go_wp2_with (first | ((with_reducible refine gate_callee (f := 93) rfl ?_); refine gL 27 Try.func93 #[.agg #[.int .i64 ((rd_T116 l0 aA).f0), .int .i64 ((rd_T116 l0 aA).f1), .int .i64 ((rd_T116 l0 aA).f2.f0), .int .i64 ((rd_T116 l0 aA).f2.f1), .string ((rd_T116 l0 aA).f2.f2)], .int .i64 a1, .int .i64 a2, .int .i64 a3] ?_; (with_reducible refine (spec_validStep.calls k1 ((rd_T116 l0 aA).f0) ((rd_T116 l0 aA).f1) ((rd_T116 l0 aA).f2.f0) ((rd_T116 l0 aA).f2.f1) ((rd_T116 l0 aA).f2.f2) a1 a2 a3 true _ A8.out).mono ?_); rintro e bQ ⟨rfl, hb⟩; refine ⟨_, rfl, ?_⟩; replace HB := A_ (bst Z2 hb); (try clear hb); have aO : 0 ≤ (aA : Int) := odt; have aP : aA < (l0.length : Int) := odt; obtain ⟨aX, aZ, aG, aH, aI, aJ, aK⟩ := at_T116 a5.out aA aO aP; obtain rfl : aN = aX := (by injection aZ); replace aG := ZC HB.out aG; replace aH := ZC HB.out aH; replace aI := ZC HB.out aI; replace aJ := ZC HB.out aJ; replace aK := ZC HB.out aK; replace aO := eq_true aO; replace aP := eq_true aP) | (go_at_call 94; (with_reducible refine (spec_takes.calls ((rd_T116 l0 aA).f0) ((rd_T116 l0 aA).f1) ((rd_T116 l0 aA).f2.f0) ((rd_T116 l0 aA).f2.f1) ((rd_T116 l0 aA).f2.f2) aY _ bL.out).mono ?_); rintro e bR ⟨rfl, hb⟩; replace HB := A_ (bst Z2 hb); (try clear hb)))
        go_ret
        exact ⟨Z11, Z2⟩
       ·rw [if_neg a6] at H
        have bA := df a6; clear a6; replace H := bS H; obtain ⟨bB, bC, H⟩ := H
        try dsimp only at H
        have bO := A_ bC; clear bC; have H' := A_ H; clear H; have aL : 0 ≤ (aA : Int) := odt; have aM : aA < (l0.length : Int) := odt; obtain ⟨aN, aW, aB, aC, aD, aE, aF⟩ := at_T116 a5.out aA aL aM; cases aW; replace aB := ZC HB.out aB; replace aC := ZC HB.out aC; replace aD := ZC HB.out aD; replace aE := ZC HB.out aE; replace aF := ZC HB.out aF; replace aL := eq_true aL; replace aM := eq_true aM
        go_wp2_with (first | ((with_reducible refine gate_callee (f := 93) rfl ?_); refine gL 27 Try.func93 #[.agg #[.int .i64 ((rd_T116 l0 aA).f0), .int .i64 ((rd_T116 l0 aA).f1), .int .i64 ((rd_T116 l0 aA).f2.f0), .int .i64 ((rd_T116 l0 aA).f2.f1), .string ((rd_T116 l0 aA).f2.f2)], .int .i64 a1, .int .i64 a2, .int .i64 a3] ?_; (with_reducible refine (spec_validStep.calls k1 ((rd_T116 l0 aA).f0) ((rd_T116 l0 aA).f1) ((rd_T116 l0 aA).f2.f0) ((rd_T116 l0 aA).f2.f1) ((rd_T116 l0 aA).f2.f2) a1 a2 a3 true _ A8.out).mono ?_); rintro e bT ⟨rfl, hb⟩; refine ⟨_, rfl, ?_⟩; replace HB := A_ (bst Z2 hb); (try clear hb); have aO : 0 ≤ (aA : Int) := odt; have aP : aA < (l0.length : Int) := odt; obtain ⟨aX, aZ, aG, aH, aI, aJ, aK⟩ := at_T116 a5.out aA aO aP; obtain rfl : aN = aX := (by injection aZ); replace aG := ZC HB.out aG; replace aH := ZC HB.out aH; replace aI := ZC HB.out aI; replace aJ := ZC HB.out aJ; replace aK := ZC HB.out aK; replace aO := eq_true aO; replace aP := eq_true aP) | (go_at_call 94; (with_reducible refine (spec_takes.calls ((rd_T116 l0 aA).f0) ((rd_T116 l0 aA).f1) ((rd_T116 l0 aA).f2.f0) ((rd_T116 l0 aA).f2.f1) ((rd_T116 l0 aA).f2.f2) aY _ bL.out).mono ?_); rintro e bU ⟨rfl, hb⟩; replace HB := A_ (bst Z2 hb); (try clear hb); have a0 : 0 ≤ (aA : Int) := odt; have a4 : aA < (l0.length : Int) := odt; obtain ⟨bD, bG, aQ, aR, aS, aT, aU⟩ := at_T116 a5.out aA a0 a4; obtain rfl : aN = bD := (by injection bG); replace aQ := ZC HB.out aQ; replace aR := ZC HB.out aR; replace aS := ZC HB.out aS; replace aT := ZC HB.out aT; replace aU := ZC HB.out aU; replace a0 := eq_true a0; replace a4 := eq_true a4) | ((with_reducible refine gate_callee (f := 94) rfl ?_); refine gL 43 Try.func94 #[.agg #[.int .i64 ((rd_T116 l0 aA).f0), .int .i64 ((rd_T116 l0 aA).f1), .int .i64 ((rd_T116 l0 aA).f2.f0), .int .i64 ((rd_T116 l0 aA).f2.f1), .string ((rd_T116 l0 aA).f2.f2)]] ?_; (with_reducible refine (spec_takes.calls ((rd_T116 l0 aA).f0) ((rd_T116 l0 aA).f1) ((rd_T116 l0 aA).f2.f0) ((rd_T116 l0 aA).f2.f1) ((rd_T116 l0 aA).f2.f2) bB _ bO.out).mono ?_); rintro e bV ⟨rfl, hb⟩; refine ⟨_, rfl, ?_⟩; replace HB := A_ (bst Z2 hb); (try clear hb)))
        go_roundg k1
        case measure => have := bJ.out; omega
        case rel => exact ⟨(wrap64 ((wrap64 (aV - bB)) + 1)), (wrap64 (aA + 1)), Z26, Z26, H', ⟨by have := bJ.out; omega⟩, ⟨Z2⟩⟩
      ·replace c9 := Bool.eq_false_iff.mpr c9
       subst c9; rw [if_neg (show ¬ (false = true) by decide)] at H; obtain rfl := Option.some.inj H; have aL : 0 ≤ (aA : Int) := odt; have aM : aA < (l0.length : Int) := odt; obtain ⟨aN, aW, aB, aC, aD, aE, aF⟩ := at_T116 a5.out aA aL aM; cases aW; replace aB := ZC HB.out aB; replace aC := ZC HB.out aC; replace aD := ZC HB.out aD; replace aE := ZC HB.out aE; replace aF := ZC HB.out aF; replace aL := eq_true aL; replace aM := eq_true aM
       go_wp2_with (first | ((with_reducible refine gate_callee (f := 93) rfl ?_); refine gL 27 Try.func93 #[.agg #[.int .i64 ((rd_T116 l0 aA).f0), .int .i64 ((rd_T116 l0 aA).f1), .int .i64 ((rd_T116 l0 aA).f2.f0), .int .i64 ((rd_T116 l0 aA).f2.f1), .string ((rd_T116 l0 aA).f2.f2)], .int .i64 a1, .int .i64 a2, .int .i64 a3] ?_; (with_reducible refine (spec_validStep.calls k1 ((rd_T116 l0 aA).f0) ((rd_T116 l0 aA).f1) ((rd_T116 l0 aA).f2.f0) ((rd_T116 l0 aA).f2.f1) ((rd_T116 l0 aA).f2.f2) a1 a2 a3 false _ A8.out).mono ?_); rintro e bW ⟨rfl, hb⟩; refine ⟨_, rfl, ?_⟩; replace HB := A_ (bst Z2 hb); (try clear hb)))
       go_ret
       exact ⟨Z11, Z2⟩
     ·rw [if_neg c7] at H
      exact absurd H (by simp)
    ·rw [if_neg c6] at H
     have bE := df c6; clear c6; obtain rfl := Option.some.inj H
     go_wp2
     go_ret
     exact ⟨Z11, Z2⟩
def spec_validUpdate.f (k : Nat) (aA : List (S96)) (aB : Int) (aC : List (S116)) (aD : Int) : Option (Bool) := (spec_validPlace.f k aA).bind fun aE => (if aE = true then ((spec_inRange.f aB 0 2).bind fun aF => (if aF = true then ((spec_inRange.f aD (-1) 2).bind fun aG => (if aG = true then ((spec_validForm.f k aC 0 3 0).bind fun aH => (some aH)) else (some false))) else (some false))) else (some false))
theorem spec_validUpdate.calls (k : Nat) (aE : Option Addr) (aF : Nat) (aC : List (S96)) (aH : Int) (aL : Option Addr) (aM : Nat) (aG : List (S116)) (aI : Int) (r : Bool) (w : World) (aO : Kd.C k96 w aE aC.length aC) (aP : aC.length ≤ aF) (aQ : Kd.C k116 w aL aG.length aG) (aR : aG.length ≤ aM) (h : spec_validUpdate.f k aC aH aG aI = some r) :
  Calls Try.prog 53 #[.agg #[.slice aE aC.length aF, .int .i64 aH, .slice aL aG.length aM, .int .i64 aI]] w fun e w' => e = .returned (.bool r) ∧ Below w.heap.size w w' := by
 have cN := Try.underlying77; have aJ := A_ aO; have aK := A_ aP; clear aO aP; have aS := A_ aQ; have aT := A_ aR; clear aQ aR; have HB := A_ (Below.refl w.heap.size w); have H := h; unfold spec_validUpdate.f at H; clear h; replace H := bS H; obtain ⟨cF, cJ, H⟩ := H
 try dsimp only at H
 have A2 := A_ cJ; clear cJ
 by_cases c3 : cF = true
 ·subst c3
  rw [if_pos rfl] at H; replace H := bS H; obtain ⟨cG, cK, H⟩ := H
  try dsimp only at H
  have A4 := A_ cK; clear cK
  by_cases c5 : cG = true
  ·subst c5
   rw [if_pos rfl] at H; replace H := bS H; obtain ⟨cH, cL, H⟩ := H
   try dsimp only at H
   have A6 := A_ cL; clear cL
   by_cases c7 : cH = true
   ·subst c7
    rw [if_pos rfl] at H; replace H := bS H; obtain ⟨cI, cM, H⟩ := H
    try dsimp only at H
    have A8 := A_ cM; clear cM; obtain rfl := Option.some.inj H
    go_enter Try.func53, Try.ntmps53
    go_wp2_with (first | ((with_reducible refine gate_dst (N := 1) rfl ?_); refine be (cs := #[.slice aE aC.length aF, .int .i64 aH, .slice aL aG.length aM, .int .i64 aI]) (t := 77) ?_; intro aN hg w9 hbox hb; have aA := A_ hbox; have aD := A_ (gl hg (bz Z2)); have aB := aD; replace HB := A_ (bst Z2 hb); clear hb hbox hg; obtain ⟨aU, aV, aW, aX, aY, aZ, a0, a1⟩ := C4 aA.out) | ((with_reducible refine gate_callee (f := 48) rfl ?_); refine gL 5 Try.func48 #[.slice aE aC.length aF] ?_; (with_reducible refine (spec_validPlace.calls k _ _ aC true _ ?s1 aK.out A2.out).mono ?_); (case s1 => exact Z5 aJ.out); rintro e cO ⟨rfl, hb⟩; refine ⟨_, rfl, ?_⟩; replace aA := A_ (bb (Z0 aA.out) hb); replace HB := A_ (bst (Z3 aB.out) hb); (try clear hb); obtain ⟨a2, a3, a4, a5, a6, a7, a8, a9⟩ := C4 aA.out) | (go_at_call 77; (with_reducible refine (spec_inRange.calls aH 0 2 true _ A4.out).mono ?_); rintro e w' ⟨rfl, ⟨nd, rfl⟩⟩) | (go_at_call 77; (with_reducible refine (spec_inRange.calls aI (-1) 2 true _ A6.out).mono ?_); rintro e w' ⟨rfl, ⟨nd, rfl⟩⟩) | (go_at_call 78; (with_reducible refine (spec_validForm.calls k _ _ aG 0 3 0 cI _ ?s1 aT.out A8.out).mono ?_); (case s1 => repeat (first | exact (Kd.C_below aS.out (Z3 aB.out)) | (with_reducible refine Kd.C_alloc ?_ _) | (with_reducible refine Kd.C_drewN ?_ _) | (with_reducible refine Kd.C_drew ?_))); rintro e cP ⟨rfl, hb⟩; replace aA := A_ (bb (Z0 aA.out) hb); replace HB := A_ (bst (Z3 aB.out) hb); (try clear hb)))
    go_ret
    exact ⟨Z11, Z3 aB.out⟩
   ·replace c7 := Bool.eq_false_iff.mpr c7
    subst c7; rw [if_neg (show ¬ (false = true) by decide)] at H; obtain rfl := Option.some.inj H
    go_enter Try.func53, Try.ntmps53
    go_wp2_with (first | ((with_reducible refine gate_dst (N := 1) rfl ?_); refine be (cs := #[.slice aE aC.length aF, .int .i64 aH, .slice aL aG.length aM, .int .i64 aI]) (t := 77) ?_; intro aN hg cQ hbox hb; have aA := A_ hbox; have aD := A_ (gl hg (bz Z2)); have aB := aD; replace HB := A_ (bst Z2 hb); clear hb hbox hg; obtain ⟨bA, bB, bC, bD, bE, bF, bG, bH⟩ := C4 aA.out) | ((with_reducible refine gate_callee (f := 48) rfl ?_); refine gL 5 Try.func48 #[.slice aE aC.length aF] ?_; (with_reducible refine (spec_validPlace.calls k _ _ aC true _ ?s1 aK.out A2.out).mono ?_); (case s1 => exact Z5 aJ.out); rintro e cR ⟨rfl, hb⟩; refine ⟨_, rfl, ?_⟩; replace aA := A_ (bb (Z0 aA.out) hb); replace HB := A_ (bst (Z3 aB.out) hb); (try clear hb); obtain ⟨bI, bJ, bK, bL, bM, bN, bO, bP⟩ := C4 aA.out) | (go_at_call 77; (with_reducible refine (spec_inRange.calls aH 0 2 true _ A4.out).mono ?_); rintro e w' ⟨rfl, ⟨nd, rfl⟩⟩) | (go_at_call 77; (with_reducible refine (spec_inRange.calls aI (-1) 2 false _ A6.out).mono ?_); rintro e w' ⟨rfl, ⟨nd, rfl⟩⟩))
    go_ret
    exact ⟨Z11, Z3 aB.out⟩
  ·replace c5 := Bool.eq_false_iff.mpr c5
   subst c5; rw [if_neg (show ¬ (false = true) by decide)] at H; obtain rfl := Option.some.inj H
   go_enter Try.func53, Try.ntmps53
   go_wp2_with (first | ((with_reducible refine gate_dst (N := 1) rfl ?_); refine be (cs := #[.slice aE aC.length aF, .int .i64 aH, .slice aL aG.length aM, .int .i64 aI]) (t := 77) ?_; intro aN hg cS hbox hb; have aA := A_ hbox; have aD := A_ (gl hg (bz Z2)); have aB := aD; replace HB := A_ (bst Z2 hb); clear hb hbox hg; obtain ⟨bQ, bR, bT, bU, bV, bW, bX, bY⟩ := C4 aA.out) | ((with_reducible refine gate_callee (f := 48) rfl ?_); refine gL 5 Try.func48 #[.slice aE aC.length aF] ?_; (with_reducible refine (spec_validPlace.calls k _ _ aC true _ ?s1 aK.out A2.out).mono ?_); (case s1 => exact Z5 aJ.out); rintro e cT ⟨rfl, hb⟩; refine ⟨_, rfl, ?_⟩; replace aA := A_ (bb (Z0 aA.out) hb); replace HB := A_ (bst (Z3 aB.out) hb); (try clear hb); obtain ⟨bZ, b0, b1, b2, b3, b4, b5, b6⟩ := C4 aA.out) | (go_at_call 77; (with_reducible refine (spec_inRange.calls aH 0 2 false _ A4.out).mono ?_); rintro e w' ⟨rfl, ⟨nd, rfl⟩⟩))
   go_ret
   exact ⟨Z11, Z3 aB.out⟩
 ·replace c3 := Bool.eq_false_iff.mpr c3
  subst c3; rw [if_neg (show ¬ (false = true) by decide)] at H; obtain rfl := Option.some.inj H
  go_enter Try.func53, Try.ntmps53
  go_wp2_with (first | ((with_reducible refine gate_dst (N := 1) rfl ?_); refine be (cs := #[.slice aE aC.length aF, .int .i64 aH, .slice aL aG.length aM, .int .i64 aI]) (t := 77) ?_; intro aN hg cU hbox hb; have aA := A_ hbox; have aD := A_ (gl hg (bz Z2)); have aB := aD; replace HB := A_ (bst Z2 hb); clear hb hbox hg; obtain ⟨b7, b8, b9, cA, cB, cC, cD, cE⟩ := C4 aA.out) | ((with_reducible refine gate_callee (f := 48) rfl ?_); refine gL 5 Try.func48 #[.slice aE aC.length aF] ?_; (with_reducible refine (spec_validPlace.calls k _ _ aC false _ ?s1 aK.out A2.out).mono ?_); (case s1 => exact Z5 aJ.out); rintro e cV ⟨rfl, hb⟩; refine ⟨_, rfl, ?_⟩; replace aA := A_ (bb (Z0 aA.out) hb); replace HB := A_ (bst (Z3 aB.out) hb); (try clear hb)))
  go_ret
  exact ⟨Z11, Z3 aB.out⟩
def spec_validUpdates.l0 : Nat → List (S77) → Int → Option (Bool)
 | 0, _, _ => none
 | k + 1, x0, x3 => if x3 < (x0.length : Int) then (if 0 ≤ x3 then ((spec_validUpdate.f k ((rd_T77 x0 x3).f0) ((rd_T77 x0 x3).f1) ((rd_T77 x0 x3).f2) ((rd_T77 x0 x3).f3)).bind fun aA => (if aA = true then (spec_validUpdates.l0 k x0 (wrap64 (x3 + 1))) else (some false))) else (none)) else (some true)
def spec_validUpdates.f (k : Nat) (l0 : List (S77)) : Option (Bool) := if (l0.length : Int) > 40 then (some false) else (spec_validUpdates.l0 k l0 0)
theorem spec_validUpdates.calls (k : Nat) (A0 : Option Addr) (c0 : Nat) (l0 : List (S77)) (r : Bool) (w : World) (aZ : Kd.C k77 w A0 l0.length l0) (hc0 : l0.length ≤ c0) (h : spec_validUpdates.f k l0 = some r) :
  Calls Try.prog 25 #[.slice A0 l0.length c0] w fun e w' => e = .returned (.bool r) ∧ Below w.heap.size w w' := by
 have a3 := Try.underlying77; have a0 := A_ aZ; have a5 := A_ hc0; clear aZ hc0; have HB := A_ (Below.refl w.heap.size w); have H := h; unfold spec_validUpdates.f at H; clear h
 by_cases c2 : (l0.length : Int) > 40
 ·rw [if_pos c2] at H
  have aU : decide (40 < (l0.length : Int)) = true := dt c2; have aV : decide (40 < l0.length) = true := dt (by omega); clear c2; obtain rfl := Option.some.inj H
  go_enter Try.func25, Try.ntmps25
  go_wp2
  go_ret
  exact ⟨Z11, Z2⟩
 ·rw [if_neg c2] at H
  have aU : decide (40 < (l0.length : Int)) = false := df c2; have aV : decide (40 < l0.length) = false := df (by omega); clear c2; have H' := A_ H; clear H
  go_enter Try.func25, Try.ntmps25
  go_wp2
  go_loopg [3] k (fun kq v3 w' => ∃ (aA : Int), v3 = .int .i64 aA ∧ Aside0 (spec_validUpdates.l0 kq l0 aA = some r) ∧ Aside0 (kq ≤ k) ∧ Aside0 (Below w.heap.size w w'))
  case atStart => exact ⟨(0), Z26, H', ⟨Nat.le_refl _⟩, ⟨Z2⟩⟩
  case round =>
   clear H'; try clear c2
   try clear aU
   try clear aV
   obtain ⟨aA, rfl, HA, a1, HB⟩ := hrel
   cases gk with
   | zero => exact absurd HA.out (by simp [spec_validUpdates.l0])
   | succ k1 =>
    have H := HA.out; clear HA; simp only [spec_validUpdates.l0] at H
    by_cases c3 : aA < (l0.length : Int)
    ·rw [if_pos c3] at H
     have aX := dt c3; clear c3
     by_cases c4 : 0 ≤ aA
     ·rw [if_pos c4] at H
      have a4 := dt c4; clear c4; replace H := bS H; obtain ⟨aY, a2, H⟩ := H
      try dsimp only at H
      have A5 := A_ a2; clear a2
      by_cases c6 : aY = true
      ·subst c6
       rw [if_pos rfl] at H; have H' := A_ H; clear H; have aN : 0 ≤ (aA : Int) := odt; have aO : aA < (l0.length : Int) := odt; obtain ⟨aW, aP, aQ, aR, aS, aT, aB, aC, aD, aE, aF, aG, aH, aI⟩ := at_T77 a0.out aA aN aO; cases aT; replace aB := ZC HB.out aB; replace aC := ZC HB.out aC; replace aD := ZC HB.out aD; replace aE := ZC HB.out aE; have aJ := A_ aG; have aK := A_ aF; clear aG aF; have aL := A_ aI; have aM := A_ aH; clear aI aH; replace aN := eq_true aN; replace aO := eq_true aO
       go_wp2_with (first | ((with_reducible refine gate_callee (f := 53) rfl ?_); refine gL 17 Try.func53 #[.agg #[.slice aP ((rd_T77 l0 aA).f0).length aQ, .int .i64 ((rd_T77 l0 aA).f1), .slice aR ((rd_T77 l0 aA).f2).length aS, .int .i64 ((rd_T77 l0 aA).f3)]] ?_; (with_reducible refine (spec_validUpdate.calls k1 _ _ ((rd_T77 l0 aA).f0) ((rd_T77 l0 aA).f1) _ _ ((rd_T77 l0 aA).f2) ((rd_T77 l0 aA).f3) true _ ?s1 aK.out ?s3 aM.out A5.out).mono ?_); (case s1 => exact Z5 aJ.out); (case s3 => exact Z5 aL.out); rintro e w7 ⟨rfl, hb⟩; refine ⟨_, rfl, ?_⟩; replace HB := A_ (bst Z2 hb); (try clear hb)))
       go_roundg k1
       case measure => have := a1.out; omega
       case rel => exact ⟨(wrap64 (aA + 1)), Z26, H', ⟨by have := a1.out; omega⟩, ⟨Z2⟩⟩
      ·replace c6 := Bool.eq_false_iff.mpr c6
       subst c6; rw [if_neg (show ¬ (false = true) by decide)] at H; obtain rfl := Option.some.inj H; have aN : 0 ≤ (aA : Int) := odt; have aO : aA < (l0.length : Int) := odt; obtain ⟨aW, aP, aQ, aR, aS, aT, aB, aC, aD, aE, aF, aG, aH, aI⟩ := at_T77 a0.out aA aN aO; cases aT; replace aB := ZC HB.out aB; replace aC := ZC HB.out aC; replace aD := ZC HB.out aD; replace aE := ZC HB.out aE; have aJ := A_ aG; have aK := A_ aF; clear aG aF; have aL := A_ aI; have aM := A_ aH; clear aI aH; replace aN := eq_true aN; replace aO := eq_true aO
       go_wp2_with (first | ((with_reducible refine gate_callee (f := 53) rfl ?_); refine gL 17 Try.func53 #[.agg #[.slice aP ((rd_T77 l0 aA).f0).length aQ, .int .i64 ((rd_T77 l0 aA).f1), .slice aR ((rd_T77 l0 aA).f2).length aS, .int .i64 ((rd_T77 l0 aA).f3)]] ?_; (with_reducible refine (spec_validUpdate.calls k1 _ _ ((rd_T77 l0 aA).f0) ((rd_T77 l0 aA).f1) _ _ ((rd_T77 l0 aA).f2) ((rd_T77 l0 aA).f3) false _ ?s1 aK.out ?s3 aM.out A5.out).mono ?_); (case s1 => exact Z5 aJ.out); (case s3 => exact Z5 aL.out); rintro e w8 ⟨rfl, hb⟩; refine ⟨_, rfl, ?_⟩; replace HB := A_ (bst Z2 hb); (try clear hb)))
       go_ret
       exact ⟨Z11, Z2⟩
     ·exact Z84
    ·rw [if_neg c3] at H
     have aX := df c3; clear c3; obtain rfl := Option.some.inj H
     go_wp2
     go_ret
     exact ⟨Z11, Z2⟩
def spec_applies.f (k : Nat) (l0 : List (S98)) (aD : List (S96)) (aA : Int) (aB : List (S116)) (aE : Int) : Option (Bool) := if aA < (l0.length : Int) then ((spec_validForm.f k aB 0 (l0.length : Int) 0).bind fun aC => (some aC)) else (some false)
theorem spec_applies.calls (k : Nat) (A0 : Option Addr) (c0 : Nat) (l0 : List (S98)) (aG : Option Addr) (aH : Nat) (aC : List (S96)) (aE : Int) (aI : Option Addr) (aJ : Nat) (aA : List (S116)) (aK : Int) (r : Bool) (w : World) (bA : Kd.C k98 w A0 l0.length l0) (hc0 : l0.length ≤ c0) (aL : Kd.C k96 w aG aC.length aC) (aM : aC.length ≤ aH) (aN : Kd.C k116 w aI aA.length aA) (aO : aA.length ≤ aJ) (h : spec_applies.f k l0 aC aE aA aK = some r) :
  Calls Try.prog 106 #[.slice A0 l0.length c0, .agg #[.slice aG aC.length aH, .int .i64 aE, .slice aI aA.length aJ, .int .i64 aK]] w fun e w' => e = .returned (.bool r) ∧ Below w.heap.size w w' := by
 have bE := Try.underlying77; have bF := A_ bA; have bG := A_ hc0; clear bA hc0; have bB := A_ aL; have bC := A_ aM; clear aL aM; have aP := A_ aN; have aQ := A_ aO; clear aN aO; have HB := A_ (Below.refl w.heap.size w); have H := h; unfold spec_applies.f at H; clear h
 by_cases c3 : aE < (l0.length : Int)
 ·rw [if_pos c3] at H
  have aS := dt c3; clear c3; replace H := bS H; obtain ⟨aT, bD, H⟩ := H
  try dsimp only at H
  have A4 := A_ bD; clear bD; obtain rfl := Option.some.inj H
  go_enter Try.func106, Try.ntmps106
  go_wp2_with (first | ((with_reducible refine gate_dst (N := 3) rfl ?_); (try (refine gate_guard (by rfl) ?_; dsimp only)); refine be (cs := #[.slice aG aC.length aH, .int .i64 aE, .slice aI aA.length aJ, .int .i64 aK]) (t := 77) ?_; intro aR hg w5 hbox hb; have aB := A_ hbox; have aF := A_ (gl hg (bz Z2)); have aD := aF; replace HB := A_ (bst Z2 hb); clear hb hbox hg; obtain ⟨aU, aV, aW, aX, aY, aZ, a0, a1⟩ := C4 aB.out) | (go_at_call 78; (with_reducible refine (spec_validForm.calls k _ _ aA 0 (l0.length : Int) 0 aT _ ?s1 aQ.out A4.out).mono ?_); (case s1 => exact Z5 aP.out); rintro e w7 ⟨rfl, hb⟩; replace aB := A_ (bb (Z0 aB.out) hb); replace HB := A_ (bst (Z3 aD.out) hb); (try clear hb)))
  go_ret
  exact ⟨Z11, Z3 aD.out⟩
 ·rw [if_neg c3] at H
  have aS := df c3; clear c3; obtain rfl := Option.some.inj H
  go_enter Try.func106, Try.ntmps106
  go_wp2_with (first | ((with_reducible refine gate_dst (N := 3) rfl ?_); (try (refine gate_guard (by rfl) ?_; dsimp only)); refine be (cs := #[.slice aG aC.length aH, .int .i64 aE, .slice aI aA.length aJ, .int .i64 aK]) (t := 77) ?_; intro aR hg w8 hbox hb; have aB := A_ hbox; have aF := A_ (gl hg (bz Z2)); have aD := aF; replace HB := A_ (bst Z2 hb); clear hb hbox hg; obtain ⟨a2, a3, a4, a5, a6, a7, a8, a9⟩ := C4 aB.out))
  go_ret
  exact ⟨Z11, Z3 aD.out⟩
def spec_truth.f (aC : Int) (aA : Int) (aB : ByteArray) : Option (Bool) := if aA = 0 then (some (aB.toList != ([] : List UInt8))) else (some true)
theorem spec_truth.calls (aF : Int) (aA : Int) (aB : ByteArray) (r : Bool) (w : World) (h : spec_truth.f aF aA aB = some r) :
  Calls Try.prog 110 #[.agg #[.int .i64 aF, .int .i64 aA, .string aB]] w fun e w' => e = .returned (.bool r) ∧ Below w.heap.size w w' := by
 have aV := Try.underlying98; have HB := A_ (Below.refl w.heap.size w); have H := h; unfold spec_truth.f at H; clear h
 by_cases c2 : aA = 0
 ·rw [if_pos c2] at H
  have aH : (aA == 0) = true := beq_iff_eq.mpr c2; have aI : (aA != 0) = false := bne_eq_false_iff_eq.mpr c2; clear c2; obtain rfl := Option.some.inj H
  go_enter Try.func110, Try.ntmps110
  go_wp2_with (first | ((with_reducible refine gate_dst (N := 1) rfl ?_); refine be (cs := #[.int .i64 aF, .int .i64 aA, .string aB]) (t := 98) ?_; intro aG hg w3 hbox hb; have aC := A_ hbox; have aD := A_ (gl hg (bz Z2)); have aE := aD; replace HB := A_ (bst Z2 hb); clear hb hbox hg; obtain ⟨aJ, aK, aL, aM, aN, aO⟩ := C3 aC.out))
  go_ret
  exact ⟨by first | rfl | (simp [errW_none, errW_some] <;> rfl) | (simp [*, errW_none, errW_some] <;> rfl) | (simp [errW_none, errW_some] <;> cases aB.toList <;> rfl), Z3 aE.out⟩
 ·rw [if_neg c2] at H
  have aH : (aA == 0) = false := beq_eq_false_iff_ne.mpr c2; have aI : (aA != 0) = true := bne_iff_ne.mpr c2; obtain rfl := Option.some.inj H
  go_enter Try.func110, Try.ntmps110
  go_wp2_with (first | ((with_reducible refine gate_dst (N := 1) rfl ?_); refine be (cs := #[.int .i64 aF, .int .i64 aA, .string aB]) (t := 98) ?_; intro aG hg w5 hbox hb; have aC := A_ hbox; have aD := A_ (gl hg (bz Z2)); have aE := aD; replace HB := A_ (bst Z2 hb); clear hb hbox hg; obtain ⟨aP, aQ, aR, aS, aT, aU⟩ := C3 aC.out))
  go_ret
  exact ⟨by first | rfl | (simp [errW_none, errW_some] <;> rfl) | (simp [*, errW_none, errW_some] <;> rfl) | (simp [errW_none, errW_some] <;> cases aB.toList <;> rfl), Z3 aE.out⟩
def spec_number.f (a0 : Int) : Option (Int × Int × ByteArray) := (spec_inRange.f a0 (-1000) 1000).bind fun aA => (if aA = true then (some (1, a0, (⟨#[]⟩ : ByteArray))) else (some (0, 0, (⟨#[]⟩ : ByteArray))))
theorem spec_number.calls (a0 : Int) (r1 : Int) (r2 : Int) (r3 : ByteArray) (w : World) (h : spec_number.f a0 = some (r1, r2, r3)) :
  Calls Try.prog 114 #[.int .i64 a0] w fun e w' => e = .returned (.agg #[.int .i64 r1, .int .i64 r2, .string r3]) ∧ Below w.heap.size w w' := by
 have aU := Try.underlying98; have HB := A_ (Below.refl w.heap.size w); have H := h; unfold spec_number.f at H; clear h; replace H := bS H; obtain ⟨aG, aT, H⟩ := H
 try dsimp only at H
 have A2 := A_ aT; clear aT
 by_cases c3 : aG = true
 ·subst c3
  rw [if_pos rfl] at H; simp only [Option.some.injEq, Prod.mk.injEq] at H; obtain ⟨rfl, rfl, rfl⟩ := H
  go_enter Try.func114, Try.ntmps114
  go_wp2_with (first | ((with_reducible refine gate_dst (N := 2) rfl ?_); refine be (cs := #[.int .i64 0, .int .i64 0, .string (⟨#[]⟩ : ByteArray)]) (t := 98) ?_; intro aB hg w4 hbox hb; have aA := A_ hbox; have aD := A_ (gl hg (bz Z2)); have aC := aD; replace HB := A_ (bst Z2 hb); clear hb hbox hg) | ((with_reducible refine gate_callee (f := 77) rfl ?_); refine gL 4 Try.func77 #[.int .i64 a0, .int .i64 (-1000), .int .i64 1000] ?_; (with_reducible refine (spec_inRange.calls a0 (-1000) 1000 true _ A2.out).mono ?_); rintro e w' ⟨rfl, ⟨nd, rfl⟩⟩; refine ⟨_, rfl, ?_⟩; (try (rw [drewN_self w4]; generalize hq_ : World.drewN w4 _ = w4; have aE : Aside0 (w4.heap[aB]? = some (.cells #[.int .i64 0, .int .i64 0, .string (⟨#[]⟩ : ByteArray)] 98 (0, 0))) := ⟨by rw [← hq_]; exact (Z0 aA.out)⟩; have aF : Aside0 (Below w.heap.size w w4) := ⟨by rw [← hq_]; exact (Z3 aC.out)⟩; clear aA HB hq_; have aA := aE; have HB := aF; clear aE aF)); obtain ⟨aH, aI, aJ, aK, aL, aM⟩ := C3 aA.out))
  refine bodyPost_ret (results_cell_row rfl _ _ aB 98 #[.int .i64 1, .int .i64 a0, .string (⟨#[]⟩ : ByteArray)] (0, 0) _ rfl (bp0 aA.out) Try.underlying98 rfl (by kernel_rfl)) rfl ?_
  exact ⟨Z11, Z3 aC.out⟩
 ·replace c3 := Bool.eq_false_iff.mpr c3
  subst c3; rw [if_neg (show ¬ (false = true) by decide)] at H; simp only [Option.some.injEq, Prod.mk.injEq] at H; obtain ⟨rfl, rfl, rfl⟩ := H
  go_enter Try.func114, Try.ntmps114
  go_wp2_with (first | ((with_reducible refine gate_dst (N := 2) rfl ?_); refine be (cs := #[.int .i64 0, .int .i64 0, .string (⟨#[]⟩ : ByteArray)]) (t := 98) ?_; intro aB hg w6 hbox hb; have aA := A_ hbox; have aD := A_ (gl hg (bz Z2)); have aC := aD; replace HB := A_ (bst Z2 hb); clear hb hbox hg) | ((with_reducible refine gate_callee (f := 77) rfl ?_); refine gL 4 Try.func77 #[.int .i64 a0, .int .i64 (-1000), .int .i64 1000] ?_; (with_reducible refine (spec_inRange.calls a0 (-1000) 1000 false _ A2.out).mono ?_); rintro e w' ⟨rfl, ⟨nd, rfl⟩⟩; refine ⟨_, rfl, ?_⟩; (try (rw [drewN_self w6]; generalize hq_ : World.drewN w6 _ = w6; have aE : Aside0 (w6.heap[aB]? = some (.cells #[.int .i64 0, .int .i64 0, .string (⟨#[]⟩ : ByteArray)] 98 (0, 0))) := ⟨by rw [← hq_]; exact (Z0 aA.out)⟩; have aF : Aside0 (Below w.heap.size w w6) := ⟨by rw [← hq_]; exact (Z3 aC.out)⟩; clear aA HB hq_; have aA := aE; have HB := aF; clear aE aF)); obtain ⟨aN, aO, aP, aQ, aR, aS⟩ := C3 aA.out))
  refine bodyPost_ret (results_cell_row rfl _ _ aB 98 #[.int .i64 0, .int .i64 0, .string (⟨#[]⟩ : ByteArray)] (0, 0) _ rfl (bp0 aA.out) Try.underlying98 rfl (by kernel_rfl)) rfl ?_
  exact ⟨Z11, Z3 aC.out⟩
end Go.Proofs.Ytgbbcebjgpoioaa.PFnHistRedo
