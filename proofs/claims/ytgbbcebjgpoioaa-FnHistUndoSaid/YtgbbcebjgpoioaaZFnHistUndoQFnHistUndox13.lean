/- Walks (lines of the print; no condition). -/
import Derived.Test.YtgbbcebjgpoioaaZFnHistUndoQFnHistUndox12
namespace Go.Proofs.Ytgbbcebjgpoioaa.PFnHistUndo
open Go.RowKit Go.Proofs.YtgbbcebjgpoioaaW.PrintWords Go.Proofs.YtgbbcebjgpoioaaW.PrintLast Go.Proofs.YtgbbcebjgpoioaaW.PrintMore
attribute [local go_sem] max2_int min2_int max_two min_two max_three min_three max_four min_four
set_option linter.unusedVariables false
set_option linter.unusedSimpArgs false
set_option maxHeartbeats 8000000
set_option maxRecDepth 100000
attribute [local go_sem high] eqA98
def spec_sameValues.l0 : Nat → List (S98) → List (S98) → Int → Option (Bool)
 | 0, _, _, _ => none
 | k + 1, x0, x1, x5 => if x5 < (x0.length : Int) then (if 0 ≤ x5 then (if x5 < (x1.length : Int) then (if (!(((rd_T98 x0 x5).f0) == ((rd_T98 x1 x5).f0)) || (!(((rd_T98 x0 x5).f1) == ((rd_T98 x1 x5).f1)) || (!((((rd_T98 x0 x5).f2).toList) == (((rd_T98 x1 x5).f2).toList))))) = true then (some false) else (spec_sameValues.l0 k x0 x1 (wrap64 (x5 + 1)))) else (none)) else (none)) else (some true)
def spec_sameValues.f (k : Nat) (l0 : List (S98)) (l1 : List (S98)) : Option (Bool) := if (l0.length : Int) = (l1.length : Int) then (spec_sameValues.l0 k l0 l1 0) else (some false)
theorem spec_sameValues.calls (k : Nat) (A0 : Option Addr) (c0 : Nat) (l0 : List (S98)) (A1 : Option Addr) (c1 : Nat) (l1 : List (S98)) (r : Bool) (w : World) (aU : Kd.C k98 w A0 l0.length l0) (hc0 : l0.length ≤ c0) (hr1 : Kd.C k98 w A1 l1.length l1) (aV : l1.length ≤ c1) (h : spec_sameValues.f k l0 l1 = some r) :
  Calls Try.prog 60 #[.slice A0 l0.length c0, .slice A1 l1.length c1] w fun e w' => e = .returned (.bool r) ∧ Drawn0 w w' := by
 have aZ := Try.underlying98; have aW := A_ aU; have a2 := A_ hc0; clear aU hc0; have aX := A_ hr1; have a3 := A_ aV; clear hr1 aV; have H := h; unfold spec_sameValues.f at H; clear h
 by_cases c3 : (l0.length : Int) = (l1.length : Int)
 ·rw [if_pos c3] at H
  have aN : ((l0.length : Int) == (l1.length : Int)) = true := beq_iff_eq.mpr c3; have aO : ((l0.length : Int) != (l1.length : Int)) = false := bne_eq_false_iff_eq.mpr c3
  have aP : (l0.length == l1.length) = true := by first | simpa using c3 | (simp at c3 ⊢; omega)
  clear c3; have H' := A_ H; clear H
  go_enter Try.func60, Try.ntmps60
  go_wp2
  repeat (go_quiet (fail); try go_wp2)
  go_loopg [5] k (fun kq v5 w' => ∃ (aA : Int), v5 = .int .i64 aA ∧ Aside0 (spec_sameValues.l0 kq l0 l1 aA = some r) ∧ Aside0 (kq ≤ k) ∧ Drawn0 w w')
  case atStart => exact ⟨(0), Z26, H', ⟨Nat.le_refl _⟩, Z34⟩
  case round =>
   clear H'; try clear c1
   try clear c3
   try clear aN
   try clear aO
   try clear aP
   obtain ⟨aA, rfl, HA, aY, ⟨m1, rfl⟩⟩ := hrel
   cases gk with
   | zero => exact absurd HA.out (by simp [spec_sameValues.l0])
   | succ k1 =>
    have H := HA.out; clear HA; simp only [spec_sameValues.l0] at H
    by_cases c4 : aA < (l0.length : Int)
    ·rw [if_pos c4] at H
     have aS := dt c4; clear c4
     by_cases c5 : 0 ≤ aA
     ·rw [if_pos c5] at H
      have a0 := dt c5; clear c5
      by_cases c6 : aA < (l1.length : Int)
      ·rw [if_pos c6] at H
       have a1 := dt c6; clear c6
       by_cases c7 : (!(((rd_T98 l0 aA).f0) == ((rd_T98 l1 aA).f0)) || (!(((rd_T98 l0 aA).f1) == ((rd_T98 l1 aA).f1)) || (!((((rd_T98 l0 aA).f2).toList) == (((rd_T98 l1 aA).f2).toList))))) = true
       ·rw [if_pos c7] at H
        have aT : (!(((rd_T98 l0 aA).f0) == ((rd_T98 l1 aA).f0)) || (!(((rd_T98 l0 aA).f1) == ((rd_T98 l1 aA).f1)) || (!((((rd_T98 l0 aA).f2).toList) == (((rd_T98 l1 aA).f2).toList))))) = true := c7; clear c7; obtain rfl := Option.some.inj H; have aB : 0 ≤ (aA : Int) := odt; have aC : aA < (l0.length : Int) := odt; obtain ⟨aQ, aL, aF, aG, aH⟩ := at_T98 aW.out aA aB aC; cases aL; replace aB := eq_true aB; replace aC := eq_true aC; have aD : 0 ≤ (aA : Int) := odt; have aE : aA < (l1.length : Int) := odt; obtain ⟨aR, aM, aI, aJ, aK⟩ := at_T98 aX.out aA aD aE; cases aM; replace aD := eq_true aD; replace aE := eq_true aE
        go_wp2
        repeat (go_quiet (fail); try go_wp2)
        go_ret
        exact ⟨Z26, Z34⟩
       ·rw [if_neg c7] at H
        have aT : (!(((rd_T98 l0 aA).f0) == ((rd_T98 l1 aA).f0)) || (!(((rd_T98 l0 aA).f1) == ((rd_T98 l1 aA).f1)) || (!((((rd_T98 l0 aA).f2).toList) == (((rd_T98 l1 aA).f2).toList))))) = false := by simpa using c7
        clear c7; have H' := A_ H; clear H; have aB : 0 ≤ (aA : Int) := odt; have aC : aA < (l0.length : Int) := odt; obtain ⟨aQ, aL, aF, aG, aH⟩ := at_T98 aW.out aA aB aC; cases aL; replace aB := eq_true aB; replace aC := eq_true aC; have aD : 0 ≤ (aA : Int) := odt; have aE : aA < (l1.length : Int) := odt; obtain ⟨aR, aM, aI, aJ, aK⟩ := at_T98 aX.out aA aD aE; cases aM; replace aD := eq_true aD; replace aE := eq_true aE
        go_wp2
        repeat (go_quiet (fail); try go_wp2)
        go_roundg k1
        case measure => have := aY.out; omega
        case rel => exact ⟨(wrap64 (aA + 1)), Z26, H', ⟨by have := aY.out; omega⟩, Z34⟩
      ·rw [if_neg c6] at H
       exact absurd H (by simp)
     ·rw [if_neg c5] at H
      exact absurd H (by simp)
    ·rw [if_neg c4] at H
     have aS := df c4; clear c4; obtain rfl := Option.some.inj H
     go_wp2
     repeat (go_quiet (fail); try go_wp2)
     go_ret
     exact ⟨Z26, Z34⟩
 ·rw [if_neg c3] at H
  have aN : ((l0.length : Int) == (l1.length : Int)) = false := beq_eq_false_iff_ne.mpr c3; have aO : ((l0.length : Int) != (l1.length : Int)) = true := bne_iff_ne.mpr c3
  have aP : (l0.length == l1.length) = false := by first | simpa using c3 | (simp at c3 ⊢; omega)
  obtain rfl := Option.some.inj H
  go_enter Try.func60, Try.ntmps60
  go_wp2
  repeat (go_quiet (fail); try go_wp2)
  go_ret
  exact ⟨Z26, Z34⟩
def spec_sameStore.l0 : Nat → List (S72) → List (S72) → Int → Option (Bool)
 | 0, _, _, _ => none
 | k + 1, x0, x1, x5 => if x5 < (x0.length : Int) then (if 0 ≤ x5 then (if x5 < (x1.length : Int) then ((spec_comparePlaces.f k ((rd_T72 x0 x5).f0) ((rd_T72 x1 x5).f0)).bind fun aA => (if aA = 0 then ((spec_sameValues.f k ((rd_T72 x0 x5).f1) ((rd_T72 x1 x5).f1)).bind fun aB => (if aB = true then (spec_sameStore.l0 k x0 x1 (wrap64 (x5 + 1))) else (some false))) else (some false))) else (none)) else (none)) else (some true)
def spec_sameStore.f (k : Nat) (l0 : List (S72)) (l1 : List (S72)) : Option (Bool) := if (l0.length : Int) = (l1.length : Int) then (spec_sameStore.l0 k l0 l1 0) else (some false)
theorem spec_sameStore.calls (k : Nat) (A0 : Option Addr) (c0 : Nat) (l0 : List (S72)) (A1 : Option Addr) (c1 : Nat) (l1 : List (S72)) (r : Bool) (w : World) (cM : Kd.C k72 w A0 l0.length l0) (hc0 : l0.length ≤ c0) (hr1 : Kd.C k72 w A1 l1.length l1) (cN : l1.length ≤ c1) (h : spec_sameStore.f k l0 l1 = some r) :
  Calls Try.prog 32 #[.slice A0 l0.length c0, .slice A1 l1.length c1] w fun e w' => e = .returned (.bool r) ∧ Drawn0 w w' := by
 have cD := A_ cM; have cT := A_ hc0; clear cM hc0; have cE := A_ hr1; have cU := A_ cN; clear hr1 cN; have H := h; unfold spec_sameStore.f at H; clear h
 by_cases c3 : (l0.length : Int) = (l1.length : Int)
 ·rw [if_pos c3] at H
  have cF : ((l0.length : Int) == (l1.length : Int)) = true := beq_iff_eq.mpr c3; have cG : ((l0.length : Int) != (l1.length : Int)) = false := bne_eq_false_iff_eq.mpr c3
  have cH : (l0.length == l1.length) = true := by first | simpa using c3 | (simp at c3 ⊢; omega)
  clear c3; have H' := A_ H; clear H
  go_enter Try.func32, Try.ntmps32
  go_wp2
  repeat (go_quiet (fail); try go_wp2)
  go_loopg [5] k (fun kq v5 w' => ∃ (aA : Int), v5 = .int .i64 aA ∧ Aside0 (spec_sameStore.l0 kq l0 l1 aA = some r) ∧ Aside0 (kq ≤ k) ∧ Drawn0 w w')
  case atStart => exact ⟨(0), Z26, H', ⟨Nat.le_refl _⟩, Z34⟩
  case round =>
   clear H'; try clear c1
   try clear c3
   try clear cF
   try clear cG
   try clear cH
   obtain ⟨aA, rfl, HA, cO, ⟨m1, rfl⟩⟩ := hrel
   cases gk with
   | zero => exact absurd HA.out (by simp [spec_sameStore.l0])
   | succ k1 =>
    have H := HA.out; clear HA; simp only [spec_sameStore.l0] at H
    by_cases c4 : aA < (l0.length : Int)
    ·rw [if_pos c4] at H
     have cI := dt c4; clear c4
     by_cases c5 : 0 ≤ aA
     ·rw [if_pos c5] at H
      have cR := dt c5; clear c5
      by_cases c6 : aA < (l1.length : Int)
      ·rw [if_pos c6] at H
       have cS := dt c6; clear c6; replace H := bS H; obtain ⟨bD, cP, H⟩ := H
       try dsimp only at H
       have A7 := A_ cP; clear cP
       by_cases c8 : bD = 0
       ·rw [if_pos c8] at H
        have cJ : (bD == 0) = true := beq_iff_eq.mpr c8; have cK : (bD != 0) = false := bne_eq_false_iff_eq.mpr c8; clear c8; replace H := bS H; obtain ⟨cL, cQ, H⟩ := H
        try dsimp only at H
        have A9 := A_ cQ; clear cQ
        by_cases c10 : cL = true
        ·subst c10
         rw [if_pos rfl] at H; have H' := A_ H; clear H; have bK : 0 ≤ (aA : Int) := odt; have bL : aA < (l0.length : Int) := odt; obtain ⟨bI, b3, b4, b5, b6, b7, aZ, a0, a1, a2, a3, a4⟩ := at_T72 cD.out aA bK bL; cases b7; have aJ := A_ a2; have aK := A_ a1; clear a2 a1; have bZ := A_ a4; have b0 := A_ a3; clear a4 a3; replace bK := eq_true bK; replace bL := eq_true bL; have bM : 0 ≤ (aA : Int) := odt; have bN : aA < (l1.length : Int) := odt; obtain ⟨bJ, b8, b9, cA, cB, cC, a5, a6, a7, a8, a9, bA⟩ := at_T72 cE.out aA bM bN; cases cC; have aL := A_ a8; have aM := A_ a7; clear a8 a7; have b1 := A_ bA; have b2 := A_ a9; clear bA a9; replace bM := eq_true bM; replace bN := eq_true bN
         go_wp2_with (first | (go_at_call 59; (with_reducible refine (spec_comparePlaces.calls k1 _ _ ((rd_T72 l0 aA).f0) _ _ ((rd_T72 l1 aA).f0) bD _ ?s1 aK.out ?s3 aM.out A7.out).mono ?_); (case s1 => exact Z21 aJ.out); (case s3 => exact Z21 aL.out); rintro e w' ⟨rfl, ⟨nd, rfl⟩⟩; (try first | exact ⟨rfl, _, World.drewN_drewN _ _ _⟩ | exact ⟨rfl, _, Eq.trans (World.drewN_drewN _ _ _) (congrArg (World.drewN _) (Nat.add_assoc _ _ _))⟩); have aV : 0 ≤ (aA : Int) := odt; have aW : aA < (l0.length : Int) := odt; obtain ⟨bB, bO, bP, bQ, bR, bT, aN, aO, aB, aC, aD, aE⟩ := at_T72 cD.out aA aV aW; obtain rfl : bI = bB := (by injection bT); have bE := A_ aC; have bF := A_ aB; clear aC aB; have aP := A_ aE; have aQ := A_ aD; clear aE aD; replace aV := eq_true aV; replace aW := eq_true aW; have ea_ := Option.some.inj (aZ.symm.trans aN); injection ea_ with ea_ en_ ec_; subst ea_; subst ec_; clear en_; have ea_ := Option.some.inj (a0.symm.trans aO); injection ea_ with ea_ en_ ec_; subst ea_; subst ec_; clear en_; have aX : 0 ≤ (aA : Int) := odt; have aY : aA < (l1.length : Int) := odt; obtain ⟨bC, bU, bV, bW, bX, bY, aR, aS, aF, aG, aH, aI⟩ := at_T72 cE.out aA aX aY; obtain rfl : bJ = bC := (by injection bY); have bG := A_ aG; have bH := A_ aF; clear aG aF; have aT := A_ aI; have aU := A_ aH; clear aI aH; replace aX := eq_true aX; replace aY := eq_true aY; have ea_ := Option.some.inj (a5.symm.trans aR); injection ea_ with ea_ en_ ec_; subst ea_; subst ec_; clear en_; have ea_ := Option.some.inj (a6.symm.trans aS); injection ea_ with ea_ en_ ec_; subst ea_; subst ec_; clear en_) | (go_at_call 60; (with_reducible refine (spec_sameValues.calls k1 _ _ ((rd_T72 l0 aA).f1) _ _ ((rd_T72 l1 aA).f1) true _ ?s1 aQ.out ?s3 aU.out A9.out).mono ?_); (case s1 => exact Z21 aP.out); (case s3 => exact Z21 aT.out); rintro e w' ⟨rfl, ⟨nd, rfl⟩⟩; (try first | exact ⟨rfl, _, World.drewN_drewN _ _ _⟩ | exact ⟨rfl, _, Eq.trans (World.drewN_drewN _ _ _) (congrArg (World.drewN _) (Nat.add_assoc _ _ _))⟩)))
         repeat (go_quiet (first | (go_at_call 59; (with_reducible refine (spec_comparePlaces.calls k1 _ _ ((rd_T72 l0 aA).f0) _ _ ((rd_T72 l1 aA).f0) bD _ ?s1 aK.out ?s3 aM.out A7.out).mono ?_); (case s1 => exact Z21 aJ.out); (case s3 => exact Z21 aL.out); rintro e w' ⟨rfl, ⟨nd, rfl⟩⟩; (try first | exact ⟨rfl, _, World.drewN_drewN _ _ _⟩ | exact ⟨rfl, _, Eq.trans (World.drewN_drewN _ _ _) (congrArg (World.drewN _) (Nat.add_assoc _ _ _))⟩); have aV : 0 ≤ (aA : Int) := odt; have aW : aA < (l0.length : Int) := odt; obtain ⟨bB, bO, bP, bQ, bR, bT, aN, aO, aB, aC, aD, aE⟩ := at_T72 cD.out aA aV aW; obtain rfl : bI = bB := (by injection bT); have bE := A_ aC; have bF := A_ aB; clear aC aB; have aP := A_ aE; have aQ := A_ aD; clear aE aD; replace aV := eq_true aV; replace aW := eq_true aW; have ea_ := Option.some.inj (aZ.symm.trans aN); injection ea_ with ea_ en_ ec_; subst ea_; subst ec_; clear en_; have ea_ := Option.some.inj (a0.symm.trans aO); injection ea_ with ea_ en_ ec_; subst ea_; subst ec_; clear en_; have aX : 0 ≤ (aA : Int) := odt; have aY : aA < (l1.length : Int) := odt; obtain ⟨bC, bU, bV, bW, bX, bY, aR, aS, aF, aG, aH, aI⟩ := at_T72 cE.out aA aX aY; obtain rfl : bJ = bC := (by injection bY); have bG := A_ aG; have bH := A_ aF; clear aG aF; have aT := A_ aI; have aU := A_ aH; clear aI aH; replace aX := eq_true aX; replace aY := eq_true aY; have ea_ := Option.some.inj (a5.symm.trans aR); injection ea_ with ea_ en_ ec_; subst ea_; subst ec_; clear en_; have ea_ := Option.some.inj (a6.symm.trans aS); injection ea_ with ea_ en_ ec_; subst ea_; subst ec_; clear en_) | (go_at_call 60; (with_reducible refine (spec_sameValues.calls k1 _ _ ((rd_T72 l0 aA).f1) _ _ ((rd_T72 l1 aA).f1) true _ ?s1 aQ.out ?s3 aU.out A9.out).mono ?_); (case s1 => exact Z21 aP.out); (case s3 => exact Z21 aT.out); rintro e w' ⟨rfl, ⟨nd, rfl⟩⟩; (try first | exact ⟨rfl, _, World.drewN_drewN _ _ _⟩ | exact ⟨rfl, _, Eq.trans (World.drewN_drewN _ _ _) (congrArg (World.drewN _) (Nat.add_assoc _ _ _))⟩))); try go_wp2_with (first | (go_at_call 59; (with_reducible refine (spec_comparePlaces.calls k1 _ _ ((rd_T72 l0 aA).f0) _ _ ((rd_T72 l1 aA).f0) bD _ ?s1 aK.out ?s3 aM.out A7.out).mono ?_); (case s1 => exact Z21 aJ.out); (case s3 => exact Z21 aL.out); rintro e w' ⟨rfl, ⟨nd, rfl⟩⟩; (try first | exact ⟨rfl, _, World.drewN_drewN _ _ _⟩ | exact ⟨rfl, _, Eq.trans (World.drewN_drewN _ _ _) (congrArg (World.drewN _) (Nat.add_assoc _ _ _))⟩); have aV : 0 ≤ (aA : Int) := of_decide_eq_true (by first | (with_reducible assumption) | assumption); have aW : aA < (l0.length : Int) := of_decide_eq_true (by first | (with_reducible assumption) | assumption); obtain ⟨bB, bO, bP, bQ, bR, bT, aN, aO, aB, aC, aD, aE⟩ := at_T72 cD.out aA aV aW; obtain rfl : bI = bB := (by injection bT); have bE := A_ aC; have bF := A_ aB; clear aC aB; have aP := A_ aE; have aQ := A_ aD; clear aE aD; replace aV := eq_true aV; replace aW := eq_true aW; have ea_ := Option.some.inj (aZ.symm.trans aN); injection ea_ with ea_ en_ ec_; subst ea_; subst ec_; clear en_; have ea_ := Option.some.inj (a0.symm.trans aO); injection ea_ with ea_ en_ ec_; subst ea_; subst ec_; clear en_; have aX : 0 ≤ (aA : Int) := of_decide_eq_true (by first | (with_reducible assumption) | assumption); have aY : aA < (l1.length : Int) := of_decide_eq_true (by first | (with_reducible assumption) | assumption); obtain ⟨bC, bU, bV, bW, bX, bY, aR, aS, aF, aG, aH, aI⟩ := at_T72 cE.out aA aX aY; obtain rfl : bJ = bC := (by injection bY); have bG := A_ aG; have bH := A_ aF; clear aG aF; have aT := A_ aI; have aU := A_ aH; clear aI aH; replace aX := eq_true aX; replace aY := eq_true aY; have ea_ := Option.some.inj (a5.symm.trans aR); injection ea_ with ea_ en_ ec_; subst ea_; subst ec_; clear en_; have ea_ := Option.some.inj (a6.symm.trans aS); injection ea_ with ea_ en_ ec_; subst ea_; subst ec_; clear en_) | (go_at_call 60; (with_reducible refine (spec_sameValues.calls k1 _ _ ((rd_T72 l0 aA).f1) _ _ ((rd_T72 l1 aA).f1) true _ ?s1 aQ.out ?s3 aU.out A9.out).mono ?_); (case s1 => exact Z21 aP.out); (case s3 => exact Z21 aT.out); rintro e w' ⟨rfl, ⟨nd, rfl⟩⟩; (try first | exact ⟨rfl, _, World.drewN_drewN _ _ _⟩ | exact ⟨rfl, _, Eq.trans (World.drewN_drewN _ _ _) (congrArg (World.drewN _) (Nat.add_assoc _ _ _))⟩))))
         go_roundg k1
         case measure => have := cO.out; omega
         case rel => exact ⟨(wrap64 (aA + 1)), Z26, H', ⟨by have := cO.out; omega⟩, Z34⟩
        ·replace c10 := Bool.eq_false_iff.mpr c10
         subst c10; rw [if_neg (show ¬ (false = true) by decide)] at H; obtain rfl := Option.some.inj H; have bK : 0 ≤ (aA : Int) := odt; have bL : aA < (l0.length : Int) := odt; obtain ⟨bI, b3, b4, b5, b6, b7, aZ, a0, a1, a2, a3, a4⟩ := at_T72 cD.out aA bK bL; cases b7; have aJ := A_ a2; have aK := A_ a1; clear a2 a1; have bZ := A_ a4; have b0 := A_ a3; clear a4 a3; replace bK := eq_true bK; replace bL := eq_true bL; have bM : 0 ≤ (aA : Int) := odt; have bN : aA < (l1.length : Int) := odt; obtain ⟨bJ, b8, b9, cA, cB, cC, a5, a6, a7, a8, a9, bA⟩ := at_T72 cE.out aA bM bN; cases cC; have aL := A_ a8; have aM := A_ a7; clear a8 a7; have b1 := A_ bA; have b2 := A_ a9; clear bA a9; replace bM := eq_true bM; replace bN := eq_true bN
         go_wp2_with (first | (go_at_call 59; (with_reducible refine (spec_comparePlaces.calls k1 _ _ ((rd_T72 l0 aA).f0) _ _ ((rd_T72 l1 aA).f0) bD _ ?s1 aK.out ?s3 aM.out A7.out).mono ?_); (case s1 => exact Z21 aJ.out); (case s3 => exact Z21 aL.out); rintro e w' ⟨rfl, ⟨nd, rfl⟩⟩; (try first | exact ⟨rfl, _, World.drewN_drewN _ _ _⟩ | exact ⟨rfl, _, Eq.trans (World.drewN_drewN _ _ _) (congrArg (World.drewN _) (Nat.add_assoc _ _ _))⟩); have aV : 0 ≤ (aA : Int) := odt; have aW : aA < (l0.length : Int) := odt; obtain ⟨bB, bO, bP, bQ, bR, bT, aN, aO, aB, aC, aD, aE⟩ := at_T72 cD.out aA aV aW; obtain rfl : bI = bB := (by injection bT); have bE := A_ aC; have bF := A_ aB; clear aC aB; have aP := A_ aE; have aQ := A_ aD; clear aE aD; replace aV := eq_true aV; replace aW := eq_true aW; have ea_ := Option.some.inj (aZ.symm.trans aN); injection ea_ with ea_ en_ ec_; subst ea_; subst ec_; clear en_; have ea_ := Option.some.inj (a0.symm.trans aO); injection ea_ with ea_ en_ ec_; subst ea_; subst ec_; clear en_; have aX : 0 ≤ (aA : Int) := odt; have aY : aA < (l1.length : Int) := odt; obtain ⟨bC, bU, bV, bW, bX, bY, aR, aS, aF, aG, aH, aI⟩ := at_T72 cE.out aA aX aY; obtain rfl : bJ = bC := (by injection bY); have bG := A_ aG; have bH := A_ aF; clear aG aF; have aT := A_ aI; have aU := A_ aH; clear aI aH; replace aX := eq_true aX; replace aY := eq_true aY; have ea_ := Option.some.inj (a5.symm.trans aR); injection ea_ with ea_ en_ ec_; subst ea_; subst ec_; clear en_; have ea_ := Option.some.inj (a6.symm.trans aS); injection ea_ with ea_ en_ ec_; subst ea_; subst ec_; clear en_) | (go_at_call 60; (with_reducible refine (spec_sameValues.calls k1 _ _ ((rd_T72 l0 aA).f1) _ _ ((rd_T72 l1 aA).f1) false _ ?s1 aQ.out ?s3 aU.out A9.out).mono ?_); (case s1 => exact Z21 aP.out); (case s3 => exact Z21 aT.out); rintro e w' ⟨rfl, ⟨nd, rfl⟩⟩; (try first | exact ⟨rfl, _, World.drewN_drewN _ _ _⟩ | exact ⟨rfl, _, Eq.trans (World.drewN_drewN _ _ _) (congrArg (World.drewN _) (Nat.add_assoc _ _ _))⟩)))
         repeat (go_quiet (first | (go_at_call 59; (with_reducible refine (spec_comparePlaces.calls k1 _ _ ((rd_T72 l0 aA).f0) _ _ ((rd_T72 l1 aA).f0) bD _ ?s1 aK.out ?s3 aM.out A7.out).mono ?_); (case s1 => exact Z21 aJ.out); (case s3 => exact Z21 aL.out); rintro e w' ⟨rfl, ⟨nd, rfl⟩⟩; (try first | exact ⟨rfl, _, World.drewN_drewN _ _ _⟩ | exact ⟨rfl, _, Eq.trans (World.drewN_drewN _ _ _) (congrArg (World.drewN _) (Nat.add_assoc _ _ _))⟩); have aV : 0 ≤ (aA : Int) := odt; have aW : aA < (l0.length : Int) := odt; obtain ⟨bB, bO, bP, bQ, bR, bT, aN, aO, aB, aC, aD, aE⟩ := at_T72 cD.out aA aV aW; obtain rfl : bI = bB := (by injection bT); have bE := A_ aC; have bF := A_ aB; clear aC aB; have aP := A_ aE; have aQ := A_ aD; clear aE aD; replace aV := eq_true aV; replace aW := eq_true aW; have ea_ := Option.some.inj (aZ.symm.trans aN); injection ea_ with ea_ en_ ec_; subst ea_; subst ec_; clear en_; have ea_ := Option.some.inj (a0.symm.trans aO); injection ea_ with ea_ en_ ec_; subst ea_; subst ec_; clear en_; have aX : 0 ≤ (aA : Int) := odt; have aY : aA < (l1.length : Int) := odt; obtain ⟨bC, bU, bV, bW, bX, bY, aR, aS, aF, aG, aH, aI⟩ := at_T72 cE.out aA aX aY; obtain rfl : bJ = bC := (by injection bY); have bG := A_ aG; have bH := A_ aF; clear aG aF; have aT := A_ aI; have aU := A_ aH; clear aI aH; replace aX := eq_true aX; replace aY := eq_true aY; have ea_ := Option.some.inj (a5.symm.trans aR); injection ea_ with ea_ en_ ec_; subst ea_; subst ec_; clear en_; have ea_ := Option.some.inj (a6.symm.trans aS); injection ea_ with ea_ en_ ec_; subst ea_; subst ec_; clear en_) | (go_at_call 60; (with_reducible refine (spec_sameValues.calls k1 _ _ ((rd_T72 l0 aA).f1) _ _ ((rd_T72 l1 aA).f1) false _ ?s1 aQ.out ?s3 aU.out A9.out).mono ?_); (case s1 => exact Z21 aP.out); (case s3 => exact Z21 aT.out); rintro e w' ⟨rfl, ⟨nd, rfl⟩⟩; (try first | exact ⟨rfl, _, World.drewN_drewN _ _ _⟩ | exact ⟨rfl, _, Eq.trans (World.drewN_drewN _ _ _) (congrArg (World.drewN _) (Nat.add_assoc _ _ _))⟩))); try go_wp2_with (first | (go_at_call 59; (with_reducible refine (spec_comparePlaces.calls k1 _ _ ((rd_T72 l0 aA).f0) _ _ ((rd_T72 l1 aA).f0) bD _ ?s1 aK.out ?s3 aM.out A7.out).mono ?_); (case s1 => exact Z21 aJ.out); (case s3 => exact Z21 aL.out); rintro e w' ⟨rfl, ⟨nd, rfl⟩⟩; (try first | exact ⟨rfl, _, World.drewN_drewN _ _ _⟩ | exact ⟨rfl, _, Eq.trans (World.drewN_drewN _ _ _) (congrArg (World.drewN _) (Nat.add_assoc _ _ _))⟩); have aV : 0 ≤ (aA : Int) := of_decide_eq_true (by first | (with_reducible assumption) | assumption); have aW : aA < (l0.length : Int) := of_decide_eq_true (by first | (with_reducible assumption) | assumption); obtain ⟨bB, bO, bP, bQ, bR, bT, aN, aO, aB, aC, aD, aE⟩ := at_T72 cD.out aA aV aW; obtain rfl : bI = bB := (by injection bT); have bE := A_ aC; have bF := A_ aB; clear aC aB; have aP := A_ aE; have aQ := A_ aD; clear aE aD; replace aV := eq_true aV; replace aW := eq_true aW; have ea_ := Option.some.inj (aZ.symm.trans aN); injection ea_ with ea_ en_ ec_; subst ea_; subst ec_; clear en_; have ea_ := Option.some.inj (a0.symm.trans aO); injection ea_ with ea_ en_ ec_; subst ea_; subst ec_; clear en_; have aX : 0 ≤ (aA : Int) := of_decide_eq_true (by first | (with_reducible assumption) | assumption); have aY : aA < (l1.length : Int) := of_decide_eq_true (by first | (with_reducible assumption) | assumption); obtain ⟨bC, bU, bV, bW, bX, bY, aR, aS, aF, aG, aH, aI⟩ := at_T72 cE.out aA aX aY; obtain rfl : bJ = bC := (by injection bY); have bG := A_ aG; have bH := A_ aF; clear aG aF; have aT := A_ aI; have aU := A_ aH; clear aI aH; replace aX := eq_true aX; replace aY := eq_true aY; have ea_ := Option.some.inj (a5.symm.trans aR); injection ea_ with ea_ en_ ec_; subst ea_; subst ec_; clear en_; have ea_ := Option.some.inj (a6.symm.trans aS); injection ea_ with ea_ en_ ec_; subst ea_; subst ec_; clear en_) | (go_at_call 60; (with_reducible refine (spec_sameValues.calls k1 _ _ ((rd_T72 l0 aA).f1) _ _ ((rd_T72 l1 aA).f1) false _ ?s1 aQ.out ?s3 aU.out A9.out).mono ?_); (case s1 => exact Z21 aP.out); (case s3 => exact Z21 aT.out); rintro e w' ⟨rfl, ⟨nd, rfl⟩⟩; (try first | exact ⟨rfl, _, World.drewN_drewN _ _ _⟩ | exact ⟨rfl, _, Eq.trans (World.drewN_drewN _ _ _) (congrArg (World.drewN _) (Nat.add_assoc _ _ _))⟩))))
         go_ret
         exact ⟨Z26, Z34⟩
       ·rw [if_neg c8] at H
        have cJ : (bD == 0) = false := beq_eq_false_iff_ne.mpr c8; have cK : (bD != 0) = true := bne_iff_ne.mpr c8; obtain rfl := Option.some.inj H; have bK : 0 ≤ (aA : Int) := odt; have bL : aA < (l0.length : Int) := odt; obtain ⟨bI, b3, b4, b5, b6, b7, aZ, a0, a1, a2, a3, a4⟩ := at_T72 cD.out aA bK bL; cases b7; have aJ := A_ a2; have aK := A_ a1; clear a2 a1; have bZ := A_ a4; have b0 := A_ a3; clear a4 a3; replace bK := eq_true bK; replace bL := eq_true bL; have bM : 0 ≤ (aA : Int) := odt; have bN : aA < (l1.length : Int) := odt; obtain ⟨bJ, b8, b9, cA, cB, cC, a5, a6, a7, a8, a9, bA⟩ := at_T72 cE.out aA bM bN; cases cC; have aL := A_ a8; have aM := A_ a7; clear a8 a7; have b1 := A_ bA; have b2 := A_ a9; clear bA a9; replace bM := eq_true bM; replace bN := eq_true bN
        go_wp2_with (first | (go_at_call 59; (with_reducible refine (spec_comparePlaces.calls k1 _ _ ((rd_T72 l0 aA).f0) _ _ ((rd_T72 l1 aA).f0) bD _ ?s1 aK.out ?s3 aM.out A7.out).mono ?_); (case s1 => exact Z21 aJ.out); (case s3 => exact Z21 aL.out); rintro e w' ⟨rfl, ⟨nd, rfl⟩⟩; (try first | exact ⟨rfl, _, World.drewN_drewN _ _ _⟩ | exact ⟨rfl, _, Eq.trans (World.drewN_drewN _ _ _) (congrArg (World.drewN _) (Nat.add_assoc _ _ _))⟩)))
        repeat (go_quiet (first | (go_at_call 59; (with_reducible refine (spec_comparePlaces.calls k1 _ _ ((rd_T72 l0 aA).f0) _ _ ((rd_T72 l1 aA).f0) bD _ ?s1 aK.out ?s3 aM.out A7.out).mono ?_); (case s1 => exact Z21 aJ.out); (case s3 => exact Z21 aL.out); rintro e w' ⟨rfl, ⟨nd, rfl⟩⟩; (try first | exact ⟨rfl, _, World.drewN_drewN _ _ _⟩ | exact ⟨rfl, _, Eq.trans (World.drewN_drewN _ _ _) (congrArg (World.drewN _) (Nat.add_assoc _ _ _))⟩))); try go_wp2_with (first | (go_at_call 59; (with_reducible refine (spec_comparePlaces.calls k1 _ _ ((rd_T72 l0 aA).f0) _ _ ((rd_T72 l1 aA).f0) bD _ ?s1 aK.out ?s3 aM.out A7.out).mono ?_); (case s1 => exact Z21 aJ.out); (case s3 => exact Z21 aL.out); rintro e w' ⟨rfl, ⟨nd, rfl⟩⟩; (try first | exact ⟨rfl, _, World.drewN_drewN _ _ _⟩ | exact ⟨rfl, _, Eq.trans (World.drewN_drewN _ _ _) (congrArg (World.drewN _) (Nat.add_assoc _ _ _))⟩))))
        go_ret
        exact ⟨Z26, Z34⟩
      ·rw [if_neg c6] at H
       exact absurd H (by simp)
     ·rw [if_neg c5] at H
      exact absurd H (by simp)
    ·rw [if_neg c4] at H
     have cI := df c4; clear c4; obtain rfl := Option.some.inj H
     go_wp2
     repeat (go_quiet (fail); try go_wp2)
     go_ret
     exact ⟨Z26, Z34⟩
 ·rw [if_neg c3] at H
  have cF : ((l0.length : Int) == (l1.length : Int)) = false := beq_eq_false_iff_ne.mpr c3; have cG : ((l0.length : Int) != (l1.length : Int)) = true := bne_iff_ne.mpr c3
  have cH : (l0.length == l1.length) = false := by first | simpa using c3 | (simp at c3 ⊢; omega)
  obtain rfl := Option.some.inj H
  go_enter Try.func32, Try.ntmps32
  go_wp2
  repeat (go_quiet (fail); try go_wp2)
  go_ret
  exact ⟨Z26, Z34⟩
def spec_applies.f (k : Nat) (l0 : List (S98)) (aD : List (S96)) (aA : Int) (aB : List (S116)) (aE : Int) : Option (Bool) := if aA < (l0.length : Int) then ((spec_validForm.f k aB 0 (l0.length : Int) 0).bind fun aC => (some aC)) else (some false)
theorem spec_applies.calls (k : Nat) (A0 : Option Addr) (c0 : Nat) (l0 : List (S98)) (aG : Option Addr) (aH : Nat) (aC : List (S96)) (aE : Int) (aI : Option Addr) (aJ : Nat) (aA : List (S116)) (aK : Int) (r : Bool) (w : World) (bA : Kd.C k98 w A0 l0.length l0) (hc0 : l0.length ≤ c0) (aL : Kd.C k96 w aG aC.length aC) (aM : aC.length ≤ aH) (aN : Kd.C k116 w aI aA.length aA) (aO : aA.length ≤ aJ) (h : spec_applies.f k l0 aC aE aA aK = some r) :
  Calls Try.prog 106 #[.slice A0 l0.length c0, .agg #[.slice aG aC.length aH, .int .i64 aE, .slice aI aA.length aJ, .int .i64 aK]] w fun e w' => e = .returned (.bool r) ∧ Below w.heap.size w w' := by
 have bE := Try.underlying77; have bF := A_ bA; have bG := A_ hc0; clear bA hc0; have bB := A_ aL; have bC := A_ aM; clear aL aM; have aP := A_ aN; have aQ := A_ aO; clear aN aO; have HB := A_ (Below.refl w.heap.size w); have H := h; unfold spec_applies.f at H; clear h
 by_cases c3 : aE < (l0.length : Int)
 ·rw [if_pos c3] at H
  have aS := dt c3; clear c3; replace H := bS H; obtain ⟨aT, bD, H⟩ := H
  try dsimp only at H
  have A4 := A_ bD; clear bD; obtain rfl := Option.some.inj H
  go_enter Try.func106, Try.ntmps106
  go_wp2_with (first | ((with_reducible refine gate_dst (N := 3) rfl ?_); (try (refine gate_guard (by rfl) ?_; dsimp only)); refine be (cs := #[.slice aG aC.length aH, .int .i64 aE, .slice aI aA.length aJ, .int .i64 aK]) (t := 77) ?_; intro aR hg w5 hbox hb; have aB := A_ hbox; have aF := A_ (gl hg (bz Z2)); have aD := aF; replace HB := A_ (bst Z2 hb); clear hb hbox hg; obtain ⟨aU, aV, aW, aX, aY, aZ, a0, a1⟩ := C4 aB.out) | (go_at_call 78; (with_reducible refine (spec_validForm.calls k _ _ aA 0 (l0.length : Int) 0 aT _ ?s1 aQ.out A4.out).mono ?_); (case s1 => exact Z5 aP.out); rintro e w7 ⟨rfl, hb⟩; replace aB := A_ (bb (Z0 aB.out) hb); replace HB := A_ (bst (Z3 aD.out) hb); (try clear hb)))
  go_ret
  exact ⟨Z11, Z3 aD.out⟩
 ·rw [if_neg c3] at H
  have aS := df c3; clear c3; obtain rfl := Option.some.inj H
  go_enter Try.func106, Try.ntmps106
  go_wp2_with (first | ((with_reducible refine gate_dst (N := 3) rfl ?_); (try (refine gate_guard (by rfl) ?_; dsimp only)); refine be (cs := #[.slice aG aC.length aH, .int .i64 aE, .slice aI aA.length aJ, .int .i64 aK]) (t := 77) ?_; intro aR hg w8 hbox hb; have aB := A_ hbox; have aF := A_ (gl hg (bz Z2)); have aD := aF; replace HB := A_ (bst Z2 hb); clear hb hbox hg; obtain ⟨a2, a3, a4, a5, a6, a7, a8, a9⟩ := C4 aB.out))
  go_ret
  exact ⟨Z11, Z3 aD.out⟩
def spec_truth.f (aC : Int) (aA : Int) (aB : ByteArray) : Option (Bool) := if aA = 0 then (some (aB.toList != ([] : List UInt8))) else (some true)
theorem spec_truth.calls (aF : Int) (aA : Int) (aB : ByteArray) (r : Bool) (w : World) (h : spec_truth.f aF aA aB = some r) :
  Calls Try.prog 110 #[.agg #[.int .i64 aF, .int .i64 aA, .string aB]] w fun e w' => e = .returned (.bool r) ∧ Below w.heap.size w w' := by
 have aV := Try.underlying98; have HB := A_ (Below.refl w.heap.size w); have H := h; unfold spec_truth.f at H; clear h
 by_cases c2 : aA = 0
 ·rw [if_pos c2] at H
  have aH : (aA == 0) = true := beq_iff_eq.mpr c2; have aI : (aA != 0) = false := bne_eq_false_iff_eq.mpr c2; clear c2; obtain rfl := Option.some.inj H
  go_enter Try.func110, Try.ntmps110
  go_wp2_with (first | ((with_reducible refine gate_dst (N := 1) rfl ?_); refine be (cs := #[.int .i64 aF, .int .i64 aA, .string aB]) (t := 98) ?_; intro aG hg w3 hbox hb; have aC := A_ hbox; have aD := A_ (gl hg (bz Z2)); have aE := aD; replace HB := A_ (bst Z2 hb); clear hb hbox hg; obtain ⟨aJ, aK, aL, aM, aN, aO⟩ := C3 aC.out))
  go_ret
  exact ⟨by first | rfl | (simp [errW_none, errW_some] <;> rfl) | (simp [*, errW_none, errW_some] <;> rfl) | (simp [errW_none, errW_some] <;> cases aB.toList <;> rfl), Z3 aE.out⟩
 ·rw [if_neg c2] at H
  have aH : (aA == 0) = false := beq_eq_false_iff_ne.mpr c2; have aI : (aA != 0) = true := bne_iff_ne.mpr c2; obtain rfl := Option.some.inj H
  go_enter Try.func110, Try.ntmps110
  go_wp2_with (first | ((with_reducible refine gate_dst (N := 1) rfl ?_); refine be (cs := #[.int .i64 aF, .int .i64 aA, .string aB]) (t := 98) ?_; intro aG hg w5 hbox hb; have aC := A_ hbox; have aD := A_ (gl hg (bz Z2)); have aE := aD; replace HB := A_ (bst Z2 hb); clear hb hbox hg; obtain ⟨aP, aQ, aR, aS, aT, aU⟩ := C3 aC.out))
  go_ret
  exact ⟨by first | rfl | (simp [errW_none, errW_some] <;> rfl) | (simp [*, errW_none, errW_some] <;> rfl) | (simp [errW_none, errW_some] <;> cases aB.toList <;> rfl), Z3 aE.out⟩
def spec_number.f (a0 : Int) : Option (Int × Int × ByteArray) := (spec_inRange.f a0 (-1000) 1000).bind fun aA => (if aA = true then (some (1, a0, (⟨#[]⟩ : ByteArray))) else (some (0, 0, (⟨#[]⟩ : ByteArray))))
theorem spec_number.calls (a0 : Int) (r1 : Int) (r2 : Int) (r3 : ByteArray) (w : World) (h : spec_number.f a0 = some (r1, r2, r3)) :
  Calls Try.prog 114 #[.int .i64 a0] w fun e w' => e = .returned (.agg #[.int .i64 r1, .int .i64 r2, .string r3]) ∧ Below w.heap.size w w' := by
 have aU := Try.underlying98; have HB := A_ (Below.refl w.heap.size w); have H := h; unfold spec_number.f at H; clear h; replace H := bS H; obtain ⟨aG, aT, H⟩ := H
 try dsimp only at H
 have A2 := A_ aT; clear aT
 by_cases c3 : aG = true
 ·subst c3
  rw [if_pos rfl] at H; simp only [Option.some.injEq, Prod.mk.injEq] at H; obtain ⟨rfl, rfl, rfl⟩ := H
  go_enter Try.func114, Try.ntmps114
  go_wp2_with (first | ((with_reducible refine gate_dst (N := 2) rfl ?_); refine be (cs := #[.int .i64 0, .int .i64 0, .string (⟨#[]⟩ : ByteArray)]) (t := 98) ?_; intro aB hg w4 hbox hb; have aA := A_ hbox; have aD := A_ (gl hg (bz Z2)); have aC := aD; replace HB := A_ (bst Z2 hb); clear hb hbox hg) | ((with_reducible refine gate_callee (f := 77) rfl ?_); refine gL 4 Try.func77 #[.int .i64 a0, .int .i64 (-1000), .int .i64 1000] ?_; (with_reducible refine (spec_inRange.calls a0 (-1000) 1000 true _ A2.out).mono ?_); rintro e w' ⟨rfl, ⟨nd, rfl⟩⟩; refine ⟨_, rfl, ?_⟩; (try (rw [drewN_self w4]; generalize hq_ : World.drewN w4 _ = w4; have aE : Aside0 (w4.heap[aB]? = some (.cells #[.int .i64 0, .int .i64 0, .string (⟨#[]⟩ : ByteArray)] 98 (0, 0))) := ⟨by rw [← hq_]; exact (Z0 aA.out)⟩; have aF : Aside0 (Below w.heap.size w w4) := ⟨by rw [← hq_]; exact (Z3 aC.out)⟩; clear aA HB hq_; have aA := aE; have HB := aF; clear aE aF)); obtain ⟨aH, aI, aJ, aK, aL, aM⟩ := C3 aA.out))
  refine bodyPost_ret (results_cell_row rfl _ _ aB 98 #[.int .i64 1, .int .i64 a0, .string (⟨#[]⟩ : ByteArray)] (0, 0) _ rfl (bp0 aA.out) Try.underlying98 rfl (by kernel_rfl)) rfl ?_
  exact ⟨Z11, Z3 aC.out⟩
 ·replace c3 := Bool.eq_false_iff.mpr c3
  subst c3; rw [if_neg (show ¬ (false = true) by decide)] at H; simp only [Option.some.injEq, Prod.mk.injEq] at H; obtain ⟨rfl, rfl, rfl⟩ := H
  go_enter Try.func114, Try.ntmps114
  go_wp2_with (first | ((with_reducible refine gate_dst (N := 2) rfl ?_); refine be (cs := #[.int .i64 0, .int .i64 0, .string (⟨#[]⟩ : ByteArray)]) (t := 98) ?_; intro aB hg w6 hbox hb; have aA := A_ hbox; have aD := A_ (gl hg (bz Z2)); have aC := aD; replace HB := A_ (bst Z2 hb); clear hb hbox hg) | ((with_reducible refine gate_callee (f := 77) rfl ?_); refine gL 4 Try.func77 #[.int .i64 a0, .int .i64 (-1000), .int .i64 1000] ?_; (with_reducible refine (spec_inRange.calls a0 (-1000) 1000 false _ A2.out).mono ?_); rintro e w' ⟨rfl, ⟨nd, rfl⟩⟩; refine ⟨_, rfl, ?_⟩; (try (rw [drewN_self w6]; generalize hq_ : World.drewN w6 _ = w6; have aE : Aside0 (w6.heap[aB]? = some (.cells #[.int .i64 0, .int .i64 0, .string (⟨#[]⟩ : ByteArray)] 98 (0, 0))) := ⟨by rw [← hq_]; exact (Z0 aA.out)⟩; have aF : Aside0 (Below w.heap.size w w6) := ⟨by rw [← hq_]; exact (Z3 aC.out)⟩; clear aA HB hq_; have aA := aE; have HB := aF; clear aE aF)); obtain ⟨aN, aO, aP, aQ, aR, aS⟩ := C3 aA.out))
  refine bodyPost_ret (results_cell_row rfl _ _ aB 98 #[.int .i64 0, .int .i64 0, .string (⟨#[]⟩ : ByteArray)] (0, 0) _ rfl (bp0 aA.out) Try.underlying98 rfl (by kernel_rfl)) rfl ?_
  exact ⟨Z11, Z3 aC.out⟩
def spec_boolean.f (a0 : Bool) : Option (Int × Int × ByteArray) := if a0 = true then ((spec_number.f 1).bind fun aA => (some (aA.1, aA.2.1, aA.2.2))) else ((spec_number.f 0).bind fun aB => (some (aB.1, aB.2.1, aB.2.2)))
theorem spec_boolean.calls (a0 : Bool) (r1 : Int) (r2 : Int) (r3 : ByteArray) (w : World) (h : spec_boolean.f a0 = some (r1, r2, r3)) :
  Calls Try.prog 112 #[.bool a0] w fun e w' => e = .returned (.agg #[.int .i64 r1, .int .i64 r2, .string r3]) ∧ Below w.heap.size w w' := by
 have aY := Try.underlying98; have HB := A_ (Below.refl w.heap.size w); have H := h; unfold spec_boolean.f at H; clear h
 by_cases c2 : a0 = true
 ·subst c2
  rw [if_pos rfl] at H; replace H := bS H; obtain ⟨⟨aE, aF, aG⟩, aW, H⟩ := H
  try dsimp only at H
  have A3 := A_ aW; clear aW; simp only [Option.some.injEq, Prod.mk.injEq] at H; obtain ⟨rfl, rfl, rfl⟩ := H
  go_enter Try.func112, Try.ntmps112
  go_wp2_with (first | ((with_reducible refine gate_dst (N := 2) rfl ?_); refine be (cs := #[.int .i64 0, .int .i64 0, .string (⟨#[]⟩ : ByteArray)]) (t := 98) ?_; intro aC hg w4 hbox hb; have aA := A_ hbox; have aD := A_ (gl hg (bz Z2)); have aB := aD; replace HB := A_ (bst Z2 hb); clear hb hbox hg) | ((with_reducible refine gate_callee (f := 114) rfl ?_); refine gL 4 Try.func114 #[.int .i64 1] ?_; (with_reducible refine (spec_number.calls 1 aE aF aG _ A3.out).mono ?_); rintro e w5 ⟨rfl, hb⟩; refine ⟨_, rfl, ?_⟩; replace aA := A_ (bb (Z0 aA.out) hb); replace HB := A_ (bst (Z3 aB.out) hb); (try clear hb); obtain ⟨aQ, aR, aS, aT, aU, aV⟩ := C3 aA.out))
  refine bodyPost_ret (results_cell_row rfl _ _ aC 98 #[.int .i64 aE, .int .i64 aF, .string aG] (0, 0) _ rfl (bp0 aA.out) Try.underlying98 rfl (by kernel_rfl)) rfl ?_
  exact ⟨Z11, Z3 aB.out⟩
 ·replace c2 := Bool.eq_false_iff.mpr c2
  subst c2; rw [if_neg (show ¬ (false = true) by decide)] at H; replace H := bS H; obtain ⟨⟨aH, aI, aJ⟩, aX, H⟩ := H
  try dsimp only at H
  have A7 := A_ aX; clear aX; simp only [Option.some.injEq, Prod.mk.injEq] at H; obtain ⟨rfl, rfl, rfl⟩ := H
  go_enter Try.func112, Try.ntmps112
  go_wp2_with (first | ((with_reducible refine gate_dst (N := 2) rfl ?_); refine be (cs := #[.int .i64 0, .int .i64 0, .string (⟨#[]⟩ : ByteArray)]) (t := 98) ?_; intro aC hg w8 hbox hb; have aA := A_ hbox; have aD := A_ (gl hg (bz Z2)); have aB := aD; replace HB := A_ (bst Z2 hb); clear hb hbox hg) | ((with_reducible refine gate_callee (f := 114) rfl ?_); refine gL 5 Try.func114 #[.int .i64 0] ?_; (with_reducible refine (spec_number.calls 0 aH aI aJ _ A7.out).mono ?_); rintro e w9 ⟨rfl, hb⟩; refine ⟨_, rfl, ?_⟩; replace aA := A_ (bb (Z0 aA.out) hb); replace HB := A_ (bst (Z3 aB.out) hb); (try clear hb); obtain ⟨aK, aL, aM, aN, aO, aP⟩ := C3 aA.out))
  refine bodyPost_ret (results_cell_row rfl _ _ aC 98 #[.int .i64 aH, .int .i64 aI, .string aJ] (0, 0) _ rfl (bp0 aA.out) Try.underlying98 rfl (by kernel_rfl)) rfl ?_
  exact ⟨Z11, Z3 aB.out⟩
def spec_decimal.f : Nat → Int → Option (ByteArray)
 | 0, _ => none
 | k + 1, a0 => if a0 < 0 then ((spec_decimal.f k (wrap64 (-a0))).bind fun aA => (if 1 + aA.size ≤ 9223372036854775807 then (some ((⟨#[45]⟩ : ByteArray) ++ aA)) else (none))) else (if a0 < 10 then (if 0 ≤ a0 then (if a0 ≤ (wrap64 (a0 + 1)) then (if (wrap64 (a0 + 1)) ≤ 10 then (some ((⟨#[48, 49, 50, 51, 52, 53, 54, 55, 56, 57]⟩ : ByteArray).extract (a0 : Int).toNat ((wrap64 (a0 + 1)) : Int).toNat)) else (none)) else (none)) else (none)) else ((spec_decimal.f k (wrap64 (Int.tdiv a0 10))).bind fun aB => ((spec_decimal.f k (Int.tmod a0 10)).bind fun aC => (if aB.size + aC.size ≤ 9223372036854775807 then (some (aB ++ aC)) else (none)))))
theorem spec_decimal.calls (k : Nat) : ∀ (a0 : Int) (r : ByteArray) (w : World) (h : spec_decimal.f k a0 = some r),
  Calls Try.prog 115 #[.int .i64 a0] w fun e w' => e = .returned (.string r) ∧ Drawn0 w w' := by
 induction k using Nat.strongRecOn with
 | _ k ih =>
 intro a0 r w h
 cases k with
 | zero => exact absurd h (by simp [spec_decimal.f])
 | succ k =>
 simp only [spec_decimal.f] at h; have H : (if a0 < 0 then ((spec_decimal.f k (wrap64 (-a0))).bind fun aA => (if 1 + aA.size ≤ 9223372036854775807 then (some ((⟨#[45]⟩ : ByteArray) ++ aA)) else (none))) else (if a0 < 10 then (if 0 ≤ a0 then (if a0 ≤ (wrap64 (a0 + 1)) then (if (wrap64 (a0 + 1)) ≤ 10 then (some ((⟨#[48, 49, 50, 51, 52, 53, 54, 55, 56, 57]⟩ : ByteArray).extract (a0 : Int).toNat ((wrap64 (a0 + 1)) : Int).toNat)) else (none)) else (none)) else (none)) else ((spec_decimal.f k (wrap64 (Int.tdiv a0 10))).bind fun aB => ((spec_decimal.f k (Int.tmod a0 10)).bind fun aC => (if aB.size + aC.size ≤ 9223372036854775807 then (some (aB ++ aC)) else (none)))))) = some r := h; clear h
 by_cases c2 : a0 < 0
 ·rw [if_pos c2] at H
  have aF := dt c2; clear c2; replace H := bS H; obtain ⟨aA, aH, H⟩ := H
  try dsimp only at H
  have A3 := A_ aH; clear aH
  by_cases c4 : 1 + aA.size ≤ 9223372036854775807
  ·rw [if_pos c4] at H
   have aM := eq_true c4; have aN := dt c4
   try have aO : (9223372036854775807 < 1 + aA.size) = False := eq_false (Nat.not_lt.2 c4)
   obtain rfl := Option.some.inj H
   go_enter Try.func115, Try.ntmps115
   go_wp2_with (first | ((with_reducible refine gate_callee (f := 115) rfl ?_); refine gL 7 Try.func115 #[.int .i64 (wrap64 (-a0))] ?_; (with_reducible refine (ih k (by omega) (wrap64 (-a0)) aA _ A3.out).mono ?_); rintro e w' ⟨rfl, ⟨nd, rfl⟩⟩; refine ⟨_, rfl, ?_⟩))
   go_ret
   exact ⟨Z26, Z34⟩
  ·exact Z84
 ·rw [if_neg c2] at H
  have aF := df c2; clear c2
  by_cases c5 : a0 < 10
  ·rw [if_pos c5] at H
   have aG := dt c5; clear c5
   by_cases c6 : 0 ≤ a0
   ·rw [if_pos c6] at H
    have aP := eq_true c6; have aQ := dt c6; clear c6
    by_cases c7 : a0 ≤ (wrap64 (a0 + 1))
    ·rw [if_pos c7] at H
     have aR := eq_true c7; have aS := dt c7
     by_cases c8 : (wrap64 (a0 + 1)) ≤ 10
     ·rw [if_pos c8] at H
      have aT := eq_true c8; have aU := dt c8; obtain rfl := Option.some.inj H
      go_enter Try.func115, Try.ntmps115
      go_wp2
      go_ret
      exact ⟨Z26, Z34⟩
     ·rw [if_neg c8] at H
      exact absurd H (by simp)
    ·rw [if_neg c7] at H
     exact absurd H (by simp)
   ·rw [if_neg c6] at H
    exact absurd H (by simp)
  ·rw [if_neg c5] at H
   have aG := df c5; clear c5; replace H := bS H; obtain ⟨aB, aI, H⟩ := H
   try dsimp only at H
   have A9 := A_ aI; clear aI; replace H := bS H; obtain ⟨aC, aD, H⟩ := H
   try dsimp only at H
   have aV := A_ aD; clear aD
   by_cases aE : aB.size + aC.size ≤ 9223372036854775807
   ·rw [if_pos aE] at H
    have aJ := eq_true aE; have aK := dt aE
    try have aL : (9223372036854775807 < aB.size + aC.size) = False := eq_false (Nat.not_lt.2 aE)
    obtain rfl := Option.some.inj H
    go_enter Try.func115, Try.ntmps115
    go_wp2_with (first | ((with_reducible refine gate_callee (f := 115) rfl ?_); refine gL 17 Try.func115 #[.int .i64 (wrap64 (Int.tdiv a0 10))] ?_; (with_reducible refine (ih k (by omega) (wrap64 (Int.tdiv a0 10)) aB _ A9.out).mono ?_); rintro e w' ⟨rfl, ⟨nd, rfl⟩⟩; refine ⟨_, rfl, ?_⟩) | ((with_reducible refine gate_callee (f := 115) rfl ?_); refine gL 20 Try.func115 #[.int .i64 (Int.tmod a0 10)] ?_; (with_reducible refine (ih k (by omega) (Int.tmod a0 10) aC _ aV.out).mono ?_); rintro e w' ⟨rfl, ⟨nd, rfl⟩⟩; refine ⟨_, rfl, ?_⟩))
    go_ret
    exact ⟨Z26, Z34⟩
   ·rw [if_neg aE] at H
    exact absurd H (by simp)
def spec_show.f (k : Nat) (aA : Int) (aB : Int) (aC : ByteArray) : Option (ByteArray) := if aA = 1 then ((spec_decimal.f k aB).bind fun aD => (some aD)) else (if aA = 2 then (some aC) else (some (⟨#[]⟩ : ByteArray)))
theorem spec_show.calls (k : Nat) (aA : Int) (aE : Int) (aF : ByteArray) (r : ByteArray) (w : World) (h : spec_show.f k aA aE aF = some r) :
  Calls Try.prog 113 #[.agg #[.int .i64 aA, .int .i64 aE, .string aF]] w fun e w' => e = .returned (.string r) ∧ Below w.heap.size w w' := by
 have a5 := Try.underlying98; have HB := A_ (Below.refl w.heap.size w); have H := h; unfold spec_show.f at H; clear h
 by_cases c2 : aA = 1
 ·rw [if_pos c2] at H
  have aN : (aA == 1) = true := beq_iff_eq.mpr c2; have aO : (aA != 1) = false := bne_eq_false_iff_eq.mpr c2; clear c2; replace H := bS H; obtain ⟨aP, a4, H⟩ := H
  try dsimp only at H
  have A3 := A_ a4; clear a4; obtain rfl := Option.some.inj H
  go_enter Try.func113, Try.ntmps113
  go_wp2_with (first | ((with_reducible refine gate_dst (N := 1) rfl ?_); refine be (cs := #[.int .i64 aA, .int .i64 aE, .string aF]) (t := 98) ?_; intro aG hg w4 hbox hb; have aB := A_ hbox; have aC := A_ (gl hg (bz Z2)); have aD := aC; replace HB := A_ (bst Z2 hb); clear hb hbox hg; obtain ⟨aQ, aR, aS, aT, aU, aV⟩ := C3 aB.out) | ((with_reducible refine gate_callee (f := 115) rfl ?_); refine gL 9 Try.func115 #[.int .i64 aE] ?_; (with_reducible refine (spec_decimal.calls k aE aP _ A3.out).mono ?_); rintro e w' ⟨rfl, ⟨nd, rfl⟩⟩; refine ⟨_, rfl, ?_⟩))
  go_ret
  exact ⟨Z11, Z3 aD.out⟩
 ·rw [if_neg c2] at H
  have aN : (aA == 1) = false := beq_eq_false_iff_ne.mpr c2; have aO : (aA != 1) = true := bne_iff_ne.mpr c2
  by_cases c6 : aA = 2
  ·rw [if_pos c6] at H
   have aW : (aA == 2) = true := beq_iff_eq.mpr c6; have aX : (aA != 2) = false := bne_eq_false_iff_eq.mpr c6; clear c6; obtain rfl := Option.some.inj H
   go_enter Try.func113, Try.ntmps113
   go_wp2_with (first | ((with_reducible refine gate_dst (N := 1) rfl ?_); refine be (cs := #[.int .i64 aA, .int .i64 aE, .string aF]) (t := 98) ?_; intro aG hg w7 hbox hb; have aB := A_ hbox; have aC := A_ (gl hg (bz Z2)); have aD := aC; replace HB := A_ (bst Z2 hb); clear hb hbox hg; obtain ⟨aY, aZ, a0, a1, a2, a3⟩ := C3 aB.out))
   go_ret
   exact ⟨Z11, Z3 aD.out⟩
  ·rw [if_neg c6] at H
   have aW : (aA == 2) = false := beq_eq_false_iff_ne.mpr c6; have aX : (aA != 2) = true := bne_iff_ne.mpr c6; obtain rfl := Option.some.inj H
   go_enter Try.func113, Try.ntmps113
   go_wp2_with (first | ((with_reducible refine gate_dst (N := 1) rfl ?_); refine be (cs := #[.int .i64 aA, .int .i64 aE, .string aF]) (t := 98) ?_; intro aG hg w9 hbox hb; have aB := A_ hbox; have aC := A_ (gl hg (bz Z2)); have aD := aC; replace HB := A_ (bst Z2 hb); clear hb hbox hg; obtain ⟨aH, aI, aJ, aK, aL, aM⟩ := C3 aB.out))
   go_ret
   exact ⟨Z11, Z3 aD.out⟩
end Go.Proofs.Ytgbbcebjgpoioaa.PFnHistUndo
