/- Walks (lines of the print; no condition). -/
import Derived.Test.YtgbbcebjgpoioaaZFnHistRedoQFnHistRedox2
import Derived.Test.YtgbbcebjgpoioaaZFnHistRedoQFnHistRedox7
namespace Go.Proofs.Ytgbbcebjgpoioaa.PFnHistRedo
open Go.RowKit Go.Proofs.YtgbbcebjgpoioaaW.PrintWords Go.Proofs.YtgbbcebjgpoioaaW.PrintLast Go.Proofs.YtgbbcebjgpoioaaW.PrintMore
attribute [local go_sem] max2_int min2_int max_two min_two max_three min_three max_four min_four
set_option linter.unusedVariables false
set_option linter.unusedSimpArgs false
set_option maxHeartbeats 8000000
set_option maxRecDepth 100000
attribute [local go_sem high] eqA98
def spec_sameValues.l0 : Nat → List (S98) → List (S98) → Int → Option (Bool)
 | 0, _, _, _ => none
 | k + 1, x0, x1, x5 => if x5 < (x0.length : Int) then (if 0 ≤ x5 then (if x5 < (x1.length : Int) then (if (!(((rd_T98 x0 x5).f0) == ((rd_T98 x1 x5).f0)) || (!(((rd_T98 x0 x5).f1) == ((rd_T98 x1 x5).f1)) || (!((((rd_T98 x0 x5).f2).toList) == (((rd_T98 x1 x5).f2).toList))))) = true then (some false) else (spec_sameValues.l0 k x0 x1 (wrap64 (x5 + 1)))) else (none)) else (none)) else (some true)
def spec_sameValues.f (k : Nat) (l0 : List (S98)) (l1 : List (S98)) : Option (Bool) := if (l0.length : Int) = (l1.length : Int) then (spec_sameValues.l0 k l0 l1 0) else (some false)
theorem spec_sameValues.calls (k : Nat) (A0 : Option Addr) (c0 : Nat) (l0 : List (S98)) (A1 : Option Addr) (c1 : Nat) (l1 : List (S98)) (r : Bool) (w : World) (aU : Kd.C k98 w A0 l0.length l0) (hc0 : l0.length ≤ c0) (hr1 : Kd.C k98 w A1 l1.length l1) (aV : l1.length ≤ c1) (h : spec_sameValues.f k l0 l1 = some r) :
  Calls Try.prog 60 #[.slice A0 l0.length c0, .slice A1 l1.length c1] w fun e w' => e = .returned (.bool r) ∧ Drawn0 w w' := by
 have aZ := Try.underlying98; have aW := A_ aU; have a2 := A_ hc0; clear aU hc0; have aX := A_ hr1; have a3 := A_ aV; clear hr1 aV; have H := h; unfold spec_sameValues.f at H; clear h
 by_cases c3 : (l0.length : Int) = (l1.length : Int)
 ·rw [if_pos c3] at H
  have aN : ((l0.length : Int) == (l1.length : Int)) = true := beq_iff_eq.mpr c3; have aO : ((l0.length : Int) != (l1.length : Int)) = false := bne_eq_false_iff_eq.mpr c3
  have aP : (l0.length == l1.length) = true := by first | simpa using c3 | (simp at c3 ⊢; omega)
  clear c3; have H' := A_ H; clear H
  go_enter Try.func60, Try.ntmps60
  go_wp2
  repeat (go_quiet (fail); try go_wp2)
  go_loopg [5] k (fun kq v5 w' => ∃ (aA : Int), v5 = .int .i64 aA ∧ Aside0 (spec_sameValues.l0 kq l0 l1 aA = some r) ∧ Aside0 (kq ≤ k) ∧ Drawn0 w w')
  case atStart => exact ⟨(0), Z26, H', ⟨Nat.le_refl _⟩, Z34⟩
  case round =>
   clear H'; try clear c1
   try clear c3
   try clear aN
   try clear aO
   try clear aP
   obtain ⟨aA, rfl, HA, aY, ⟨m1, rfl⟩⟩ := hrel
   cases gk with
   | zero => exact absurd HA.out (by simp [spec_sameValues.l0])
   | succ k1 =>
    have H := HA.out; clear HA; simp only [spec_sameValues.l0] at H
    by_cases c4 : aA < (l0.length : Int)
    ·rw [if_pos c4] at H
     have aS := dt c4; clear c4
     by_cases c5 : 0 ≤ aA
     ·rw [if_pos c5] at H
      have a0 := dt c5; clear c5
      by_cases c6 : aA < (l1.length : Int)
      ·rw [if_pos c6] at H
       have a1 := dt c6; clear c6
       by_cases c7 : (!(((rd_T98 l0 aA).f0) == ((rd_T98 l1 aA).f0)) || (!(((rd_T98 l0 aA).f1) == ((rd_T98 l1 aA).f1)) || (!((((rd_T98 l0 aA).f2).toList) == (((rd_T98 l1 aA).f2).toList))))) = true
       ·rw [if_pos c7] at H
        have aT : (!(((rd_T98 l0 aA).f0) == ((rd_T98 l1 aA).f0)) || (!(((rd_T98 l0 aA).f1) == ((rd_T98 l1 aA).f1)) || (!((((rd_T98 l0 aA).f2).toList) == (((rd_T98 l1 aA).f2).toList))))) = true := c7; clear c7; obtain rfl := Option.some.inj H; have aB : 0 ≤ (aA : Int) := odt; have aC : aA < (l0.length : Int) := odt; obtain ⟨aQ, aL, aF, aG, aH⟩ := at_T98 aW.out aA aB aC; cases aL; replace aB := eq_true aB; replace aC := eq_true aC; have aD : 0 ≤ (aA : Int) := odt; have aE : aA < (l1.length : Int) := odt; obtain ⟨aR, aM, aI, aJ, aK⟩ := at_T98 aX.out aA aD aE; cases aM; replace aD := eq_true aD; replace aE := eq_true aE
        go_wp2
        repeat (go_quiet (fail); try go_wp2)
        go_ret
        exact ⟨Z26, Z34⟩
       ·rw [if_neg c7] at H
        have aT : (!(((rd_T98 l0 aA).f0) == ((rd_T98 l1 aA).f0)) || (!(((rd_T98 l0 aA).f1) == ((rd_T98 l1 aA).f1)) || (!((((rd_T98 l0 aA).f2).toList) == (((rd_T98 l1 aA).f2).toList))))) = false := by simpa using c7
        clear c7; have H' := A_ H; clear H; have aB : 0 ≤ (aA : Int) := odt; have aC : aA < (l0.length : Int) := odt; obtain ⟨aQ, aL, aF, aG, aH⟩ := at_T98 aW.out aA aB aC; cases aL; replace aB := eq_true aB; replace aC := eq_true aC; have aD : 0 ≤ (aA : Int) := odt; have aE : aA < (l1.length : Int) := odt; obtain ⟨aR, aM, aI, aJ, aK⟩ := at_T98 aX.out aA aD aE; cases aM; replace aD := eq_true aD; replace aE := eq_true aE
        go_wp2
        repeat (go_quiet (fail); try go_wp2)
        go_roundg k1
        case measure => have := aY.out; omega
        case rel => exact ⟨(wrap64 (aA + 1)), Z26, H', ⟨by have := aY.out; omega⟩, Z34⟩
      ·rw [if_neg c6] at H
       exact absurd H (by simp)
     ·rw [if_neg c5] at H
      exact absurd H (by simp)
    ·rw [if_neg c4] at H
     have aS := df c4; clear c4; obtain rfl := Option.some.inj H
     go_wp2
     repeat (go_quiet (fail); try go_wp2)
     go_ret
     exact ⟨Z26, Z34⟩
 ·rw [if_neg c3] at H
  have aN : ((l0.length : Int) == (l1.length : Int)) = false := beq_eq_false_iff_ne.mpr c3; have aO : ((l0.length : Int) != (l1.length : Int)) = true := bne_iff_ne.mpr c3
  have aP : (l0.length == l1.length) = false := by first | simpa using c3 | (simp at c3 ⊢; omega)
  obtain rfl := Option.some.inj H
  go_enter Try.func60, Try.ntmps60
  go_wp2
  repeat (go_quiet (fail); try go_wp2)
  go_ret
  exact ⟨Z26, Z34⟩
def spec_sameStore.l0 : Nat → List (S72) → List (S72) → Int → Option (Bool)
 | 0, _, _, _ => none
 | k + 1, x0, x1, x5 => if x5 < (x0.length : Int) then (if 0 ≤ x5 then (if x5 < (x1.length : Int) then ((spec_comparePlaces.f k ((rd_T72 x0 x5).f0) ((rd_T72 x1 x5).f0)).bind fun aA => (if aA = 0 then ((spec_sameValues.f k ((rd_T72 x0 x5).f1) ((rd_T72 x1 x5).f1)).bind fun aB => (if aB = true then (spec_sameStore.l0 k x0 x1 (wrap64 (x5 + 1))) else (some false))) else (some false))) else (none)) else (none)) else (some true)
def spec_sameStore.f (k : Nat) (l0 : List (S72)) (l1 : List (S72)) : Option (Bool) := if (l0.length : Int) = (l1.length : Int) then (spec_sameStore.l0 k l0 l1 0) else (some false)
theorem spec_sameStore.calls (k : Nat) (A0 : Option Addr) (c0 : Nat) (l0 : List (S72)) (A1 : Option Addr) (c1 : Nat) (l1 : List (S72)) (r : Bool) (w : World) (cM : Kd.C k72 w A0 l0.length l0) (hc0 : l0.length ≤ c0) (hr1 : Kd.C k72 w A1 l1.length l1) (cN : l1.length ≤ c1) (h : spec_sameStore.f k l0 l1 = some r) :
  Calls Try.prog 32 #[.slice A0 l0.length c0, .slice A1 l1.length c1] w fun e w' => e = .returned (.bool r) ∧ Drawn0 w w' := by
 have cD := A_ cM; have cT := A_ hc0; clear cM hc0; have cE := A_ hr1; have cU := A_ cN; clear hr1 cN; have H := h; unfold spec_sameStore.f at H; clear h
 by_cases c3 : (l0.length : Int) = (l1.length : Int)
 ·rw [if_pos c3] at H
  have cF : ((l0.length : Int) == (l1.length : Int)) = true := beq_iff_eq.mpr c3; have cG : ((l0.length : Int) != (l1.length : Int)) = false := bne_eq_false_iff_eq.mpr c3
  have cH : (l0.length == l1.length) = true := by first | simpa using c3 | (simp at c3 ⊢; omega)
  clear c3; have H' := A_ H; clear H
  go_enter Try.func32, Try.ntmps32
  go_wp2
  repeat (go_quiet (fail); try go_wp2)
  go_loopg [5] k (fun kq v5 w' => ∃ (aA : Int), v5 = .int .i64 aA ∧ Aside0 (spec_sameStore.l0 kq l0 l1 aA = some r) ∧ Aside0 (kq ≤ k) ∧ Drawn0 w w')
  case atStart => exact ⟨(0), Z26, H', ⟨Nat.le_refl _⟩, Z34⟩
  case round =>
   clear H'; try clear c1
   try clear c3
   try clear cF
   try clear cG
   try clear cH
   obtain ⟨aA, rfl, HA, cO, ⟨m1, rfl⟩⟩ := hrel
   cases gk with
   | zero => exact absurd HA.out (by simp [spec_sameStore.l0])
   | succ k1 =>
    have H := HA.out; clear HA; simp only [spec_sameStore.l0] at H
    by_cases c4 : aA < (l0.length : Int)
    ·rw [if_pos c4] at H
     have cI := dt c4; clear c4
     by_cases c5 : 0 ≤ aA
     ·rw [if_pos c5] at H
      have cR := dt c5; clear c5
      by_cases c6 : aA < (l1.length : Int)
      ·rw [if_pos c6] at H
       have cS := dt c6; clear c6; replace H := bS H; obtain ⟨bD, cP, H⟩ := H
       try dsimp only at H
       have A7 := A_ cP; clear cP
       by_cases c8 : bD = 0
       ·rw [if_pos c8] at H
        have cJ : (bD == 0) = true := beq_iff_eq.mpr c8; have cK : (bD != 0) = false := bne_eq_false_iff_eq.mpr c8; clear c8; replace H := bS H; obtain ⟨cL, cQ, H⟩ := H
        try dsimp only at H
        have A9 := A_ cQ; clear cQ
        by_cases c10 : cL = true
        ·subst c10
         rw [if_pos rfl] at H; have H' := A_ H; clear H; have bK : 0 ≤ (aA : Int) := odt; have bL : aA < (l0.length : Int) := odt; obtain ⟨bI, b3, b4, b5, b6, b7, aZ, a0, a1, a2, a3, a4⟩ := at_T72 cD.out aA bK bL; cases b7; have aJ := A_ a2; have aK := A_ a1; clear a2 a1; have bZ := A_ a4; have b0 := A_ a3; clear a4 a3; replace bK := eq_true bK; replace bL := eq_true bL; have bM : 0 ≤ (aA : Int) := odt; have bN : aA < (l1.length : Int) := odt; obtain ⟨bJ, b8, b9, cA, cB, cC, a5, a6, a7, a8, a9, bA⟩ := at_T72 cE.out aA bM bN; cases cC; have aL := A_ a8; have aM := A_ a7; clear a8 a7; have b1 := A_ bA; have b2 := A_ a9; clear bA a9; replace bM := eq_true bM; replace bN := eq_true bN
         go_wp2_with (first | (go_at_call 59; (with_reducible refine (spec_comparePlaces.calls k1 _ _ ((rd_T72 l0 aA).f0) _ _ ((rd_T72 l1 aA).f0) bD _ ?s1 aK.out ?s3 aM.out A7.out).mono ?_); (case s1 => exact Z21 aJ.out); (case s3 => exact Z21 aL.out); rintro e w' ⟨rfl, ⟨nd, rfl⟩⟩; (try first | exact ⟨rfl, _, World.drewN_drewN _ _ _⟩ | exact ⟨rfl, _, Eq.trans (World.drewN_drewN _ _ _) (congrArg (World.drewN _) (Nat.add_assoc _ _ _))⟩); have aV : 0 ≤ (aA : Int) := odt; have aW : aA < (l0.length : Int) := odt; obtain ⟨bB, bO, bP, bQ, bR, bT, aN, aO, aB, aC, aD, aE⟩ := at_T72 cD.out aA aV aW; obtain rfl : bI = bB := (by injection bT); have bE := A_ aC; have bF := A_ aB; clear aC aB; have aP := A_ aE; have aQ := A_ aD; clear aE aD; replace aV := eq_true aV; replace aW := eq_true aW; have ea_ := Option.some.inj (aZ.symm.trans aN); injection ea_ with ea_ en_ ec_; subst ea_; subst ec_; clear en_; have ea_ := Option.some.inj (a0.symm.trans aO); injection ea_ with ea_ en_ ec_; subst ea_; subst ec_; clear en_; have aX : 0 ≤ (aA : Int) := odt; have aY : aA < (l1.length : Int) := odt; obtain ⟨bC, bU, bV, bW, bX, bY, aR, aS, aF, aG, aH, aI⟩ := at_T72 cE.out aA aX aY; obtain rfl : bJ = bC := (by injection bY); have bG := A_ aG; have bH := A_ aF; clear aG aF; have aT := A_ aI; have aU := A_ aH; clear aI aH; replace aX := eq_true aX; replace aY := eq_true aY; have ea_ := Option.some.inj (a5.symm.trans aR); injection ea_ with ea_ en_ ec_; subst ea_; subst ec_; clear en_; have ea_ := Option.some.inj (a6.symm.trans aS); injection ea_ with ea_ en_ ec_; subst ea_; subst ec_; clear en_) | (go_at_call 60; (with_reducible refine (spec_sameValues.calls k1 _ _ ((rd_T72 l0 aA).f1) _ _ ((rd_T72 l1 aA).f1) true _ ?s1 aQ.out ?s3 aU.out A9.out).mono ?_); (case s1 => exact Z21 aP.out); (case s3 => exact Z21 aT.out); rintro e w' ⟨rfl, ⟨nd, rfl⟩⟩; (try first | exact ⟨rfl, _, World.drewN_drewN _ _ _⟩ | exact ⟨rfl, _, Eq.trans (World.drewN_drewN _ _ _) (congrArg (World.drewN _) (Nat.add_assoc _ _ _))⟩)))
         repeat (go_quiet (first | (go_at_call 59; (with_reducible refine (spec_comparePlaces.calls k1 _ _ ((rd_T72 l0 aA).f0) _ _ ((rd_T72 l1 aA).f0) bD _ ?s1 aK.out ?s3 aM.out A7.out).mono ?_); (case s1 => exact Z21 aJ.out); (case s3 => exact Z21 aL.out); rintro e w' ⟨rfl, ⟨nd, rfl⟩⟩; (try first | exact ⟨rfl, _, World.drewN_drewN _ _ _⟩ | exact ⟨rfl, _, Eq.trans (World.drewN_drewN _ _ _) (congrArg (World.drewN _) (Nat.add_assoc _ _ _))⟩); have aV : 0 ≤ (aA : Int) := odt; have aW : aA < (l0.length : Int) := odt; obtain ⟨bB, bO, bP, bQ, bR, bT, aN, aO, aB, aC, aD, aE⟩ := at_T72 cD.out aA aV aW; obtain rfl : bI = bB := (by injection bT); have bE := A_ aC; have bF := A_ aB; clear aC aB; have aP := A_ aE; have aQ := A_ aD; clear aE aD; replace aV := eq_true aV; replace aW := eq_true aW; have ea_ := Option.some.inj (aZ.symm.trans aN); injection ea_ with ea_ en_ ec_; subst ea_; subst ec_; clear en_; have ea_ := Option.some.inj (a0.symm.trans aO); injection ea_ with ea_ en_ ec_; subst ea_; subst ec_; clear en_; have aX : 0 ≤ (aA : Int) := odt; have aY : aA < (l1.length : Int) := odt; obtain ⟨bC, bU, bV, bW, bX, bY, aR, aS, aF, aG, aH, aI⟩ := at_T72 cE.out aA aX aY; obtain rfl : bJ = bC := (by injection bY); have bG := A_ aG; have bH := A_ aF; clear aG aF; have aT := A_ aI; have aU := A_ aH; clear aI aH; replace aX := eq_true aX; replace aY := eq_true aY; have ea_ := Option.some.inj (a5.symm.trans aR); injection ea_ with ea_ en_ ec_; subst ea_; subst ec_; clear en_; have ea_ := Option.some.inj (a6.symm.trans aS); injection ea_ with ea_ en_ ec_; subst ea_; subst ec_; clear en_) | (go_at_call 60; (with_reducible refine (spec_sameValues.calls k1 _ _ ((rd_T72 l0 aA).f1) _ _ ((rd_T72 l1 aA).f1) true _ ?s1 aQ.out ?s3 aU.out A9.out).mono ?_); (case s1 => exact Z21 aP.out); (case s3 => exact Z21 aT.out); rintro e w' ⟨rfl, ⟨nd, rfl⟩⟩; (try first | exact ⟨rfl, _, World.drewN_drewN _ _ _⟩ | exact ⟨rfl, _, Eq.trans (World.drewN_drewN _ _ _) (congrArg (World.drewN _) (Nat.add_assoc _ _ _))⟩))); try go_wp2_with (first | (go_at_call 59; (with_reducible refine (spec_comparePlaces.calls k1 _ _ ((rd_T72 l0 aA).f0) _ _ ((rd_T72 l1 aA).f0) bD _ ?s1 aK.out ?s3 aM.out A7.out).mono ?_); (case s1 => exact Z21 aJ.out); (case s3 => exact Z21 aL.out); rintro e w' ⟨rfl, ⟨nd, rfl⟩⟩; (try first | exact ⟨rfl, _, World.drewN_drewN _ _ _⟩ | exact ⟨rfl, _, Eq.trans (World.drewN_drewN _ _ _) (congrArg (World.drewN _) (Nat.add_assoc _ _ _))⟩); have aV : 0 ≤ (aA : Int) := of_decide_eq_true (by first | (with_reducible assumption) | assumption); have aW : aA < (l0.length : Int) := of_decide_eq_true (by first | (with_reducible assumption) | assumption); obtain ⟨bB, bO, bP, bQ, bR, bT, aN, aO, aB, aC, aD, aE⟩ := at_T72 cD.out aA aV aW; obtain rfl : bI = bB := (by injection bT); have bE := A_ aC; have bF := A_ aB; clear aC aB; have aP := A_ aE; have aQ := A_ aD; clear aE aD; replace aV := eq_true aV; replace aW := eq_true aW; have ea_ := Option.some.inj (aZ.symm.trans aN); injection ea_ with ea_ en_ ec_; subst ea_; subst ec_; clear en_; have ea_ := Option.some.inj (a0.symm.trans aO); injection ea_ with ea_ en_ ec_; subst ea_; subst ec_; clear en_; have aX : 0 ≤ (aA : Int) := of_decide_eq_true (by first | (with_reducible assumption) | assumption); have aY : aA < (l1.length : Int) := of_decide_eq_true (by first | (with_reducible assumption) | assumption); obtain ⟨bC, bU, bV, bW, bX, bY, aR, aS, aF, aG, aH, aI⟩ := at_T72 cE.out aA aX aY; obtain rfl : bJ = bC := (by injection bY); have bG := A_ aG; have bH := A_ aF; clear aG aF; have aT := A_ aI; have aU := A_ aH; clear aI aH; replace aX := eq_true aX; replace aY := eq_true aY; have ea_ := Option.some.inj (a5.symm.trans aR); injection ea_ with ea_ en_ ec_; subst ea_; subst ec_; clear en_; have ea_ := Option.some.inj (a6.symm.trans aS); injection ea_ with ea_ en_ ec_; subst ea_; subst ec_; clear en_) | (go_at_call 60; (with_reducible refine (spec_sameValues.calls k1 _ _ ((rd_T72 l0 aA).f1) _ _ ((rd_T72 l1 aA).f1) true _ ?s1 aQ.out ?s3 aU.out A9.out).mono ?_); (case s1 => exact Z21 aP.out); (case s3 => exact Z21 aT.out); rintro e w' ⟨rfl, ⟨nd, rfl⟩⟩; (try first | exact ⟨rfl, _, World.drewN_drewN _ _ _⟩ | exact ⟨rfl, _, Eq.trans (World.drewN_drewN _ _ _) (congrArg (World.drewN _) (Nat.add_assoc _ _ _))⟩))))
         go_roundg k1
         case measure => have := cO.out; omega
         case rel => exact ⟨(wrap64 (aA + 1)), Z26, H', ⟨by have := cO.out; omega⟩, Z34⟩
        ·replace c10 := Bool.eq_false_iff.mpr c10
         subst c10; rw [if_neg (show ¬ (false = true) by decide)] at H; obtain rfl := Option.some.inj H; have bK : 0 ≤ (aA : Int) := odt; have bL : aA < (l0.length : Int) := odt; obtain ⟨bI, b3, b4, b5, b6, b7, aZ, a0, a1, a2, a3, a4⟩ := at_T72 cD.out aA bK bL; cases b7; have aJ := A_ a2; have aK := A_ a1; clear a2 a1; have bZ := A_ a4; have b0 := A_ a3; clear a4 a3; replace bK := eq_true bK; replace bL := eq_true bL; have bM : 0 ≤ (aA : Int) := odt; have bN : aA < (l1.length : Int) := odt; obtain ⟨bJ, b8, b9, cA, cB, cC, a5, a6, a7, a8, a9, bA⟩ := at_T72 cE.out aA bM bN; cases cC; have aL := A_ a8; have aM := A_ a7; clear a8 a7; have b1 := A_ bA; have b2 := A_ a9; clear bA a9; replace bM := eq_true bM; replace bN := eq_true bN
         go_wp2_with (first | (go_at_call 59; (with_reducible refine (spec_comparePlaces.calls k1 _ _ ((rd_T72 l0 aA).f0) _ _ ((rd_T72 l1 aA).f0) bD _ ?s1 aK.out ?s3 aM.out A7.out).mono ?_); (case s1 => exact Z21 aJ.out); (case s3 => exact Z21 aL.out); rintro e w' ⟨rfl, ⟨nd, rfl⟩⟩; (try first | exact ⟨rfl, _, World.drewN_drewN _ _ _⟩ | exact ⟨rfl, _, Eq.trans (World.drewN_drewN _ _ _) (congrArg (World.drewN _) (Nat.add_assoc _ _ _))⟩); have aV : 0 ≤ (aA : Int) := odt; have aW : aA < (l0.length : Int) := odt; obtain ⟨bB, bO, bP, bQ, bR, bT, aN, aO, aB, aC, aD, aE⟩ := at_T72 cD.out aA aV aW; obtain rfl : bI = bB := (by injection bT); have bE := A_ aC; have bF := A_ aB; clear aC aB; have aP := A_ aE; have aQ := A_ aD; clear aE aD; replace aV := eq_true aV; replace aW := eq_true aW; have ea_ := Option.some.inj (aZ.symm.trans aN); injection ea_ with ea_ en_ ec_; subst ea_; subst ec_; clear en_; have ea_ := Option.some.inj (a0.symm.trans aO); injection ea_ with ea_ en_ ec_; subst ea_; subst ec_; clear en_; have aX : 0 ≤ (aA : Int) := odt; have aY : aA < (l1.length : Int) := odt; obtain ⟨bC, bU, bV, bW, bX, bY, aR, aS, aF, aG, aH, aI⟩ := at_T72 cE.out aA aX aY; obtain rfl : bJ = bC := (by injection bY); have bG := A_ aG; have bH := A_ aF; clear aG aF; have aT := A_ aI; have aU := A_ aH; clear aI aH; replace aX := eq_true aX; replace aY := eq_true aY; have ea_ := Option.some.inj (a5.symm.trans aR); injection ea_ with ea_ en_ ec_; subst ea_; subst ec_; clear en_; have ea_ := Option.some.inj (a6.symm.trans aS); injection ea_ with ea_ en_ ec_; subst ea_; subst ec_; clear en_) | (go_at_call 60; (with_reducible refine (spec_sameValues.calls k1 _ _ ((rd_T72 l0 aA).f1) _ _ ((rd_T72 l1 aA).f1) false _ ?s1 aQ.out ?s3 aU.out A9.out).mono ?_); (case s1 => exact Z21 aP.out); (case s3 => exact Z21 aT.out); rintro e w' ⟨rfl, ⟨nd, rfl⟩⟩; (try first | exact ⟨rfl, _, World.drewN_drewN _ _ _⟩ | exact ⟨rfl, _, Eq.trans (World.drewN_drewN _ _ _) (congrArg (World.drewN _) (Nat.add_assoc _ _ _))⟩)))
         repeat (go_quiet (first | (go_at_call 59; (with_reducible refine (spec_comparePlaces.calls k1 _ _ ((rd_T72 l0 aA).f0) _ _ ((rd_T72 l1 aA).f0) bD _ ?s1 aK.out ?s3 aM.out A7.out).mono ?_); (case s1 => exact Z21 aJ.out); (case s3 => exact Z21 aL.out); rintro e w' ⟨rfl, ⟨nd, rfl⟩⟩; (try first | exact ⟨rfl, _, World.drewN_drewN _ _ _⟩ | exact ⟨rfl, _, Eq.trans (World.drewN_drewN _ _ _) (congrArg (World.drewN _) (Nat.add_assoc _ _ _))⟩); have aV : 0 ≤ (aA : Int) := odt; have aW : aA < (l0.length : Int) := odt; obtain ⟨bB, bO, bP, bQ, bR, bT, aN, aO, aB, aC, aD, aE⟩ := at_T72 cD.out aA aV aW; obtain rfl : bI = bB := (by injection bT); have bE := A_ aC; have bF := A_ aB; clear aC aB; have aP := A_ aE; have aQ := A_ aD; clear aE aD; replace aV := eq_true aV; replace aW := eq_true aW; have ea_ := Option.some.inj (aZ.symm.trans aN); injection ea_ with ea_ en_ ec_; subst ea_; subst ec_; clear en_; have ea_ := Option.some.inj (a0.symm.trans aO); injection ea_ with ea_ en_ ec_; subst ea_; subst ec_; clear en_; have aX : 0 ≤ (aA : Int) := odt; have aY : aA < (l1.length : Int) := odt; obtain ⟨bC, bU, bV, bW, bX, bY, aR, aS, aF, aG, aH, aI⟩ := at_T72 cE.out aA aX aY; obtain rfl : bJ = bC := (by injection bY); have bG := A_ aG; have bH := A_ aF; clear aG aF; have aT := A_ aI; have aU := A_ aH; clear aI aH; replace aX := eq_true aX; replace aY := eq_true aY; have ea_ := Option.some.inj (a5.symm.trans aR); injection ea_ with ea_ en_ ec_; subst ea_; subst ec_; clear en_; have ea_ := Option.some.inj (a6.symm.trans aS); injection ea_ with ea_ en_ ec_; subst ea_; subst ec_; clear en_) | (go_at_call 60; (with_reducible refine (spec_sameValues.calls k1 _ _ ((rd_T72 l0 aA).f1) _ _ ((rd_T72 l1 aA).f1) false _ ?s1 aQ.out ?s3 aU.out A9.out).mono ?_); (case s1 => exact Z21 aP.out); (case s3 => exact Z21 aT.out); rintro e w' ⟨rfl, ⟨nd, rfl⟩⟩; (try first | exact ⟨rfl, _, World.drewN_drewN _ _ _⟩ | exact ⟨rfl, _, Eq.trans (World.drewN_drewN _ _ _) (congrArg (World.drewN _) (Nat.add_assoc _ _ _))⟩))); try go_wp2_with (first | (go_at_call 59; (with_reducible refine (spec_comparePlaces.calls k1 _ _ ((rd_T72 l0 aA).f0) _ _ ((rd_T72 l1 aA).f0) bD _ ?s1 aK.out ?s3 aM.out A7.out).mono ?_); (case s1 => exact Z21 aJ.out); (case s3 => exact Z21 aL.out); rintro e w' ⟨rfl, ⟨nd, rfl⟩⟩; (try first | exact ⟨rfl, _, World.drewN_drewN _ _ _⟩ | exact ⟨rfl, _, Eq.trans (World.drewN_drewN _ _ _) (congrArg (World.drewN _) (Nat.add_assoc _ _ _))⟩); have aV : 0 ≤ (aA : Int) := of_decide_eq_true (by first | (with_reducible assumption) | assumption); have aW : aA < (l0.length : Int) := of_decide_eq_true (by first | (with_reducible assumption) | assumption); obtain ⟨bB, bO, bP, bQ, bR, bT, aN, aO, aB, aC, aD, aE⟩ := at_T72 cD.out aA aV aW; obtain rfl : bI = bB := (by injection bT); have bE := A_ aC; have bF := A_ aB; clear aC aB; have aP := A_ aE; have aQ := A_ aD; clear aE aD; replace aV := eq_true aV; replace aW := eq_true aW; have ea_ := Option.some.inj (aZ.symm.trans aN); injection ea_ with ea_ en_ ec_; subst ea_; subst ec_; clear en_; have ea_ := Option.some.inj (a0.symm.trans aO); injection ea_ with ea_ en_ ec_; subst ea_; subst ec_; clear en_; have aX : 0 ≤ (aA : Int) := of_decide_eq_true (by first | (with_reducible assumption) | assumption); have aY : aA < (l1.length : Int) := of_decide_eq_true (by first | (with_reducible assumption) | assumption); obtain ⟨bC, bU, bV, bW, bX, bY, aR, aS, aF, aG, aH, aI⟩ := at_T72 cE.out aA aX aY; obtain rfl : bJ = bC := (by injection bY); have bG := A_ aG; have bH := A_ aF; clear aG aF; have aT := A_ aI; have aU := A_ aH; clear aI aH; replace aX := eq_true aX; replace aY := eq_true aY; have ea_ := Option.some.inj (a5.symm.trans aR); injection ea_ with ea_ en_ ec_; subst ea_; subst ec_; clear en_; have ea_ := Option.some.inj (a6.symm.trans aS); injection ea_ with ea_ en_ ec_; subst ea_; subst ec_; clear en_) | (go_at_call 60; (with_reducible refine (spec_sameValues.calls k1 _ _ ((rd_T72 l0 aA).f1) _ _ ((rd_T72 l1 aA).f1) false _ ?s1 aQ.out ?s3 aU.out A9.out).mono ?_); (case s1 => exact Z21 aP.out); (case s3 => exact Z21 aT.out); rintro e w' ⟨rfl, ⟨nd, rfl⟩⟩; (try first | exact ⟨rfl, _, World.drewN_drewN _ _ _⟩ | exact ⟨rfl, _, Eq.trans (World.drewN_drewN _ _ _) (congrArg (World.drewN _) (Nat.add_assoc _ _ _))⟩))))
         go_ret
         exact ⟨Z26, Z34⟩
       ·rw [if_neg c8] at H
        have cJ : (bD == 0) = false := beq_eq_false_iff_ne.mpr c8; have cK : (bD != 0) = true := bne_iff_ne.mpr c8; obtain rfl := Option.some.inj H; have bK : 0 ≤ (aA : Int) := odt; have bL : aA < (l0.length : Int) := odt; obtain ⟨bI, b3, b4, b5, b6, b7, aZ, a0, a1, a2, a3, a4⟩ := at_T72 cD.out aA bK bL; cases b7; have aJ := A_ a2; have aK := A_ a1; clear a2 a1; have bZ := A_ a4; have b0 := A_ a3; clear a4 a3; replace bK := eq_true bK; replace bL := eq_true bL; have bM : 0 ≤ (aA : Int) := odt; have bN : aA < (l1.length : Int) := odt; obtain ⟨bJ, b8, b9, cA, cB, cC, a5, a6, a7, a8, a9, bA⟩ := at_T72 cE.out aA bM bN; cases cC; have aL := A_ a8; have aM := A_ a7; clear a8 a7; have b1 := A_ bA; have b2 := A_ a9; clear bA a9; replace bM := eq_true bM; replace bN := eq_true bN
        go_wp2_with (first | (go_at_call 59; (with_reducible refine (spec_comparePlaces.calls k1 _ _ ((rd_T72 l0 aA).f0) _ _ ((rd_T72 l1 aA).f0) bD _ ?s1 aK.out ?s3 aM.out A7.out).mono ?_); (case s1 => exact Z21 aJ.out); (case s3 => exact Z21 aL.out); rintro e w' ⟨rfl, ⟨nd, rfl⟩⟩; (try first | exact ⟨rfl, _, World.drewN_drewN _ _ _⟩ | exact ⟨rfl, _, Eq.trans (World.drewN_drewN _ _ _) (congrArg (World.drewN _) (Nat.add_assoc _ _ _))⟩)))
        repeat (go_quiet (first | (go_at_call 59; (with_reducible refine (spec_comparePlaces.calls k1 _ _ ((rd_T72 l0 aA).f0) _ _ ((rd_T72 l1 aA).f0) bD _ ?s1 aK.out ?s3 aM.out A7.out).mono ?_); (case s1 => exact Z21 aJ.out); (case s3 => exact Z21 aL.out); rintro e w' ⟨rfl, ⟨nd, rfl⟩⟩; (try first | exact ⟨rfl, _, World.drewN_drewN _ _ _⟩ | exact ⟨rfl, _, Eq.trans (World.drewN_drewN _ _ _) (congrArg (World.drewN _) (Nat.add_assoc _ _ _))⟩))); try go_wp2_with (first | (go_at_call 59; (with_reducible refine (spec_comparePlaces.calls k1 _ _ ((rd_T72 l0 aA).f0) _ _ ((rd_T72 l1 aA).f0) bD _ ?s1 aK.out ?s3 aM.out A7.out).mono ?_); (case s1 => exact Z21 aJ.out); (case s3 => exact Z21 aL.out); rintro e w' ⟨rfl, ⟨nd, rfl⟩⟩; (try first | exact ⟨rfl, _, World.drewN_drewN _ _ _⟩ | exact ⟨rfl, _, Eq.trans (World.drewN_drewN _ _ _) (congrArg (World.drewN _) (Nat.add_assoc _ _ _))⟩))))
        go_ret
        exact ⟨Z26, Z34⟩
      ·rw [if_neg c6] at H
       exact absurd H (by simp)
     ·rw [if_neg c5] at H
      exact absurd H (by simp)
    ·rw [if_neg c4] at H
     have cI := df c4; clear c4; obtain rfl := Option.some.inj H
     go_wp2
     repeat (go_quiet (fail); try go_wp2)
     go_ret
     exact ⟨Z26, Z34⟩
 ·rw [if_neg c3] at H
  have cF : ((l0.length : Int) == (l1.length : Int)) = false := beq_eq_false_iff_ne.mpr c3; have cG : ((l0.length : Int) != (l1.length : Int)) = true := bne_iff_ne.mpr c3
  have cH : (l0.length == l1.length) = false := by first | simpa using c3 | (simp at c3 ⊢; omega)
  obtain rfl := Option.some.inj H
  go_enter Try.func32, Try.ntmps32
  go_wp2
  repeat (go_quiet (fail); try go_wp2)
  go_ret
  exact ⟨Z26, Z34⟩
def spec_SameStores.l0 : Nat → List (List (S72)) → List (List (S72)) → Int → Option (Bool)
 | 0, _, _, _ => none
 | k + 1, x0, x1, x5 => if x5 < (x0.length : Int) then (if 0 ≤ x5 then (if x5 < (x1.length : Int) then ((spec_sameStore.f k (rd_L7 x0 x5) (rd_L7 x1 x5)).bind fun aA => (if aA = true then (spec_SameStores.l0 k x0 x1 (wrap64 (x5 + 1))) else (some false))) else (none)) else (none)) else (some true)
def spec_SameStores.f (k : Nat) (l0 : List (List (S72))) (l1 : List (List (S72))) : Option (Bool) := if (l0.length : Int) = (l1.length : Int) then (spec_SameStores.l0 k l0 l1 0) else (some false)
theorem spec_SameStores.calls (k : Nat) (A0 : Option Addr) (c0 : Nat) (l0 : List (List (S72))) (A1 : Option Addr) (c1 : Nat) (l1 : List (List (S72))) (r : Bool) (w : World) (a2 : Kd.C (Kd.slice 72 k72) w A0 l0.length l0) (hc0 : l0.length ≤ c0) (hr1 : Kd.C (Kd.slice 72 k72) w A1 l1.length l1) (a3 : l1.length ≤ c1) (h : spec_SameStores.f k l0 l1 = some r) :
  Calls Try.prog 33 #[.slice A0 l0.length c0, .slice A1 l1.length c1] w fun e w' => e = .returned (.bool r) ∧ Drawn0 w w' := by
 have a4 := A_ a2; have bA := A_ hc0; clear a2 hc0; have a5 := A_ hr1; have bB := A_ a3; clear hr1 a3; have H := h; unfold spec_SameStores.f at H; clear h
 by_cases c3 : (l0.length : Int) = (l1.length : Int)
 ·rw [if_pos c3] at H
  have aV : ((l0.length : Int) == (l1.length : Int)) = true := beq_iff_eq.mpr c3; have aW : ((l0.length : Int) != (l1.length : Int)) = false := bne_eq_false_iff_eq.mpr c3
  have aX : (l0.length == l1.length) = true := by first | simpa using c3 | (simp at c3 ⊢; omega)
  clear c3; have H' := A_ H; clear H
  go_enter Try.func33, Try.ntmps33
  go_wp2
  repeat (go_quiet (fail); try go_wp2)
  go_loopg [5] k (fun kq v5 w' => ∃ (aA : Int), v5 = .int .i64 aA ∧ Aside0 (spec_SameStores.l0 kq l0 l1 aA = some r) ∧ Aside0 (kq ≤ k) ∧ Drawn0 w w')
  case atStart => exact ⟨(0), Z26, H', ⟨Nat.le_refl _⟩, Z34⟩
  case round =>
   clear H'; try clear c1
   try clear c3
   try clear aV
   try clear aW
   try clear aX
   obtain ⟨aA, rfl, HA, a6, ⟨m1, rfl⟩⟩ := hrel
   cases gk with
   | zero => exact absurd HA.out (by simp [spec_SameStores.l0])
   | succ k1 =>
    have H := HA.out; clear HA; simp only [spec_SameStores.l0] at H
    by_cases c4 : aA < (l0.length : Int)
    ·rw [if_pos c4] at H
     have a0 := dt c4; clear c4
     by_cases c5 : 0 ≤ aA
     ·rw [if_pos c5] at H
      have a8 := dt c5; clear c5
      by_cases c6 : aA < (l1.length : Int)
      ·rw [if_pos c6] at H
       have a9 := dt c6; clear c6; replace H := bS H; obtain ⟨a1, a7, H⟩ := H
       try dsimp only at H
       have A7 := A_ a7; clear a7
       by_cases c8 : a1 = true
       ·subst c8
        rw [if_pos rfl] at H; have H' := A_ H; clear H; have aJ : 0 ≤ (aA : Int) := odt; have aK : aA < (l0.length : Int) := odt; obtain ⟨aY, aP, aQ, aR, aN, aF, aG⟩ := at_L7 a4.out aA aJ aK; cases aR; have aB := A_ aG; have aC := A_ aF; clear aG aF; replace aJ := eq_true aJ; replace aK := eq_true aK; have aL : 0 ≤ (aA : Int) := odt; have aM : aA < (l1.length : Int) := odt; obtain ⟨aZ, aS, aT, aU, aO, aH, aI⟩ := at_L7 a5.out aA aL aM; cases aU; have aD := A_ aI; have aE := A_ aH; clear aI aH; replace aL := eq_true aL; replace aM := eq_true aM
        go_wp2_with (first | (go_at_call 32; (with_reducible refine (spec_sameStore.calls k1 _ _ (rd_L7 l0 aA) _ _ (rd_L7 l1 aA) true _ ?s1 aC.out ?s3 aE.out A7.out).mono ?_); (case s1 => exact Z21 aB.out); (case s3 => exact Z21 aD.out); rintro e w' ⟨rfl, ⟨nd, rfl⟩⟩; (try first | exact ⟨rfl, _, World.drewN_drewN _ _ _⟩ | exact ⟨rfl, _, Eq.trans (World.drewN_drewN _ _ _) (congrArg (World.drewN _) (Nat.add_assoc _ _ _))⟩)))
        repeat (go_quiet (first | (go_at_call 32; (with_reducible refine (spec_sameStore.calls k1 _ _ (rd_L7 l0 aA) _ _ (rd_L7 l1 aA) true _ ?s1 aC.out ?s3 aE.out A7.out).mono ?_); (case s1 => exact Z21 aB.out); (case s3 => exact Z21 aD.out); rintro e w' ⟨rfl, ⟨nd, rfl⟩⟩; (try first | exact ⟨rfl, _, World.drewN_drewN _ _ _⟩ | exact ⟨rfl, _, Eq.trans (World.drewN_drewN _ _ _) (congrArg (World.drewN _) (Nat.add_assoc _ _ _))⟩))); try go_wp2_with (first | (go_at_call 32; (with_reducible refine (spec_sameStore.calls k1 _ _ (rd_L7 l0 aA) _ _ (rd_L7 l1 aA) true _ ?s1 aC.out ?s3 aE.out A7.out).mono ?_); (case s1 => exact Z21 aB.out); (case s3 => exact Z21 aD.out); rintro e w' ⟨rfl, ⟨nd, rfl⟩⟩; (try first | exact ⟨rfl, _, World.drewN_drewN _ _ _⟩ | exact ⟨rfl, _, Eq.trans (World.drewN_drewN _ _ _) (congrArg (World.drewN _) (Nat.add_assoc _ _ _))⟩))))
        go_roundg k1
        case measure => have := a6.out; omega
        case rel => exact ⟨(wrap64 (aA + 1)), Z26, H', ⟨by have := a6.out; omega⟩, Z34⟩
       ·replace c8 := Bool.eq_false_iff.mpr c8
        subst c8; rw [if_neg (show ¬ (false = true) by decide)] at H; obtain rfl := Option.some.inj H; have aJ : 0 ≤ (aA : Int) := odt; have aK : aA < (l0.length : Int) := odt; obtain ⟨aY, aP, aQ, aR, aN, aF, aG⟩ := at_L7 a4.out aA aJ aK; cases aR; have aB := A_ aG; have aC := A_ aF; clear aG aF; replace aJ := eq_true aJ; replace aK := eq_true aK; have aL : 0 ≤ (aA : Int) := odt; have aM : aA < (l1.length : Int) := odt; obtain ⟨aZ, aS, aT, aU, aO, aH, aI⟩ := at_L7 a5.out aA aL aM; cases aU; have aD := A_ aI; have aE := A_ aH; clear aI aH; replace aL := eq_true aL; replace aM := eq_true aM
        go_wp2_with (first | (go_at_call 32; (with_reducible refine (spec_sameStore.calls k1 _ _ (rd_L7 l0 aA) _ _ (rd_L7 l1 aA) false _ ?s1 aC.out ?s3 aE.out A7.out).mono ?_); (case s1 => exact Z21 aB.out); (case s3 => exact Z21 aD.out); rintro e w' ⟨rfl, ⟨nd, rfl⟩⟩; (try first | exact ⟨rfl, _, World.drewN_drewN _ _ _⟩ | exact ⟨rfl, _, Eq.trans (World.drewN_drewN _ _ _) (congrArg (World.drewN _) (Nat.add_assoc _ _ _))⟩)))
        repeat (go_quiet (first | (go_at_call 32; (with_reducible refine (spec_sameStore.calls k1 _ _ (rd_L7 l0 aA) _ _ (rd_L7 l1 aA) false _ ?s1 aC.out ?s3 aE.out A7.out).mono ?_); (case s1 => exact Z21 aB.out); (case s3 => exact Z21 aD.out); rintro e w' ⟨rfl, ⟨nd, rfl⟩⟩; (try first | exact ⟨rfl, _, World.drewN_drewN _ _ _⟩ | exact ⟨rfl, _, Eq.trans (World.drewN_drewN _ _ _) (congrArg (World.drewN _) (Nat.add_assoc _ _ _))⟩))); try go_wp2_with (first | (go_at_call 32; (with_reducible refine (spec_sameStore.calls k1 _ _ (rd_L7 l0 aA) _ _ (rd_L7 l1 aA) false _ ?s1 aC.out ?s3 aE.out A7.out).mono ?_); (case s1 => exact Z21 aB.out); (case s3 => exact Z21 aD.out); rintro e w' ⟨rfl, ⟨nd, rfl⟩⟩; (try first | exact ⟨rfl, _, World.drewN_drewN _ _ _⟩ | exact ⟨rfl, _, Eq.trans (World.drewN_drewN _ _ _) (congrArg (World.drewN _) (Nat.add_assoc _ _ _))⟩))))
        go_ret
        exact ⟨Z26, Z34⟩
      ·rw [if_neg c6] at H
       exact absurd H (by simp)
     ·rw [if_neg c5] at H
      exact absurd H (by simp)
    ·rw [if_neg c4] at H
     have a0 := df c4; clear c4; obtain rfl := Option.some.inj H
     go_wp2
     repeat (go_quiet (fail); try go_wp2)
     go_ret
     exact ⟨Z26, Z34⟩
 ·rw [if_neg c3] at H
  have aV : ((l0.length : Int) == (l1.length : Int)) = false := beq_eq_false_iff_ne.mpr c3; have aW : ((l0.length : Int) != (l1.length : Int)) = true := bne_iff_ne.mpr c3
  have aX : (l0.length == l1.length) = false := by first | simpa using c3 | (simp at c3 ⊢; omega)
  obtain rfl := Option.some.inj H
  go_enter Try.func33, Try.ntmps33
  go_wp2
  repeat (go_quiet (fail); try go_wp2)
  go_ret
  exact ⟨Z26, Z34⟩
def spec_SameHist.f (k : Nat) (aA : List (S72)) (aB : List (List (S72))) (aC : List (List (S72))) (aD : List (S72)) (aE : List (List (S72))) (aF : List (List (S72))) : Option (Bool) := (spec_sameStore.f k aA aD).bind fun aG => (if aG = true then ((spec_SameStores.f k aB aE).bind fun aH => (if aH = true then ((spec_SameStores.f k aC aF).bind fun aI => (some aI)) else (some false))) else (some false))
theorem spec_SameHist.calls (k : Nat) (aN : Option Addr) (aO : Nat) (aF : List (S72)) (aU : Option Addr) (aV : Nat) (aJ : List (List (S72))) (aW : Option Addr) (aX : Nat) (aL : List (List (S72))) (aP : Option Addr) (aQ : Nat) (aG : List (S72)) (aY : Option Addr) (aZ : Nat) (aK : List (List (S72))) (a0 : Option Addr) (a1 : Nat) (aM : List (List (S72))) (r : Bool) (w : World) (a6 : Kd.C k72 w aN aF.length aF) (a7 : aF.length ≤ aO) (a8 : Kd.C (Kd.slice 72 k72) w aU aJ.length aJ) (a9 : aJ.length ≤ aV) (bA : Kd.C (Kd.slice 72 k72) w aW aL.length aL) (bB : aL.length ≤ aX) (bC : Kd.C k72 w aP aG.length aG) (bD : aG.length ≤ aQ) (bE : Kd.C (Kd.slice 72 k72) w aY aK.length aK) (bF : aK.length ≤ aZ) (bG : Kd.C (Kd.slice 72 k72) w a0 aM.length aM) (bH : aM.length ≤ a1) (h : spec_SameHist.f k aF aJ aL aG aK aM = some r) :
  Calls Try.prog 10 #[.agg #[.slice aN aF.length aO, .slice aU aJ.length aV, .slice aW aL.length aX], .agg #[.slice aP aG.length aQ, .slice aY aK.length aZ, .slice a0 aM.length a1]] w fun e w' => e = .returned (.bool r) ∧ Below w.heap.size w w' := by
 have dD := Try.underlying26; have a2 := A_ a6; have a3 := A_ a7; clear a6 a7; have bI := A_ a8; have bJ := A_ a9; clear a8 a9; have bM := A_ bA; have bN := A_ bB; clear bA bB; have a4 := A_ bC; have a5 := A_ bD; clear bC bD; have bK := A_ bE; have bL := A_ bF; clear bE bF; have bO := A_ bG; have bP := A_ bH; clear bG bH; have HB := A_ (Below.refl w.heap.size w); have H := h; unfold spec_SameHist.f at H; clear h; replace H := bS H; obtain ⟨cR, cU, H⟩ := H
 try dsimp only at H
 have A3 := A_ cU; clear cU
 by_cases c4 : cR = true
 ·subst c4
  rw [if_pos rfl] at H; replace H := bS H; obtain ⟨cS, cV, H⟩ := H
  try dsimp only at H
  have A5 := A_ cV; clear cV
  by_cases c6 : cS = true
  ·subst c6
   rw [if_pos rfl] at H; replace H := bS H; obtain ⟨cT, cW, H⟩ := H
   try dsimp only at H
   have A7 := A_ cW; clear cW; obtain rfl := Option.some.inj H
   go_enter Try.func10, Try.ntmps10
   go_wp2_with (first | ((with_reducible refine gate_dst (N := 2) rfl ?_); refine be (cs := #[.slice aN aF.length aO, .slice aU aJ.length aV, .slice aW aL.length aX]) (t := 26) ?_; intro aH hg w8 hbox hb; have aA := A_ hbox; have aR := A_ (gl hg (bz Z2)); have aB := aR; replace HB := A_ (bst Z2 hb); clear hb hbox hg) | ((with_reducible refine gate_dst (N := 3) rfl ?_); refine be (cs := #[.slice aP aG.length aQ, .slice aY aK.length aZ, .slice a0 aM.length a1]) (t := 26) ?_; intro aI hg w9 hbox hb; have aS := A_ hbox; have aT := A_ (gl hg (bz (Z3 aB.out))); have aE := aT; replace HB := A_ (bst (Z3 aB.out) hb); have aC := A_ ((by rw [hg]; exact nl (blk_lt (Z0 aA.out)) : aH ≠ aI)); have aD := A_ ((by rw [hg]; exact Nat.ne_of_gt (blk_lt (Z0 aA.out)) : aI ≠ aH)); replace aA := A_ (bb (Z0 aA.out) hb); clear hb hbox hg; have cX := aC.out; have cY := aD.out; obtain ⟨bQ, bR, bT, bU, bV, bW⟩ := C3 aA.out; obtain ⟨bX, bY, bZ, b0, b1, b2⟩ := C3 aS.out) | ((with_reducible refine gate_callee (f := 32) rfl ?_); refine gL 9 Try.func32 #[.slice aN aF.length aO, .slice aP aG.length aQ] ?_; (with_reducible refine (spec_sameStore.calls k _ _ aF _ _ aG true _ ?s1 a3.out ?s3 a5.out A3.out).mono ?_); (case s1 => exact Z5 a2.out); (case s3 => exact Z5 a4.out); rintro e w' ⟨rfl, ⟨nd, rfl⟩⟩; refine ⟨_, rfl, ?_⟩) | (go_at_call 33; (with_reducible refine (spec_SameStores.calls k _ _ aJ _ _ aK true _ ?s1 bJ.out ?s3 bL.out A5.out).mono ?_); (case s1 => repeat (first | exact (Kd.C_below bI.out (Z4 aB.out aE.out)) | (with_reducible refine Kd.C_alloc ?_ _) | (with_reducible refine Kd.C_drewN ?_ _) | (with_reducible refine Kd.C_drew ?_))); (case s3 => repeat (first | exact (Kd.C_below bK.out (Z4 aB.out aE.out)) | (with_reducible refine Kd.C_alloc ?_ _) | (with_reducible refine Kd.C_drewN ?_ _) | (with_reducible refine Kd.C_drew ?_))); rintro e w' ⟨rfl, ⟨nd, rfl⟩⟩) | (go_at_call 33; (with_reducible refine (spec_SameStores.calls k _ _ aL _ _ aM cT _ ?s1 bN.out ?s3 bP.out A7.out).mono ?_); (case s1 => repeat (first | exact (Kd.C_below bM.out (Z4 aB.out aE.out)) | (with_reducible refine Kd.C_alloc ?_ _) | (with_reducible refine Kd.C_drewN ?_ _) | (with_reducible refine Kd.C_drew ?_))); (case s3 => repeat (first | exact (Kd.C_below bO.out (Z4 aB.out aE.out)) | (with_reducible refine Kd.C_alloc ?_ _) | (with_reducible refine Kd.C_drewN ?_ _) | (with_reducible refine Kd.C_drew ?_))); rintro e w' ⟨rfl, ⟨nd, rfl⟩⟩))
   go_ret
   exact ⟨Z11, Z4 aB.out aE.out⟩
  ·replace c6 := Bool.eq_false_iff.mpr c6
   subst c6; rw [if_neg (show ¬ (false = true) by decide)] at H; obtain rfl := Option.some.inj H
   go_enter Try.func10, Try.ntmps10
   go_wp2_with (first | ((with_reducible refine gate_dst (N := 2) rfl ?_); refine be (cs := #[.slice aN aF.length aO, .slice aU aJ.length aV, .slice aW aL.length aX]) (t := 26) ?_; intro aH hg dE hbox hb; have aA := A_ hbox; have aR := A_ (gl hg (bz Z2)); have aB := aR; replace HB := A_ (bst Z2 hb); clear hb hbox hg) | ((with_reducible refine gate_dst (N := 3) rfl ?_); refine be (cs := #[.slice aP aG.length aQ, .slice aY aK.length aZ, .slice a0 aM.length a1]) (t := 26) ?_; intro aI hg dF hbox hb; have aS := A_ hbox; have aT := A_ (gl hg (bz (Z3 aB.out))); have aE := aT; replace HB := A_ (bst (Z3 aB.out) hb); have aC := A_ ((by rw [hg]; exact nl (blk_lt (Z0 aA.out)) : aH ≠ aI)); have aD := A_ ((by rw [hg]; exact Nat.ne_of_gt (blk_lt (Z0 aA.out)) : aI ≠ aH)); replace aA := A_ (bb (Z0 aA.out) hb); clear hb hbox hg; have cZ := aC.out; have dA := aD.out; obtain ⟨b3, b4, b5, b6, b7, b8⟩ := C3 aA.out; obtain ⟨b9, cA, cB, cC, cD, cE⟩ := C3 aS.out) | ((with_reducible refine gate_callee (f := 32) rfl ?_); refine gL 9 Try.func32 #[.slice aN aF.length aO, .slice aP aG.length aQ] ?_; (with_reducible refine (spec_sameStore.calls k _ _ aF _ _ aG true _ ?s1 a3.out ?s3 a5.out A3.out).mono ?_); (case s1 => exact Z5 a2.out); (case s3 => exact Z5 a4.out); rintro e w' ⟨rfl, ⟨nd, rfl⟩⟩; refine ⟨_, rfl, ?_⟩) | (go_at_call 33; (with_reducible refine (spec_SameStores.calls k _ _ aJ _ _ aK false _ ?s1 bJ.out ?s3 bL.out A5.out).mono ?_); (case s1 => repeat (first | exact (Kd.C_below bI.out (Z4 aB.out aE.out)) | (with_reducible refine Kd.C_alloc ?_ _) | (with_reducible refine Kd.C_drewN ?_ _) | (with_reducible refine Kd.C_drew ?_))); (case s3 => repeat (first | exact (Kd.C_below bK.out (Z4 aB.out aE.out)) | (with_reducible refine Kd.C_alloc ?_ _) | (with_reducible refine Kd.C_drewN ?_ _) | (with_reducible refine Kd.C_drew ?_))); rintro e w' ⟨rfl, ⟨nd, rfl⟩⟩))
   go_ret
   exact ⟨Z11, Z4 aB.out aE.out⟩
 ·replace c4 := Bool.eq_false_iff.mpr c4
  subst c4; rw [if_neg (show ¬ (false = true) by decide)] at H; obtain rfl := Option.some.inj H
  go_enter Try.func10, Try.ntmps10
  go_wp2_with (first | ((with_reducible refine gate_dst (N := 2) rfl ?_); refine be (cs := #[.slice aN aF.length aO, .slice aU aJ.length aV, .slice aW aL.length aX]) (t := 26) ?_; intro aH hg dG hbox hb; have aA := A_ hbox; have aR := A_ (gl hg (bz Z2)); have aB := aR; replace HB := A_ (bst Z2 hb); clear hb hbox hg) | ((with_reducible refine gate_dst (N := 3) rfl ?_); refine be (cs := #[.slice aP aG.length aQ, .slice aY aK.length aZ, .slice a0 aM.length a1]) (t := 26) ?_; intro aI hg dH hbox hb; have aS := A_ hbox; have aT := A_ (gl hg (bz (Z3 aB.out))); have aE := aT; replace HB := A_ (bst (Z3 aB.out) hb); have aC := A_ ((by rw [hg]; exact nl (blk_lt (Z0 aA.out)) : aH ≠ aI)); have aD := A_ ((by rw [hg]; exact Nat.ne_of_gt (blk_lt (Z0 aA.out)) : aI ≠ aH)); replace aA := A_ (bb (Z0 aA.out) hb); clear hb hbox hg; have dB := aC.out; have dC := aD.out; obtain ⟨cF, cG, cH, cI, cJ, cK⟩ := C3 aA.out; obtain ⟨cL, cM, cN, cO, cP, cQ⟩ := C3 aS.out) | ((with_reducible refine gate_callee (f := 32) rfl ?_); refine gL 9 Try.func32 #[.slice aN aF.length aO, .slice aP aG.length aQ] ?_; (with_reducible refine (spec_sameStore.calls k _ _ aF _ _ aG false _ ?s1 a3.out ?s3 a5.out A3.out).mono ?_); (case s1 => exact Z5 a2.out); (case s3 => exact Z5 a4.out); rintro e w' ⟨rfl, ⟨nd, rfl⟩⟩; refine ⟨_, rfl, ?_⟩))
  go_ret
  exact ⟨Z11, Z4 aB.out aE.out⟩
def impl_HistRedo.j0 : Nat → Bool → List (S72) → List (List (S72)) → List (List (S72)) → Option ((List (S72)) × (List (List (S72))) × (List (List (S72))) × Bool)
 | 0, _, _, _, _ => none
 | k + 1, aF, aC, aD, aE => if aF = true then (some (([] : List (S72)), ([] : List (List (S72))), ([] : List (List (S72))), false)) else ((impl_histCopy.f k aC aD aE).bind fun aA => ((impl_histStep.f aA.1 aA.2.2 aA.2.1).bind fun aB => (some (aB.1, aB.2.2, aB.2.1, true))))
def impl_HistRedo.f (k : Nat) (aB : List (S72)) (aC : List (List (S72))) (aA : List (List (S72))) : Option ((List (S72)) × (List (List (S72))) × (List (List (S72))) × Bool) := (impl_HistOk.f k aB aC aA).bind fun aD => (if aD = true then (impl_HistRedo.j0 k ((aA.length : Int) == 0) aB aC aA) else (impl_HistRedo.j0 k true aB aC aA))
theorem impl_HistRedo.calls (k : Nat) (aZ : Option Addr) (a0 : Nat) (aO : List (S72)) (a1 : Option Addr) (a2 : Nat) (aP : List (List (S72))) (a3 : Option Addr) (a4 : Nat) (aL : List (List (S72))) (r1 : List (S72)) (r2 : List (List (S72))) (r3 : List (List (S72))) (r4 : Bool) (w : World) (bK : Kd.C k72 w aZ aO.length aO) (bL : aO.length ≤ a0) (bM : Kd.C (Kd.slice 72 k72) w a1 aP.length aP) (bN : aP.length ≤ a2) (bO : Kd.C (Kd.slice 72 k72) w a3 aL.length aL) (bP : aL.length ≤ a4) (h : impl_HistRedo.f k aO aP aL = some (r1, r2, r3, r4)) :
  Calls Try.prog 11 #[.agg #[.slice aZ aO.length a0, .slice a1 aP.length a2, .slice a3 aL.length a4]] w fun e w' => ∃ eK cB eL : Value, e = .returned (.tuple #[.agg #[eK, cB, eL], .bool r4]) ∧ Kd.V k72 72 w' w.heap.size (fun k_ => (w.heap.size ≤ k_) ∧ some k_ ≠ (cB : Value).ownBlock) eK r1 ∧ Kd.N (Kd.slice 72 k72) 23 w' w.heap.size (fun k_ => (w.heap.size ≤ k_)) cB r2 ∧ Kd.V (Kd.slice 72 k72) 23 w' w.heap.size (fun k_ => (w.heap.size ≤ k_) ∧ some k_ ≠ (cB : Value).ownBlock) eL r3 ∧ Below w.heap.size w w' := by
 have e3 := Try.underlying26; have bE := A_ bK; have bF := A_ bL; clear bK bL; have bG := A_ bM; have bH := A_ bN; clear bM bN; have bI := A_ bO; have bJ := A_ bP; clear bO bP; have HB := A_ (Below.refl w.heap.size w); have H := h; unfold impl_HistRedo.f at H; clear h; have dZ := A_ H; clear H
 go_enter Try.func11, Try.ntmps11
 go_upto_region 1 with (first | ((with_reducible refine gate_dst (N := 1) rfl ?_); (try (refine gate_guard (by rfl) ?_; dsimp only)); refine be (cs := #[.slice aZ aO.length a0, .slice a1 aP.length a2, .slice a3 aL.length a4]) (t := 26) ?_; intro aE hg w3 hbox hb; have aA := A_ hbox; have bV := A_ (gl hg (bz Z2)); have GE216 := bV; replace HB := A_ (bst Z2 hb); clear hb hbox hg) | ((with_reducible refine gate_dst (N := 2) rfl ?_); (try (refine gate_guard (by rfl) ?_; dsimp only)); refine be (cs := #[.slice none 0 0, .slice none 0 0, .slice none 0 0]) (t := 26) ?_; intro aD hg w4 hbox hb; have aB := A_ hbox; have bW := A_ (gl hg (bz (Z3 GE216.out))); have GE217 := bW; replace HB := A_ (bst (Z3 GE216.out) hb); have aJ := A_ ((by rw [hg]; exact nl (blk_lt (Z0 aA.out)) : aE ≠ aD)); have aK := A_ ((by rw [hg]; exact Nat.ne_of_gt (blk_lt (Z0 aA.out)) : aD ≠ aE)); replace aA := A_ (bb (Z0 aA.out) hb); clear hb hbox hg))
 (try simp only [Act.put, List.setIfInBounds_toArray, List.set_cons_zero, List.set_cons_succ])
 go_cut [13] (fun e4 wc => ∃ (kq : Nat) (a9 : Bool), e4 = .bool a9 ∧ Aside0 (impl_HistRedo.j0 kq a9 aO aP aL = some (r1, r2, r3, r4)) ∧ Aside0 (kq ≤ k) ∧ Aside0 (wc.heap[aE]? = some (.cells #[(.slice aZ aO.length a0), (.slice a1 aP.length a2), (.slice a3 aL.length a4)] 26 (0, 0))) ∧ Aside0 (wc.heap[aD]? = some (.cells #[(.slice none 0 0), (.slice none 0 0), (.slice none 0 0)] 26 (0, 0))) ∧ Aside0 (Below w.heap.size w wc))
 case first =>
  have H := dZ.out; clear dZ; replace H := bS H; obtain ⟨d0, eM, H⟩ := H
  try dsimp only at H
  have A5 := A_ eM; clear eM
  by_cases c6 : d0 = true
  ·subst c6
   rw [if_pos rfl] at H; have H' := A_ H; clear H; have e5 := aJ.out; have e6 := aK.out; obtain ⟨d1, d2, d3, d4, d5, d6⟩ := C3 aA.out
   go_wp2_with (first | ((with_reducible refine gate_callee (f := 12) rfl ?_); refine gL 6 Try.func12 #[.agg #[.slice aZ aO.length a0, .slice a1 aP.length a2, .slice a3 aL.length a4]] ?_; (with_reducible refine (impl_HistOk.calls k _ _ aO _ _ aP _ _ aL true _ ?s1 bF.out ?s3 bH.out ?s5 bJ.out A5.out).mono ?_); (case s1 => exact Z5 bE.out); (case s3 => exact Z5 bG.out); (case s5 => exact Z5 bI.out); rintro e w9 ⟨rfl, hb⟩; refine ⟨_, rfl, ?_⟩; replace aA := A_ (bb (Z0 aA.out) hb); replace aB := A_ (bb (Z0 aB.out) hb); replace HB := A_ (bst (Z4 GE216.out GE217.out) hb); (try clear hb); obtain ⟨cC, cD, cE, cF, cG, cH⟩ := C3 aA.out))
   go_meet
   case rel => exact ⟨_, (((aL.length : Int) == 0)), Z26, H', ⟨Z85⟩, ⟨Z0 aA.out⟩, ⟨Z0 aB.out⟩, ⟨Z4 GE216.out GE217.out⟩⟩
  ·replace c6 := Bool.eq_false_iff.mpr c6
   subst c6; rw [if_neg (show ¬ (false = true) by decide)] at H; have H' := A_ H; clear H; have eN := aJ.out; have eO := aK.out; obtain ⟨cI, cJ, cK, cL, cM, cN⟩ := C3 aA.out
   go_wp2_with (first | ((with_reducible refine gate_callee (f := 12) rfl ?_); refine gL 6 Try.func12 #[.agg #[.slice aZ aO.length a0, .slice a1 aP.length a2, .slice a3 aL.length a4]] ?_; (with_reducible refine (impl_HistOk.calls k _ _ aO _ _ aP _ _ aL false _ ?s1 bF.out ?s3 bH.out ?s5 bJ.out A5.out).mono ?_); (case s1 => exact Z5 bE.out); (case s3 => exact Z5 bG.out); (case s5 => exact Z5 bI.out); rintro e fD ⟨rfl, hb⟩; refine ⟨_, rfl, ?_⟩; replace aA := A_ (bb (Z0 aA.out) hb); replace aB := A_ (bb (Z0 aB.out) hb); replace HB := A_ (bst (Z4 GE216.out GE217.out) hb); (try clear hb)))
   go_meet
   case rel => exact ⟨_, (true), Z26, H', ⟨Z85⟩, ⟨Z0 aA.out⟩, ⟨Z0 aB.out⟩, ⟨Z4 GE216.out GE217.out⟩⟩
 case rest =>
  clear dZ; try clear c6
  obtain ⟨kq, a9, rfl, HA, fE, aA, aB, HB⟩ := hcut
  cases kq with
  | zero => exact absurd HA.out (by simp [impl_HistRedo.j0])
  | succ e7 =>
   have H := HA.out; clear HA; simp only [impl_HistRedo.j0] at H
   by_cases cO : a9 = true
   ·subst cO
    rw [if_pos rfl] at H; simp only [Option.some.injEq, Prod.mk.injEq] at H; obtain ⟨rfl, rfl, rfl, rfl⟩ := H; have eP := aK.out; have eQ := aJ.out; obtain ⟨cP, cQ, cR, cS, cT, cU⟩ := C3 aB.out
    go_wp2
    refine bodyPost_ret (results_ct rfl _ _ aD 26 #[.slice none 0 0, .slice none 0 0, .slice none 0 0] (0, 0) _ rfl (bp0 aB.out) Try.underlying26 rfl (by kernel_rfl)) rfl ?_
    exact ⟨_, _, _, Z11, (Kd.V_nil _ _ _ _ _), Z44, (Kd.V_nil _ _ _ _ _), Z4 GE216.out GE217.out⟩
   ·replace cO := Bool.eq_false_iff.mpr cO
    subst cO; rw [if_neg (show ¬ (false = true) by decide)] at H; replace H := bS H; obtain ⟨⟨aV, aW, aY⟩, bX, H⟩ := H
    try dsimp only at H
    have e8 := A_ bX; clear bX; replace H := bS H; obtain ⟨⟨bY, bZ, b0⟩, b1, H⟩ := H
    try dsimp only at H
    have e9 := A_ b1; clear b1; simp only [Option.some.injEq, Prod.mk.injEq] at H; obtain ⟨rfl, rfl, rfl, rfl⟩ := H; have eR := aJ.out; have eS := aK.out; obtain ⟨cV, cW, cX, cY, cZ, dA⟩ := C3 aA.out
    go_wp2_with (first | ((with_reducible refine gate_callee (f := 28) rfl ?_); refine gL 16 Try.func28 #[.agg #[.slice aZ aO.length a0, .slice a1 aP.length a2, .slice a3 aL.length a4]] ?_; (with_reducible refine (impl_histCopy.calls e7 _ _ aO _ _ aP _ _ aL aV aW aY _ ?s1 bF.out ?s3 bH.out ?s5 bJ.out e8.out).mono ?_); (case s1 => exact Z5 bE.out); (case s3 => exact Z5 bG.out); (case s5 => exact Z5 bI.out); rintro e fF ⟨b2, b3, b4, rfl, ho0, ho1, ho2, hb⟩; refine ⟨_, rfl, ?_⟩; have aT := A_ (Kd.N_lower (Nm (ok' := fun k_ => (w.heap.size ≤ k_) ∧ some k_ ≠ (b3 : Value).ownBlock ∧ some k_ ≠ (b4 : Value).ownBlock ∧ k_ ≠ aE ∧ k_ ≠ aD) (Kd.S_N (Kd.S_bound (Kd.S_apart' (Kd.S_apart' ho0 (Kd.R_typed ho1) (by decide)) (Kd.R_typed ho2) (by decide)))) (fun k_ hk_ => ⟨(Nat.le_trans (bz (Z4 GE216.out GE217.out)) hk_.2.1), hk_.1.1.2, hk_.1.2, (Kd.freshB (Z0 aA.out) k_ hk_.2.1), (Kd.freshB (Z0 aB.out) k_ hk_.2.1)⟩)) (bz (Z4 GE216.out GE217.out))); have aI := A_ (Kd.N_lower (Nm (ok' := fun k_ => (w.heap.size ≤ k_) ∧ some k_ ≠ (b2 : Value).ownBlock ∧ some k_ ≠ (b4 : Value).ownBlock ∧ k_ ≠ aE ∧ k_ ≠ aD) (Kd.R_N (Kd.R_bound ho1)) (fun k_ hk_ => ⟨(Nat.le_trans (bz (Z4 GE216.out GE217.out)) hk_.2.1), hk_.1.1, hk_.1.2, (Kd.freshB (Z0 aA.out) k_ hk_.2.1), (Kd.freshB (Z0 aB.out) k_ hk_.2.1)⟩)) (bz (Z4 GE216.out GE217.out))); have aU := A_ (Kd.N_lower (Nm (ok' := fun k_ => (w.heap.size ≤ k_) ∧ some k_ ≠ (b2 : Value).ownBlock ∧ some k_ ≠ (b3 : Value).ownBlock ∧ k_ ≠ aE ∧ k_ ≠ aD) (Kd.R_N (Kd.R_bound ho2)) (fun k_ hk_ => ⟨(Nat.le_trans (bz (Z4 GE216.out GE217.out)) hk_.2.1), hk_.1.1, hk_.1.2, (Kd.freshB (Z0 aA.out) k_ hk_.2.1), (Kd.freshB (Z0 aB.out) k_ hk_.2.1)⟩)) (bz (Z4 GE216.out GE217.out))); replace aA := A_ (bb (Z0 aA.out) hb); replace aB := A_ (bb (Z0 aB.out) hb); replace HB := A_ (bst (Z4 GE216.out GE217.out) hb); (try clear hb); (try clear ho0); (try clear ho1); (try clear ho2)) | ((with_reducible refine gate_dst (N := 4) rfl ?_); (try (refine gate_guard (by rfl) ?_; dsimp only)); refine be (cs := #[.slice none 0 0, .slice none 0 0, .slice none 0 0]) (t := 26) ?_; intro aC hg fA hbox hb; replace aT := A_ (Nbl (Kd.N_elderB (Z8 aT.out) aC (Nat.le_of_eq hg.symm)) hb); replace aI := A_ (Nbl (Kd.N_elderB (Z8 aI.out) aC (Nat.le_of_eq hg.symm)) hb); replace aU := A_ (Nbl (Kd.N_elderB (Z8 aU.out) aC (Nat.le_of_eq hg.symm)) hb); have aN := A_ hbox; have b5 := A_ (gl hg (bz (Z4 GE216.out GE217.out))); have GE228 := b5; replace HB := A_ (bst (Z4 GE216.out GE217.out) hb); have aX := A_ ((by rw [hg]; exact nl (blk_lt (Z0 aA.out)) : aE ≠ aC)); have bA := A_ ((by rw [hg]; exact Nat.ne_of_gt (blk_lt (Z0 aA.out)) : aC ≠ aE)); replace aA := A_ (bb (Z0 aA.out) hb); have aS := A_ ((by rw [hg]; exact nl (blk_lt (Z0 aB.out)) : aD ≠ aC)); have bB := A_ ((by rw [hg]; exact Nat.ne_of_gt (blk_lt (Z0 aB.out)) : aC ≠ aD)); replace aB := A_ (bb (Z0 aB.out) hb); clear hb hbox hg; obtain ⟨a5, a6, d7⟩ := Kd.N_slice aT.out; subst d7; have eT := bA.out; have eU := aX.out; have eV := bB.out; have eW := aS.out; obtain ⟨dB, dC, dD, dE, dF, dG⟩ := C3 aN.out; obtain ⟨a7, a8, d8⟩ := Kd.N_slice aI.out; subst d8; obtain ⟨bC, bD, d9⟩ := Kd.N_slice aU.out; subst d9) | ((with_reducible refine gate_store (t := 26) (p := 4) rfl ?_); refine store_event (t := 26) (p := 4) (v := ?vo_w29) (w1 := (((fA.setCell ⟨aC, 0, none⟩ (.slice a5 aV.length a6)).setCell ⟨aC, 1, none⟩ (.slice a7 aW.length a8)).setCell ⟨aC, 2, none⟩ (.slice bC aY.length bD))) ?hg ?ho ?hn ?hr ?_; (case ho => rfl); (case hg => rfl); (case hn => rfl); (case hr => exact Z48); intro bU hw; have eX : Aside0 (Kd.N k72 72 bU w.heap.size (fun k_ => (w.heap.size ≤ k_) ∧ ob k_ a7 aW a8 ∧ ob k_ bC aY bD ∧ k_ ≠ aE ∧ k_ ≠ aD ∧ k_ ≠ aC) (.slice a5 aV.length a6) aV) := ⟨(by rw [hw]; exact (by (with_reducible repeat (first | apply Kd.N_alloc | apply Kd.N_drewN | apply Kd.N_drew)); exact Nm (Nf (Nf (Nf (Nm aT.out (fun k_ hk => (⟨hk, hk.2⟩ : _ ∧ k_ ≠ aC)))))) (fun _ hk => ⟨hk.1.1.1, ⟨hk.1.1.2.1, ⟨hk.1.1.2.2.1, ⟨hk.1.1.2.2.2.1, ⟨hk.1.1.2.2.2.2, hk.1.2⟩⟩⟩⟩⟩)))⟩; have eY : Aside0 (Kd.N (Kd.slice 72 k72) 23 bU w.heap.size (fun k_ => (w.heap.size ≤ k_) ∧ ob k_ a5 aV a6 ∧ ob k_ bC aY bD ∧ k_ ≠ aE ∧ k_ ≠ aD ∧ k_ ≠ aC) (.slice a7 aW.length a8) aW) := ⟨(by rw [hw]; exact (by (with_reducible repeat (first | apply Kd.N_alloc | apply Kd.N_drewN | apply Kd.N_drew)); exact Nm (Nf (Nf (Nf (Nm aI.out (fun k_ hk => (⟨hk, hk.2⟩ : _ ∧ k_ ≠ aC)))))) (fun _ hk => ⟨hk.1.1.1, ⟨hk.1.1.2.1, ⟨hk.1.1.2.2.1, ⟨hk.1.1.2.2.2.1, ⟨hk.1.1.2.2.2.2, hk.1.2⟩⟩⟩⟩⟩)))⟩; have eZ : Aside0 (Kd.N (Kd.slice 72 k72) 23 bU w.heap.size (fun k_ => (w.heap.size ≤ k_) ∧ ob k_ a5 aV a6 ∧ ob k_ a7 aW a8 ∧ k_ ≠ aE ∧ k_ ≠ aD ∧ k_ ≠ aC) (.slice bC aY.length bD) aY) := ⟨(by rw [hw]; exact (by (with_reducible repeat (first | apply Kd.N_alloc | apply Kd.N_drewN | apply Kd.N_drew)); exact Nm (Nf (Nf (Nf (Nm aU.out (fun k_ hk => (⟨hk, hk.2⟩ : _ ∧ k_ ≠ aC)))))) (fun _ hk => ⟨hk.1.1.1, ⟨hk.1.1.2.1, ⟨hk.1.1.2.2.1, ⟨hk.1.1.2.2.2.1, ⟨hk.1.1.2.2.2.2, hk.1.2⟩⟩⟩⟩⟩)))⟩; have b6 : Aside0 (bU.heap[aE]? = some (.cells #[.slice aZ aO.length a0, .slice a1 aP.length a2, .slice a3 aL.length a4] 26 (0, 0))) := ⟨(by rw [hw]; exact (Z9 aX.out aA.out))⟩; have b7 : Aside0 (bU.heap[aD]? = some (.cells #[.slice none 0 0, .slice none 0 0, .slice none 0 0] 26 (0, 0))) := ⟨(by rw [hw]; exact (Z9 aS.out aB.out))⟩; have b8 : Aside0 (bU.heap[aC]? = some (.cells #[.slice a5 aV.length a6, .slice a7 aW.length a8, .slice bC aY.length bD] 26 (0, 0))) := ⟨(by rw [hw]; exact (bp0 aN.out))⟩; have b9 : Aside0 (Below w.heap.size w bU) := ⟨(by rw [hw]; exact Z69)⟩; clear hw; clear aT; clear aI; clear aU; clear aA; clear aB; clear aN; clear HB; have aT := eX; have aI := eY; have aU := eZ; have aA := b6; have aB := b7; have aN := b8; have HB := b9; clear eX eY eZ b6 b7 b8 b9; obtain ⟨dH, dI, dJ, dK, dL, dM⟩ := C3 aN.out) | ((with_reducible refine gate_callee (f := 29) rfl ?_); refine gL 24 Try.func29 #[.slice a5 aV.length a6, .slice bC aY.length bD, .slice a7 aW.length a8] ?_; (with_reducible refine (impl_histStep.calls (fun k_ => ((w.heap.size ≤ k_) ∧ (ob k_ a5 aV a6 ∧ (ob k_ a7 aW a8 ∧ (k_ ≠ aE ∧ (k_ ≠ aD ∧ k_ ≠ aC)))))) (fun k_ => (w.heap.size ≤ k_) ∧ k_ ≠ aE ∧ k_ ≠ aD ∧ k_ ≠ aC) _ _ aV _ _ aY _ _ aW bY bZ b0 w _ ?s0 ?s1 ?s2 ?s3 ?s4 ?s5 e9.out).mono ?_); (case s0 => exact Z69); (case s1 => exact Vm (Kd.N_V (aT.out)) (fun k_ hk_ => by first | (obtain ⟨aM, aQ, aR, aF, aG, aH⟩ := hk_; exact ⟨⟨aM, aF, aG, aH⟩, by first | exact aQ | exact aR⟩) | (obtain ⟨⟨aM, aQ, aR, aF, aG⟩, aH⟩ := hk_; exact ⟨⟨aM, aF, aG, aH⟩, by first | exact aQ | exact aR⟩) | (obtain ⟨⟨⟨aM, aQ, aR, aF⟩, aG⟩, aH⟩ := hk_; exact ⟨⟨aM, aF, aG, aH⟩, by first | exact aQ | exact aR⟩))); (case s2 => exact Vm (Kd.N_V (aU.out)) (fun k_ hk_ => by first | (obtain ⟨aM, aQ, aR, aF, aG, aH⟩ := hk_; exact ⟨aM, aQ, aR, aF, aG, aH⟩) | (obtain ⟨⟨aM, aQ, aR, aF, aG⟩, aH⟩ := hk_; exact ⟨aM, aQ, aR, aF, aG, aH⟩) | (obtain ⟨⟨⟨aM, aQ, aR, aF⟩, aG⟩, aH⟩ := hk_; exact ⟨aM, aQ, aR, aF, aG, aH⟩))); (case s3 => exact Nm (aI.out) (fun k_ hk_ => by first | (obtain ⟨aM, aQ, aR, aF, aG, aH⟩ := hk_; exact ⟨aM, aF, aG, aH⟩) | (obtain ⟨⟨aM, aQ, aR, aF, aG⟩, aH⟩ := hk_; exact ⟨aM, aF, aG, aH⟩) | (obtain ⟨⟨⟨aM, aQ, aR, aF⟩, aG⟩, aH⟩ := hk_; exact ⟨aM, aF, aG, aH⟩))); (case s4 => exact fun k_ hk_ => by first | (obtain ⟨aM, aQ, aR, aF, aG, aH⟩ := hk_; exact (by first | exact aQ | exact aR)) | (obtain ⟨⟨aM, aQ, aR, aF, aG⟩, aH⟩ := hk_; exact (by first | exact aQ | exact aR)) | (obtain ⟨⟨⟨aM, aQ, aR, aF⟩, aG⟩, aH⟩ := hk_; exact (by first | exact aQ | exact aR))); (case s5 => exact fun k_ hn_ => ⟨Nat.le_trans (bz Z69) hn_, (Kd.freshB (Z0 aA.out) k_ hn_), (Kd.freshB (Z0 aB.out) k_ hn_), (Kd.freshB (Z0 aN.out) k_ hn_)⟩); rintro e fG ⟨fB, fC, cA, rfl, ho0, ho1, ho2, hb, hkp⟩; refine ⟨_, rfl, ?_⟩; have b6 := A_ (Vm (ok' := fun k_ => (w.heap.size ≤ k_) ∧ some k_ ≠ (cA : Value).ownBlock ∧ k_ ≠ aE ∧ k_ ≠ aD ∧ k_ ≠ aC) ho0 (fun k_ hk_ => by obtain ⟨⟨aM, aQ, aR, aF, aG, aH⟩, eA⟩ := hk_; exact ⟨aM, eA, aF, aG, aH⟩)); have b7 := A_ (Vm (ok' := fun k_ => (w.heap.size ≤ k_) ∧ some k_ ≠ (cA : Value).ownBlock ∧ k_ ≠ aE ∧ k_ ≠ aD ∧ k_ ≠ aC) ho1 (fun k_ hk_ => by obtain ⟨⟨aM, aQ, aR, aF, aG, aH⟩, eA⟩ := hk_; exact ⟨aM, eA, aF, aG, aH⟩)); have b8 := A_ (ho2); have b9 := A_ (blk_kept (Z0 aA.out) hkp (Kd.N_away aI.out (fun k_ hk_ => by first | (obtain ⟨aM, aQ, aR, aF, aG, aH⟩ := hk_; exact aF) | (obtain ⟨⟨aM, aQ, aR, aF, aG⟩, aH⟩ := hk_; exact aF) | (obtain ⟨⟨⟨aM, aQ, aR, aF⟩, aG⟩, aH⟩ := hk_; exact aF)))); have e0 := A_ (blk_kept (Z0 aB.out) hkp (Kd.N_away aI.out (fun k_ hk_ => by first | (obtain ⟨aM, aQ, aR, aF, aG, aH⟩ := hk_; exact aG) | (obtain ⟨⟨aM, aQ, aR, aF, aG⟩, aH⟩ := hk_; exact aG) | (obtain ⟨⟨⟨aM, aQ, aR, aF⟩, aG⟩, aH⟩ := hk_; exact aG)))); have e1 := A_ (blk_kept (Z0 aN.out) hkp (Kd.N_away aI.out (fun k_ hk_ => by first | (obtain ⟨aM, aQ, aR, aF, aG, aH⟩ := hk_; exact aH) | (obtain ⟨⟨aM, aQ, aR, aF, aG⟩, aH⟩ := hk_; exact aH) | (obtain ⟨⟨⟨aM, aQ, aR, aF⟩, aG⟩, aH⟩ := hk_; exact aH)))); have e2 := A_ (hb); clear aT; clear aU; clear aI; clear aA; clear aB; clear aN; clear HB; have bQ := b6; have bR := b7; have bT := b8; have aA := b9; have aB := e0; have aN := e1; have HB := e2; clear b6 b7 b8 b9 e0 e1 e2; (try clear hb); (try clear hkp); (try clear ho0); (try clear ho1); (try clear ho2); obtain ⟨eB, eC, eD⟩ := Kd.V_slice bQ.out; subst eD; obtain ⟨dN, dO, dP, dQ, dR, dS⟩ := C3 aN.out; obtain ⟨eE, eF, eG⟩ := Kd.V_slice bR.out; subst eG; obtain ⟨eH, eI, eJ⟩ := Kd.N_slice bT.out; subst eJ; obtain ⟨dT, dU, dV, dW, dX, dY⟩ := C3 aB.out))
    refine bodyPost_ret (results_ct rfl _ _ aD 26 #[.slice eB bY.length eC, .slice eH b0.length eI, .slice eE bZ.length eF] (0, 0) _ rfl (bp1 aB.out aS.out) Try.underlying26 rfl (by kernel_rfl)) rfl ?_
    exact ⟨_, _, _, Z11, by (with_reducible repeat (first | apply Kd.V_alloc | apply Kd.V_drewN | apply Kd.V_drew)); exact Vm (Vf (Vf (Vf (Kd.V_far (Kd.V_far (Kd.V_far (Vm (Vm bQ.out (fun k_ hk => (⟨hk, hk.2.2.2.2⟩ : _ ∧ k_ ≠ aC))) (fun k_ hk => (⟨hk, hk.1.2.2.2.1⟩ : _ ∧ k_ ≠ aD))) (fun _ hk => hk.1.2) _) (fun _ hk => hk.1.2) _) (fun _ hk => hk.1.2) _)))) (fun _ hk => ⟨hk.1.1.1, hk.1.1.2.1⟩), by (with_reducible repeat (first | apply Kd.N_alloc | apply Kd.N_drewN | apply Kd.N_drew)); exact Nm (Nf (Nf (Nf (Kd.N_far (Kd.N_far (Kd.N_far (Nm (Nm bT.out (fun k_ hk => (⟨hk, hk.2.2.2⟩ : _ ∧ k_ ≠ aC))) (fun k_ hk => (⟨hk, hk.1.2.2.1⟩ : _ ∧ k_ ≠ aD))) (fun _ hk => hk.1.2) _) (fun _ hk => hk.1.2) _) (fun _ hk => hk.1.2) _)))) (fun _ hk => hk.1.1.1), by (with_reducible repeat (first | apply Kd.V_alloc | apply Kd.V_drewN | apply Kd.V_drew)); exact Vm (Vf (Vf (Vf (Kd.V_far (Kd.V_far (Kd.V_far (Vm (Vm bR.out (fun k_ hk => (⟨hk, hk.2.2.2.2⟩ : _ ∧ k_ ≠ aC))) (fun k_ hk => (⟨hk, hk.1.2.2.2.1⟩ : _ ∧ k_ ≠ aD))) (fun _ hk => hk.1.2) _) (fun _ hk => hk.1.2) _) (fun _ hk => hk.1.2) _)))) (fun _ hk => ⟨hk.1.1.1, hk.1.1.2.1⟩), Z69⟩
def spec_inRange.f (a0 : Int) (a1 : Int) (a2 : Int) : Option (Bool) := if a0 ≥ a1 then (some (decide (a0 ≤ a2))) else (some false)
theorem spec_inRange.calls (a0 : Int) (a1 : Int) (a2 : Int) (r : Bool) (w : World) (h : spec_inRange.f a0 a1 a2 = some r) :
  Calls Try.prog 77 #[.int .i64 a0, .int .i64 a1, .int .i64 a2] w fun e w' => e = .returned (.bool r) ∧ Drawn0 w w' := by
 have H := h; unfold spec_inRange.f at H; clear h
 by_cases c4 : a0 ≥ a1
 ·rw [if_pos c4] at H
  have aA : decide (a1 ≤ a0) = true := dt c4; clear c4; obtain rfl := Option.some.inj H
  go_enter Try.func77, Try.ntmps77
  go_wp2
  go_ret
  exact ⟨Z26, Z34⟩
 ·rw [if_neg c4] at H
  have aA : decide (a1 ≤ a0) = false := df c4; clear c4; obtain rfl := Option.some.inj H
  go_enter Try.func77, Try.ntmps77
  go_wp2
  go_ret
  exact ⟨Z26, Z34⟩
end Go.Proofs.Ytgbbcebjgpoioaa.PFnHistRedo
