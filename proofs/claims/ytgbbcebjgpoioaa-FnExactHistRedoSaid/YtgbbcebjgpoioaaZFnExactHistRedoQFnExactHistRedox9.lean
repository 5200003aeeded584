/- Walks (lines of the print; no condition). -/
import Derived.Test.YtgbbcebjgpoioaaZFnExactHistRedoQFnExactHistRedox8
namespace Go.Proofs.Ytgbbcebjgpoioaa.PFnExactHistRedo
open Go.RowKit Go.Proofs.YtgbbcebjgpoioaaW.PrintWords Go.Proofs.YtgbbcebjgpoioaaW.PrintLast Go.Proofs.YtgbbcebjgpoioaaW.PrintMore
attribute [local go_sem] max2_int min2_int max_two min_two max_three min_three max_four min_four
set_option linter.unusedVariables false
set_option linter.unusedSimpArgs false
def spec_validStore.l0 : Nat → List (S72) → Int → Option (Bool)
 | 0, _, _ => none
 | k + 1, x0, x3 => if x3 < (x0.length : Int) then (if 0 ≤ x3 then ((spec_validPlace.f k ((rd_T72 x0 x3).f0)).bind fun aA => (if aA = true then (if (((rd_T72 x0 x3).f1).length : Int) > 3 then (some false) else ((spec_validValues.f k ((rd_T72 x0 x3).f1)).bind fun aB => (if aB = true then (if x3 > 0 then (if 0 ≤ (wrap64 (x3 - 1)) then (if (wrap64 (x3 - 1)) < (x0.length : Int) then ((spec_comparePlaces.f k ((rd_T72 x0 (wrap64 (x3 - 1))).f0) ((rd_T72 x0 x3).f0)).bind fun aC => (if aC ≥ 0 then (some false) else (spec_validStore.l0 k x0 (wrap64 (x3 + 1))))) else (none)) else (none)) else (spec_validStore.l0 k x0 (wrap64 (x3 + 1)))) else (some false)))) else (some false))) else (none)) else (some true)
def spec_validStore.f (k : Nat) (l0 : List (S72)) : Option (Bool) := if (l0.length : Int) > 200 then (some false) else (spec_validStore.l0 k l0 0)
def spec_validStore.T6 : Bool × List (List Nat × List Nat) := (true, [([], []), ([], []), ([0, 1], [0, 1]), ([2], [2]), ([3], [3]), ([4], [4]), ([5], [5]), ([6, 5], [6]), ([7], [7]), ([7], [7]), ([8, 9, 7], [7, 8, 9]), ([10, 7], [7, 10]), ([11, 7], [7, 11]), ([12, 7], [7, 12]), ([13, 7], [7, 13]), ([7, 14], [7, 14]), ([15, 7], [15]), ([16], [16]), ([16], [16]), ([17, 18, 16], [16, 17, 18]), ([19, 16], [16, 19]), ([20, 16], [16, 20]), ([21, 16, 16], [16, 21]), ([22, 16], [16, 22]), ([16, 23], [16, 23]), ([24, 22], [24]), ([25], [25]), ([26, 25], [25, 26]), ([27, 25, 25], [25, 27]), ([28], [28]), ([28], [28]), ([30, 28], [28, 30]), ([29, 31, 28], [28, 29, 31]), ([32, 28], [28, 32]), ([33, 28], [28, 33]), ([28], [28]), ([28], [28]), ([35, 36, 28], [28, 35, 36]), ([37, 28], [28, 37]), ([38, 28], [28, 38]), ([34, 39, 28, 28], [28, 34, 39]), ([40, 28], [28, 40]), ([28, 41, 25], [25, 28, 41]), ([25, 42], [25, 42])])
def spec_validStore.B6 : List Nat := [0, 0, 3, 7, 15, 31, 63, 127, 255, 255, 1023, 2047, 4095, 8191, 16383, 32767, 65535, 131071, 131071, 524287, 1048575, 2097151, 4194303, 8388607, 16777215, 33554431, 67108863, 134217727, 268435455, 536870911, 536870911, 1610612735, 4294967295, 8589934591, 17179869183, 536870911, 536870911, 103616086015, 241055039487, 515932946431, 1099511627775, 2199023255551, 4398046511103, 8796093022207]
theorem spec_validStore.tab6 : rtab .any (opsOf Try.f51 6) = spec_validStore.T6 := by kernel_rfl
theorem spec_validStore.bits6 : waitsOk spec_validStore.T6.2 spec_validStore.B6 = true := by kernel_rfl
set_option maxHeartbeats 8000000 in
set_option maxRecDepth 100000 in
theorem spec_validStore.calls (k : Nat) (A0 : Option Addr) (c0 : Nat) (l0 : List (S72)) (r : Bool) (w : World) (d2 : Kd.C k72 w A0 l0.length l0) (hc0 : l0.length ≤ c0) (h : spec_validStore.f k l0 = some r) :
  Calls Try.prog 51 #[.slice A0 l0.length c0] w fun e w' => e = .returned (.bool r) ∧ Below w.heap.size w w' := by
 have cB := A_ d2; have d8 := A_ hc0; clear d2 hc0; have HB := A_ (Below.refl w.heap.size w); have H := h; unfold spec_validStore.f at H; clear h
 by_cases c2 : (l0.length : Int) > 200
 ·rw [if_pos c2] at H
  have dL : decide (200 < (l0.length : Int)) = true := dt c2; have dM : decide (200 < l0.length) = true := dt (by omega); clear c2; obtain rfl := Option.some.inj H
  go_enter Try.func51, Try.ntmps51
  go_wp2
  go_ret
  exact ⟨Z7, Z1⟩
 ·rw [if_neg c2] at H
  have dL : decide (200 < (l0.length : Int)) = false := df c2; have dM : decide (200 < l0.length) = false := df (by omega); clear c2; have H' := A_ H; clear H
  go_enter Try.func51, Try.ntmps51
  go_wp2
  go_loopg [3] k (fun kq v3 w' => ∃ (aA : Int), v3 = .int .i64 aA ∧ Aside0 (spec_validStore.l0 kq l0 aA = some r) ∧ Aside0 (kq ≤ k) ∧ Aside0 (Below w.heap.size w w'))
  case atStart => exact ⟨(0), Z17, H', ⟨Nat.le_refl _⟩, ⟨Z1⟩⟩
  case round =>
   clear H'; try clear c2
   try clear dL
   try clear dM
   obtain ⟨aA, rfl, HA, dS, HB⟩ := hrel
   cases gk with
   | zero => exact absurd HA.out (by simp [spec_validStore.l0])
   | succ k1 =>
    have H := HA.out; clear HA; simp only [spec_validStore.l0] at H
    by_cases c3 : aA < (l0.length : Int)
    ·rw [if_pos c3] at H
     have dW := dt c3; clear c3
     by_cases c4 : 0 ≤ aA
     ·rw [if_pos c4] at H
      have d7 := dt c4; clear c4; replace H := bS H; obtain ⟨dX, d3, H⟩ := H
      try dsimp only at H
      have A5 := A_ d3; clear d3
      by_cases c6 : dX = true
      ·subst c6
       rw [if_pos rfl] at H
       by_cases c7 : (((rd_T72 l0 aA).f1).length : Int) > 3
       ·rw [if_pos c7] at H
        have dY : decide (3 < (((rd_T72 l0 aA).f1).length : Int)) = true := dt c7; have dZ : decide (3 < ((rd_T72 l0 aA).f1).length) = true := dt (by omega); clear c7; obtain rfl := Option.some.inj H
        try go_wp2
        replace HB := A_ (below_drew1 HB.out); have bI : 0 ≤ (aA : Int) := odt; have bJ : aA < (l0.length : Int) := odt; obtain ⟨aB, aK, aL, aO, aP, b7, aE, aF, aQ, aR, aS, aT⟩ := at_T72 cB.out aA bI bJ; have aC := aF; have aD := aE; cases b7; replace aE := ZC HB.out aE; replace aF := ZC HB.out aF; have aU := A_ aR; have a1 := A_ aQ; clear aR aQ; have a2 := A_ aT; have bR := A_ aS; clear aT aS; replace bI := eq_true bI; replace bJ := eq_true bJ; have bL : 0 ≤ (aA : Int) := odt; have bM : aA < (l0.length : Int) := odt; obtain ⟨bT, cC, cD, cE, cF, cG, aG, aH, aX, aY, aZ, a0⟩ := at_T72 cB.out aA bL bM; have aI := aH; have aJ := aG; obtain rfl : aB = bT := (by injection cG); replace aG := ZC HB.out aG; replace aH := ZC HB.out aH; have bA := A_ aY; have b5 := A_ aX; clear aY aX; have bB := A_ a0; have b6 := A_ aZ; clear a0 aZ; replace bL := eq_true bL; replace bM := eq_true bM; have ea_ := Option.some.inj (aD.symm.trans aJ); injection ea_ with ea_ en_ ec_; subst ea_; subst ec_; clear en_; have ea_ := Option.some.inj (aC.symm.trans aI); injection ea_ with ea_ en_ ec_; subst ea_; subst ec_; clear en_
        refine start_ (n := 44) (S := fun w' => w'.cell? (aB.add ((aA).toNat * 2)) = some (.slice aK ((rd_T72 l0 aA).f0).length aL) ∧ w'.cell? ⟨(aB.add ((aA).toNat * 2)).block, (aB.add ((aA).toNat * 2)).off + 1, none⟩ = some (.slice aO ((rd_T72 l0 aA).f1).length aP) ∧ w'.cell? (aB.add ((aA).toNat * 2)) = some (.slice aK ((rd_T72 l0 aA).f0).length aL) ∧ w'.cell? ⟨(aB.add ((aA).toNat * 2)).block, (aB.add ((aA).toNat * 2)).off + 1, none⟩ = some (.slice aO ((rd_T72 l0 aA).f1).length aP)) (ds := []) M59 (by kernel_rfl) rfl rfl ⟨(ZC HB.out aD :), (ZC HB.out aC :), (ZC HB.out aJ :), (ZC HB.out aI :)⟩ (fun hHeld => ?_); refine with_tabW spec_validStore.tab6 spec_validStore.bits6 (fun HT_ HW_ => ?_)
        generalize wr.drew = w8 at HB aU a2 bA bB aE aF aG aH hHeld ⊢; refine pU 0 13 M60 ?_; refine pU 1 14 M61 ?_; refine pU 2 15 M62 ?_; refine pU 3 16 M63 ?_; refine tU 4 17 M64 ?_ (y := Z30)
        refine oU 5 (some 18) M65 (fun K hK => ?_)
        refine goes_ Try.func48 (by kernel_rfl) rfl #[.slice aK ((rd_T72 l0 aA).f0).length aL] (by rfl) rfl rfl Z16 ?_
        with_reducible refine (spec_validPlace.calls k1 _ _ ((rd_T72 l0 aA).f0) true _ ?s1 ?s2 A5.out).mono ?_
        (case s1 => exact Z4 aU.out)
        (case s2 => exact a1.out)
        rintro e w9 ⟨rfl, hb⟩
        refine ⟨_, rfl, ?_⟩
        replace HB := A_ (bst Z1 hb); (try clear hb); (try clear dA); (try clear hk); (try clear hi)
        refine hK.out _ _ ⟨(ZC HB.out aD :), (ZC HB.out aC :), (ZC HB.out aJ :), (ZC HB.out aI :)⟩ (fun hHeld => ?_)
        clear hK K
        refine norm_ (a' := ?_) ?_ ?_
        rotate_left; (·exact Z41); refine pU 6 19 M66 ?_; refine pU 7 20 M67 ?_; refine pU 8 21 M68 ?_; refine pU 9 22 M69 ?_; refine pU 10 23 M70 ?_; refine pU 11 24 M71 ?_; refine tU 12 25 M72 ?_ (y := Z30); refine pU 13 26 M73 ?_; refine pU 14 27 M74 ?_; refine pU 15 28 M75 ?_; refine pU 16 29 M76 ?_; refine pN 17 30 M77 ?_; refine pN 18 31 M78 ?_; refine pN 19 32 M79 ?_; refine pN 20 33 M80 ?_; refine pN 21 34 M81 ?_; refine pN 22 35 M82 ?_; refine pN 23 36 M83 ?_; refine pU 24 37 M84 ?_; refine pU 25 38 M85 ?_; refine pN 26 39 M86 ?_; refine pN 27 40 M87 ?_; refine pN 28 41 M88 ?_; refine pN 29 42 M89 ?_; refine pN 30 43 M90 ?_; refine pN 31 44 M91 ?_; refine pN 32 45 M92 ?_; refine pN 33 46 M93 ?_; refine pN 34 47 M94 ?_; refine pN 35 48 M95 ?_; refine pN 36 49 M96 ?_; refine pN 37 50 M97 ?_; refine pN 38 51 M98 ?_; refine pN 39 52 M99 ?_; refine pN 40 53 M100 ?_; refine pN 41 54 M101 ?_; refine pN 42 55 M102 ?_; refine pU 43 56 M103 ?_
        refine done_ (done_of HT_.out (by kernel_rfl)) ?_
        try go_wp2
        go_ret
        exact ⟨Z7, Z1⟩
       ·rw [if_neg c7] at H
        have dY : decide (3 < (((rd_T72 l0 aA).f1).length : Int)) = false := df c7; have dZ : decide (3 < ((rd_T72 l0 aA).f1).length) = false := df (by omega); clear c7; replace H := bS H; obtain ⟨d0, dN, H⟩ := H
        try dsimp only at H
        have dO := A_ dN; clear dN
        by_cases dT : d0 = true
        ·subst dT
         rw [if_pos rfl] at H
         by_cases dJ : aA > 0
         ·rw [if_pos dJ] at H
          have dP : decide (0 < aA) = true := dt dJ; clear dJ; obtain ⟨bK, b4⟩ : ∃ j_ : Int, (wrap64 (aA - 1)) = j_ := ⟨_, rfl⟩
          first | rw [b4] at H | simp only [b4] at H
          (try rw [b4] at A5); (try rw [b4] at dO); have d1 : (IntKind.i64.wrap (aA - 1)) = bK := (i64_w _).trans b4
          by_cases dU : 0 ≤ (bK)
          ·rw [if_pos dU] at H
           have d4 := dt dU; clear dU
           by_cases dV : (bK) < (l0.length : Int)
           ·rw [if_pos dV] at H
            have d5 := dt dV; clear dV; replace H := bS H; obtain ⟨cX, dQ, H⟩ := H
            try dsimp only at H
            have d6 := A_ dQ; clear dQ
            by_cases dK : cX ≥ 0
            ·rw [if_pos dK] at H
             have dR : decide (0 ≤ cX) = true := dt dK; clear dK; obtain rfl := Option.some.inj H
             try go_wp2
             replace HB := A_ (below_drew1 HB.out); have bI : 0 ≤ (aA : Int) := odt; have bJ : aA < (l0.length : Int) := odt; obtain ⟨aB, aK, aL, aO, aP, b7, aE, aF, aQ, aR, aS, aT⟩ := at_T72 cB.out aA bI bJ; have aC := aF; have aD := aE; cases b7; replace aE := ZC HB.out aE; replace aF := ZC HB.out aF; have aU := A_ aR; have a1 := A_ aQ; clear aR aQ; have a2 := A_ aT; have bR := A_ aS; clear aT aS; replace bI := eq_true bI; replace bJ := eq_true bJ; have bL : 0 ≤ (aA : Int) := odt; have bM : aA < (l0.length : Int) := odt; obtain ⟨bT, cC, cD, cE, cF, cG, aG, aH, aX, aY, aZ, a0⟩ := at_T72 cB.out aA bL bM; have aI := aH; have aJ := aG; obtain rfl : aB = bT := (by injection cG); replace aG := ZC HB.out aG; replace aH := ZC HB.out aH; have bA := A_ aY; have b5 := A_ aX; clear aY aX; have bB := A_ a0; have b6 := A_ aZ; clear a0 aZ; replace bL := eq_true bL; replace bM := eq_true bM; have ea_ := Option.some.inj (aD.symm.trans aJ); injection ea_ with ea_ en_ ec_; subst ea_; subst ec_; clear en_; have ea_ := Option.some.inj (aC.symm.trans aI); injection ea_ with ea_ en_ ec_; subst ea_; subst ec_; clear en_; have bP : 0 ≤ (aA : Int) := odt
             have bQ : aA < (l0.length : Int) := odt; obtain ⟨b8, cM, cN, cO, cP, cQ, aM, aN, a3, a4, a5, a6⟩ := at_T72 cB.out aA bP bQ; have aV := aN; have aW := aM; obtain rfl : aB = b8 := (by injection cQ); replace aM := ZC HB.out aM; replace aN := ZC HB.out aN; have bN := A_ a4; have cH := A_ a3; clear a4 a3; have a7 := A_ a6; have bO := A_ a5; clear a6 a5; replace bP := eq_true bP; replace bQ := eq_true bQ; have ea_ := Option.some.inj (aG.symm.trans aM); injection ea_ with ea_ en_ ec_; subst ea_; subst ec_; clear en_; have ea_ := Option.some.inj (aH.symm.trans aN); injection ea_ with ea_ en_ ec_; subst ea_; subst ec_; clear en_; have cR : 0 ≤ ((bK) : Int) := odt; have cS : (bK) < (l0.length : Int) := odt; obtain ⟨cY, b9, cA, cT, cU, dD, bC, bD, bU, bV, bW, bX⟩ := at_T72 cB.out (bK) cR cS; have bE := bD; have bF := bC; obtain rfl : aB = cY := (by injection dD); replace bC := ZC HB.out bC; replace bD := ZC HB.out bD; have bY := A_ bV; have cI := A_ bU; clear bV bU; have cJ := A_ bX; have dB := A_ bW; clear bX bW; replace cR := eq_true cR; replace cS := eq_true cS; have cV : 0 ≤ (aA : Int) := odt; have cW : aA < (l0.length : Int) := odt
             obtain ⟨cZ, dE, dF, dG, dH, dI, bG, bH, bZ, b0, b1, b2⟩ := at_T72 cB.out aA cV cW; have a8 := bH; have a9 := bG; obtain rfl : aB = cZ := (by injection dI); replace bG := ZC HB.out bG; replace bH := ZC HB.out bH; have b3 := A_ b0; have cK := A_ bZ; clear b0 bZ; have cL := A_ b2; have dC := A_ b1; clear b2 b1; replace cV := eq_true cV; replace cW := eq_true cW; have ea_ := Option.some.inj (aD.symm.trans a9); injection ea_ with ea_ en_ ec_; subst ea_; subst ec_; clear en_; have ea_ := Option.some.inj (aC.symm.trans a8); injection ea_ with ea_ en_ ec_; subst ea_; subst ec_; clear en_
             refine start_ (n := 44) (S := fun w' => w'.cell? (aB.add ((aA).toNat * 2)) = some (.slice aK ((rd_T72 l0 aA).f0).length aL) ∧ w'.cell? ⟨(aB.add ((aA).toNat * 2)).block, (aB.add ((aA).toNat * 2)).off + 1, none⟩ = some (.slice aO ((rd_T72 l0 aA).f1).length aP) ∧ w'.cell? (aB.add ((aA).toNat * 2)) = some (.slice aK ((rd_T72 l0 aA).f0).length aL) ∧ w'.cell? ⟨(aB.add ((aA).toNat * 2)).block, (aB.add ((aA).toNat * 2)).off + 1, none⟩ = some (.slice aO ((rd_T72 l0 aA).f1).length aP) ∧ w'.cell? (aB.add ((aA).toNat * 2)) = some (.slice aK ((rd_T72 l0 aA).f0).length aL) ∧ w'.cell? ⟨(aB.add ((aA).toNat * 2)).block, (aB.add ((aA).toNat * 2)).off + 1, none⟩ = some (.slice aO ((rd_T72 l0 aA).f1).length aP) ∧ w'.cell? (aB.add (((bK)).toNat * 2)) = some (.slice b9 ((rd_T72 l0 (bK)).f0).length cA) ∧ w'.cell? ⟨(aB.add (((bK)).toNat * 2)).block, (aB.add (((bK)).toNat * 2)).off + 1, none⟩ = some (.slice cT ((rd_T72 l0 (bK)).f1).length cU) ∧ w'.cell? (aB.add ((aA).toNat * 2)) = some (.slice aK ((rd_T72 l0 aA).f0).length aL) ∧ w'.cell? ⟨(aB.add ((aA).toNat * 2)).block, (aB.add ((aA).toNat * 2)).off + 1, none⟩ = some (.slice aO ((rd_T72 l0 aA).f1).length aP)) (ds := []) M59 (by kernel_rfl) rfl rfl ⟨(ZC HB.out aD :), (ZC HB.out aC :), (ZC HB.out aJ :), (ZC HB.out aI :), (ZC HB.out aW :), (ZC HB.out aV :), (ZC HB.out bF :), (ZC HB.out bE :), (ZC HB.out a9 :), (ZC HB.out a8 :)⟩ (fun hHeld => ?_); refine with_tabW spec_validStore.tab6 spec_validStore.bits6 (fun HT_ HW_ => ?_)
             generalize wr.drew = d9 at HB aU a2 bA bB bN a7 bY cJ b3 cL aE aF aG aH aM aN bC bD bG bH hHeld ⊢; refine pU 0 13 M60 ?_; refine pU 1 14 M61 ?_; refine pU 2 15 M62 ?_; refine pU 3 16 M63 ?_; refine tU 4 17 M64 ?_ (y := Z43)
             refine oU 5 (some 18) M65 (fun K hK => ?_)
             refine goes_ Try.func48 (by kernel_rfl) rfl #[.slice aK ((rd_T72 l0 aA).f0).length aL] (by rfl) rfl rfl Z16 ?_
             with_reducible refine (spec_validPlace.calls k1 _ _ ((rd_T72 l0 aA).f0) true _ ?s1 ?s2 A5.out).mono ?_
             (case s1 => exact Z4 aU.out)
             (case s2 => exact a1.out)
             rintro e eA ⟨rfl, hb⟩
             refine ⟨_, rfl, ?_⟩
             replace HB := A_ (bst Z1 hb); (try clear hb); (try clear dA); (try clear hk); (try clear hi)
             refine hK.out _ _ ⟨(ZC HB.out aD :), (ZC HB.out aC :), (ZC HB.out aJ :), (ZC HB.out aI :), (ZC HB.out aW :), (ZC HB.out aV :), (ZC HB.out bF :), (ZC HB.out bE :), (ZC HB.out a9 :), (ZC HB.out a8 :)⟩ (fun hHeld => ?_)
             clear hK K
             refine norm_ (a' := ?_) ?_ ?_
             rotate_left; (·exact Z41); refine pU 6 19 M66 ?_; refine pU 7 20 M67 ?_; refine pU 8 21 M68 ?_; refine pU 9 22 M69 ?_; refine pU 10 23 M70 ?_; refine pU 11 24 M71 ?_; refine tU 12 25 M72 ?_ (y := Z43); refine pU 13 26 M73 ?_; refine pU 14 27 M74 ?_; refine pU 15 28 M75 ?_; refine pU 16 29 M76 ?_; refine pU 17 30 M77 ?_; refine pU 18 31 M78 ?_; refine pU 19 32 M79 ?_; refine pU 20 33 M80 ?_; refine tU 21 34 M81 ?_ (y := Z43)
             refine oU 22 (some 35) M82 (fun K hK => ?_)
             refine goes_ Try.func76 (by kernel_rfl) rfl #[.slice aO ((rd_T72 l0 aA).f1).length aP] (by rfl) rfl rfl Z16 ?_
             with_reducible refine (spec_validValues.calls k1 _ _ ((rd_T72 l0 aA).f1) true _ ?s1 ?s2 dO.out).mono ?_
             (case s1 => exact Z4 a7.out)
             (case s2 => exact bO.out)
             rintro e eB ⟨rfl, hb⟩
             refine ⟨_, rfl, ?_⟩
             replace HB := A_ (bst Z1 hb); (try clear hb); (try clear dA); (try clear hk); (try clear hi)
             refine hK.out _ _ ⟨(ZC HB.out aD :), (ZC HB.out aC :), (ZC HB.out aJ :), (ZC HB.out aI :), (ZC HB.out aW :), (ZC HB.out aV :), (ZC HB.out bF :), (ZC HB.out bE :), (ZC HB.out a9 :), (ZC HB.out a8 :)⟩ (fun hHeld => ?_)
             clear hK K
             refine norm_ (a' := ?_) ?_ ?_
             rotate_left; (·exact Z51); refine pU 23 36 M83 ?_; refine pU 24 37 M84 ?_; refine pU 25 38 M85 ?_; refine pU 26 39 M86 ?_; refine pU 27 40 M87 ?_; refine pU 28 41 M88 ?_; refine pU 29 42 M89 ?_; refine pU 30 43 M90 ?_; refine pU 31 44 M91 ?_; refine pU 32 45 M92 ?_; refine pU 33 46 M93 ?_; refine pU 35 48 M104 ?_; refine pU 36 49 M105 ?_; refine pU 37 50 M106 ?_; refine pU 38 51 M107 ?_; refine tU 34 47 M98 ?_ (y := Z43); refine tU 39 52 M99 ?_ (y := Z43)
             refine oU 40 (some 53) M100 (fun K hK => ?_)
             refine goes_ Try.func59 (by kernel_rfl) rfl #[.slice b9 ((rd_T72 l0 (bK)).f0).length cA, .slice aK ((rd_T72 l0 aA).f0).length aL] (by rfl) rfl rfl (by (try simp only [List.map_toArray, List.map_cons, List.map_nil]); first | done | (simp only [b4]; rfl) | rfl | (simp only [List.length_drop, List.length_take]; rfl)) ?_
             with_reducible refine (spec_comparePlaces.calls k1 _ _ ((rd_T72 l0 (bK)).f0) _ _ ((rd_T72 l0 aA).f0) cX _ ?s1 ?s2 ?s3 ?s4 d6.out).mono ?_
             (case s1 => exact Z4 bY.out)
             (case s2 => exact cI.out)
             (case s3 => exact Z4 b3.out)
             (case s4 => exact cK.out)
             rintro e w' ⟨rfl, ⟨nd, rfl⟩⟩
             refine ⟨_, rfl, ?_⟩
             refine hK.out _ _ ⟨(ZC HB.out aD :), (ZC HB.out aC :), (ZC HB.out aJ :), (ZC HB.out aI :), (ZC HB.out aW :), (ZC HB.out aV :), (ZC HB.out bF :), (ZC HB.out bE :), (ZC HB.out a9 :), (ZC HB.out a8 :)⟩ (fun hHeld => ?_)
             clear hK K
             refine norm_ (a' := ?_) ?_ ?_
             rotate_left
             ·show Act.put _ (some 53) _ = _
              simp only [Act.put, List.setIfInBounds_toArray, List.set_cons_zero, List.set_cons_succ, i64_w, i32_w]
              rfl
             refine pU 41 54 M101 ?_; refine pU 42 55 M102 ?_; refine pU 43 56 M103 ?_
             refine done_ (done_of HT_.out (by kernel_rfl)) ?_
             try go_wp2
             go_ret
             exact ⟨by first | rfl | (simp [errW_none, errW_some] <;> rfl) | (simp only [← b4]; first | rfl | (simp [errW_none, errW_some] <;> rfl)) | (simp [*, errW_none, errW_some] <;> rfl), Z1⟩
            ·rw [if_neg dK] at H
             have dR : decide (0 ≤ cX) = false := df dK; clear dK; have H' := A_ H; clear H
             try go_wp2
             replace HB := A_ (below_drew1 HB.out); have bI : 0 ≤ (aA : Int) := odt; have bJ : aA < (l0.length : Int) := odt; obtain ⟨aB, aK, aL, aO, aP, b7, aE, aF, aQ, aR, aS, aT⟩ := at_T72 cB.out aA bI bJ; have aC := aF; have aD := aE; cases b7; replace aE := ZC HB.out aE; replace aF := ZC HB.out aF; have aU := A_ aR; have a1 := A_ aQ; clear aR aQ; have a2 := A_ aT; have bR := A_ aS; clear aT aS; replace bI := eq_true bI; replace bJ := eq_true bJ; have bL : 0 ≤ (aA : Int) := odt; have bM : aA < (l0.length : Int) := odt; obtain ⟨bT, cC, cD, cE, cF, cG, aG, aH, aX, aY, aZ, a0⟩ := at_T72 cB.out aA bL bM; have aI := aH; have aJ := aG; obtain rfl : aB = bT := (by injection cG); replace aG := ZC HB.out aG; replace aH := ZC HB.out aH; have bA := A_ aY; have b5 := A_ aX; clear aY aX; have bB := A_ a0; have b6 := A_ aZ; clear a0 aZ; replace bL := eq_true bL; replace bM := eq_true bM; have ea_ := Option.some.inj (aD.symm.trans aJ); injection ea_ with ea_ en_ ec_; subst ea_; subst ec_; clear en_; have ea_ := Option.some.inj (aC.symm.trans aI); injection ea_ with ea_ en_ ec_; subst ea_; subst ec_; clear en_; have bP : 0 ≤ (aA : Int) := odt
             have bQ : aA < (l0.length : Int) := odt; obtain ⟨b8, cM, cN, cO, cP, cQ, aM, aN, a3, a4, a5, a6⟩ := at_T72 cB.out aA bP bQ; have aV := aN; have aW := aM; obtain rfl : aB = b8 := (by injection cQ); replace aM := ZC HB.out aM; replace aN := ZC HB.out aN; have bN := A_ a4; have cH := A_ a3; clear a4 a3; have a7 := A_ a6; have bO := A_ a5; clear a6 a5; replace bP := eq_true bP; replace bQ := eq_true bQ; have ea_ := Option.some.inj (aG.symm.trans aM); injection ea_ with ea_ en_ ec_; subst ea_; subst ec_; clear en_; have ea_ := Option.some.inj (aH.symm.trans aN); injection ea_ with ea_ en_ ec_; subst ea_; subst ec_; clear en_; have cR : 0 ≤ ((bK) : Int) := odt; have cS : (bK) < (l0.length : Int) := odt; obtain ⟨cY, b9, cA, cT, cU, dD, bC, bD, bU, bV, bW, bX⟩ := at_T72 cB.out (bK) cR cS; have bE := bD; have bF := bC; obtain rfl : aB = cY := (by injection dD); replace bC := ZC HB.out bC; replace bD := ZC HB.out bD; have bY := A_ bV; have cI := A_ bU; clear bV bU; have cJ := A_ bX; have dB := A_ bW; clear bX bW; replace cR := eq_true cR; replace cS := eq_true cS; have cV : 0 ≤ (aA : Int) := odt; have cW : aA < (l0.length : Int) := odt
             obtain ⟨cZ, dE, dF, dG, dH, dI, bG, bH, bZ, b0, b1, b2⟩ := at_T72 cB.out aA cV cW; have a8 := bH; have a9 := bG; obtain rfl : aB = cZ := (by injection dI); replace bG := ZC HB.out bG; replace bH := ZC HB.out bH; have b3 := A_ b0; have cK := A_ bZ; clear b0 bZ; have cL := A_ b2; have dC := A_ b1; clear b2 b1; replace cV := eq_true cV; replace cW := eq_true cW; have ea_ := Option.some.inj (aD.symm.trans a9); injection ea_ with ea_ en_ ec_; subst ea_; subst ec_; clear en_; have ea_ := Option.some.inj (aC.symm.trans a8); injection ea_ with ea_ en_ ec_; subst ea_; subst ec_; clear en_
             refine start_ (n := 44) (S := fun w' => w'.cell? (aB.add ((aA).toNat * 2)) = some (.slice aK ((rd_T72 l0 aA).f0).length aL) ∧ w'.cell? ⟨(aB.add ((aA).toNat * 2)).block, (aB.add ((aA).toNat * 2)).off + 1, none⟩ = some (.slice aO ((rd_T72 l0 aA).f1).length aP) ∧ w'.cell? (aB.add ((aA).toNat * 2)) = some (.slice aK ((rd_T72 l0 aA).f0).length aL) ∧ w'.cell? ⟨(aB.add ((aA).toNat * 2)).block, (aB.add ((aA).toNat * 2)).off + 1, none⟩ = some (.slice aO ((rd_T72 l0 aA).f1).length aP) ∧ w'.cell? (aB.add ((aA).toNat * 2)) = some (.slice aK ((rd_T72 l0 aA).f0).length aL) ∧ w'.cell? ⟨(aB.add ((aA).toNat * 2)).block, (aB.add ((aA).toNat * 2)).off + 1, none⟩ = some (.slice aO ((rd_T72 l0 aA).f1).length aP) ∧ w'.cell? (aB.add (((bK)).toNat * 2)) = some (.slice b9 ((rd_T72 l0 (bK)).f0).length cA) ∧ w'.cell? ⟨(aB.add (((bK)).toNat * 2)).block, (aB.add (((bK)).toNat * 2)).off + 1, none⟩ = some (.slice cT ((rd_T72 l0 (bK)).f1).length cU) ∧ w'.cell? (aB.add ((aA).toNat * 2)) = some (.slice aK ((rd_T72 l0 aA).f0).length aL) ∧ w'.cell? ⟨(aB.add ((aA).toNat * 2)).block, (aB.add ((aA).toNat * 2)).off + 1, none⟩ = some (.slice aO ((rd_T72 l0 aA).f1).length aP)) (ds := []) M59 (by kernel_rfl) rfl rfl ⟨(ZC HB.out aD :), (ZC HB.out aC :), (ZC HB.out aJ :), (ZC HB.out aI :), (ZC HB.out aW :), (ZC HB.out aV :), (ZC HB.out bF :), (ZC HB.out bE :), (ZC HB.out a9 :), (ZC HB.out a8 :)⟩ (fun hHeld => ?_); refine with_tabW spec_validStore.tab6 spec_validStore.bits6 (fun HT_ HW_ => ?_)
             generalize wr.drew = eC at HB aU a2 bA bB bN a7 bY cJ b3 cL aE aF aG aH aM aN bC bD bG bH hHeld ⊢; refine pU 0 13 M60 ?_; refine pU 1 14 M61 ?_; refine pU 2 15 M62 ?_; refine pU 3 16 M63 ?_; refine tU 4 17 M64 ?_ (y := Z43)
             refine oU 5 (some 18) M65 (fun K hK => ?_)
             refine goes_ Try.func48 (by kernel_rfl) rfl #[.slice aK ((rd_T72 l0 aA).f0).length aL] (by rfl) rfl rfl Z16 ?_
             with_reducible refine (spec_validPlace.calls k1 _ _ ((rd_T72 l0 aA).f0) true _ ?s1 ?s2 A5.out).mono ?_
             (case s1 => exact Z4 aU.out)
             (case s2 => exact a1.out)
             rintro e eD ⟨rfl, hb⟩
             refine ⟨_, rfl, ?_⟩
             replace HB := A_ (bst Z1 hb); (try clear hb); (try clear dA); (try clear hk); (try clear hi)
             refine hK.out _ _ ⟨(ZC HB.out aD :), (ZC HB.out aC :), (ZC HB.out aJ :), (ZC HB.out aI :), (ZC HB.out aW :), (ZC HB.out aV :), (ZC HB.out bF :), (ZC HB.out bE :), (ZC HB.out a9 :), (ZC HB.out a8 :)⟩ (fun hHeld => ?_)
             clear hK K
             refine norm_ (a' := ?_) ?_ ?_
             rotate_left; (·exact Z41); refine pU 6 19 M66 ?_; refine pU 7 20 M67 ?_; refine pU 8 21 M68 ?_; refine pU 9 22 M69 ?_; refine pU 10 23 M70 ?_; refine pU 11 24 M71 ?_; refine tU 12 25 M72 ?_ (y := Z43); refine pU 13 26 M73 ?_; refine pU 14 27 M74 ?_; refine pU 15 28 M75 ?_; refine pU 16 29 M76 ?_; refine pU 17 30 M77 ?_; refine pU 18 31 M78 ?_; refine pU 19 32 M79 ?_; refine pU 20 33 M80 ?_; refine tU 21 34 M81 ?_ (y := Z43)
             refine oU 22 (some 35) M82 (fun K hK => ?_)
             refine goes_ Try.func76 (by kernel_rfl) rfl #[.slice aO ((rd_T72 l0 aA).f1).length aP] (by rfl) rfl rfl Z16 ?_
             with_reducible refine (spec_validValues.calls k1 _ _ ((rd_T72 l0 aA).f1) true _ ?s1 ?s2 dO.out).mono ?_
             (case s1 => exact Z4 a7.out)
             (case s2 => exact bO.out)
             rintro e eE ⟨rfl, hb⟩
             refine ⟨_, rfl, ?_⟩
             replace HB := A_ (bst Z1 hb); (try clear hb); (try clear dA); (try clear hk); (try clear hi)
             refine hK.out _ _ ⟨(ZC HB.out aD :), (ZC HB.out aC :), (ZC HB.out aJ :), (ZC HB.out aI :), (ZC HB.out aW :), (ZC HB.out aV :), (ZC HB.out bF :), (ZC HB.out bE :), (ZC HB.out a9 :), (ZC HB.out a8 :)⟩ (fun hHeld => ?_)
             clear hK K
             refine norm_ (a' := ?_) ?_ ?_
             rotate_left; (·exact Z51); refine pU 23 36 M83 ?_; refine pU 24 37 M84 ?_; refine pU 25 38 M85 ?_; refine pU 26 39 M86 ?_; refine pU 27 40 M87 ?_; refine pU 28 41 M88 ?_; refine pU 29 42 M89 ?_; refine pU 30 43 M90 ?_; refine pU 31 44 M91 ?_; refine pU 32 45 M92 ?_; refine pU 33 46 M93 ?_; refine pU 35 48 M104 ?_; refine pU 36 49 M105 ?_; refine pU 37 50 M106 ?_; refine pU 38 51 M107 ?_; refine tU 34 47 M98 ?_ (y := Z43); refine tU 39 52 M99 ?_ (y := Z43)
             refine oU 40 (some 53) M100 (fun K hK => ?_)
             refine goes_ Try.func59 (by kernel_rfl) rfl #[.slice b9 ((rd_T72 l0 (bK)).f0).length cA, .slice aK ((rd_T72 l0 aA).f0).length aL] (by rfl) rfl rfl (by (try simp only [List.map_toArray, List.map_cons, List.map_nil]); first | done | (simp only [b4]; rfl) | rfl | (simp only [List.length_drop, List.length_take]; rfl)) ?_
             with_reducible refine (spec_comparePlaces.calls k1 _ _ ((rd_T72 l0 (bK)).f0) _ _ ((rd_T72 l0 aA).f0) cX _ ?s1 ?s2 ?s3 ?s4 d6.out).mono ?_
             (case s1 => exact Z4 bY.out)
             (case s2 => exact cI.out)
             (case s3 => exact Z4 b3.out)
             (case s4 => exact cK.out)
             rintro e w' ⟨rfl, ⟨nd, rfl⟩⟩
             refine ⟨_, rfl, ?_⟩
             refine hK.out _ _ ⟨(ZC HB.out aD :), (ZC HB.out aC :), (ZC HB.out aJ :), (ZC HB.out aI :), (ZC HB.out aW :), (ZC HB.out aV :), (ZC HB.out bF :), (ZC HB.out bE :), (ZC HB.out a9 :), (ZC HB.out a8 :)⟩ (fun hHeld => ?_)
             clear hK K
             refine norm_ (a' := ?_) ?_ ?_
             rotate_left
             ·show Act.put _ (some 53) _ = _
              simp only [Act.put, List.setIfInBounds_toArray, List.set_cons_zero, List.set_cons_succ, i64_w, i32_w]
              rfl
             refine pU 41 54 M101 ?_; refine pU 42 55 M102 ?_; refine pU 43 56 M103 ?_
             refine done_ (done_of HT_.out (by kernel_rfl)) ?_
             try go_wp2
             go_roundg k1
             case measure => have := dS.out; omega
             case rel => exact ⟨(wrap64 (aA + 1)), Z17, H', ⟨by have := dS.out; omega⟩, ⟨Z1⟩⟩
           ·rw [if_neg dV] at H
            exact absurd H (by simp)
          ·rw [if_neg dU] at H
           exact absurd H (by simp)
         ·rw [if_neg dJ] at H
          have dP : decide (0 < aA) = false := df dJ; clear dJ; have H' := A_ H; clear H
          try go_wp2
          replace HB := A_ (below_drew1 HB.out); have bI : 0 ≤ (aA : Int) := odt; have bJ : aA < (l0.length : Int) := odt; obtain ⟨aB, aK, aL, aO, aP, b7, aE, aF, aQ, aR, aS, aT⟩ := at_T72 cB.out aA bI bJ; have aC := aF; have aD := aE; cases b7; replace aE := ZC HB.out aE; replace aF := ZC HB.out aF; have aU := A_ aR; have a1 := A_ aQ; clear aR aQ; have a2 := A_ aT; have bR := A_ aS; clear aT aS; replace bI := eq_true bI; replace bJ := eq_true bJ; have bL : 0 ≤ (aA : Int) := odt; have bM : aA < (l0.length : Int) := odt; obtain ⟨bT, cC, cD, cE, cF, cG, aG, aH, aX, aY, aZ, a0⟩ := at_T72 cB.out aA bL bM; have aI := aH; have aJ := aG; obtain rfl : aB = bT := (by injection cG); replace aG := ZC HB.out aG; replace aH := ZC HB.out aH; have bA := A_ aY; have b5 := A_ aX; clear aY aX; have bB := A_ a0; have b6 := A_ aZ; clear a0 aZ; replace bL := eq_true bL; replace bM := eq_true bM; have ea_ := Option.some.inj (aD.symm.trans aJ); injection ea_ with ea_ en_ ec_; subst ea_; subst ec_; clear en_; have ea_ := Option.some.inj (aC.symm.trans aI); injection ea_ with ea_ en_ ec_; subst ea_; subst ec_; clear en_; have bP : 0 ≤ (aA : Int) := odt
          have bQ : aA < (l0.length : Int) := odt; obtain ⟨b8, cM, cN, cO, cP, cQ, aM, aN, a3, a4, a5, a6⟩ := at_T72 cB.out aA bP bQ; have aV := aN; have aW := aM; obtain rfl : aB = b8 := (by injection cQ); replace aM := ZC HB.out aM; replace aN := ZC HB.out aN; have bN := A_ a4; have cH := A_ a3; clear a4 a3; have a7 := A_ a6; have bO := A_ a5; clear a6 a5; replace bP := eq_true bP; replace bQ := eq_true bQ; have ea_ := Option.some.inj (aG.symm.trans aM); injection ea_ with ea_ en_ ec_; subst ea_; subst ec_; clear en_; have ea_ := Option.some.inj (aH.symm.trans aN); injection ea_ with ea_ en_ ec_; subst ea_; subst ec_; clear en_
          refine start_ (n := 44) (S := fun w' => w'.cell? (aB.add ((aA).toNat * 2)) = some (.slice aK ((rd_T72 l0 aA).f0).length aL) ∧ w'.cell? ⟨(aB.add ((aA).toNat * 2)).block, (aB.add ((aA).toNat * 2)).off + 1, none⟩ = some (.slice aO ((rd_T72 l0 aA).f1).length aP) ∧ w'.cell? (aB.add ((aA).toNat * 2)) = some (.slice aK ((rd_T72 l0 aA).f0).length aL) ∧ w'.cell? ⟨(aB.add ((aA).toNat * 2)).block, (aB.add ((aA).toNat * 2)).off + 1, none⟩ = some (.slice aO ((rd_T72 l0 aA).f1).length aP) ∧ w'.cell? (aB.add ((aA).toNat * 2)) = some (.slice aK ((rd_T72 l0 aA).f0).length aL) ∧ w'.cell? ⟨(aB.add ((aA).toNat * 2)).block, (aB.add ((aA).toNat * 2)).off + 1, none⟩ = some (.slice aO ((rd_T72 l0 aA).f1).length aP)) (ds := []) M59 (by kernel_rfl) rfl rfl ⟨(ZC HB.out aD :), (ZC HB.out aC :), (ZC HB.out aJ :), (ZC HB.out aI :), (ZC HB.out aW :), (ZC HB.out aV :)⟩ (fun hHeld => ?_); refine with_tabW spec_validStore.tab6 spec_validStore.bits6 (fun HT_ HW_ => ?_)
          generalize wr.drew = eF at HB aU a2 bA bB bN a7 aE aF aG aH aM aN hHeld ⊢; refine pU 0 13 M60 ?_; refine pU 1 14 M61 ?_; refine pU 2 15 M62 ?_; refine pU 3 16 M63 ?_; refine tU 4 17 M64 ?_ (y := Z40)
          refine oU 5 (some 18) M65 (fun K hK => ?_)
          refine goes_ Try.func48 (by kernel_rfl) rfl #[.slice aK ((rd_T72 l0 aA).f0).length aL] (by rfl) rfl rfl Z16 ?_
          with_reducible refine (spec_validPlace.calls k1 _ _ ((rd_T72 l0 aA).f0) true _ ?s1 ?s2 A5.out).mono ?_
          (case s1 => exact Z4 aU.out)
          (case s2 => exact a1.out)
          rintro e eG ⟨rfl, hb⟩
          refine ⟨_, rfl, ?_⟩
          replace HB := A_ (bst Z1 hb); (try clear hb); (try clear dA); (try clear hk); (try clear hi)
          refine hK.out _ _ ⟨(ZC HB.out aD :), (ZC HB.out aC :), (ZC HB.out aJ :), (ZC HB.out aI :), (ZC HB.out aW :), (ZC HB.out aV :)⟩ (fun hHeld => ?_)
          clear hK K
          refine norm_ (a' := ?_) ?_ ?_
          rotate_left; (·exact Z41); refine pU 6 19 M66 ?_; refine pU 7 20 M67 ?_; refine pU 8 21 M68 ?_; refine pU 9 22 M69 ?_; refine pU 10 23 M70 ?_; refine pU 11 24 M71 ?_; refine tU 12 25 M72 ?_ (y := Z40); refine pU 13 26 M73 ?_; refine pU 14 27 M74 ?_; refine pU 15 28 M75 ?_; refine pU 16 29 M76 ?_; refine pU 17 30 M77 ?_; refine pU 18 31 M78 ?_; refine pU 19 32 M79 ?_; refine pU 20 33 M80 ?_; refine tU 21 34 M81 ?_ (y := Z40)
          refine oU 22 (some 35) M82 (fun K hK => ?_)
          refine goes_ Try.func76 (by kernel_rfl) rfl #[.slice aO ((rd_T72 l0 aA).f1).length aP] (by rfl) rfl rfl Z16 ?_
          with_reducible refine (spec_validValues.calls k1 _ _ ((rd_T72 l0 aA).f1) true _ ?s1 ?s2 dO.out).mono ?_
          (case s1 => exact Z4 a7.out)
          (case s2 => exact bO.out)
          rintro e eH ⟨rfl, hb⟩
          refine ⟨_, rfl, ?_⟩
          replace HB := A_ (bst Z1 hb); (try clear hb); (try clear dA); (try clear hk); (try clear hi)
          refine hK.out _ _ ⟨(ZC HB.out aD :), (ZC HB.out aC :), (ZC HB.out aJ :), (ZC HB.out aI :), (ZC HB.out aW :), (ZC HB.out aV :)⟩ (fun hHeld => ?_)
          clear hK K
          refine norm_ (a' := ?_) ?_ ?_
          rotate_left; (·exact Z51); refine pU 23 36 M83 ?_; refine pU 24 37 M84 ?_; refine pU 25 38 M85 ?_; refine pU 26 39 M86 ?_; refine pU 27 40 M87 ?_; refine pU 28 41 M88 ?_; refine pN 29 42 M89 ?_; refine pN 30 43 M90 ?_; refine pN 31 44 M91 ?_; refine pN 32 45 M92 ?_; refine pN 33 46 M93 ?_; refine pN 34 47 M94 ?_; refine pN 35 48 M95 ?_; refine pN 36 49 M96 ?_; refine pN 37 50 M97 ?_; refine pN 38 51 M98 ?_; refine pN 39 52 M99 ?_; refine pN 40 53 M100 ?_; refine pN 41 54 M101 ?_; refine pU 42 55 M102 ?_; refine pU 43 56 M103 ?_
          refine done_ (done_of HT_.out (by kernel_rfl)) ?_
          try go_wp2
          go_roundg k1
          case measure => have := dS.out; omega
          case rel => exact ⟨(wrap64 (aA + 1)), Z17, H', ⟨by have := dS.out; omega⟩, ⟨Z1⟩⟩
        ·replace dT := Bool.eq_false_iff.mpr dT
         subst dT; rw [if_neg (show ¬ (false = true) by decide)] at H; obtain rfl := Option.some.inj H
         try go_wp2
         replace HB := A_ (below_drew1 HB.out); have bI : 0 ≤ (aA : Int) := odt; have bJ : aA < (l0.length : Int) := odt; obtain ⟨aB, aK, aL, aO, aP, b7, aE, aF, aQ, aR, aS, aT⟩ := at_T72 cB.out aA bI bJ; have aC := aF; have aD := aE; cases b7; replace aE := ZC HB.out aE; replace aF := ZC HB.out aF; have aU := A_ aR; have a1 := A_ aQ; clear aR aQ; have a2 := A_ aT; have bR := A_ aS; clear aT aS; replace bI := eq_true bI; replace bJ := eq_true bJ; have bL : 0 ≤ (aA : Int) := odt; have bM : aA < (l0.length : Int) := odt; obtain ⟨bT, cC, cD, cE, cF, cG, aG, aH, aX, aY, aZ, a0⟩ := at_T72 cB.out aA bL bM; have aI := aH; have aJ := aG; obtain rfl : aB = bT := (by injection cG); replace aG := ZC HB.out aG; replace aH := ZC HB.out aH; have bA := A_ aY; have b5 := A_ aX; clear aY aX; have bB := A_ a0; have b6 := A_ aZ; clear a0 aZ; replace bL := eq_true bL; replace bM := eq_true bM; have ea_ := Option.some.inj (aD.symm.trans aJ); injection ea_ with ea_ en_ ec_; subst ea_; subst ec_; clear en_; have ea_ := Option.some.inj (aC.symm.trans aI); injection ea_ with ea_ en_ ec_; subst ea_; subst ec_; clear en_; have bP : 0 ≤ (aA : Int) := odt
         have bQ : aA < (l0.length : Int) := odt; obtain ⟨b8, cM, cN, cO, cP, cQ, aM, aN, a3, a4, a5, a6⟩ := at_T72 cB.out aA bP bQ; have aV := aN; have aW := aM; obtain rfl : aB = b8 := (by injection cQ); replace aM := ZC HB.out aM; replace aN := ZC HB.out aN; have bN := A_ a4; have cH := A_ a3; clear a4 a3; have a7 := A_ a6; have bO := A_ a5; clear a6 a5; replace bP := eq_true bP; replace bQ := eq_true bQ; have ea_ := Option.some.inj (aG.symm.trans aM); injection ea_ with ea_ en_ ec_; subst ea_; subst ec_; clear en_; have ea_ := Option.some.inj (aH.symm.trans aN); injection ea_ with ea_ en_ ec_; subst ea_; subst ec_; clear en_
         refine start_ (n := 44) (S := fun w' => w'.cell? (aB.add ((aA).toNat * 2)) = some (.slice aK ((rd_T72 l0 aA).f0).length aL) ∧ w'.cell? ⟨(aB.add ((aA).toNat * 2)).block, (aB.add ((aA).toNat * 2)).off + 1, none⟩ = some (.slice aO ((rd_T72 l0 aA).f1).length aP) ∧ w'.cell? (aB.add ((aA).toNat * 2)) = some (.slice aK ((rd_T72 l0 aA).f0).length aL) ∧ w'.cell? ⟨(aB.add ((aA).toNat * 2)).block, (aB.add ((aA).toNat * 2)).off + 1, none⟩ = some (.slice aO ((rd_T72 l0 aA).f1).length aP) ∧ w'.cell? (aB.add ((aA).toNat * 2)) = some (.slice aK ((rd_T72 l0 aA).f0).length aL) ∧ w'.cell? ⟨(aB.add ((aA).toNat * 2)).block, (aB.add ((aA).toNat * 2)).off + 1, none⟩ = some (.slice aO ((rd_T72 l0 aA).f1).length aP)) (ds := []) M59 (by kernel_rfl) rfl rfl ⟨(ZC HB.out aD :), (ZC HB.out aC :), (ZC HB.out aJ :), (ZC HB.out aI :), (ZC HB.out aW :), (ZC HB.out aV :)⟩ (fun hHeld => ?_); refine with_tabW spec_validStore.tab6 spec_validStore.bits6 (fun HT_ HW_ => ?_)
         generalize wr.drew = eI at HB aU a2 bA bB bN a7 aE aF aG aH aM aN hHeld ⊢; refine pU 0 13 M60 ?_; refine pU 1 14 M61 ?_; refine pU 2 15 M62 ?_; refine pU 3 16 M63 ?_; refine tU 4 17 M64 ?_ (y := Z40)
         refine oU 5 (some 18) M65 (fun K hK => ?_)
         refine goes_ Try.func48 (by kernel_rfl) rfl #[.slice aK ((rd_T72 l0 aA).f0).length aL] (by rfl) rfl rfl Z16 ?_
         with_reducible refine (spec_validPlace.calls k1 _ _ ((rd_T72 l0 aA).f0) true _ ?s1 ?s2 A5.out).mono ?_
         (case s1 => exact Z4 aU.out)
         (case s2 => exact a1.out)
         rintro e eJ ⟨rfl, hb⟩
         refine ⟨_, rfl, ?_⟩
         replace HB := A_ (bst Z1 hb); (try clear hb); (try clear dA); (try clear hk); (try clear hi)
         refine hK.out _ _ ⟨(ZC HB.out aD :), (ZC HB.out aC :), (ZC HB.out aJ :), (ZC HB.out aI :), (ZC HB.out aW :), (ZC HB.out aV :)⟩ (fun hHeld => ?_)
         clear hK K
         refine norm_ (a' := ?_) ?_ ?_
         rotate_left; (·exact Z41); refine pU 6 19 M66 ?_; refine pU 7 20 M67 ?_; refine pU 8 21 M68 ?_; refine pU 9 22 M69 ?_; refine pU 10 23 M70 ?_; refine pU 11 24 M71 ?_; refine tU 12 25 M72 ?_ (y := Z40); refine pU 13 26 M73 ?_; refine pU 14 27 M74 ?_; refine pU 15 28 M75 ?_; refine pU 16 29 M76 ?_; refine pU 17 30 M77 ?_; refine pU 18 31 M78 ?_; refine pU 19 32 M79 ?_; refine pU 20 33 M80 ?_; refine tU 21 34 M81 ?_ (y := Z40)
         refine oU 22 (some 35) M82 (fun K hK => ?_)
         refine goes_ Try.func76 (by kernel_rfl) rfl #[.slice aO ((rd_T72 l0 aA).f1).length aP] (by rfl) rfl rfl Z16 ?_
         with_reducible refine (spec_validValues.calls k1 _ _ ((rd_T72 l0 aA).f1) false _ ?s1 ?s2 dO.out).mono ?_
         (case s1 => exact Z4 a7.out)
         (case s2 => exact bO.out)
         rintro e eK ⟨rfl, hb⟩
         refine ⟨_, rfl, ?_⟩
         replace HB := A_ (bst Z1 hb); (try clear hb); (try clear dA); (try clear hk); (try clear hi)
         refine hK.out _ _ ⟨(ZC HB.out aD :), (ZC HB.out aC :), (ZC HB.out aJ :), (ZC HB.out aI :), (ZC HB.out aW :), (ZC HB.out aV :)⟩ (fun hHeld => ?_)
         clear hK K
         refine norm_ (a' := ?_) ?_ ?_
         rotate_left; (·exact Z51); refine pU 23 36 M83 ?_; refine pU 24 37 M84 ?_; refine pU 25 38 M85 ?_; refine pN 26 39 M86 ?_; refine pN 27 40 M87 ?_; refine pN 28 41 M88 ?_; refine pN 29 42 M89 ?_; refine pN 30 43 M90 ?_; refine pN 31 44 M91 ?_; refine pN 32 45 M92 ?_; refine pN 33 46 M93 ?_; refine pN 34 47 M94 ?_; refine pN 35 48 M95 ?_; refine pN 36 49 M96 ?_; refine pN 37 50 M97 ?_; refine pN 38 51 M98 ?_; refine pN 39 52 M99 ?_; refine pN 40 53 M100 ?_; refine pN 41 54 M101 ?_; refine pN 42 55 M102 ?_; refine pU 43 56 M103 ?_
         refine done_ (done_of HT_.out (by kernel_rfl)) ?_
         try go_wp2
         go_ret
         exact ⟨Z7, Z1⟩
      ·replace c6 := Bool.eq_false_iff.mpr c6
       subst c6; rw [if_neg (show ¬ (false = true) by decide)] at H; obtain rfl := Option.some.inj H
       try go_wp2
       replace HB := A_ (below_drew1 HB.out); have bI : 0 ≤ (aA : Int) := odt; have bJ : aA < (l0.length : Int) := odt; obtain ⟨aB, aK, aL, aO, aP, b7, aE, aF, aQ, aR, aS, aT⟩ := at_T72 cB.out aA bI bJ; have aC := aF; have aD := aE; cases b7; replace aE := ZC HB.out aE; replace aF := ZC HB.out aF; have aU := A_ aR; have a1 := A_ aQ; clear aR aQ; have a2 := A_ aT; have bR := A_ aS; clear aT aS; replace bI := eq_true bI; replace bJ := eq_true bJ
       refine start_ (n := 44) (S := fun w' => w'.cell? (aB.add ((aA).toNat * 2)) = some (.slice aK ((rd_T72 l0 aA).f0).length aL) ∧ w'.cell? ⟨(aB.add ((aA).toNat * 2)).block, (aB.add ((aA).toNat * 2)).off + 1, none⟩ = some (.slice aO ((rd_T72 l0 aA).f1).length aP)) (ds := []) M59 (by kernel_rfl) rfl rfl ⟨(ZC HB.out aD :), (ZC HB.out aC :)⟩ (fun hHeld => ?_); refine with_tabW spec_validStore.tab6 spec_validStore.bits6 (fun HT_ HW_ => ?_)
       generalize wr.drew = eL at HB aU a2 aE aF hHeld ⊢; refine pU 0 13 M60 ?_; refine pU 1 14 M61 ?_; refine pU 2 15 M62 ?_; refine pU 3 16 M63 ?_; refine tU 4 17 M64 ?_ (y := Z44)
       refine oU 5 (some 18) M65 (fun K hK => ?_)
       refine goes_ Try.func48 (by kernel_rfl) rfl #[.slice aK ((rd_T72 l0 aA).f0).length aL] (by rfl) rfl rfl Z16 ?_
       with_reducible refine (spec_validPlace.calls k1 _ _ ((rd_T72 l0 aA).f0) false _ ?s1 ?s2 A5.out).mono ?_
       (case s1 => exact Z4 aU.out)
       (case s2 => exact a1.out)
       rintro e eM ⟨rfl, hb⟩
       refine ⟨_, rfl, ?_⟩
       replace HB := A_ (bst Z1 hb); (try clear hb); (try clear dA); (try clear hk); (try clear hi)
       refine hK.out _ _ ⟨(ZC HB.out aD :), (ZC HB.out aC :)⟩ (fun hHeld => ?_)
       clear hK K
       refine norm_ (a' := ?_) ?_ ?_
       rotate_left; (·exact Z41); refine pU 6 19 M66 ?_; refine pU 7 20 M67 ?_; refine pN 8 21 M68 ?_; refine pN 9 22 M69 ?_; refine pN 10 23 M70 ?_; refine pN 11 24 M71 ?_; refine pN 12 25 M72 ?_; refine pN 13 26 M73 ?_; refine pN 14 27 M74 ?_; refine pU 15 28 M75 ?_; refine pU 16 29 M76 ?_; refine pN 17 30 M77 ?_; refine pN 18 31 M78 ?_; refine pN 19 32 M79 ?_; refine pN 20 33 M80 ?_; refine pN 21 34 M81 ?_; refine pN 22 35 M82 ?_; refine pN 23 36 M83 ?_; refine pU 24 37 M84 ?_; refine pU 25 38 M85 ?_; refine pN 26 39 M86 ?_; refine pN 27 40 M87 ?_; refine pN 28 41 M88 ?_; refine pN 29 42 M89 ?_; refine pN 30 43 M90 ?_; refine pN 31 44 M91 ?_; refine pN 32 45 M92 ?_; refine pN 33 46 M93 ?_; refine pN 34 47 M94 ?_; refine pN 35 48 M95 ?_; refine pN 36 49 M96 ?_; refine pN 37 50 M97 ?_; refine pN 38 51 M98 ?_; refine pN 39 52 M99 ?_; refine pN 40 53 M100 ?_; refine pN 41 54 M101 ?_; refine pN 42 55 M102 ?_; refine pU 43 56 M103 ?_
       refine done_ (done_of HT_.out (by kernel_rfl)) ?_
       try go_wp2
       go_ret
       exact ⟨Z7, Z1⟩
     ·exact Z45
    ·rw [if_neg c3] at H
     have dW := df c3; clear c3; obtain rfl := Option.some.inj H
     go_wp2
     go_ret
     exact ⟨Z7, Z1⟩
end Go.Proofs.Ytgbbcebjgpoioaa.PFnExactHistRedo
