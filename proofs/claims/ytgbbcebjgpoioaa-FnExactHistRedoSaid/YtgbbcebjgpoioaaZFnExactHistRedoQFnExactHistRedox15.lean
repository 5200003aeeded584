/- Walks (lines of the print; no condition). -/
import Derived.Test.YtgbbcebjgpoioaaZFnExactHistRedoQFnExactHistRedox14
namespace Go.Proofs.Ytgbbcebjgpoioaa.PFnExactHistRedo
open Go.RowKit Go.Proofs.YtgbbcebjgpoioaaW.PrintWords Go.Proofs.YtgbbcebjgpoioaaW.PrintLast Go.Proofs.YtgbbcebjgpoioaaW.PrintMore
attribute [local go_sem] max2_int min2_int max_two min_two max_three min_three max_four min_four
set_option linter.unusedVariables false
set_option linter.unusedSimpArgs false
set_option maxHeartbeats 8000000
set_option maxRecDepth 100000
def laws_eqCellSS.l0 : Nat → List (List (S72)) → List (List (S72)) → Int → Option (Bool)
 | 0, _, _, _ => none
 | k + 1, x0, x1, x5 => if x5 < (x0.length : Int) then (if 0 ≤ x5 then (if x5 < (x1.length : Int) then ((laws_eqCellS.f k (rd_L7 x0 x5) (rd_L7 x1 x5)).bind fun aA => (if aA = true then (laws_eqCellSS.l0 k x0 x1 (wrap64 (x5 + 1))) else (some false))) else (none)) else (none)) else (some true)
def laws_eqCellSS.f (k : Nat) (l0 : List (List (S72))) (l1 : List (List (S72))) : Option (Bool) := if (l0.length : Int) = (l1.length : Int) then (laws_eqCellSS.l0 k l0 l1 0) else (some false)
def laws_eqCellSS.T6 : Bool × List (List Nat × List Nat) := (true, [([], []), ([], []), ([0, 1], [0, 1]), ([2], [2]), ([], []), ([], []), ([4, 5], [4, 5]), ([6], [6]), ([3, 7], [3, 7]), ([8], [8])])
def laws_eqCellSS.B6 : List Nat := [0, 0, 3, 7, 0, 0, 48, 112, 255, 511]
theorem laws_eqCellSS.tab6 : rtab .any (opsOf Try.f41 6) = laws_eqCellSS.T6 := by kernel_rfl
theorem laws_eqCellSS.bits6 : waitsOk laws_eqCellSS.T6.2 laws_eqCellSS.B6 = true := by kernel_rfl
theorem laws_eqCellSS.calls (k : Nat) (A0 : Option Addr) (c0 : Nat) (l0 : List (List (S72))) (A1 : Option Addr) (c1 : Nat) (l1 : List (List (S72))) (r : Bool) (w : World) (a4 : Kd.C (Kd.slice 72 k72) w A0 l0.length l0) (hc0 : l0.length ≤ c0) (hr1 : Kd.C (Kd.slice 72 k72) w A1 l1.length l1) (a5 : l1.length ≤ c1) (h : laws_eqCellSS.f k l0 l1 = some r) :
  Calls Try.prog 41 #[.slice A0 l0.length c0, .slice A1 l1.length c1] w fun e w' => e = .returned (.bool r) ∧ Below w.heap.size w w' := by
 have a6 := A_ a4; have bD := A_ hc0; clear a4 hc0; have a7 := A_ hr1; have bE := A_ a5; clear hr1 a5; have HB := A_ (Below.refl w.heap.size w); have H := h; unfold laws_eqCellSS.f at H; clear h
 by_cases c3 : (l0.length : Int) = (l1.length : Int)
 ·rw [if_pos c3] at H
  have aZ : ((l0.length : Int) == (l1.length : Int)) = true := beq_iff_eq.mpr c3; have a0 : ((l0.length : Int) != (l1.length : Int)) = false := bne_eq_false_iff_eq.mpr c3
  have a1 : (l0.length == l1.length) = true := by first | simpa using c3 | (simp at c3 ⊢; omega)
  clear c3; have H' := A_ H; clear H
  go_enter Try.func41, Try.ntmps41
  go_wp2
  go_loopg [5] k (fun kq v5 w' => ∃ (aA : Int), v5 = .int .i64 aA ∧ Aside0 (laws_eqCellSS.l0 kq l0 l1 aA = some r) ∧ Aside0 (kq ≤ k) ∧ Aside0 (Below w.heap.size w w'))
  case atStart => exact ⟨(0), Z17, H', ⟨Nat.le_refl _⟩, ⟨Z1⟩⟩
  case round =>
   clear H'; try clear c1
   try clear c3
   try clear aZ
   try clear a0
   try clear a1
   obtain ⟨aA, rfl, HA, a8, HB⟩ := hrel
   cases gk with
   | zero => exact absurd HA.out (by simp [laws_eqCellSS.l0])
   | succ k1 =>
    have H := HA.out; clear HA; simp only [laws_eqCellSS.l0] at H
    by_cases c4 : aA < (l0.length : Int)
    ·rw [if_pos c4] at H
     have a2 := dt c4; clear c4
     by_cases c5 : 0 ≤ aA
     ·rw [if_pos c5] at H
      have bA := dt c5; clear c5
      by_cases c6 : aA < (l1.length : Int)
      ·rw [if_pos c6] at H
       have bB := dt c6; clear c6; replace H := bS H; obtain ⟨a3, a9, H⟩ := H
       try dsimp only at H
       have A7 := A_ a9; clear a9
       by_cases c8 : a3 = true
       ·subst c8
        rw [if_pos rfl] at H; have H' := A_ H; clear H
        try go_wp2
        replace HB := A_ (below_drew1 HB.out); have aR : 0 ≤ (aA : Int) := odt; have aS : aA < (l0.length : Int) := odt; obtain ⟨aV, aL, aM, aX, aB, aD, aE⟩ := at_L7 a6.out aA aR aS; have aF := aB; cases aX; replace aB := ZC HB.out aB; have aG := A_ aE; have aP := A_ aD; clear aE aD; replace aR := eq_true aR; replace aS := eq_true aS; have aT : 0 ≤ (aA : Int) := odt; have aU : aA < (l1.length : Int) := odt; obtain ⟨aW, aN, aO, aY, aC, aH, aI⟩ := at_L7 a7.out aA aT aU; have aJ := aC; cases aY; replace aC := ZC HB.out aC; have aK := A_ aI; have aQ := A_ aH; clear aI aH; replace aT := eq_true aT; replace aU := eq_true aU
        refine start_ (n := 10) (S := fun w' => w'.cell? (aV.add (aA).toNat) = some (.slice aL (rd_L7 l0 aA).length aM) ∧ w'.cell? (aW.add (aA).toNat) = some (.slice aN (rd_L7 l1 aA).length aO)) (ds := []) M0 (by kernel_rfl) rfl rfl ⟨(ZC HB.out aF :), (ZC HB.out aJ :)⟩ (fun hHeld => ?_); refine with_tabW laws_eqCellSS.tab6 laws_eqCellSS.bits6 (fun HT_ HW_ => ?_)
        generalize wr.drew = w9 at HB aG aK aB aC hHeld ⊢; refine pU 0 17 M6 ?_; refine pU 1 18 M7 ?_; refine pU 2 19 M8 ?_; refine pU 4 21 M9 ?_; refine pU 5 22 M10 ?_; refine pU 6 23 M2 ?_; refine tU 3 20 M1 ?_ (y := Z44); refine tU 7 24 M3 ?_ (y := Z44)
        refine oU 8 (some 25) M4 (fun K hK => ?_)
        refine goes_ Try.func40 (by kernel_rfl) rfl #[.slice aL (rd_L7 l0 aA).length aM, .slice aN (rd_L7 l1 aA).length aO] (by rfl) rfl rfl Z16 ?_
        with_reducible refine (laws_eqCellS.calls k1 _ _ (rd_L7 l0 aA) _ _ (rd_L7 l1 aA) true _ ?s1 ?s2 ?s3 ?s4 A7.out).mono ?_
        (case s1 => exact Z4 aG.out)
        (case s2 => exact aP.out)
        (case s3 => exact Z4 aK.out)
        (case s4 => exact aQ.out)
        rintro e bF ⟨rfl, hb⟩
        refine ⟨_, rfl, ?_⟩
        replace HB := A_ (bst Z1 hb); (try clear hb); (try clear bC); (try clear hk); (try clear hi)
        refine hK.out _ _ ⟨(ZC HB.out aF :), (ZC HB.out aJ :)⟩ (fun hHeld => ?_)
        clear hK K
        refine norm_ (a' := ?_) ?_ ?_
        rotate_left; (·exact Z31); refine pU 9 26 M5 ?_
        refine done_ (done_of HT_.out (by kernel_rfl)) ?_
        try go_wp2
        go_roundg k1
        case measure => have := a8.out; omega
        case rel => exact ⟨(wrap64 (aA + 1)), Z17, H', ⟨by have := a8.out; omega⟩, ⟨Z1⟩⟩
       ·replace c8 := Bool.eq_false_iff.mpr c8
        subst c8; rw [if_neg (show ¬ (false = true) by decide)] at H; obtain rfl := Option.some.inj H
        try go_wp2
        replace HB := A_ (below_drew1 HB.out); have aR : 0 ≤ (aA : Int) := odt; have aS : aA < (l0.length : Int) := odt; obtain ⟨aV, aL, aM, aX, aB, aD, aE⟩ := at_L7 a6.out aA aR aS; have aF := aB; cases aX; replace aB := ZC HB.out aB; have aG := A_ aE; have aP := A_ aD; clear aE aD; replace aR := eq_true aR; replace aS := eq_true aS; have aT : 0 ≤ (aA : Int) := odt; have aU : aA < (l1.length : Int) := odt; obtain ⟨aW, aN, aO, aY, aC, aH, aI⟩ := at_L7 a7.out aA aT aU; have aJ := aC; cases aY; replace aC := ZC HB.out aC; have aK := A_ aI; have aQ := A_ aH; clear aI aH; replace aT := eq_true aT; replace aU := eq_true aU
        refine start_ (n := 10) (S := fun w' => w'.cell? (aV.add (aA).toNat) = some (.slice aL (rd_L7 l0 aA).length aM) ∧ w'.cell? (aW.add (aA).toNat) = some (.slice aN (rd_L7 l1 aA).length aO)) (ds := []) M0 (by kernel_rfl) rfl rfl ⟨(ZC HB.out aF :), (ZC HB.out aJ :)⟩ (fun hHeld => ?_); refine with_tabW laws_eqCellSS.tab6 laws_eqCellSS.bits6 (fun HT_ HW_ => ?_)
        generalize wr.drew = bG at HB aG aK aB aC hHeld ⊢; refine pU 0 17 M6 ?_; refine pU 1 18 M7 ?_; refine pU 2 19 M8 ?_; refine pU 4 21 M9 ?_; refine pU 5 22 M10 ?_; refine pU 6 23 M2 ?_; refine tU 3 20 M1 ?_ (y := Z44); refine tU 7 24 M3 ?_ (y := Z44)
        refine oU 8 (some 25) M4 (fun K hK => ?_)
        refine goes_ Try.func40 (by kernel_rfl) rfl #[.slice aL (rd_L7 l0 aA).length aM, .slice aN (rd_L7 l1 aA).length aO] (by rfl) rfl rfl Z16 ?_
        with_reducible refine (laws_eqCellS.calls k1 _ _ (rd_L7 l0 aA) _ _ (rd_L7 l1 aA) false _ ?s1 ?s2 ?s3 ?s4 A7.out).mono ?_
        (case s1 => exact Z4 aG.out)
        (case s2 => exact aP.out)
        (case s3 => exact Z4 aK.out)
        (case s4 => exact aQ.out)
        rintro e bH ⟨rfl, hb⟩
        refine ⟨_, rfl, ?_⟩
        replace HB := A_ (bst Z1 hb); (try clear hb); (try clear bC); (try clear hk); (try clear hi)
        refine hK.out _ _ ⟨(ZC HB.out aF :), (ZC HB.out aJ :)⟩ (fun hHeld => ?_)
        clear hK K
        refine norm_ (a' := ?_) ?_ ?_
        rotate_left; (·exact Z31); refine pU 9 26 M5 ?_
        refine done_ (done_of HT_.out (by kernel_rfl)) ?_
        try go_wp2
        go_ret
        exact ⟨Z7, Z1⟩
      ·rw [if_neg c6] at H
       exact absurd H (by simp)
     ·rw [if_neg c5] at H
      exact absurd H (by simp)
    ·rw [if_neg c4] at H
     have a2 := df c4; clear c4; obtain rfl := Option.some.inj H
     go_wp2
     go_ret
     exact ⟨Z7, Z1⟩
 ·rw [if_neg c3] at H
  have aZ : ((l0.length : Int) == (l1.length : Int)) = false := beq_eq_false_iff_ne.mpr c3; have a0 : ((l0.length : Int) != (l1.length : Int)) = true := bne_iff_ne.mpr c3
  have a1 : (l0.length == l1.length) = false := by first | simpa using c3 | (simp at c3 ⊢; omega)
  obtain rfl := Option.some.inj H
  go_enter Try.func41, Try.ntmps41
  go_wp2
  go_ret
  exact ⟨Z7, Z1⟩
def laws_eqHist.f (k : Nat) (aA : List (S72)) (aB : List (List (S72))) (aC : List (List (S72))) (aD : List (S72)) (aE : List (List (S72))) (aF : List (List (S72))) : Option (Bool) := (laws_eqCellS.f k aA aD).bind fun aG => (if aG = true then ((laws_eqCellSS.f k aB aE).bind fun aH => (if aH = true then ((laws_eqCellSS.f k aC aF).bind fun aI => (if aI = true then (some true) else (some false))) else (some false))) else (some false))
theorem laws_eqHist.calls (k : Nat) (aQ : Option Addr) (aR : Nat) (aG : List (S72)) (aU : Option Addr) (aV : Nat) (aK : List (List (S72))) (aY : Option Addr) (aZ : Nat) (aM : List (List (S72))) (aS : Option Addr) (aT : Nat) (aH : List (S72)) (aW : Option Addr) (aX : Nat) (aL : List (List (S72))) (a0 : Option Addr) (a1 : Nat) (aN : List (List (S72))) (r : Bool) (w : World) (bA : Kd.C k72 w aQ aG.length aG) (bB : aG.length ≤ aR) (bC : Kd.C (Kd.slice 72 k72) w aU aK.length aK) (bD : aK.length ≤ aV) (bE : Kd.C (Kd.slice 72 k72) w aY aM.length aM) (bF : aM.length ≤ aZ) (bG : Kd.C k72 w aS aH.length aH) (bH : aH.length ≤ aT) (bI : Kd.C (Kd.slice 72 k72) w aW aL.length aL) (bJ : aL.length ≤ aX) (bK : Kd.C (Kd.slice 72 k72) w a0 aN.length aN) (bL : aN.length ≤ a1) (h : laws_eqHist.f k aG aK aM aH aL aN = some r) :
  Calls Try.prog 16 #[.agg #[.slice aQ aG.length aR, .slice aU aK.length aV, .slice aY aM.length aZ], .agg #[.slice aS aH.length aT, .slice aW aL.length aX, .slice a0 aN.length a1]] w fun e w' => e = .returned (.bool r) ∧ Below w.heap.size w w' := by
 have fF := Try.underlying26; have a2 := A_ bA; have a3 := A_ bB; clear bA bB; have a6 := A_ bC; have a7 := A_ bD; clear bC bD; have bM := A_ bE; have bN := A_ bF; clear bE bF; have a4 := A_ bG; have a5 := A_ bH; clear bG bH; have a8 := A_ bI; have a9 := A_ bJ; clear bI bJ; have bO := A_ bK; have bP := A_ bL; clear bK bL; have HB := A_ (Below.refl w.heap.size w); have H := h; unfold laws_eqHist.f at H; clear h; replace H := bS H; obtain ⟨e1, e4, H⟩ := H
 try dsimp only at H
 have A3 := A_ e4; clear e4
 by_cases c4 : e1 = true
 ·subst c4
  rw [if_pos rfl] at H; replace H := bS H; obtain ⟨e2, e5, H⟩ := H
  try dsimp only at H
  have A5 := A_ e5; clear e5
  by_cases c6 : e2 = true
  ·subst c6
   rw [if_pos rfl] at H; replace H := bS H; obtain ⟨e3, e6, H⟩ := H
   try dsimp only at H
   have A7 := A_ e6; clear e6
   by_cases c8 : e3 = true
   ·subst c8
    rw [if_pos rfl] at H; obtain rfl := Option.some.inj H
    go_enter Try.func16, Try.ntmps16
    go_wp2_with (first | ((with_reducible refine gate_dst (N := 2) rfl ?_); refine be (cs := #[.slice aQ aG.length aR, .slice aU aK.length aV, .slice aY aM.length aZ]) (t := 26) ?_; intro aI hg w9 hbox hb; have aA := A_ hbox; have aO := A_ (gl hg (bz Z1)); have aC := aO; replace HB := A_ (bst Z1 hb); clear hb hbox hg) | ((with_reducible refine gate_dst (N := 3) rfl ?_); refine be (cs := #[.slice aS aH.length aT, .slice aW aL.length aX, .slice a0 aN.length a1]) (t := 26) ?_; intro aJ hg fG hbox hb; have aB := A_ hbox; have aP := A_ (gl hg (bz (Z3 aC.out))); have aF := aP; replace HB := A_ (bst (Z3 aC.out) hb); have aD := A_ ((by rw [hg]; exact nl (blk_lt (Z2 aA.out)) : aI ≠ aJ)); have aE := A_ ((by rw [hg]; exact Nat.ne_of_gt (blk_lt (Z2 aA.out)) : aJ ≠ aI)); replace aA := A_ (bb (Z2 aA.out) hb); clear hb hbox hg; have e7 := aD.out; have e8 := aE.out; obtain ⟨bQ, bR, bT, bU, bV, bW⟩ := C3 aA.out; obtain ⟨bX, bY, bZ, b0, b1, b2⟩ := C3 aB.out) | ((with_reducible refine gate_callee (f := 40) rfl ?_); refine gL 9 Try.func40 #[.slice aQ aG.length aR, .slice aS aH.length aT] ?_; (with_reducible refine (laws_eqCellS.calls k _ _ aG _ _ aH true _ ?s1 a3.out ?s3 a5.out A3.out).mono ?_); (case s1 => exact Z4 a2.out); (case s3 => exact Z4 a4.out); rintro e fH ⟨rfl, hb⟩; refine ⟨_, rfl, ?_⟩; replace aA := A_ (bb (Z2 aA.out) hb); replace aB := A_ (bb (Z2 aB.out) hb); replace HB := A_ (bst (Z5 aC.out aF.out) hb); (try clear hb); obtain ⟨b3, b4, b5, b6, b7, b8⟩ := C3 aA.out; obtain ⟨b9, cA, cB, cC, cD, cE⟩ := C3 aB.out) | ((with_reducible refine gate_callee (f := 41) rfl ?_); refine gL 15 Try.func41 #[.slice aU aK.length aV, .slice aW aL.length aX] ?_; (with_reducible refine (laws_eqCellSS.calls k _ _ aK _ _ aL true _ ?s1 a7.out ?s3 a9.out A5.out).mono ?_); (case s1 => exact Z4 a6.out); (case s3 => exact Z4 a8.out); rintro e fI ⟨rfl, hb⟩; refine ⟨_, rfl, ?_⟩; replace aA := A_ (bb (Z2 aA.out) hb); replace aB := A_ (bb (Z2 aB.out) hb); replace HB := A_ (bst (Z5 aC.out aF.out) hb); (try clear hb); obtain ⟨cF, cG, cH, cI, cJ, cK⟩ := C3 aA.out; obtain ⟨cL, cM, cN, cO, cP, cQ⟩ := C3 aB.out) | ((with_reducible refine gate_callee (f := 41) rfl ?_); refine gL 21 Try.func41 #[.slice aY aM.length aZ, .slice a0 aN.length a1] ?_; (with_reducible refine (laws_eqCellSS.calls k _ _ aM _ _ aN true _ ?s1 bN.out ?s3 bP.out A7.out).mono ?_); (case s1 => exact Z4 bM.out); (case s3 => exact Z4 bO.out); rintro e fJ ⟨rfl, hb⟩; refine ⟨_, rfl, ?_⟩; replace aA := A_ (bb (Z2 aA.out) hb); replace aB := A_ (bb (Z2 aB.out) hb); replace HB := A_ (bst (Z5 aC.out aF.out) hb); (try clear hb)))
    go_ret
    exact ⟨Z7, Z5 aC.out aF.out⟩
   ·replace c8 := Bool.eq_false_iff.mpr c8
    subst c8; rw [if_neg (show ¬ (false = true) by decide)] at H; obtain rfl := Option.some.inj H
    go_enter Try.func16, Try.ntmps16
    go_wp2_with (first | ((with_reducible refine gate_dst (N := 2) rfl ?_); refine be (cs := #[.slice aQ aG.length aR, .slice aU aK.length aV, .slice aY aM.length aZ]) (t := 26) ?_; intro aI hg fK hbox hb; have aA := A_ hbox; have aO := A_ (gl hg (bz Z1)); have aC := aO; replace HB := A_ (bst Z1 hb); clear hb hbox hg) | ((with_reducible refine gate_dst (N := 3) rfl ?_); refine be (cs := #[.slice aS aH.length aT, .slice aW aL.length aX, .slice a0 aN.length a1]) (t := 26) ?_; intro aJ hg fL hbox hb; have aB := A_ hbox; have aP := A_ (gl hg (bz (Z3 aC.out))); have aF := aP; replace HB := A_ (bst (Z3 aC.out) hb); have aD := A_ ((by rw [hg]; exact nl (blk_lt (Z2 aA.out)) : aI ≠ aJ)); have aE := A_ ((by rw [hg]; exact Nat.ne_of_gt (blk_lt (Z2 aA.out)) : aJ ≠ aI)); replace aA := A_ (bb (Z2 aA.out) hb); clear hb hbox hg; have e9 := aD.out; have fA := aE.out; obtain ⟨cR, cS, cT, cU, cV, cW⟩ := C3 aA.out; obtain ⟨cX, cY, cZ, dA, dB, dC⟩ := C3 aB.out) | ((with_reducible refine gate_callee (f := 40) rfl ?_); refine gL 9 Try.func40 #[.slice aQ aG.length aR, .slice aS aH.length aT] ?_; (with_reducible refine (laws_eqCellS.calls k _ _ aG _ _ aH true _ ?s1 a3.out ?s3 a5.out A3.out).mono ?_); (case s1 => exact Z4 a2.out); (case s3 => exact Z4 a4.out); rintro e fM ⟨rfl, hb⟩; refine ⟨_, rfl, ?_⟩; replace aA := A_ (bb (Z2 aA.out) hb); replace aB := A_ (bb (Z2 aB.out) hb); replace HB := A_ (bst (Z5 aC.out aF.out) hb); (try clear hb); obtain ⟨dD, dE, dF, dG, dH, dI⟩ := C3 aA.out; obtain ⟨dJ, dK, dL, dM, dN, dO⟩ := C3 aB.out) | ((with_reducible refine gate_callee (f := 41) rfl ?_); refine gL 15 Try.func41 #[.slice aU aK.length aV, .slice aW aL.length aX] ?_; (with_reducible refine (laws_eqCellSS.calls k _ _ aK _ _ aL true _ ?s1 a7.out ?s3 a9.out A5.out).mono ?_); (case s1 => exact Z4 a6.out); (case s3 => exact Z4 a8.out); rintro e fN ⟨rfl, hb⟩; refine ⟨_, rfl, ?_⟩; replace aA := A_ (bb (Z2 aA.out) hb); replace aB := A_ (bb (Z2 aB.out) hb); replace HB := A_ (bst (Z5 aC.out aF.out) hb); (try clear hb); obtain ⟨dP, dQ, dR, dS, dT, dU⟩ := C3 aA.out; obtain ⟨dV, dW, dX, dY, dZ, d0⟩ := C3 aB.out) | ((with_reducible refine gate_callee (f := 41) rfl ?_); refine gL 21 Try.func41 #[.slice aY aM.length aZ, .slice a0 aN.length a1] ?_; (with_reducible refine (laws_eqCellSS.calls k _ _ aM _ _ aN false _ ?s1 bN.out ?s3 bP.out A7.out).mono ?_); (case s1 => exact Z4 bM.out); (case s3 => exact Z4 bO.out); rintro e fO ⟨rfl, hb⟩; refine ⟨_, rfl, ?_⟩; replace aA := A_ (bb (Z2 aA.out) hb); replace aB := A_ (bb (Z2 aB.out) hb); replace HB := A_ (bst (Z5 aC.out aF.out) hb); (try clear hb)))
    go_ret
    exact ⟨Z7, Z5 aC.out aF.out⟩
  ·replace c6 := Bool.eq_false_iff.mpr c6
   subst c6; rw [if_neg (show ¬ (false = true) by decide)] at H; obtain rfl := Option.some.inj H
   go_enter Try.func16, Try.ntmps16
   go_wp2_with (first | ((with_reducible refine gate_dst (N := 2) rfl ?_); refine be (cs := #[.slice aQ aG.length aR, .slice aU aK.length aV, .slice aY aM.length aZ]) (t := 26) ?_; intro aI hg fP hbox hb; have aA := A_ hbox; have aO := A_ (gl hg (bz Z1)); have aC := aO; replace HB := A_ (bst Z1 hb); clear hb hbox hg) | ((with_reducible refine gate_dst (N := 3) rfl ?_); refine be (cs := #[.slice aS aH.length aT, .slice aW aL.length aX, .slice a0 aN.length a1]) (t := 26) ?_; intro aJ hg fQ hbox hb; have aB := A_ hbox; have aP := A_ (gl hg (bz (Z3 aC.out))); have aF := aP; replace HB := A_ (bst (Z3 aC.out) hb); have aD := A_ ((by rw [hg]; exact nl (blk_lt (Z2 aA.out)) : aI ≠ aJ)); have aE := A_ ((by rw [hg]; exact Nat.ne_of_gt (blk_lt (Z2 aA.out)) : aJ ≠ aI)); replace aA := A_ (bb (Z2 aA.out) hb); clear hb hbox hg; have fB := aD.out; have fC := aE.out; obtain ⟨d1, d2, d3, d4, d5, d6⟩ := C3 aA.out; obtain ⟨d7, d8, d9, eA, eB, eC⟩ := C3 aB.out) | ((with_reducible refine gate_callee (f := 40) rfl ?_); refine gL 9 Try.func40 #[.slice aQ aG.length aR, .slice aS aH.length aT] ?_; (with_reducible refine (laws_eqCellS.calls k _ _ aG _ _ aH true _ ?s1 a3.out ?s3 a5.out A3.out).mono ?_); (case s1 => exact Z4 a2.out); (case s3 => exact Z4 a4.out); rintro e fR ⟨rfl, hb⟩; refine ⟨_, rfl, ?_⟩; replace aA := A_ (bb (Z2 aA.out) hb); replace aB := A_ (bb (Z2 aB.out) hb); replace HB := A_ (bst (Z5 aC.out aF.out) hb); (try clear hb); obtain ⟨eD, eE, eF, eG, eH, eI⟩ := C3 aA.out; obtain ⟨eJ, eK, eL, eM, eN, eO⟩ := C3 aB.out) | ((with_reducible refine gate_callee (f := 41) rfl ?_); refine gL 15 Try.func41 #[.slice aU aK.length aV, .slice aW aL.length aX] ?_; (with_reducible refine (laws_eqCellSS.calls k _ _ aK _ _ aL false _ ?s1 a7.out ?s3 a9.out A5.out).mono ?_); (case s1 => exact Z4 a6.out); (case s3 => exact Z4 a8.out); rintro e fS ⟨rfl, hb⟩; refine ⟨_, rfl, ?_⟩; replace aA := A_ (bb (Z2 aA.out) hb); replace aB := A_ (bb (Z2 aB.out) hb); replace HB := A_ (bst (Z5 aC.out aF.out) hb); (try clear hb)))
   go_ret
   exact ⟨Z7, Z5 aC.out aF.out⟩
 ·replace c4 := Bool.eq_false_iff.mpr c4
  subst c4; rw [if_neg (show ¬ (false = true) by decide)] at H; obtain rfl := Option.some.inj H
  go_enter Try.func16, Try.ntmps16
  go_wp2_with (first | ((with_reducible refine gate_dst (N := 2) rfl ?_); refine be (cs := #[.slice aQ aG.length aR, .slice aU aK.length aV, .slice aY aM.length aZ]) (t := 26) ?_; intro aI hg fT hbox hb; have aA := A_ hbox; have aO := A_ (gl hg (bz Z1)); have aC := aO; replace HB := A_ (bst Z1 hb); clear hb hbox hg) | ((with_reducible refine gate_dst (N := 3) rfl ?_); refine be (cs := #[.slice aS aH.length aT, .slice aW aL.length aX, .slice a0 aN.length a1]) (t := 26) ?_; intro aJ hg fU hbox hb; have aB := A_ hbox; have aP := A_ (gl hg (bz (Z3 aC.out))); have aF := aP; replace HB := A_ (bst (Z3 aC.out) hb); have aD := A_ ((by rw [hg]; exact nl (blk_lt (Z2 aA.out)) : aI ≠ aJ)); have aE := A_ ((by rw [hg]; exact Nat.ne_of_gt (blk_lt (Z2 aA.out)) : aJ ≠ aI)); replace aA := A_ (bb (Z2 aA.out) hb); clear hb hbox hg; have fD := aD.out; have fE := aE.out; obtain ⟨eP, eQ, eR, eS, eT, eU⟩ := C3 aA.out; obtain ⟨eV, eW, eX, eY, eZ, e0⟩ := C3 aB.out) | ((with_reducible refine gate_callee (f := 40) rfl ?_); refine gL 9 Try.func40 #[.slice aQ aG.length aR, .slice aS aH.length aT] ?_; (with_reducible refine (laws_eqCellS.calls k _ _ aG _ _ aH false _ ?s1 a3.out ?s3 a5.out A3.out).mono ?_); (case s1 => exact Z4 a2.out); (case s3 => exact Z4 a4.out); rintro e fV ⟨rfl, hb⟩; refine ⟨_, rfl, ?_⟩; replace aA := A_ (bb (Z2 aA.out) hb); replace aB := A_ (bb (Z2 aB.out) hb); replace HB := A_ (bst (Z5 aC.out aF.out) hb); (try clear hb)))
  go_ret
  exact ⟨Z7, Z5 aC.out aF.out⟩
def laws_markSlotS.l0 : Nat → List (S96) → Int → Int → Option (Int × (List (S96)))
 | 0, _, _, _ => none
 | k + 1, x0, x1, x5 => if x5 < (x0.length : Int) then (if 0 ≤ x5 then ((some (x0.set (x5 : Int).toNat (⟨x1, (rd_T96 x0 x5).f1⟩ : S96) : List (S96))).bind fun aA => (laws_markSlotS.l0 k (aA.set (x5 : Int).toNat (⟨(rd_T96 aA x5).f0, wrap64 (x1 + 1)⟩ : S96)) (wrap64 ((wrap64 (x1 + 1)) + 1)) (wrap64 (x5 + 1)))) else (none)) else (some (x1, x0))
def laws_markSlotS.f (k : Nat) (l0 : List (S96)) (a1 : Int) : Option (Int × (List (S96))) := laws_markSlotS.l0 k l0 a1 0
theorem laws_markSlotS.calls (k : Nat) (aH : Nat → Prop) (aE : Value) (l0 : List (S96)) (a1 : Int) (r1 : Int) (r2 : List (S96)) (w0 w : World) (hB : Below w0.heap.size w0 w) (bV : Kd.R k96 96 w w0.heap.size aH aE l0) (h : laws_markSlotS.f k l0 a1 = some (r1, r2)) :
  Calls Try.prog 67 #[aE, .int .i64 a1] w fun e w' => e = .returned (.int .i64 r1) ∧ Kd.R k96 96 w' w0.heap.size (fun k_ => (aH k_ ∨ w.heap.size ≤ k_)) aE r2 ∧ Below w0.heap.size w0 w' ∧ Kept w w' (fun k_ => aH k_) := by
 have bW := A_ (show Kd.R k96 96 w w0.heap.size (fun k_ => (aH k_ ∨ w.heap.size ≤ k_)) aE l0 from Rm bV (fun k_ hk => (.inl hk))); have HK := A_ (Kept.refl w (fun k_ => aH k_)); have b3 := A_ hB.size; have HB := A_ hB; clear hB; have H := h; unfold laws_markSlotS.f at H; clear h; have H' := A_ H; clear H
 go_enter Try.func67, Try.ntmps67
 go_wp2
 go_loopg [1, 5] k (fun kq v1 v5 w' => ∃ (aB : List (S96)) (aD : Int) (aA : Int), v1 = .int .i64 aD ∧ v5 = .int .i64 aA ∧ Aside0 (laws_markSlotS.l0 kq aB aD aA = some (r1, r2)) ∧ Aside0 (kq ≤ k) ∧ Aside0 (Kd.R k96 96 w' w0.heap.size (fun k_ => (aH k_ ∨ w.heap.size ≤ k_)) aE aB) ∧ Aside0 (Kept w w' (fun k_ => aH k_)) ∧ Aside0 (Below w0.heap.size w0 w'))
 case atStart => exact ⟨(l0), (a1), (0), Z17, Z17, H', ⟨Nat.le_refl _⟩, ⟨Z9 bW.out⟩, ⟨Z32⟩, ⟨Z1⟩⟩
 case round =>
  clear H'; obtain ⟨aB, aD, aA, rfl, rfl, HA, bC, aC, HK, HB⟩ := hrel
  cases gk with
  | zero => exact absurd HA.out (by simp [laws_markSlotS.l0])
  | succ k1 =>
   have H := HA.out; clear HA; simp only [laws_markSlotS.l0] at H
   by_cases c3 : aA < (aB.length : Int)
   ·rw [if_pos c3] at H
    have a6 := dt c3; clear c3
    by_cases c4 : 0 ≤ aA
    ·rw [if_pos c4] at H
     have bX := dt c4; clear c4; obtain ⟨aG, aI⟩ : ∃ y_ : List (S96), y_ = (aB.set (aA : Int).toNat (⟨aD, (rd_T96 aB aA).f1⟩ : S96)) := ⟨_, rfl⟩
     first | rw [← aI, Option.bind_some] at H | rw [← aI] at H
     have aV := A_ aI; clear aI; obtain ⟨aW, aJ⟩ : ∃ y_ : List (S96), y_ = (aG.set (aA : Int).toNat (⟨(rd_T96 aG aA).f0, wrap64 (aD + 1)⟩ : S96)) := ⟨_, rfl⟩
     first | rw [← aJ, Option.bind_some] at H | rw [← aJ] at H
     have aX := A_ aJ; clear aJ; have H' := A_ H; clear H; obtain ⟨b4, a5, bY⟩ := Kd.R_slice aC.out; subst bY; have p5 : 0 ≤ (aA : Int) := odt; have q5 : (aA : Int) < ((aB.length : Int) : Int) := odt; obtain ⟨aF, b5, bD, bE, bZ, b6, bF⟩ := Kd.R_form aC.out (by omega); (first | cases bD | (injection bD with ea_ en_ ec_; (first | subst ea_ | (injection ea_ with ea_; subst ea_)); subst ec_; clear en_)); have bG := A_ bE; have b7 := A_ bF; clear bE bZ bF; have bH := A_ (show (aH aF ∨ w.heap.size ≤ aF) from (aC.out.1 _ rfl)); obtain ⟨b8, a7, bI, aN, aO⟩ := Kd.R_elem aC.out z96 (aA : Int) p5 q5; obtain rfl := k96_openM bI; have bJ : wr.cell? ⟨aF, (aA : Int).toNat * 2, none⟩ = some (.int .i64 ((rd_T96 aB aA).f0)) := aN 0 _ rfl; have bK : wr.cell? ⟨aF, (aA : Int).toNat * 2 + 1, none⟩ = some (.int .i64 ((rd_T96 aB aA).f1)) := aN 1 _ rfl; have bL : wr.frozen? ⟨aF, (aA : Int).toNat * 2, none⟩ = false := aO 0; have bM : wr.frozen? ⟨aF, (aA : Int).toNat * 2 + 1, none⟩ = false := aO 1; (try clear bI); clear a7 aN aO; replace p5 := eq_true p5; replace q5 := eq_true q5; have bN := A_ (show Kd.R k96 96 wr w0.heap.size (fun k_ => (aH k_ ∨ w.heap.size ≤ k_)) (.slice (some ⟨aF, 0, none⟩) aB.length a5) aB from (Z9 aC.out)); obtain ⟨b9, aY, bO, aP, aZ⟩ := Kd.R_elem bN.out z96 (aA : Int) (odt) (by have h_ : (aA : Int) < ((aB.length : Int) : Int) := odt; first | exact h_ | (have e_ := (Kd.R_reads' aC.out).1; omega) | simpa using h_)
     obtain rfl := k96_openM bO; have a8 := Kd.R_seg bN.out (aA : Int) (odt) (by have h_ : (aA : Int) < ((aB.length : Int) : Int) := odt; first | exact h_ | (have e_ := (Kd.R_reads' aC.out).1; omega) | simpa using h_) (seg := [.int .i64 aD]) (j := 0) aY aP (show 1 ≤ 2 from by decide) (x' := (⟨aD, (rd_T96 aB aA).f1⟩ : S96)) (k96_mkM _ _ _ (⟨aD, (rd_T96 aB aA).f1⟩ : S96) ) (fun _ hk => hk); have a0 := aP 0 _ rfl; (try simp only [show (k96).sz = 2 from rfl, Nat.mul_one, Nat.add_zero] at a0); have a2 := aZ 0; (try simp only [show (k96).sz = 2 from rfl, Nat.mul_one, Nat.add_zero] at a2); (try clear bO); clear aY aP aZ
     go_wp2_with (first | ((with_reducible refine gate_store (t := 3) (p := 16) rfl ?_); refine store_event (t := 3) (p := 16) (v := ?vo_w9) (w1 := (wr.setCell ⟨aF, (aA : Int).toNat * 2, none⟩ (.int .i64 aD))) ?hg ?ho ?hn ?hr ?_; (case ho => rfl); (case hg => rfl); (case hn => rfl); (case hr => exact Z36); intro w9 hw; have hg : wr.grownBy w9 (some aF) := (by rw [hw]; exact a8.2); have hp_ : Kd.R k96 96 w9 w0.heap.size (fun k_ => (aH k_ ∨ w.heap.size ≤ k_)) (.slice (some ⟨aF, 0, none⟩) aB.length a5) aG := (by rw [hw, aV.out]; exact a8.1); clear a8; replace HB := A_ ((by rw [hw]; exact below_set (HB.out) bG.out : Below w0.heap.size w0 w9)); replace HK := A_ (Kept.of_grown (S := (fun k_ => aH k_)) hg Z32 (fun k_ e_ => (aC.out.1 k_ e_))); replace aC := A_ hp_; clear hg hw hp_; have p6 : 0 ≤ (aA : Int) := odt; have q6 : (aA : Int) < ((aB.length : Int) : Int) := odt; obtain ⟨cA, a9, bP, aQ, aR⟩ := Kd.R_elem aC.out z96 (aA : Int) p6 q6; obtain rfl := k96_openM bP; have bQ : w9.cell? ⟨aF, (aA : Int).toNat * 2, none⟩ = some (.int .i64 ((rd_T96 aG aA).f0)) := aQ 0 _ rfl; have bR : w9.cell? ⟨aF, (aA : Int).toNat * 2 + 1, none⟩ = some (.int .i64 ((rd_T96 aG aA).f1)) := aQ 1 _ rfl; have bT : w9.frozen? ⟨aF, (aA : Int).toNat * 2, none⟩ = false := aR 0; have bU : w9.frozen? ⟨aF, (aA : Int).toNat * 2 + 1, none⟩ = false := aR 1; (try clear bP); clear a9 aQ aR; replace p6 := eq_true p6; replace q6 := eq_true q6; have a3 := A_ (show Kd.R k96 96 w9 w0.heap.size (fun k_ => (aH k_ ∨ w.heap.size ≤ k_)) (.slice (some ⟨aF, 0, none⟩) aB.length a5) aG from (Z9 aC.out)); obtain ⟨b0, aL, a4, aK, aM⟩ := Kd.R_elem a3.out z96 (aA : Int) (odt) (by have h_ : (aA : Int) < ((aB.length : Int) : Int) := odt; first | exact h_ | (have e_ := (Kd.R_reads' aC.out).1; omega) | simpa using h_); obtain rfl := k96_openM a4; have aS := Kd.R_seg a3.out (aA : Int) (odt) (by have h_ : (aA : Int) < ((aB.length : Int) : Int) := odt; first | exact h_ | (have e_ := (Kd.R_reads' aC.out).1; omega) | simpa using h_) (seg := [.int .i64 (wrap64 (aD + 1))]) (j := 1) aL aK (show 2 ≤ 2 from by decide) (x' := (⟨(rd_T96 aG aA).f0, wrap64 (aD + 1)⟩ : S96)) (k96_mkM _ _ _ (⟨(rd_T96 aG aA).f0, wrap64 (aD + 1)⟩ : S96) ) (fun _ hk => hk); have aT := aK 1 _ rfl; (try simp only [show (k96).sz = 2 from rfl, Nat.mul_one, Nat.add_zero] at aT); have aU := aM 1; (try simp only [show (k96).sz = 2 from rfl, Nat.mul_one, Nat.add_zero] at aU); (try clear a4); clear aL aK aM) | ((with_reducible refine gate_store (t := 3) (p := 23) rfl ?_); refine store_event (t := 3) (p := 23) (v := ?vo_w11) (w1 := (w9.setCell ⟨aF, (aA : Int).toNat * 2 + 1, none⟩ (.int .i64 (wrap64 (aD + 1))))) ?hg ?ho ?hn ?hr ?_; (case ho => rfl); (case hg => rfl); (case hn => rfl); (case hr => exact Z36); intro bA hw; have hg : w9.grownBy bA (some aF) := (by rw [hw]; exact aS.2); have hp_ : Kd.R k96 96 bA w0.heap.size (fun k_ => (aH k_ ∨ w.heap.size ≤ k_)) (.slice (some ⟨aF, 0, none⟩) aB.length a5) aW := (by rw [hw, aX.out]; exact aS.1); clear aS; replace HB := A_ ((by rw [hw]; exact below_set (HB.out) bG.out : Below w0.heap.size w0 bA)); replace HK := A_ (Kept.of_grown (S := (fun k_ => aH k_)) hg Z32 (fun k_ e_ => (aC.out.1 k_ e_))); replace aC := A_ hp_; clear hg hw hp_))
     go_roundg k1
     case measure => have := bC.out; omega
     case rel => exact ⟨(aW), (wrap64 ((wrap64 (aD + 1)) + 1)), (wrap64 (aA + 1)), Z17, Z17, H', ⟨by have := bC.out; omega⟩, ⟨Z9 aC.out⟩, ⟨Z32⟩, ⟨Z1⟩⟩
    ·exact Z45
   ·rw [if_neg c3] at H
    have a6 := df c3; clear c3; simp only [Option.some.injEq, Prod.mk.injEq] at H; obtain ⟨rfl, rfl⟩ := H; obtain ⟨b1, b2, bB⟩ := Kd.R_slice aC.out; subst bB
    go_wp2
    go_ret
    exact ⟨Z7, Z9 aC.out, Z1, Z32⟩
def laws_markText.l0 : Nat → Int → ByteArray → Option (ByteArray)
 | 0, _, _ => none
 | k + 1, x0, x3 => if x0 > 0 then ((some (([(wrap64 (48 + (Int.tmod x0 10))) % 256] : List Int) : List Int)).bind fun aA => (if (strOfNums aA).size + x3.size ≤ 9223372036854775807 then (laws_markText.l0 k (wrap64 (Int.tdiv x0 10)) ((strOfNums aA) ++ x3)) else (none))) else (if 1 + x3.size ≤ 9223372036854775807 then (some ((⟨#[109]⟩ : ByteArray) ++ x3)) else (none))
def laws_markText.f (k : Nat) (a0 : Int) : Option (ByteArray) := if a0 ≤ 0 then (some (⟨#[109, 48]⟩ : ByteArray)) else (laws_markText.l0 k a0 (⟨#[]⟩ : ByteArray))
theorem laws_markText.mono_l : ∀ k, (∀ y0 y1, LeO (laws_markText.l0 k y0 y1) (laws_markText.l0 (k + 1) y0 y1))
 | 0 => fun _ _ r h => by simp [laws_markText.l0] at h
 | k + 1 => by
  have aA := laws_markText.mono_l k
  ·intro y0 y1
   unfold laws_markText.l0
   repeat' first
   | (with_reducible exact aA _ _)
   | (with_reducible exact LeO.refl _)
   | (with_reducible exact LeO.none _)
   | (with_reducible refine LeO.ite ?_ ?_)
   | (with_reducible refine LeO.bind ?_ (fun _ => ?_))
   | exact aA _ _
   | exact LeO.none _
   | refine LeO.ite ?_ ?_
   | refine LeO.bind ?_ (fun _ => ?_)
theorem laws_markText.mono : ∀ a0 k, LeO (laws_markText.f k a0) (laws_markText.f (k + 1) a0) := by
 intro a0 k
 have aA := laws_markText.mono_l k; unfold laws_markText.f
 repeat' first
   | (with_reducible exact aA _ _)
   | (with_reducible exact LeO.refl _)
   | (with_reducible exact LeO.none _)
   | (with_reducible refine LeO.ite ?_ ?_)
   | (with_reducible refine LeO.bind ?_ (fun _ => ?_))
   | exact aA _ _
   | exact LeO.none _
   | refine LeO.ite ?_ ?_
   | refine LeO.bind ?_ (fun _ => ?_)
theorem laws_markText.calls (k : Nat) (a0 : Int) (r : ByteArray) (w : World) (h : laws_markText.f k a0 = some r) :
  Calls Try.prog 89 #[.int .i64 a0] w fun e w' => e = .returned (.string r) ∧ Below w.heap.size w w' := by
 have HB := A_ (Below.refl w.heap.size w); have H := h; unfold laws_markText.f at H; clear h
 by_cases c2 : a0 ≤ 0
 ·rw [if_pos c2] at H
  have aF := dt c2; clear c2; obtain rfl := Option.some.inj H
  go_enter Try.func89, Try.ntmps89
  go_wp2
  go_ret
  exact ⟨Z7, Z1⟩
 ·rw [if_neg c2] at H
  have aF := df c2; clear c2; have H' := A_ H; clear H
  go_enter Try.func89, Try.ntmps89
  go_wp2
  go_loopg [0, 3] k (fun kq v0 v3 w' => ∃ (aA : Int) (aB : ByteArray), v0 = .int .i64 aA ∧ v3 = .string aB ∧ Aside0 (laws_markText.l0 kq aA aB = some r) ∧ Aside0 (kq ≤ k) ∧ Aside0 (Below w.heap.size w w'))
  case atStart => exact ⟨(a0), ((⟨#[]⟩ : ByteArray)), Z17, Z17, H', ⟨Nat.le_refl _⟩, ⟨Z1⟩⟩
  case round =>
   clear H'; try clear c2
   try clear aF
   obtain ⟨aA, aB, rfl, rfl, HA, aJ, HB⟩ := hrel
   cases gk with
   | zero => exact absurd HA.out (by simp [laws_markText.l0])
   | succ k1 =>
    have H := HA.out; clear HA; simp only [laws_markText.l0] at H
    by_cases c3 : aA > 0
    ·rw [if_pos c3] at H
     have aI : decide (0 < aA) = true := dt c3; clear c3; obtain ⟨aC, aD⟩ : ∃ y_ : List Int, y_ = (([(wrap64 (48 + (Int.tmod aA 10))) % 256] : List Int)) := ⟨_, rfl⟩; replace H : (if (strOfNums aC).size + aB.size ≤ 9223372036854775807 then (laws_markText.l0 k1 (wrap64 (Int.tdiv aA 10)) ((strOfNums aC) ++ aB)) else (none)) = some r := yH aD; have aE := A_ aD; clear aD
     by_cases c4 : (strOfNums aC).size + aB.size ≤ 9223372036854775807
     ·rw [if_pos c4] at H
      have aK := eq_true c4; have aL := dt c4
      try have aM : (9223372036854775807 < (strOfNums aC).size + aB.size) = False := eq_false (Nat.not_lt.2 c4)
      have H' := A_ H; clear H
      go_wp2_with (first | ((with_reducible refine gate_dst (N := 12) rfl ?_); refine Kd.R_lit (Kd.int .u8) _ 5 ?hg (N := 12) ?hd (xs := ([(wrap64 (48 + (Int.tmod aA 10))) % 256] : List Int)) (inner := [.int .u8 ((wrap64 (48 + (Int.tmod aA 10))) % 256)]) (ok := fun _ => True) (okp := fun _ => True) ?hr ?hp (fun _ hk => hk) trivial (Below.refl _ _) (Nat.le_refl _) (by simp) ?_; (case hd => rfl); (case hg => rfl); (case hr => exact Z36); (case hp => exact (Reps.one (show Kd.M (Kd.int .u8) _ _ _ ((wrap64 (48 + (Int.tmod aA 10))) % 256) [.int .u8 ((wrap64 (48 + (Int.tmod aA 10))) % 256)] from rfl) (Reps.none _ _))); intro aN w5 aG hb hg_ hnew_; clear hg_ hnew_; (first | rw [← aE.out] at aG | (simp only [Int.reduceToNat] at aG; rw [← aE.out] at aG)); have aH := A_ (Kd.R_lower aG (bz Z1)); replace HB := A_ (bst Z1 hb); clear hb aG; have aO := own_string (P := Try.prog) Try.underlying22 Try.underlying5 Try.underlying9 (Kd.own_of_R aH.out)))
      go_roundg k1
      case measure => have := aJ.out; omega
      case rel => exact ⟨(wrap64 (Int.tdiv aA 10)), ((strOfNums aC) ++ aB), Z17, Z17, H', ⟨by have := aJ.out; omega⟩, ⟨Z1⟩⟩
     ·exact Z45
    ·rw [if_neg c3] at H
     have aI : decide (0 < aA) = false := df c3; clear c3
     by_cases c8 : 1 + aB.size ≤ 9223372036854775807
     ·rw [if_pos c8] at H
      have aP := eq_true c8; have aQ := dt c8
      try have aR : (9223372036854775807 < 1 + aB.size) = False := eq_false (Nat.not_lt.2 c8)
      obtain rfl := Option.some.inj H
      go_wp2
      go_ret
      exact ⟨Z7, Z1⟩
     ·rw [if_neg c8] at H
      exact absurd H (by simp)
def laws_markValueS.l0 : Nat → List (S98) → Int → Int → Option (Int × (List (S98)))
 | 0, _, _, _ => none
 | k + 1, x0, x1, x5 => if x5 < (x0.length : Int) then (if 0 ≤ x5 then ((some (x0.set (x5 : Int).toNat (⟨x1, (rd_T98 x0 x5).f1, (rd_T98 x0 x5).f2⟩ : S98) : List (S98))).bind fun aA => ((some (aA.set (x5 : Int).toNat (⟨(rd_T98 aA x5).f0, wrap64 (x1 + 1), (rd_T98 aA x5).f2⟩ : S98) : List (S98))).bind fun aB => ((laws_markText.f k (wrap64 ((wrap64 (x1 + 1)) + 1))).bind fun aC => (laws_markValueS.l0 k (aB.set (x5 : Int).toNat (⟨(rd_T98 aB x5).f0, (rd_T98 aB x5).f1, aC⟩ : S98)) (wrap64 ((wrap64 ((wrap64 (x1 + 1)) + 1)) + 1)) (wrap64 (x5 + 1)))))) else (none)) else (some (x1, x0))
def laws_markValueS.f (k : Nat) (l0 : List (S98)) (a1 : Int) : Option (Int × (List (S98))) := laws_markValueS.l0 k l0 a1 0
theorem laws_markValueS.calls (k : Nat) (aI : Nat → Prop) (aH : Value) (l0 : List (S98)) (a1 : Int) (r1 : Int) (r2 : List (S98)) (w0 w : World) (hB : Below w0.heap.size w0 w) (cP : Kd.R k98 98 w w0.heap.size aI aH l0) (h : laws_markValueS.f k l0 a1 = some (r1, r2)) :
  Calls Try.prog 68 #[aH, .int .i64 a1] w fun e w' => e = .returned (.int .i64 r1) ∧ Kd.R k98 98 w' w0.heap.size (fun k_ => (aI k_ ∨ w.heap.size ≤ k_)) aH r2 ∧ Below w0.heap.size w0 w' ∧ Kept w w' (fun k_ => aI k_) := by
 have cQ := A_ (show Kd.R k98 98 w w0.heap.size (fun k_ => (aI k_ ∨ w.heap.size ≤ k_)) aH l0 from Rm cP (fun k_ hk => (.inl hk))); have HK := A_ (Kept.refl w (fun k_ => aI k_)); have cZ := A_ hB.size; have HB := A_ hB; clear hB; have H := h; unfold laws_markValueS.f at H; clear h; have H' := A_ H; clear H
 go_enter Try.func68, Try.ntmps68
 go_wp2
 go_loopg [1, 5] k (fun kq v1 v5 w' => ∃ (aB : List (S98)) (aD : Int) (aA : Int), v1 = .int .i64 aD ∧ v5 = .int .i64 aA ∧ Aside0 (laws_markValueS.l0 kq aB aD aA = some (r1, r2)) ∧ Aside0 (kq ≤ k) ∧ Aside0 (Kd.R k98 98 w' w0.heap.size (fun k_ => (aI k_ ∨ w.heap.size ≤ k_)) aH aB) ∧ Aside0 (Kept w w' (fun k_ => aI k_)) ∧ Aside0 (Below w0.heap.size w0 w'))
 case atStart => exact ⟨(l0), (a1), (0), Z17, Z17, H', ⟨Nat.le_refl _⟩, ⟨Z9 cQ.out⟩, ⟨Z32⟩, ⟨Z1⟩⟩
 case round =>
  clear H'; obtain ⟨aB, aD, aA, rfl, rfl, HA, bY, aC, HK, HB⟩ := hrel
  cases gk with
  | zero => exact absurd HA.out (by simp [laws_markValueS.l0])
  | succ k1 =>
   have H := HA.out; clear HA; simp only [laws_markValueS.l0] at H
   by_cases c3 : aA < (aB.length : Int)
   ·rw [if_pos c3] at H
    have bP := dt c3; clear c3
    by_cases c4 : 0 ≤ aA
    ·rw [if_pos c4] at H
     have cR := dt c4; clear c4; obtain ⟨aG, aN⟩ : ∃ y_ : List (S98), y_ = (aB.set (aA : Int).toNat (⟨aD, (rd_T98 aB aA).f1, (rd_T98 aB aA).f2⟩ : S98)) := ⟨_, rfl⟩; replace H : ((some (aG.set (aA : Int).toNat (⟨(rd_T98 aG aA).f0, wrap64 (aD + 1), (rd_T98 aG aA).f2⟩ : S98) : List (S98))).bind fun aE => ((laws_markText.f k1 (wrap64 ((wrap64 (aD + 1)) + 1))).bind fun aJ => (laws_markValueS.l0 k1 (aE.set (aA : Int).toNat (⟨(rd_T98 aE aA).f0, (rd_T98 aE aA).f1, aJ⟩ : S98)) (wrap64 ((wrap64 ((wrap64 (aD + 1)) + 1)) + 1)) (wrap64 (aA + 1))))) = some (r1, r2) := yH aN; have bF := A_ aN; clear aN; obtain ⟨aE, aK⟩ : ∃ y_ : List (S98), y_ = (aG.set (aA : Int).toNat (⟨(rd_T98 aG aA).f0, wrap64 (aD + 1), (rd_T98 aG aA).f2⟩ : S98)) := ⟨_, rfl⟩
     first | rw [← aK, Option.bind_some] at H | rw [← aK] at H
     have bG := A_ aK; clear aK; replace H := bS H; obtain ⟨aJ, bZ, H⟩ := H
     try dsimp only at H
     have A7 := A_ bZ; clear bZ; obtain ⟨bH, aL⟩ : ∃ y_ : List (S98), y_ = (aE.set (aA : Int).toNat (⟨(rd_T98 aE aA).f0, (rd_T98 aE aA).f1, aJ⟩ : S98)) := ⟨_, rfl⟩
     first | rw [← aL, Option.bind_some] at H | rw [← aL] at H
     have bI := A_ aL; clear aL; have H' := A_ H; clear H; obtain ⟨dA, bE, cS⟩ := Kd.R_slice aC.out; subst cS; have p5 : 0 ≤ (aA : Int) := odt; have q5 : (aA : Int) < ((aB.length : Int) : Int) := odt; obtain ⟨aF, dB, b0, b1, cT, dC, b2⟩ := Kd.R_form aC.out (by omega); (first | cases b0 | (injection b0 with ea_ en_ ec_; (first | subst ea_ | (injection ea_ with ea_; subst ea_)); subst ec_; clear en_)); have bQ := A_ b1; have dD := A_ b2; clear b1 cT b2; have b3 := A_ (show (aI aF ∨ w.heap.size ≤ aF) from (aC.out.1 _ rfl)); obtain ⟨dE, bR, b4, aR, aS⟩ := Kd.R_elem aC.out z98 (aA : Int) p5 q5; obtain rfl := k98_openM b4; have b5 : wr.cell? ⟨aF, (aA : Int).toNat * 3, none⟩ = some (.int .i64 ((rd_T98 aB aA).f0)) := aR 0 _ rfl; have b6 : wr.cell? ⟨aF, (aA : Int).toNat * 3 + 1, none⟩ = some (.int .i64 ((rd_T98 aB aA).f1)) := aR 1 _ rfl; have b7 : wr.cell? ⟨aF, (aA : Int).toNat * 3 + 2, none⟩ = some (.string ((rd_T98 aB aA).f2)) := aR 2 _ rfl; have b8 : wr.frozen? ⟨aF, (aA : Int).toNat * 3, none⟩ = false := aS 0; have b9 : wr.frozen? ⟨aF, (aA : Int).toNat * 3 + 1, none⟩ = false := aS 1; have cA : wr.frozen? ⟨aF, (aA : Int).toNat * 3 + 2, none⟩ = false := aS 2; (try clear b4); clear bR aR aS; replace p5 := eq_true p5; replace q5 := eq_true q5; have bJ := A_ (show Kd.R k98 98 wr w0.heap.size (fun k_ => (aI k_ ∨ w.heap.size ≤ k_)) (.slice (some ⟨aF, 0, none⟩) aB.length bE) aB from (Z9 aC.out))
     obtain ⟨cU, aY, bK, aO, aZ⟩ := Kd.R_elem bJ.out z98 (aA : Int) (odt) (by have h_ : (aA : Int) < ((aB.length : Int) : Int) := odt; first | exact h_ | (have e_ := (Kd.R_reads' aC.out).1; omega) | simpa using h_); obtain rfl := k98_openM bK; have a5 := Kd.R_seg bJ.out (aA : Int) (odt) (by have h_ : (aA : Int) < ((aB.length : Int) : Int) := odt; first | exact h_ | (have e_ := (Kd.R_reads' aC.out).1; omega) | simpa using h_) (seg := [.int .i64 aD]) (j := 0) aY aO (show 1 ≤ 3 from by decide) (x' := (⟨aD, (rd_T98 aB aA).f1, (rd_T98 aB aA).f2⟩ : S98)) (k98_mkM _ _ _ (⟨aD, (rd_T98 aB aA).f1, (rd_T98 aB aA).f2⟩ : S98) ) (fun _ hk => hk); have a6 := aO 0 _ rfl; (try simp only [show (k98).sz = 3 from rfl, Nat.mul_one, Nat.add_zero] at a6); have a7 := aZ 0; (try simp only [show (k98).sz = 3 from rfl, Nat.mul_one, Nat.add_zero] at a7); (try clear bK); clear aY aO aZ
     go_wp2_with (first | ((with_reducible refine gate_store (t := 3) (p := 16) rfl ?_); refine store_event (t := 3) (p := 16) (v := ?vo_w11) (w1 := (wr.setCell ⟨aF, (aA : Int).toNat * 3, none⟩ (.int .i64 aD))) ?hg ?ho ?hn ?hr ?_; (case ho => rfl); (case hg => rfl); (case hn => rfl); (case hr => exact Z36); intro aM hw; have hg : wr.grownBy aM (some aF) := (by rw [hw]; exact a5.2); have hp_ : Kd.R k98 98 aM w0.heap.size (fun k_ => (aI k_ ∨ w.heap.size ≤ k_)) (.slice (some ⟨aF, 0, none⟩) aB.length bE) aG := (by rw [hw, bF.out]; exact a5.1); clear a5; replace HB := A_ ((by rw [hw]; exact below_set (HB.out) bQ.out : Below w0.heap.size w0 aM)); replace HK := A_ (Kept.of_grown (S := (fun k_ => aI k_)) hg Z32 (fun k_ e_ => (aC.out.1 k_ e_))); replace aC := A_ hp_; clear hg hw hp_; have p6 : 0 ≤ (aA : Int) := odt; have q6 : (aA : Int) < ((aB.length : Int) : Int) := odt; obtain ⟨dF, bT, cB, aT, aU⟩ := Kd.R_elem aC.out z98 (aA : Int) p6 q6; obtain rfl := k98_openM cB; have cC : aM.cell? ⟨aF, (aA : Int).toNat * 3, none⟩ = some (.int .i64 ((rd_T98 aG aA).f0)) := aT 0 _ rfl; have cD : aM.cell? ⟨aF, (aA : Int).toNat * 3 + 1, none⟩ = some (.int .i64 ((rd_T98 aG aA).f1)) := aT 1 _ rfl; have cE : aM.cell? ⟨aF, (aA : Int).toNat * 3 + 2, none⟩ = some (.string ((rd_T98 aG aA).f2)) := aT 2 _ rfl; have cF : aM.frozen? ⟨aF, (aA : Int).toNat * 3, none⟩ = false := aU 0; have cG : aM.frozen? ⟨aF, (aA : Int).toNat * 3 + 1, none⟩ = false := aU 1; have cH : aM.frozen? ⟨aF, (aA : Int).toNat * 3 + 2, none⟩ = false := aU 2; (try clear cB); clear bT aT aU; replace p6 := eq_true p6; replace q6 := eq_true q6; have bL := A_ (show Kd.R k98 98 aM w0.heap.size (fun k_ => (aI k_ ∨ w.heap.size ≤ k_)) (.slice (some ⟨aF, 0, none⟩) aB.length bE) aG from (Z9 aC.out)); obtain ⟨cV, a0, bM, aP, a2⟩ := Kd.R_elem bL.out z98 (aA : Int) (odt) (by have h_ : (aA : Int) < ((aB.length : Int) : Int) := odt; first | exact h_ | (have e_ := (Kd.R_reads' aC.out).1; omega) | simpa using h_); obtain rfl := k98_openM bM; have a8 := Kd.R_seg bL.out (aA : Int) (odt) (by have h_ : (aA : Int) < ((aB.length : Int) : Int) := odt; first | exact h_ | (have e_ := (Kd.R_reads' aC.out).1; omega) | simpa using h_) (seg := [.int .i64 (wrap64 (aD + 1))]) (j := 1) a0 aP (show 2 ≤ 3 from by decide) (x' := (⟨(rd_T98 aG aA).f0, wrap64 (aD + 1), (rd_T98 aG aA).f2⟩ : S98)) (k98_mkM _ _ _ (⟨(rd_T98 aG aA).f0, wrap64 (aD + 1), (rd_T98 aG aA).f2⟩ : S98) ) (fun _ hk => hk); have a9 := aP 1 _ rfl; (try simp only [show (k98).sz = 3 from rfl, Nat.mul_one, Nat.add_zero] at a9); have bA := a2 1; (try simp only [show (k98).sz = 3 from rfl, Nat.mul_one, Nat.add_zero] at bA); (try clear bM); clear a0 aP a2) | ((with_reducible refine gate_store (t := 3) (p := 23) rfl ?_); refine store_event (t := 3) (p := 23) (v := ?vo_w13) (w1 := (aM.setCell ⟨aF, (aA : Int).toNat * 3 + 1, none⟩ (.int .i64 (wrap64 (aD + 1))))) ?hg ?ho ?hn ?hr ?_; (case ho => rfl); (case hg => rfl); (case hn => rfl); (case hr => exact Z36); intro bU hw; have hg : aM.grownBy bU (some aF) := (by rw [hw]; exact a8.2); have hp_ : Kd.R k98 98 bU w0.heap.size (fun k_ => (aI k_ ∨ w.heap.size ≤ k_)) (.slice (some ⟨aF, 0, none⟩) aB.length bE) aE := (by rw [hw, bG.out]; exact a8.1); clear a8; replace HB := A_ ((by rw [hw]; exact below_set (HB.out) bQ.out : Below w0.heap.size w0 bU)); replace HK := A_ (Kept.of_grown (S := (fun k_ => aI k_)) hg Z32 (fun k_ e_ => (aC.out.1 k_ e_))); replace aC := A_ hp_; clear hg hw hp_) | ((with_reducible refine gate_callee (f := 89) rfl ?_); refine gL 29 Try.func89 #[.int .i64 (wrap64 ((wrap64 (aD + 1)) + 1))] ?_; (with_reducible refine (laws_markText.calls k1 (wrap64 ((wrap64 (aD + 1)) + 1)) aJ _ A7.out).mono ?_); rintro e aV ⟨rfl, hb⟩; refine ⟨_, rfl, ?_⟩; replace aC := A_ (Rbl (Z9 aC.out) hb); replace HK := A_ (Kept.below (S := (fun k_ => aI k_)) Z32 hb); replace HB := A_ (bst Z1 hb); (try clear hb); have p8 : 0 ≤ (aA : Int) := odt; have q8 : (aA : Int) < ((aB.length : Int) : Int) := odt; obtain ⟨dG, bV, cI, aW, aX⟩ := Kd.R_elem aC.out z98 (aA : Int) p8 q8; obtain rfl := k98_openM cI; have cJ : aV.cell? ⟨aF, (aA : Int).toNat * 3, none⟩ = some (.int .i64 ((rd_T98 aE aA).f0)) := aW 0 _ rfl; have cK : aV.cell? ⟨aF, (aA : Int).toNat * 3 + 1, none⟩ = some (.int .i64 ((rd_T98 aE aA).f1)) := aW 1 _ rfl; have cL : aV.cell? ⟨aF, (aA : Int).toNat * 3 + 2, none⟩ = some (.string ((rd_T98 aE aA).f2)) := aW 2 _ rfl; have cM : aV.frozen? ⟨aF, (aA : Int).toNat * 3, none⟩ = false := aX 0; have cN : aV.frozen? ⟨aF, (aA : Int).toNat * 3 + 1, none⟩ = false := aX 1; have cO : aV.frozen? ⟨aF, (aA : Int).toNat * 3 + 2, none⟩ = false := aX 2; (try clear cI); clear bV aW aX; replace p8 := eq_true p8; replace q8 := eq_true q8; have bN := A_ (show Kd.R k98 98 aV w0.heap.size (fun k_ => (aI k_ ∨ w.heap.size ≤ k_)) (.slice (some ⟨aF, 0, none⟩) aB.length bE) aE from (Z9 aC.out)); obtain ⟨cW, a3, bO, aQ, a4⟩ := Kd.R_elem bN.out z98 (aA : Int) (odt) (by have h_ : (aA : Int) < ((aB.length : Int) : Int) := odt; first | exact h_ | (have e_ := (Kd.R_reads' aC.out).1; omega) | simpa using h_); obtain rfl := k98_openM bO; have bB := Kd.R_seg bN.out (aA : Int) (odt) (by have h_ : (aA : Int) < ((aB.length : Int) : Int) := odt; first | exact h_ | (have e_ := (Kd.R_reads' aC.out).1; omega) | simpa using h_) (seg := [.string aJ]) (j := 2) a3 aQ (show 3 ≤ 3 from by decide) (x' := (⟨(rd_T98 aE aA).f0, (rd_T98 aE aA).f1, aJ⟩ : S98)) (k98_mkM _ _ _ (⟨(rd_T98 aE aA).f0, (rd_T98 aE aA).f1, aJ⟩ : S98) ) (fun _ hk => hk); have bC := aQ 2 _ rfl; (try simp only [show (k98).sz = 3 from rfl, Nat.mul_one, Nat.add_zero] at bC); have bD := a4 2; (try simp only [show (k98).sz = 3 from rfl, Nat.mul_one, Nat.add_zero] at bD); (try clear bO); clear a3 aQ a4) | ((with_reducible refine gate_store (t := 9) (p := 31) rfl ?_); refine store_event (t := 9) (p := 31) (v := ?vo_w16) (w1 := (aV.setCell ⟨aF, (aA : Int).toNat * 3 + 2, none⟩ (.string aJ))) ?hg ?ho ?hn ?hr ?_; (case ho => rfl); (case hg => rfl); (case hn => rfl); (case hr => exact Z36); intro bW hw; have hg : aV.grownBy bW (some aF) := (by rw [hw]; exact bB.2); have hp_ : Kd.R k98 98 bW w0.heap.size (fun k_ => (aI k_ ∨ w.heap.size ≤ k_)) (.slice (some ⟨aF, 0, none⟩) aB.length bE) bH := (by rw [hw, bI.out]; exact bB.1); clear bB; replace HB := A_ ((by rw [hw]; exact below_set (HB.out) bQ.out : Below w0.heap.size w0 bW)); replace HK := A_ (Kept.of_grown (S := (fun k_ => aI k_)) hg Z32 (fun k_ e_ => (aC.out.1 k_ e_))); replace aC := A_ hp_; clear hg hw hp_))
     go_roundg k1
     case measure => have := bY.out; omega
     case rel => exact ⟨(bH), (wrap64 ((wrap64 ((wrap64 (aD + 1)) + 1)) + 1)), (wrap64 (aA + 1)), Z17, Z17, H', ⟨by have := bY.out; omega⟩, ⟨Z9 aC.out⟩, ⟨Z32⟩, ⟨Z1⟩⟩
    ·exact Z45
   ·rw [if_neg c3] at H
    have bP := df c3; clear c3; simp only [Option.some.injEq, Prod.mk.injEq] at H; obtain ⟨rfl, rfl⟩ := H; obtain ⟨cX, cY, bX⟩ := Kd.R_slice aC.out; subst bX
    go_wp2
    go_ret
    exact ⟨Z7, Z9 aC.out, Z1, Z32⟩
end Go.Proofs.Ytgbbcebjgpoioaa.PFnExactHistRedo
