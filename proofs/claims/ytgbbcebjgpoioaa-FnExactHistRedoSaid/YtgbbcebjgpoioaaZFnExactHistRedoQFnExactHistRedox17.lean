/- Walks (lines of the print; no condition). -/
import Derived.Test.YtgbbcebjgpoioaaZFnExactHistRedoQFnExactHistRedox16
namespace Go.Proofs.Ytgbbcebjgpoioaa.PFnExactHistRedo
open Go.RowKit Go.Proofs.YtgbbcebjgpoioaaW.PrintWords Go.Proofs.YtgbbcebjgpoioaaW.PrintLast Go.Proofs.YtgbbcebjgpoioaaW.PrintMore
attribute [local go_sem] max2_int min2_int max_two min_two max_three min_three max_four min_four
set_option linter.unusedVariables false
set_option linter.unusedSimpArgs false
def laws_heldHist.f (k : Nat) (aD : List (S72)) (aE : List (List (S72))) (aF : List (List (S72))) (a1 : Int) : Option (Int) := (laws_heldCellS.f k aD a1).bind fun aA => (if aA < 0 then (some (-1)) else ((laws_heldCellSS.f k aE aA).bind fun aB => (if aB < 0 then (some (-1)) else ((laws_heldCellSS.f k aF aB).bind fun aC => (if aC < 0 then (some (-1)) else (some aC))))))
set_option maxHeartbeats 8000000 in
set_option maxRecDepth 100000 in
theorem laws_heldHist.calls (k : Nat) (aH : Option Addr) (aI : Nat) (aC : List (S72)) (aJ : Option Addr) (aK : Nat) (aD : List (List (S72))) (aL : Option Addr) (aM : Nat) (aE : List (List (S72))) (a1 : Int) (r : Int) (w : World) (aT : Kd.C k72 w aH aC.length aC) (aU : aC.length ≤ aI) (aV : Kd.C (Kd.slice 72 k72) w aJ aD.length aD) (aW : aD.length ≤ aK) (aX : Kd.C (Kd.slice 72 k72) w aL aE.length aE) (aY : aE.length ≤ aM) (h : laws_heldHist.f k aC aD aE a1 = some r) :
  Calls Try.prog 18 #[.agg #[.slice aH aC.length aI, .slice aJ aD.length aK, .slice aL aE.length aM], .int .i64 a1] w fun e w' => e = .returned (.int .i64 r) ∧ Below w.heap.size w w' := by
 have cU := Try.underlying26; have aO := A_ aT; have aP := A_ aU; clear aT aU; have aQ := A_ aV; have aR := A_ aW; clear aV aW; have aZ := A_ aX; have a0 := A_ aY; clear aX aY; have HB := A_ (Below.refl w.heap.size w); have H := h; unfold laws_heldHist.f at H; clear h; replace H := bS H; obtain ⟨aF, cR, H⟩ := H
 try dsimp only at H
 have A3 := A_ cR; clear cR
 by_cases c4 : aF < 0
 ·rw [if_pos c4] at H
  have cJ := dt c4; clear c4; obtain rfl := Option.some.inj H
  go_enter Try.func18, Try.ntmps18
  go_wp2_with (first | ((with_reducible refine gate_dst (N := 2) rfl ?_); refine be (cs := #[.slice aH aC.length aI, .slice aJ aD.length aK, .slice aL aE.length aM]) (t := 26) ?_; intro aS hg w5 hbox hb; have aA := A_ hbox; have aG := A_ (gl hg (bz Z1)); have aB := aG; replace HB := A_ (bst Z1 hb); clear hb hbox hg; obtain ⟨cK, cL, cM, cN, cO, cP⟩ := C3 aA.out) | ((with_reducible refine gate_callee (f := 44) rfl ?_); refine gL 8 Try.func44 #[.slice aH aC.length aI, .int .i64 a1] ?_; (with_reducible refine (laws_heldCellS.calls k _ _ aC a1 aF _ ?s1 aP.out A3.out).mono ?_); (case s1 => exact Z4 aO.out); rintro e w7 ⟨rfl, hb⟩; refine ⟨_, rfl, ?_⟩; replace aA := A_ (bb (Z2 aA.out) hb); replace HB := A_ (bst (Z3 aB.out) hb); (try clear hb)))
  go_ret
  exact ⟨Z7, Z3 aB.out⟩
 ·rw [if_neg c4] at H
  have cJ := df c4; clear c4; replace H := bS H; obtain ⟨aN, cS, H⟩ := H
  try dsimp only at H
  have A8 := A_ cS; clear cS
  by_cases c9 : aN < 0
  ·rw [if_pos c9] at H
   have cQ := dt c9; clear c9; obtain rfl := Option.some.inj H
   go_enter Try.func18, Try.ntmps18
   go_wp2_with (first | ((with_reducible refine gate_dst (N := 2) rfl ?_); refine be (cs := #[.slice aH aC.length aI, .slice aJ aD.length aK, .slice aL aE.length aM]) (t := 26) ?_; intro aS hg cV hbox hb; have aA := A_ hbox; have aG := A_ (gl hg (bz Z1)); have aB := aG; replace HB := A_ (bst Z1 hb); clear hb hbox hg; obtain ⟨a6, a7, a8, a9, bA, bB⟩ := C3 aA.out) | ((with_reducible refine gate_callee (f := 44) rfl ?_); refine gL 8 Try.func44 #[.slice aH aC.length aI, .int .i64 a1] ?_; (with_reducible refine (laws_heldCellS.calls k _ _ aC a1 aF _ ?s1 aP.out A3.out).mono ?_); (case s1 => exact Z4 aO.out); rintro e cW ⟨rfl, hb⟩; refine ⟨_, rfl, ?_⟩; replace aA := A_ (bb (Z2 aA.out) hb); replace HB := A_ (bst (Z3 aB.out) hb); (try clear hb); obtain ⟨bC, bD, bE, bF, bG, bH⟩ := C3 aA.out) | ((with_reducible refine gate_callee (f := 45) rfl ?_); refine gL 14 Try.func45 #[.slice aJ aD.length aK, .int .i64 aF] ?_; (with_reducible refine (laws_heldCellSS.calls k _ _ aD aF aN _ ?s1 aR.out A8.out).mono ?_); (case s1 => exact Z4 aQ.out); rintro e cX ⟨rfl, hb⟩; refine ⟨_, rfl, ?_⟩; replace aA := A_ (bb (Z2 aA.out) hb); replace HB := A_ (bst (Z3 aB.out) hb); (try clear hb)))
   go_ret
   exact ⟨Z7, Z3 aB.out⟩
  ·rw [if_neg c9] at H
   have cQ := df c9; clear c9; replace H := bS H; obtain ⟨a2, a4, H⟩ := H
   try dsimp only at H
   have cT := A_ a4; clear a4
   by_cases a3 : a2 < 0
   ·rw [if_pos a3] at H
    have a5 := dt a3; clear a3; obtain rfl := Option.some.inj H
    go_enter Try.func18, Try.ntmps18
    go_wp2_with (first | ((with_reducible refine gate_dst (N := 2) rfl ?_); refine be (cs := #[.slice aH aC.length aI, .slice aJ aD.length aK, .slice aL aE.length aM]) (t := 26) ?_; intro aS hg cY hbox hb; have aA := A_ hbox; have aG := A_ (gl hg (bz Z1)); have aB := aG; replace HB := A_ (bst Z1 hb); clear hb hbox hg; obtain ⟨bI, bJ, bK, bL, bM, bN⟩ := C3 aA.out) | ((with_reducible refine gate_callee (f := 44) rfl ?_); refine gL 8 Try.func44 #[.slice aH aC.length aI, .int .i64 a1] ?_; (with_reducible refine (laws_heldCellS.calls k _ _ aC a1 aF _ ?s1 aP.out A3.out).mono ?_); (case s1 => exact Z4 aO.out); rintro e cZ ⟨rfl, hb⟩; refine ⟨_, rfl, ?_⟩; replace aA := A_ (bb (Z2 aA.out) hb); replace HB := A_ (bst (Z3 aB.out) hb); (try clear hb); obtain ⟨bO, bP, bQ, bR, bT, bU⟩ := C3 aA.out) | ((with_reducible refine gate_callee (f := 45) rfl ?_); refine gL 14 Try.func45 #[.slice aJ aD.length aK, .int .i64 aF] ?_; (with_reducible refine (laws_heldCellSS.calls k _ _ aD aF aN _ ?s1 aR.out A8.out).mono ?_); (case s1 => exact Z4 aQ.out); rintro e dA ⟨rfl, hb⟩; refine ⟨_, rfl, ?_⟩; replace aA := A_ (bb (Z2 aA.out) hb); replace HB := A_ (bst (Z3 aB.out) hb); (try clear hb); obtain ⟨bV, bW, bX, bY, bZ, b0⟩ := C3 aA.out) | ((with_reducible refine gate_callee (f := 45) rfl ?_); refine gL 20 Try.func45 #[.slice aL aE.length aM, .int .i64 aN] ?_; (with_reducible refine (laws_heldCellSS.calls k _ _ aE aN a2 _ ?s1 a0.out cT.out).mono ?_); (case s1 => exact Z4 aZ.out); rintro e dB ⟨rfl, hb⟩; refine ⟨_, rfl, ?_⟩; replace aA := A_ (bb (Z2 aA.out) hb); replace HB := A_ (bst (Z3 aB.out) hb); (try clear hb)))
    go_ret
    exact ⟨Z7, Z3 aB.out⟩
   ·rw [if_neg a3] at H
    have a5 := df a3; clear a3; obtain rfl := Option.some.inj H
    go_enter Try.func18, Try.ntmps18
    go_wp2_with (first | ((with_reducible refine gate_dst (N := 2) rfl ?_); refine be (cs := #[.slice aH aC.length aI, .slice aJ aD.length aK, .slice aL aE.length aM]) (t := 26) ?_; intro aS hg dC hbox hb; have aA := A_ hbox; have aG := A_ (gl hg (bz Z1)); have aB := aG; replace HB := A_ (bst Z1 hb); clear hb hbox hg; obtain ⟨b1, b2, b3, b4, b5, b6⟩ := C3 aA.out) | ((with_reducible refine gate_callee (f := 44) rfl ?_); refine gL 8 Try.func44 #[.slice aH aC.length aI, .int .i64 a1] ?_; (with_reducible refine (laws_heldCellS.calls k _ _ aC a1 aF _ ?s1 aP.out A3.out).mono ?_); (case s1 => exact Z4 aO.out); rintro e dD ⟨rfl, hb⟩; refine ⟨_, rfl, ?_⟩; replace aA := A_ (bb (Z2 aA.out) hb); replace HB := A_ (bst (Z3 aB.out) hb); (try clear hb); obtain ⟨b7, b8, b9, cA, cB, cC⟩ := C3 aA.out) | ((with_reducible refine gate_callee (f := 45) rfl ?_); refine gL 14 Try.func45 #[.slice aJ aD.length aK, .int .i64 aF] ?_; (with_reducible refine (laws_heldCellSS.calls k _ _ aD aF aN _ ?s1 aR.out A8.out).mono ?_); (case s1 => exact Z4 aQ.out); rintro e dE ⟨rfl, hb⟩; refine ⟨_, rfl, ?_⟩; replace aA := A_ (bb (Z2 aA.out) hb); replace HB := A_ (bst (Z3 aB.out) hb); (try clear hb); obtain ⟨cD, cE, cF, cG, cH, cI⟩ := C3 aA.out) | ((with_reducible refine gate_callee (f := 45) rfl ?_); refine gL 20 Try.func45 #[.slice aL aE.length aM, .int .i64 aN] ?_; (with_reducible refine (laws_heldCellSS.calls k _ _ aE aN a2 _ ?s1 a0.out cT.out).mono ?_); (case s1 => exact Z4 aZ.out); rintro e dF ⟨rfl, hb⟩; refine ⟨_, rfl, ?_⟩; replace aA := A_ (bb (Z2 aA.out) hb); replace HB := A_ (bst (Z3 aB.out) hb); (try clear hb)))
    go_ret
    exact ⟨Z7, Z3 aB.out⟩
end Go.Proofs.Ytgbbcebjgpoioaa.PFnExactHistRedo
