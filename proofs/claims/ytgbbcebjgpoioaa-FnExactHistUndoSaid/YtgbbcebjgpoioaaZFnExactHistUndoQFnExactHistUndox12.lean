/- Walks (lines of the print; no condition). -/
import Derived.Test.YtgbbcebjgpoioaaZFnExactHistUndoQFnExactHistUndox11
namespace Go.Proofs.Ytgbbcebjgpoioaa.PFnExactHistUndo
open Go.RowKit Go.Proofs.YtgbbcebjgpoioaaW.PrintWords Go.Proofs.YtgbbcebjgpoioaaW.PrintLast Go.Proofs.YtgbbcebjgpoioaaW.PrintMore
attribute [local go_sem] max2_int min2_int max_two min_two max_three min_three max_four min_four
set_option linter.unusedVariables false
set_option linter.unusedSimpArgs false
set_option maxHeartbeats 8000000
set_option maxRecDepth 100000
def laws_szValueS.l0 : Nat → List (S125) → Int → Int → Option (Int)
 | 0, _, _, _ => none
 | k + 1, x0, x1, x5 => if x5 < (x0.length : Int) then (if 0 ≤ x5 then ((laws_szValue.f ((rd_T125 x0 x5).f0) ((rd_T125 x0 x5).f1) ((rd_T125 x0 x5).f2) x1).bind fun aA => (if aA < 0 then (some (-1)) else (laws_szValueS.l0 k x0 aA (wrap64 (x5 + 1))))) else (none)) else (some x1)
def laws_szValueS.f (k : Nat) (l0 : List (S125)) (a1 : Int) : Option (Int) := if (wrap64 (a1 - (l0.length : Int))) < 0 then (some (-1)) else (laws_szValueS.l0 k l0 (wrap64 (a1 - (l0.length : Int))) 0)
theorem laws_szValueS.calls (k : Nat) (A0 : Option Addr) (c0 : Nat) (l0 : List (S125)) (a1 : Int) (r : Int) (w : World) (aN : Kd.C k125 w A0 l0.length l0) (hc0 : l0.length ≤ c0) (h : laws_szValueS.f k l0 a1 = some r) :
  Calls Try.prog 84 #[.slice A0 l0.length c0, .int .i64 a1] w fun e w' => e = .returned (.int .i64 r) ∧ Below w.heap.size w w' := by
 have aO := Try.underlying125; have aP := A_ aN; have aT := A_ hc0; clear aN hc0; have HB := A_ (Below.refl w.heap.size w); have H := h; unfold laws_szValueS.f at H; clear h
 by_cases c3 : (wrap64 (a1 - (l0.length : Int))) < 0
 ·rw [if_pos c3] at H
  have aJ := dt c3; clear c3; obtain rfl := Option.some.inj H
  go_enter Try.func84, Try.ntmps84
  go_wp2
  go_ret
  exact ⟨Z7, Z1⟩
 ·rw [if_neg c3] at H
  have aJ := df c3; clear c3; have H' := A_ H; clear H
  go_enter Try.func84, Try.ntmps84
  go_wp2
  go_loopg [1, 5] k (fun kq v1 v5 w' => ∃ (aE : Int) (aA : Int), v1 = .int .i64 aE ∧ v5 = .int .i64 aA ∧ Aside0 (laws_szValueS.l0 kq l0 aE aA = some r) ∧ Aside0 (kq ≤ k) ∧ Aside0 (Below w.heap.size w w'))
  case atStart => exact ⟨(wrap64 (a1 - (l0.length : Int))), (0), Z17, Z17, H', ⟨Nat.le_refl _⟩, ⟨Z1⟩⟩
  case round =>
   clear H'; try clear c3
   try clear aJ
   obtain ⟨aE, aA, rfl, rfl, HA, aQ, HB⟩ := hrel
   cases gk with
   | zero => exact absurd HA.out (by simp [laws_szValueS.l0])
   | succ k1 =>
    have H := HA.out; clear HA; simp only [laws_szValueS.l0] at H
    by_cases c4 : aA < (l0.length : Int)
    ·rw [if_pos c4] at H
     have aL := dt c4; clear c4
     by_cases c5 : 0 ≤ aA
     ·rw [if_pos c5] at H
      have aS := dt c5; clear c5; replace H := bS H; obtain ⟨aH, aR, H⟩ := H
      try dsimp only at H
      have A6 := A_ aR; clear aR
      by_cases c7 : aH < 0
      ·rw [if_pos c7] at H
       have aM := dt c7; clear c7; obtain rfl := Option.some.inj H; have aF : 0 ≤ (aA : Int) := odt; have aG : aA < (l0.length : Int) := odt; obtain ⟨aK, aI, aB, aC, aD⟩ := at_T125 aP.out aA aF aG; cases aI; replace aB := ZC HB.out aB; replace aC := ZC HB.out aC; replace aD := ZC HB.out aD; replace aF := eq_true aF; replace aG := eq_true aG
       go_wp2_with (first | ((with_reducible refine gate_callee (f := 99) rfl ?_); refine gL 23 Try.func99 #[.agg #[.int .i64 ((rd_T125 l0 aA).f0), .int .i64 ((rd_T125 l0 aA).f1), .string ((rd_T125 l0 aA).f2)], .int .i64 aE] ?_; (with_reducible refine (laws_szValue.calls ((rd_T125 l0 aA).f0) ((rd_T125 l0 aA).f1) ((rd_T125 l0 aA).f2) aE aH _ A6.out).mono ?_); rintro e w8 ⟨rfl, hb⟩; refine ⟨_, rfl, ?_⟩; replace HB := A_ (bst Z1 hb); (try clear hb)))
       go_ret
       exact ⟨Z7, Z1⟩
      ·rw [if_neg c7] at H
       have aM := df c7; clear c7; have H' := A_ H; clear H; have aF : 0 ≤ (aA : Int) := odt; have aG : aA < (l0.length : Int) := odt; obtain ⟨aK, aI, aB, aC, aD⟩ := at_T125 aP.out aA aF aG; cases aI; replace aB := ZC HB.out aB; replace aC := ZC HB.out aC; replace aD := ZC HB.out aD; replace aF := eq_true aF; replace aG := eq_true aG
       go_wp2_with (first | ((with_reducible refine gate_callee (f := 99) rfl ?_); refine gL 23 Try.func99 #[.agg #[.int .i64 ((rd_T125 l0 aA).f0), .int .i64 ((rd_T125 l0 aA).f1), .string ((rd_T125 l0 aA).f2)], .int .i64 aE] ?_; (with_reducible refine (laws_szValue.calls ((rd_T125 l0 aA).f0) ((rd_T125 l0 aA).f1) ((rd_T125 l0 aA).f2) aE aH _ A6.out).mono ?_); rintro e w9 ⟨rfl, hb⟩; refine ⟨_, rfl, ?_⟩; replace HB := A_ (bst Z1 hb); (try clear hb)))
       go_roundg k1
       case measure => have := aQ.out; omega
       case rel => exact ⟨(aH), (wrap64 (aA + 1)), Z17, Z17, H', ⟨by have := aQ.out; omega⟩, ⟨Z1⟩⟩
     ·rw [if_neg c5] at H
      exact absurd H (by simp)
    ·rw [if_neg c4] at H
     have aL := df c4; clear c4; obtain rfl := Option.some.inj H
     go_wp2
     go_ret
     exact ⟨Z7, Z1⟩
def laws_szCell.f (k : Nat) (aC : List (S127)) (aD : List (S125)) (a1 : Int) : Option (Int) := (laws_szSlotS.f aC a1).bind fun aA => (if aA < 0 then (some (-1)) else ((laws_szValueS.f k aD aA).bind fun aB => (if aB < 0 then (some (-1)) else (some aB))))
theorem laws_szCell.calls (k : Nat) (aE : Option Addr) (aF : Nat) (aA : List (S127)) (aI : Option Addr) (aJ : Nat) (aD : List (S125)) (a1 : Int) (r : Int) (w : World) (aM : Kd.C k127 w aE aA.length aA) (aN : aA.length ≤ aF) (aO : Kd.C k125 w aI aD.length aD) (aP : aD.length ≤ aJ) (h : laws_szCell.f k aA aD a1 = some r) :
  Calls Try.prog 64 #[.agg #[.slice aE aA.length aF, .slice aI aD.length aJ], .int .i64 a1] w fun e w' => e = .returned (.int .i64 r) ∧ Below w.heap.size w w' := by
 have bB := Try.underlying89; have aK := A_ aM; have aL := A_ aN; clear aM aN; have aQ := A_ aO; have aR := A_ aP; clear aO aP; have HB := A_ (Below.refl w.heap.size w); have H := h; unfold laws_szCell.f at H; clear h; replace H := bS H; obtain ⟨aG, a9, H⟩ := H
 try dsimp only at H
 have A3 := A_ a9; clear a9
 by_cases c4 : aG < 0
 ·rw [if_pos c4] at H
  have a3 := dt c4; clear c4; obtain rfl := Option.some.inj H
  go_enter Try.func64, Try.ntmps64
  go_wp2_with (first | ((with_reducible refine gate_dst (N := 2) rfl ?_); refine be (cs := #[.slice aE aA.length aF, .slice aI aD.length aJ]) (t := 89) ?_; intro aS hg w5 hbox hb; have aB := A_ hbox; have aH := A_ (gl hg (bz Z1)); have aC := aH; replace HB := A_ (bst Z1 hb); clear hb hbox hg; obtain ⟨a4, a5, a6, a7⟩ := C2 aB.out) | ((with_reducible refine gate_callee (f := 83) rfl ?_); refine gL 8 Try.func83 #[.slice aE aA.length aF, .int .i64 a1] ?_; (with_reducible refine (laws_szSlotS.calls _ _ aA a1 aG _ ?s1 aL.out A3.out).mono ?_); (case s1 => exact Z4 aK.out); rintro e w' ⟨rfl, ⟨nd, rfl⟩⟩; refine ⟨_, rfl, ?_⟩))
  go_ret
  exact ⟨Z7, Z3 aC.out⟩
 ·rw [if_neg c4] at H
  have a3 := df c4; clear c4; replace H := bS H; obtain ⟨aT, bA, H⟩ := H
  try dsimp only at H
  have A7 := A_ bA; clear bA
  by_cases c8 : aT < 0
  ·rw [if_pos c8] at H
   have a8 := dt c8; clear c8; obtain rfl := Option.some.inj H
   go_enter Try.func64, Try.ntmps64
   go_wp2_with (first | ((with_reducible refine gate_dst (N := 2) rfl ?_); refine be (cs := #[.slice aE aA.length aF, .slice aI aD.length aJ]) (t := 89) ?_; intro aS hg w9 hbox hb; have aB := A_ hbox; have aH := A_ (gl hg (bz Z1)); have aC := aH; replace HB := A_ (bst Z1 hb); clear hb hbox hg; obtain ⟨aU, aV, aW, aX⟩ := C2 aB.out) | ((with_reducible refine gate_callee (f := 83) rfl ?_); refine gL 8 Try.func83 #[.slice aE aA.length aF, .int .i64 a1] ?_; (with_reducible refine (laws_szSlotS.calls _ _ aA a1 aG _ ?s1 aL.out A3.out).mono ?_); (case s1 => exact Z4 aK.out); rintro e w' ⟨rfl, ⟨nd, rfl⟩⟩; refine ⟨_, rfl, ?_⟩) | ((with_reducible refine gate_callee (f := 84) rfl ?_); refine gL 14 Try.func84 #[.slice aI aD.length aJ, .int .i64 aG] ?_; (with_reducible refine (laws_szValueS.calls k _ _ aD aG aT _ ?s1 aR.out A7.out).mono ?_); (case s1 => repeat (first | exact (Kd.C_below aQ.out (Z3 aC.out)) | (with_reducible refine Kd.C_alloc ?_ _) | (with_reducible refine Kd.C_drewN ?_ _) | (with_reducible refine Kd.C_drew ?_))); rintro e bC ⟨rfl, hb⟩; refine ⟨_, rfl, ?_⟩; replace aB := A_ (bb (Z2 aB.out) hb); replace HB := A_ (bst (Z3 aC.out) hb); (try clear hb)))
   go_ret
   exact ⟨Z7, Z3 aC.out⟩
  ·rw [if_neg c8] at H
   have a8 := df c8; clear c8; obtain rfl := Option.some.inj H
   go_enter Try.func64, Try.ntmps64
   go_wp2_with (first | ((with_reducible refine gate_dst (N := 2) rfl ?_); refine be (cs := #[.slice aE aA.length aF, .slice aI aD.length aJ]) (t := 89) ?_; intro aS hg bD hbox hb; have aB := A_ hbox; have aH := A_ (gl hg (bz Z1)); have aC := aH; replace HB := A_ (bst Z1 hb); clear hb hbox hg; obtain ⟨aY, aZ, a0, a2⟩ := C2 aB.out) | ((with_reducible refine gate_callee (f := 83) rfl ?_); refine gL 8 Try.func83 #[.slice aE aA.length aF, .int .i64 a1] ?_; (with_reducible refine (laws_szSlotS.calls _ _ aA a1 aG _ ?s1 aL.out A3.out).mono ?_); (case s1 => exact Z4 aK.out); rintro e w' ⟨rfl, ⟨nd, rfl⟩⟩; refine ⟨_, rfl, ?_⟩) | ((with_reducible refine gate_callee (f := 84) rfl ?_); refine gL 14 Try.func84 #[.slice aI aD.length aJ, .int .i64 aG] ?_; (with_reducible refine (laws_szValueS.calls k _ _ aD aG aT _ ?s1 aR.out A7.out).mono ?_); (case s1 => repeat (first | exact (Kd.C_below aQ.out (Z3 aC.out)) | (with_reducible refine Kd.C_alloc ?_ _) | (with_reducible refine Kd.C_drewN ?_ _) | (with_reducible refine Kd.C_drew ?_))); rintro e bE ⟨rfl, hb⟩; refine ⟨_, rfl, ?_⟩; replace aB := A_ (bb (Z2 aB.out) hb); replace HB := A_ (bst (Z3 aC.out) hb); (try clear hb)))
   go_ret
   exact ⟨Z7, Z3 aC.out⟩
def laws_szCellS.l0 : Nat → List (S89) → Int → Int → Option (Int)
 | 0, _, _, _ => none
 | k + 1, x0, x1, x5 => if x5 < (x0.length : Int) then (if 0 ≤ x5 then ((laws_szCell.f k ((rd_T89 x0 x5).f0) ((rd_T89 x0 x5).f1) x1).bind fun aA => (if aA < 0 then (some (-1)) else (laws_szCellS.l0 k x0 aA (wrap64 (x5 + 1))))) else (none)) else (some x1)
def laws_szCellS.f (k : Nat) (l0 : List (S89)) (a1 : Int) : Option (Int) := if (wrap64 (a1 - (l0.length : Int))) < 0 then (some (-1)) else (laws_szCellS.l0 k l0 (wrap64 (a1 - (l0.length : Int))) 0)
theorem laws_szCellS.calls (k : Nat) (A0 : Option Addr) (c0 : Nat) (l0 : List (S89)) (a1 : Int) (r : Int) (w : World) (aY : Kd.C k89 w A0 l0.length l0) (hc0 : l0.length ≤ c0) (h : laws_szCellS.f k l0 a1 = some r) :
  Calls Try.prog 36 #[.slice A0 l0.length c0, .int .i64 a1] w fun e w' => e = .returned (.int .i64 r) ∧ Below w.heap.size w w' := by
 have a3 := Try.underlying89; have aZ := A_ aY; have a5 := A_ hc0; clear aY hc0; have HB := A_ (Below.refl w.heap.size w); have H := h; unfold laws_szCellS.f at H; clear h
 by_cases c3 : (wrap64 (a1 - (l0.length : Int))) < 0
 ·rw [if_pos c3] at H
  have aU := dt c3; clear c3; obtain rfl := Option.some.inj H
  go_enter Try.func36, Try.ntmps36
  go_wp2
  go_ret
  exact ⟨Z7, Z1⟩
 ·rw [if_neg c3] at H
  have aU := df c3; clear c3; have H' := A_ H; clear H
  go_enter Try.func36, Try.ntmps36
  go_wp2
  go_loopg [1, 5] k (fun kq v1 v5 w' => ∃ (aL : Int) (aA : Int), v1 = .int .i64 aL ∧ v5 = .int .i64 aA ∧ Aside0 (laws_szCellS.l0 kq l0 aL aA = some r) ∧ Aside0 (kq ≤ k) ∧ Aside0 (Below w.heap.size w w'))
  case atStart => exact ⟨(wrap64 (a1 - (l0.length : Int))), (0), Z17, Z17, H', ⟨Nat.le_refl _⟩, ⟨Z1⟩⟩
  case round =>
   clear H'; try clear c3
   try clear aU
   obtain ⟨aL, aA, rfl, rfl, HA, a0, HB⟩ := hrel
   cases gk with
   | zero => exact absurd HA.out (by simp [laws_szCellS.l0])
   | succ k1 =>
    have H := HA.out; clear HA; simp only [laws_szCellS.l0] at H
    by_cases c4 : aA < (l0.length : Int)
    ·rw [if_pos c4] at H
     have aW := dt c4; clear c4
     by_cases c5 : 0 ≤ aA
     ·rw [if_pos c5] at H
      have a4 := dt c5; clear c5; replace H := bS H; obtain ⟨aS, a2, H⟩ := H
      try dsimp only at H
      have A6 := A_ a2; clear a2
      by_cases c7 : aS < 0
      ·rw [if_pos c7] at H
       have aX := dt c7; clear c7; obtain rfl := Option.some.inj H; have aM : 0 ≤ (aA : Int) := odt; have aN : aA < (l0.length : Int) := odt; obtain ⟨aV, aO, aP, aQ, aR, aT, aB, aC, aD, aE, aF, aG⟩ := at_T89 aZ.out aA aM aN; cases aT; replace aB := ZC HB.out aB; replace aC := ZC HB.out aC; have aH := A_ aE; have aI := A_ aD; clear aE aD; have aJ := A_ aG; have aK := A_ aF; clear aG aF; replace aM := eq_true aM; replace aN := eq_true aN
       go_wp2_with (first | ((with_reducible refine gate_callee (f := 64) rfl ?_); refine gL 23 Try.func64 #[.agg #[.slice aO ((rd_T89 l0 aA).f0).length aP, .slice aQ ((rd_T89 l0 aA).f1).length aR], .int .i64 aL] ?_; (with_reducible refine (laws_szCell.calls k1 _ _ ((rd_T89 l0 aA).f0) _ _ ((rd_T89 l0 aA).f1) aL aS _ ?s1 aI.out ?s3 aK.out A6.out).mono ?_); (case s1 => exact Z4 aH.out); (case s3 => exact Z4 aJ.out); rintro e w8 ⟨rfl, hb⟩; refine ⟨_, rfl, ?_⟩; replace HB := A_ (bst Z1 hb); (try clear hb)))
       go_ret
       exact ⟨Z7, Z1⟩
      ·rw [if_neg c7] at H
       have aX := df c7; clear c7; have H' := A_ H; clear H; have aM : 0 ≤ (aA : Int) := odt; have aN : aA < (l0.length : Int) := odt; obtain ⟨aV, aO, aP, aQ, aR, aT, aB, aC, aD, aE, aF, aG⟩ := at_T89 aZ.out aA aM aN; cases aT; replace aB := ZC HB.out aB; replace aC := ZC HB.out aC; have aH := A_ aE; have aI := A_ aD; clear aE aD; have aJ := A_ aG; have aK := A_ aF; clear aG aF; replace aM := eq_true aM; replace aN := eq_true aN
       go_wp2_with (first | ((with_reducible refine gate_callee (f := 64) rfl ?_); refine gL 23 Try.func64 #[.agg #[.slice aO ((rd_T89 l0 aA).f0).length aP, .slice aQ ((rd_T89 l0 aA).f1).length aR], .int .i64 aL] ?_; (with_reducible refine (laws_szCell.calls k1 _ _ ((rd_T89 l0 aA).f0) _ _ ((rd_T89 l0 aA).f1) aL aS _ ?s1 aI.out ?s3 aK.out A6.out).mono ?_); (case s1 => exact Z4 aH.out); (case s3 => exact Z4 aJ.out); rintro e w9 ⟨rfl, hb⟩; refine ⟨_, rfl, ?_⟩; replace HB := A_ (bst Z1 hb); (try clear hb)))
       go_roundg k1
       case measure => have := a0.out; omega
       case rel => exact ⟨(aS), (wrap64 (aA + 1)), Z17, Z17, H', ⟨by have := a0.out; omega⟩, ⟨Z1⟩⟩
     ·rw [if_neg c5] at H
      exact absurd H (by simp)
    ·rw [if_neg c4] at H
     have aW := df c4; clear c4; obtain rfl := Option.some.inj H
     go_wp2
     go_ret
     exact ⟨Z7, Z1⟩
def laws_szCellSS.l0 : Nat → List (List (S89)) → Int → Int → Option (Int)
 | 0, _, _, _ => none
 | k + 1, x0, x1, x5 => if x5 < (x0.length : Int) then (if 0 ≤ x5 then ((laws_szCellS.f k (rd_L13 x0 x5) x1).bind fun aA => (if aA < 0 then (some (-1)) else (laws_szCellSS.l0 k x0 aA (wrap64 (x5 + 1))))) else (none)) else (some x1)
def laws_szCellSS.f (k : Nat) (l0 : List (List (S89))) (a1 : Int) : Option (Int) := if (wrap64 (a1 - (l0.length : Int))) < 0 then (some (-1)) else (laws_szCellSS.l0 k l0 (wrap64 (a1 - (l0.length : Int))) 0)
theorem laws_szCellSS.calls (k : Nat) (A0 : Option Addr) (c0 : Nat) (l0 : List (List (S89))) (a1 : Int) (r : Int) (w : World) (aR : Kd.C (Kd.slice 89 k89) w A0 l0.length l0) (hc0 : l0.length ≤ c0) (h : laws_szCellSS.f k l0 a1 = some r) :
  Calls Try.prog 37 #[.slice A0 l0.length c0, .int .i64 a1] w fun e w' => e = .returned (.int .i64 r) ∧ Below w.heap.size w w' := by
 have aS := A_ aR; have aW := A_ hc0; clear aR hc0; have HB := A_ (Below.refl w.heap.size w); have H := h; unfold laws_szCellSS.f at H; clear h
 by_cases c3 : (wrap64 (a1 - (l0.length : Int))) < 0
 ·rw [if_pos c3] at H
  have aN := dt c3; clear c3; obtain rfl := Option.some.inj H
  go_enter Try.func37, Try.ntmps37
  go_wp2
  go_ret
  exact ⟨Z7, Z1⟩
 ·rw [if_neg c3] at H
  have aN := df c3; clear c3; have H' := A_ H; clear H
  go_enter Try.func37, Try.ntmps37
  go_wp2
  go_loopg [1, 5] k (fun kq v1 v5 w' => ∃ (aG : Int) (aA : Int), v1 = .int .i64 aG ∧ v5 = .int .i64 aA ∧ Aside0 (laws_szCellSS.l0 kq l0 aG aA = some r) ∧ Aside0 (kq ≤ k) ∧ Aside0 (Below w.heap.size w w'))
  case atStart => exact ⟨(wrap64 (a1 - (l0.length : Int))), (0), Z17, Z17, H', ⟨Nat.le_refl _⟩, ⟨Z1⟩⟩
  case round =>
   clear H'; try clear c3
   try clear aN
   obtain ⟨aG, aA, rfl, rfl, HA, aT, HB⟩ := hrel
   cases gk with
   | zero => exact absurd HA.out (by simp [laws_szCellSS.l0])
   | succ k1 =>
    have H := HA.out; clear HA; simp only [laws_szCellSS.l0] at H
    by_cases c4 : aA < (l0.length : Int)
    ·rw [if_pos c4] at H
     have aP := dt c4; clear c4
     by_cases c5 : 0 ≤ aA
     ·rw [if_pos c5] at H
      have aV := dt c5; clear c5; replace H := bS H; obtain ⟨aL, aU, H⟩ := H
      try dsimp only at H
      have A6 := A_ aU; clear aU
      by_cases c7 : aL < 0
      ·rw [if_pos c7] at H
       have aQ := dt c7; clear c7; obtain rfl := Option.some.inj H; have aH : 0 ≤ (aA : Int) := odt; have aI : aA < (l0.length : Int) := odt; obtain ⟨aO, aJ, aK, aM, aB, aC, aD⟩ := at_L13 aS.out aA aH aI; cases aM; replace aB := ZC HB.out aB; have aE := A_ aD; have aF := A_ aC; clear aD aC; replace aH := eq_true aH; replace aI := eq_true aI
       go_wp2_with (first | ((with_reducible refine gate_callee (f := 36) rfl ?_); refine gL 23 Try.func36 #[.slice aJ (rd_L13 l0 aA).length aK, .int .i64 aG] ?_; (with_reducible refine (laws_szCellS.calls k1 _ _ (rd_L13 l0 aA) aG aL _ ?s1 aF.out A6.out).mono ?_); (case s1 => exact Z4 aE.out); rintro e w8 ⟨rfl, hb⟩; refine ⟨_, rfl, ?_⟩; replace HB := A_ (bst Z1 hb); (try clear hb)))
       go_ret
       exact ⟨Z7, Z1⟩
      ·rw [if_neg c7] at H
       have aQ := df c7; clear c7; have H' := A_ H; clear H; have aH : 0 ≤ (aA : Int) := odt; have aI : aA < (l0.length : Int) := odt; obtain ⟨aO, aJ, aK, aM, aB, aC, aD⟩ := at_L13 aS.out aA aH aI; cases aM; replace aB := ZC HB.out aB; have aE := A_ aD; have aF := A_ aC; clear aD aC; replace aH := eq_true aH; replace aI := eq_true aI
       go_wp2_with (first | ((with_reducible refine gate_callee (f := 36) rfl ?_); refine gL 23 Try.func36 #[.slice aJ (rd_L13 l0 aA).length aK, .int .i64 aG] ?_; (with_reducible refine (laws_szCellS.calls k1 _ _ (rd_L13 l0 aA) aG aL _ ?s1 aF.out A6.out).mono ?_); (case s1 => exact Z4 aE.out); rintro e w9 ⟨rfl, hb⟩; refine ⟨_, rfl, ?_⟩; replace HB := A_ (bst Z1 hb); (try clear hb)))
       go_roundg k1
       case measure => have := aT.out; omega
       case rel => exact ⟨(aL), (wrap64 (aA + 1)), Z17, Z17, H', ⟨by have := aT.out; omega⟩, ⟨Z1⟩⟩
     ·rw [if_neg c5] at H
      exact absurd H (by simp)
    ·rw [if_neg c4] at H
     have aP := df c4; clear c4; obtain rfl := Option.some.inj H
     go_wp2
     go_ret
     exact ⟨Z7, Z1⟩
def laws_szHist.f (k : Nat) (aD : List (S89)) (aE : List (List (S89))) (aF : List (List (S89))) (a1 : Int) : Option (Int) := (laws_szCellS.f k aD a1).bind fun aA => (if aA < 0 then (some (-1)) else ((laws_szCellSS.f k aE aA).bind fun aB => (if aB < 0 then (some (-1)) else ((laws_szCellSS.f k aF aB).bind fun aC => (if aC < 0 then (some (-1)) else (some aC))))))
theorem laws_szHist.calls (k : Nat) (aH : Option Addr) (aI : Nat) (aC : List (S89)) (aJ : Option Addr) (aK : Nat) (aD : List (List (S89))) (aL : Option Addr) (aM : Nat) (aE : List (List (S89))) (a1 : Int) (r : Int) (w : World) (aT : Kd.C k89 w aH aC.length aC) (aU : aC.length ≤ aI) (aV : Kd.C (Kd.slice 89 k89) w aJ aD.length aD) (aW : aD.length ≤ aK) (aX : Kd.C (Kd.slice 89 k89) w aL aE.length aE) (aY : aE.length ≤ aM) (h : laws_szHist.f k aC aD aE a1 = some r) :
  Calls Try.prog 13 #[.agg #[.slice aH aC.length aI, .slice aJ aD.length aK, .slice aL aE.length aM], .int .i64 a1] w fun e w' => e = .returned (.int .i64 r) ∧ Below w.heap.size w w' := by
 have cU := Try.underlying36; have aO := A_ aT; have aP := A_ aU; clear aT aU; have aQ := A_ aV; have aR := A_ aW; clear aV aW; have aZ := A_ aX; have a0 := A_ aY; clear aX aY; have HB := A_ (Below.refl w.heap.size w); have H := h; unfold laws_szHist.f at H; clear h; replace H := bS H; obtain ⟨aF, cR, H⟩ := H
 try dsimp only at H
 have A3 := A_ cR; clear cR
 by_cases c4 : aF < 0
 ·rw [if_pos c4] at H
  have cJ := dt c4; clear c4; obtain rfl := Option.some.inj H
  go_enter Try.func13, Try.ntmps13
  go_wp2_with (first | ((with_reducible refine gate_dst (N := 2) rfl ?_); refine be (cs := #[.slice aH aC.length aI, .slice aJ aD.length aK, .slice aL aE.length aM]) (t := 36) ?_; intro aS hg w5 hbox hb; have aA := A_ hbox; have aG := A_ (gl hg (bz Z1)); have aB := aG; replace HB := A_ (bst Z1 hb); clear hb hbox hg; obtain ⟨cK, cL, cM, cN, cO, cP⟩ := C3 aA.out) | ((with_reducible refine gate_callee (f := 36) rfl ?_); refine gL 8 Try.func36 #[.slice aH aC.length aI, .int .i64 a1] ?_; (with_reducible refine (laws_szCellS.calls k _ _ aC a1 aF _ ?s1 aP.out A3.out).mono ?_); (case s1 => exact Z4 aO.out); rintro e w7 ⟨rfl, hb⟩; refine ⟨_, rfl, ?_⟩; replace aA := A_ (bb (Z2 aA.out) hb); replace HB := A_ (bst (Z3 aB.out) hb); (try clear hb)))
  go_ret
  exact ⟨Z7, Z3 aB.out⟩
 ·rw [if_neg c4] at H
  have cJ := df c4; clear c4; replace H := bS H; obtain ⟨aN, cS, H⟩ := H
  try dsimp only at H
  have A8 := A_ cS; clear cS
  by_cases c9 : aN < 0
  ·rw [if_pos c9] at H
   have cQ := dt c9; clear c9; obtain rfl := Option.some.inj H
   go_enter Try.func13, Try.ntmps13
   go_wp2_with (first | ((with_reducible refine gate_dst (N := 2) rfl ?_); refine be (cs := #[.slice aH aC.length aI, .slice aJ aD.length aK, .slice aL aE.length aM]) (t := 36) ?_; intro aS hg cV hbox hb; have aA := A_ hbox; have aG := A_ (gl hg (bz Z1)); have aB := aG; replace HB := A_ (bst Z1 hb); clear hb hbox hg; obtain ⟨a6, a7, a8, a9, bA, bB⟩ := C3 aA.out) | ((with_reducible refine gate_callee (f := 36) rfl ?_); refine gL 8 Try.func36 #[.slice aH aC.length aI, .int .i64 a1] ?_; (with_reducible refine (laws_szCellS.calls k _ _ aC a1 aF _ ?s1 aP.out A3.out).mono ?_); (case s1 => exact Z4 aO.out); rintro e cW ⟨rfl, hb⟩; refine ⟨_, rfl, ?_⟩; replace aA := A_ (bb (Z2 aA.out) hb); replace HB := A_ (bst (Z3 aB.out) hb); (try clear hb); obtain ⟨bC, bD, bE, bF, bG, bH⟩ := C3 aA.out) | ((with_reducible refine gate_callee (f := 37) rfl ?_); refine gL 14 Try.func37 #[.slice aJ aD.length aK, .int .i64 aF] ?_; (with_reducible refine (laws_szCellSS.calls k _ _ aD aF aN _ ?s1 aR.out A8.out).mono ?_); (case s1 => exact Z4 aQ.out); rintro e cX ⟨rfl, hb⟩; refine ⟨_, rfl, ?_⟩; replace aA := A_ (bb (Z2 aA.out) hb); replace HB := A_ (bst (Z3 aB.out) hb); (try clear hb)))
   go_ret
   exact ⟨Z7, Z3 aB.out⟩
  ·rw [if_neg c9] at H
   have cQ := df c9; clear c9; replace H := bS H; obtain ⟨a2, a4, H⟩ := H
   try dsimp only at H
   have cT := A_ a4; clear a4
   by_cases a3 : a2 < 0
   ·rw [if_pos a3] at H
    have a5 := dt a3; clear a3; obtain rfl := Option.some.inj H
    go_enter Try.func13, Try.ntmps13
    go_wp2_with (first | ((with_reducible refine gate_dst (N := 2) rfl ?_); refine be (cs := #[.slice aH aC.length aI, .slice aJ aD.length aK, .slice aL aE.length aM]) (t := 36) ?_; intro aS hg cY hbox hb; have aA := A_ hbox; have aG := A_ (gl hg (bz Z1)); have aB := aG; replace HB := A_ (bst Z1 hb); clear hb hbox hg; obtain ⟨bI, bJ, bK, bL, bM, bN⟩ := C3 aA.out) | ((with_reducible refine gate_callee (f := 36) rfl ?_); refine gL 8 Try.func36 #[.slice aH aC.length aI, .int .i64 a1] ?_; (with_reducible refine (laws_szCellS.calls k _ _ aC a1 aF _ ?s1 aP.out A3.out).mono ?_); (case s1 => exact Z4 aO.out); rintro e cZ ⟨rfl, hb⟩; refine ⟨_, rfl, ?_⟩; replace aA := A_ (bb (Z2 aA.out) hb); replace HB := A_ (bst (Z3 aB.out) hb); (try clear hb); obtain ⟨bO, bP, bQ, bR, bT, bU⟩ := C3 aA.out) | ((with_reducible refine gate_callee (f := 37) rfl ?_); refine gL 14 Try.func37 #[.slice aJ aD.length aK, .int .i64 aF] ?_; (with_reducible refine (laws_szCellSS.calls k _ _ aD aF aN _ ?s1 aR.out A8.out).mono ?_); (case s1 => exact Z4 aQ.out); rintro e dA ⟨rfl, hb⟩; refine ⟨_, rfl, ?_⟩; replace aA := A_ (bb (Z2 aA.out) hb); replace HB := A_ (bst (Z3 aB.out) hb); (try clear hb); obtain ⟨bV, bW, bX, bY, bZ, b0⟩ := C3 aA.out) | ((with_reducible refine gate_callee (f := 37) rfl ?_); refine gL 20 Try.func37 #[.slice aL aE.length aM, .int .i64 aN] ?_; (with_reducible refine (laws_szCellSS.calls k _ _ aE aN a2 _ ?s1 a0.out cT.out).mono ?_); (case s1 => exact Z4 aZ.out); rintro e dB ⟨rfl, hb⟩; refine ⟨_, rfl, ?_⟩; replace aA := A_ (bb (Z2 aA.out) hb); replace HB := A_ (bst (Z3 aB.out) hb); (try clear hb)))
    go_ret
    exact ⟨Z7, Z3 aB.out⟩
   ·rw [if_neg a3] at H
    have a5 := df a3; clear a3; obtain rfl := Option.some.inj H
    go_enter Try.func13, Try.ntmps13
    go_wp2_with (first | ((with_reducible refine gate_dst (N := 2) rfl ?_); refine be (cs := #[.slice aH aC.length aI, .slice aJ aD.length aK, .slice aL aE.length aM]) (t := 36) ?_; intro aS hg dC hbox hb; have aA := A_ hbox; have aG := A_ (gl hg (bz Z1)); have aB := aG; replace HB := A_ (bst Z1 hb); clear hb hbox hg; obtain ⟨b1, b2, b3, b4, b5, b6⟩ := C3 aA.out) | ((with_reducible refine gate_callee (f := 36) rfl ?_); refine gL 8 Try.func36 #[.slice aH aC.length aI, .int .i64 a1] ?_; (with_reducible refine (laws_szCellS.calls k _ _ aC a1 aF _ ?s1 aP.out A3.out).mono ?_); (case s1 => exact Z4 aO.out); rintro e dD ⟨rfl, hb⟩; refine ⟨_, rfl, ?_⟩; replace aA := A_ (bb (Z2 aA.out) hb); replace HB := A_ (bst (Z3 aB.out) hb); (try clear hb); obtain ⟨b7, b8, b9, cA, cB, cC⟩ := C3 aA.out) | ((with_reducible refine gate_callee (f := 37) rfl ?_); refine gL 14 Try.func37 #[.slice aJ aD.length aK, .int .i64 aF] ?_; (with_reducible refine (laws_szCellSS.calls k _ _ aD aF aN _ ?s1 aR.out A8.out).mono ?_); (case s1 => exact Z4 aQ.out); rintro e dE ⟨rfl, hb⟩; refine ⟨_, rfl, ?_⟩; replace aA := A_ (bb (Z2 aA.out) hb); replace HB := A_ (bst (Z3 aB.out) hb); (try clear hb); obtain ⟨cD, cE, cF, cG, cH, cI⟩ := C3 aA.out) | ((with_reducible refine gate_callee (f := 37) rfl ?_); refine gL 20 Try.func37 #[.slice aL aE.length aM, .int .i64 aN] ?_; (with_reducible refine (laws_szCellSS.calls k _ _ aE aN a2 _ ?s1 a0.out cT.out).mono ?_); (case s1 => exact Z4 aZ.out); rintro e dF ⟨rfl, hb⟩; refine ⟨_, rfl, ?_⟩; replace aA := A_ (bb (Z2 aA.out) hb); replace HB := A_ (bst (Z3 aB.out) hb); (try clear hb)))
    go_ret
    exact ⟨Z7, Z3 aB.out⟩
def laws_toSlot.f (aA : Int) (aB : Int) : Option (Int × Int) := some (aA, aB)
theorem laws_toSlot.calls (aN : Int) (aO : Int) (r1 : Int) (r2 : Int) (w : World) (h : laws_toSlot.f aN aO = some (r1, r2)) :
  Calls Try.prog 100 #[.agg #[.int .i64 aN, .int .i64 aO]] w fun e w' => e = .returned (.agg #[.int .i64 r1, .int .i64 r2]) ∧ Below w.heap.size w w' := by
 have a6 := Try.underlying127; have a7 := Try.underlying96; have HB := A_ (Below.refl w.heap.size w); have H := h; unfold laws_toSlot.f at H; clear h; simp only [Option.some.injEq, Prod.mk.injEq] at H; obtain ⟨rfl, rfl⟩ := H
 go_enter Try.func100, Try.ntmps100
 go_wp2_with (first | ((with_reducible refine gate_dst (N := 1) rfl ?_); refine be (cs := #[.int .i64 aN, .int .i64 aO]) (t := 127) ?_; intro aF hg w2 hbox hb; have aA := A_ hbox; have aP := A_ (gl hg (bz Z1)); have aD := aP; replace HB := A_ (bst Z1 hb); clear hb hbox hg) | ((with_reducible refine gate_dst (N := 2) rfl ?_); refine be (cs := #[.int .i64 0, .int .i64 0]) (t := 96) ?_; intro aE hg w3 hbox hb; have aB := A_ hbox; have aQ := A_ (gl hg (bz (Z3 aD.out))); have aM := aQ; replace HB := A_ (bst (Z3 aD.out) hb); have aH := A_ ((by rw [hg]; exact nl (blk_lt (Z2 aA.out)) : aF ≠ aE)); have aI := A_ ((by rw [hg]; exact Nat.ne_of_gt (blk_lt (Z2 aA.out)) : aE ≠ aF)); replace aA := A_ (bb (Z2 aA.out) hb); clear hb hbox hg) | ((with_reducible refine gate_dst (N := 3) rfl ?_); refine be (cs := #[.int .i64 0, .int .i64 0]) (t := 96) ?_; intro aG hg w4 hbox hb; have aR := A_ hbox; have aS := A_ (gl hg (bz (Z5 aD.out aM.out))); have aT := aS; replace HB := A_ (bst (Z5 aD.out aM.out) hb); have aJ := A_ ((by rw [hg]; exact nl (blk_lt (Z2 aA.out)) : aF ≠ aG)); have aK := A_ ((by rw [hg]; exact Nat.ne_of_gt (blk_lt (Z2 aA.out)) : aG ≠ aF)); replace aA := A_ (bb (Z2 aA.out) hb); have aC := A_ ((by rw [hg]; exact nl (blk_lt (Z2 aB.out)) : aE ≠ aG)); have aL := A_ ((by rw [hg]; exact Nat.ne_of_gt (blk_lt (Z2 aB.out)) : aG ≠ aE)); replace aB := A_ (bb (Z2 aB.out) hb); clear hb hbox hg; have a8 := aH.out; have a9 := aI.out; have bA := aJ.out; have bB := aK.out; obtain ⟨aY, aZ, a0, a1⟩ := C2 aA.out; have bC := aL.out; have bD := aC.out; obtain ⟨a2, a3, a4, a5⟩ := C2 aR.out; obtain ⟨aU, aV, aW, aX⟩ := C2 aB.out))
 refine bodyPost_ret (results_cell_row rfl _ _ aE 96 #[.int .i64 aN, .int .i64 aO] (0, 0) _ rfl (bp1 aB.out aC.out) Try.underlying96 rfl (by kernel_rfl)) rfl ?_
 exact ⟨Z7, by repeat (first | (with_reducible first | exact HB.out | apply below_alloc | apply pw_below_drewN | apply below_drew1 | refine below_set ?_ aD.out | refine below_set ?_ aM.out | refine below_set ?_ aT.out) | exact HB.out)⟩
def laws_toSlotS.l0 : Nat → List (S127) → List (S96) → Int → Option ((List (S96)))
 | 0, _, _, _ => none
 | k + 1, x0, x3, x4 => if x4 < (x0.length : Int) then (if 0 ≤ x4 then ((laws_toSlot.f ((rd_T127 x0 x4).f0) ((rd_T127 x0 x4).f1)).bind fun aA => (if x4 < (x3.length : Int) then (laws_toSlotS.l0 k x0 (x3.set (x4 : Int).toNat (⟨aA.1, aA.2⟩ : S96)) (wrap64 (x4 + 1))) else (none))) else (none)) else (some x3)
def laws_toSlotS.f (k : Nat) (l0 : List (S127)) : Option ((List (S96))) := if 0 ≤ (l0.length : Int) then (if ((l0.length : Int) : Int).toNat ≤ 17592186044416 then (laws_toSlotS.l0 k l0 (List.replicate ((l0.length : Int) : Int).toNat z96) 0) else (none)) else (none)
theorem laws_toSlotS.calls (k : Nat) (A0 : Option Addr) (c0 : Nat) (l0 : List (S127)) (r : List (S96)) (w : World) (bR : Kd.C k127 w A0 l0.length l0) (hc0 : l0.length ≤ c0) (h : laws_toSlotS.f k l0 = some r) :
  Calls Try.prog 85 #[.slice A0 l0.length c0] w fun e w' => ∃ bT : Value, e = .returned (bT) ∧ Kd.R k96 96 w' w.heap.size (fun _ => True) bT r ∧ Below w.heap.size w w' := by
 have bU := Try.underlying127; have bY := Try.underlying96; have bZ := A_ bR; have b6 := A_ hc0; clear bR hc0; have HB := A_ (Below.refl w.heap.size w); have H := h; unfold laws_toSlotS.f at H; clear h
 by_cases c2 : 0 ≤ (l0.length : Int)
 ·rw [if_pos c2] at H
  have bB := eq_true c2; have bC := dt c2; clear c2
  by_cases c3 : ((l0.length : Int) : Int).toNat ≤ 17592186044416
  ·rw [if_pos c3] at H
   have bD := eq_true c3; have bE := dt c3; clear c3; obtain ⟨bF, aE⟩ : ∃ y_ : List (S96), y_ = (List.replicate ((l0.length : Int) : Int).toNat z96) := ⟨_, rfl⟩
   first | rw [← aE, Option.bind_some] at H | rw [← aE] at H
   have aO := A_ aE; clear aE; have H' := A_ H; clear H
   go_enter Try.func85, Try.ntmps85
   go_wp2_with (first | ((with_reducible refine gate_dst (N := 7) rfl ?_); refine Kd.R_make k96 _ 96 rfl (N := 7) rfl 67 _ _ rfl (l0.length : Int) rfl rfl Try.underlying67 (.agg #[(.int .i64 0), (.int .i64 0)]) 16 info96 rfl (by decide) (by omega) z96 (ok := fun _ => True) (okp := fun _ => True) (k96_mkM _ _ _ z96 ) (fun _ hk => hk) trivial (odt) (Nat.le_trans (Nat.mul_le_mul_right _ (odt : (l0.length : Int).toNat ≤ 17592186044416)) (by omega)) (Below.refl _ _) (Nat.le_refl _) ?_; intro bG w4 aY hb hg_ hnew_; clear hg_ hnew_; (first | rw [← aO.out] at aY | (simp only [Int.reduceToNat] at aY; rw [← aO.out] at aY)); have aZ := A_ (Kd.R_lower aY (bz Z1)); replace HB := A_ (bst Z1 hb); clear hb aY))
   go_loopg [4] k (fun kq v4 w' => ∃ (aB : List (S96)) (aA : Int), v4 = .int .i64 aA ∧ Aside0 (laws_toSlotS.l0 kq l0 aB aA = some r) ∧ Aside0 (kq ≤ k) ∧ Aside0 (Kd.R k96 96 w' w.heap.size (fun _ => True) bG aB) ∧ Aside0 (Below w.heap.size w w'))
   case atStart => exact ⟨(bF), (0), Z17, H', ⟨Nat.le_refl _⟩, ⟨Z9 aZ.out⟩, ⟨Z1⟩⟩
   case round =>
    clear H'; try clear c2
    try clear bB
    try clear bC
    try clear c3
    try clear bD
    try clear bE
    obtain ⟨aB, aA, rfl, HA, bV, aC, HB⟩ := hrel
    cases gk with
    | zero => exact absurd HA.out (by simp [laws_toSlotS.l0])
    | succ k1 =>
     have H := HA.out; clear HA; simp only [laws_toSlotS.l0] at H
     by_cases c6 : aA < (l0.length : Int)
     ·rw [if_pos c6] at H
      have bH := dt c6; clear c6
      by_cases c7 : 0 ≤ aA
      ·rw [if_pos c7] at H
       have b0 := dt c7; clear c7; replace H := bS H; obtain ⟨⟨aJ, aK⟩, bW, H⟩ := H
       try dsimp only at H
       have A8 := A_ bW; clear bW
       by_cases c9 : aA < (aB.length : Int)
       ·rw [if_pos c9] at H
        have b1 := dt c9; clear c9; obtain ⟨a0, aF⟩ : ∃ y_ : List (S96), y_ = (aB.set (aA : Int).toNat (⟨aJ, aK⟩ : S96)) := ⟨_, rfl⟩
        first | rw [← aF, Option.bind_some] at H | rw [← aF] at H
        have a1 := A_ aF; clear aF; have H' := A_ H; clear H; have aQ : 0 ≤ (aA : Int) := odt; have aR : aA < (l0.length : Int) := odt; obtain ⟨bX, bI, aG, aH⟩ := at_T127 bZ.out aA aQ aR; cases bI; replace aG := ZC HB.out aG; replace aH := ZC HB.out aH; replace aQ := eq_true aQ; replace aR := eq_true aR
        go_wp2_with (first | ((with_reducible refine gate_callee (f := 100) rfl ?_); refine gL 20 Try.func100 #[.agg #[.int .i64 ((rd_T127 l0 aA).f0), .int .i64 ((rd_T127 l0 aA).f1)]] ?_; (with_reducible refine (laws_toSlot.calls ((rd_T127 l0 aA).f0) ((rd_T127 l0 aA).f1) aJ aK _ A8.out).mono ?_); rintro e aS ⟨rfl, hb⟩; refine ⟨_, rfl, ?_⟩; replace aC := A_ (Rbl (Z9 aC.out) hb); replace HB := A_ (bst Z1 hb); (try clear hb); have bJ : 0 ≤ (aA : Int) := odt; have bK : (aA : Int) < ((aB.length : Int) : Int) := odt; obtain ⟨aD, a2, a3, a4, bL, b2, a5⟩ := Kd.R_form aC.out (by omega); (first | cases a3 | (injection a3 with ea_ en_ ec_; (first | subst ea_ | (injection ea_ with ea_; subst ea_)); subst ec_; clear en_)); have a6 := A_ a4; have b3 := A_ a5; clear a4 bL a5; obtain ⟨b4, a7, a8, aL, aM⟩ := Kd.R_elem aC.out z96 (aA : Int) bJ bK; obtain rfl := k96_openM a8; have bM : aS.cell? ⟨aD, (aA : Int).toNat * 2, none⟩ = some (.int .i64 ((rd_T96 aB aA).f0)) := aL 0 _ rfl; have bN : aS.cell? ⟨aD, (aA : Int).toNat * 2 + 1, none⟩ = some (.int .i64 ((rd_T96 aB aA).f1)) := aL 1 _ rfl; have bO : aS.frozen? ⟨aD, (aA : Int).toNat * 2, none⟩ = false := aM 0; have bP : aS.frozen? ⟨aD, (aA : Int).toNat * 2 + 1, none⟩ = false := aM 1; (try clear a8); clear a7 aL aM; replace bJ := eq_true bJ; replace bK := eq_true bK; have a9 := A_ (show Kd.R k96 96 aS w.heap.size (fun _ => True) (.slice (some ⟨aD, 0, none⟩) aB.length a2) aB from (Z9 aC.out)); obtain ⟨b5, aP, bA, aI, aN⟩ := Kd.R_elem a9.out z96 (aA : Int) (odt) (by have h_ : (aA : Int) < ((aB.length : Int) : Int) := odt; first | exact h_ | (have e_ := (Kd.R_reads' aC.out).1; omega) | simpa using h_); obtain rfl := k96_openM bA; have aT := Kd.R_seg a9.out (aA : Int) (odt) (by have h_ : (aA : Int) < ((aB.length : Int) : Int) := odt; first | exact h_ | (have e_ := (Kd.R_reads' aC.out).1; omega) | simpa using h_) (seg := [.int .i64 aJ, .int .i64 aK]) (j := 0) aP aI (show 2 ≤ 2 from by decide) (x' := (⟨aJ, aK⟩ : S96)) (k96_mkM _ _ _ (⟨aJ, aK⟩ : S96) ) (fun _ hk => hk); have aU := aI 0 _ rfl; (try simp only [show (k96).sz = 2 from rfl, Nat.mul_one, Nat.add_zero] at aU); have aV := aN 0; (try simp only [show (k96).sz = 2 from rfl, Nat.mul_one, Nat.add_zero] at aV); have aW := aI 1 _ rfl; (try simp only [show (k96).sz = 2 from rfl, Nat.mul_one, Nat.add_zero] at aW); have aX := aN 1; (try simp only [show (k96).sz = 2 from rfl, Nat.mul_one, Nat.add_zero] at aX); (try clear bA); clear aP aI aN) | ((with_reducible refine gate_store (t := 96) (p := 21) rfl ?_); refine store_event (t := 96) (p := 21) (v := ?vo_w13) (w1 := ((aS.setCell ⟨aD, (aA : Int).toNat * 2, none⟩ (.int .i64 aJ)).setCell ⟨aD, (aA : Int).toNat * 2 + 1, none⟩ (.int .i64 aK))) ?hg ?ho ?hn ?hr ?_; (case ho => rfl); (case hg => rfl); (case hn => rfl); (case hr => exact Z36); intro bQ hw; have hg : aS.grownBy bQ (some aD) := (by rw [hw]; exact aT.2); have hp_ : Kd.R k96 96 bQ w.heap.size (fun _ => True) (.slice (some ⟨aD, 0, none⟩) aB.length a2) a0 := (by rw [hw, a1.out]; exact aT.1); clear aT; replace aC := A_ hp_; replace HB := A_ ((by rw [hw]; exact below_set (below_set (HB.out) a6.out) a6.out : Below w.heap.size w bQ)); clear hg hw hp_))
        go_roundg k1
        case measure => have := bV.out; omega
        case rel => exact ⟨(a0), (wrap64 (aA + 1)), Z17, H', ⟨by have := bV.out; omega⟩, ⟨Z9 aC.out⟩, ⟨Z1⟩⟩
       ·rw [if_neg c9] at H
        exact absurd H (by simp)
      ·rw [if_neg c7] at H
       exact absurd H (by simp)
     ·rw [if_neg c6] at H
      have bH := df c6; clear c6; obtain rfl := Option.some.inj H
      go_wp2
      go_ret
      exact ⟨_, Z7, Z9 aC.out, Z1⟩
  ·exact Z51
 ·rw [if_neg c2] at H
  exact absurd H (by simp)
def laws_toValue.f (aA : Int) (aB : Int) (aC : ByteArray) : Option (Int × Int × ByteArray) := some (aA, aB, aC)
theorem laws_toValue.calls (aN : Int) (aO : Int) (aP : ByteArray) (r1 : Int) (r2 : Int) (r3 : ByteArray) (w : World) (h : laws_toValue.f aN aO aP = some (r1, r2, r3)) :
  Calls Try.prog 101 #[.agg #[.int .i64 aN, .int .i64 aO, .string aP]] w fun e w' => e = .returned (.agg #[.int .i64 r1, .int .i64 r2, .string r3]) ∧ Below w.heap.size w w' := by
 have bD := Try.underlying125; have bE := Try.underlying98; have HB := A_ (Below.refl w.heap.size w); have H := h; unfold laws_toValue.f at H; clear h; simp only [Option.some.injEq, Prod.mk.injEq] at H; obtain ⟨rfl, rfl, rfl⟩ := H
 go_enter Try.func101, Try.ntmps101
 go_wp2_with (first | ((with_reducible refine gate_dst (N := 1) rfl ?_); refine be (cs := #[.int .i64 aN, .int .i64 aO, .string aP]) (t := 125) ?_; intro aF hg w2 hbox hb; have aA := A_ hbox; have aQ := A_ (gl hg (bz Z1)); have aD := aQ; replace HB := A_ (bst Z1 hb); clear hb hbox hg) | ((with_reducible refine gate_dst (N := 2) rfl ?_); refine be (cs := #[.int .i64 0, .int .i64 0, .string (⟨#[]⟩ : ByteArray)]) (t := 98) ?_; intro aE hg w3 hbox hb; have aB := A_ hbox; have aR := A_ (gl hg (bz (Z3 aD.out))); have aM := aR; replace HB := A_ (bst (Z3 aD.out) hb); have aH := A_ ((by rw [hg]; exact nl (blk_lt (Z2 aA.out)) : aF ≠ aE)); have aI := A_ ((by rw [hg]; exact Nat.ne_of_gt (blk_lt (Z2 aA.out)) : aE ≠ aF)); replace aA := A_ (bb (Z2 aA.out) hb); clear hb hbox hg) | ((with_reducible refine gate_dst (N := 3) rfl ?_); refine be (cs := #[.int .i64 0, .int .i64 0, .string (⟨#[]⟩ : ByteArray)]) (t := 98) ?_; intro aG hg w4 hbox hb; have aS := A_ hbox; have aT := A_ (gl hg (bz (Z5 aD.out aM.out))); have aU := aT; replace HB := A_ (bst (Z5 aD.out aM.out) hb); have aJ := A_ ((by rw [hg]; exact nl (blk_lt (Z2 aA.out)) : aF ≠ aG)); have aK := A_ ((by rw [hg]; exact Nat.ne_of_gt (blk_lt (Z2 aA.out)) : aG ≠ aF)); replace aA := A_ (bb (Z2 aA.out) hb); have aC := A_ ((by rw [hg]; exact nl (blk_lt (Z2 aB.out)) : aE ≠ aG)); have aL := A_ ((by rw [hg]; exact Nat.ne_of_gt (blk_lt (Z2 aB.out)) : aG ≠ aE)); replace aB := A_ (bb (Z2 aB.out) hb); clear hb hbox hg; have bF := aH.out; have bG := aI.out; have bH := aJ.out; have bI := aK.out; obtain ⟨a1, a2, a3, a4, a5, a6⟩ := C3 aA.out; have bJ := aL.out; have bK := aC.out; obtain ⟨a7, a8, a9, bA, bB, bC⟩ := C3 aS.out; obtain ⟨aV, aW, aX, aY, aZ, a0⟩ := C3 aB.out))
 refine bodyPost_ret (results_cell_row rfl _ _ aE 98 #[.int .i64 aN, .int .i64 aO, .string aP] (0, 0) _ rfl (bp1 aB.out aC.out) Try.underlying98 rfl (by kernel_rfl)) rfl ?_
 exact ⟨Z7, by repeat (first | (with_reducible first | exact HB.out | apply below_alloc | apply pw_below_drewN | apply below_drew1 | refine below_set ?_ aD.out | refine below_set ?_ aM.out | refine below_set ?_ aU.out) | exact HB.out)⟩
def laws_toValueS.l0 : Nat → List (S125) → List (S98) → Int → Option ((List (S98)))
 | 0, _, _, _ => none
 | k + 1, x0, x3, x4 => if x4 < (x0.length : Int) then (if 0 ≤ x4 then ((laws_toValue.f ((rd_T125 x0 x4).f0) ((rd_T125 x0 x4).f1) ((rd_T125 x0 x4).f2)).bind fun aA => (if x4 < (x3.length : Int) then (laws_toValueS.l0 k x0 (x3.set (x4 : Int).toNat (⟨aA.1, aA.2.1, aA.2.2⟩ : S98)) (wrap64 (x4 + 1))) else (none))) else (none)) else (some x3)
def laws_toValueS.f (k : Nat) (l0 : List (S125)) : Option ((List (S98))) := if 0 ≤ (l0.length : Int) then (if ((l0.length : Int) : Int).toNat ≤ 8796093022208 then (laws_toValueS.l0 k l0 (List.replicate ((l0.length : Int) : Int).toNat z98) 0) else (none)) else (none)
theorem laws_toValueS.calls (k : Nat) (A0 : Option Addr) (c0 : Nat) (l0 : List (S125)) (r : List (S98)) (w : World) (bY : Kd.C k125 w A0 l0.length l0) (hc0 : l0.length ≤ c0) (h : laws_toValueS.f k l0 = some r) :
  Calls Try.prog 86 #[.slice A0 l0.length c0] w fun e w' => ∃ bZ : Value, e = .returned (bZ) ∧ Kd.R k98 98 w' w.heap.size (fun _ => True) bZ r ∧ Below w.heap.size w w' := by
 have b0 := Try.underlying125; have b4 := Try.underlying98; have b5 := A_ bY; have cC := A_ hc0; clear bY hc0; have HB := A_ (Below.refl w.heap.size w); have H := h; unfold laws_toValueS.f at H; clear h
 by_cases c2 : 0 ≤ (l0.length : Int)
 ·rw [if_pos c2] at H
  have bF := eq_true c2; have bG := dt c2; clear c2
  by_cases c3 : ((l0.length : Int) : Int).toNat ≤ 8796093022208
  ·rw [if_pos c3] at H
   have bH := eq_true c3; have bI := dt c3; clear c3; obtain ⟨bJ, aF⟩ : ∃ y_ : List (S98), y_ = (List.replicate ((l0.length : Int) : Int).toNat z98) := ⟨_, rfl⟩
   first | rw [← aF, Option.bind_some] at H | rw [← aF] at H
   have aR := A_ aF; clear aF; have H' := A_ H; clear H
   go_enter Try.func86, Try.ntmps86
   go_wp2_with (first | ((with_reducible refine gate_dst (N := 7) rfl ?_); refine Kd.R_make k98 _ 98 rfl (N := 7) rfl 69 _ _ rfl (l0.length : Int) rfl rfl Try.underlying69 (.agg #[(.int .i64 0), (.int .i64 0), (.string ⟨#[]⟩)]) 32 info98 rfl (by decide) (by omega) z98 (ok := fun _ => True) (okp := fun _ => True) (k98_mkM _ _ _ z98 ) (fun _ hk => hk) trivial (odt) (Nat.le_trans (Nat.mul_le_mul_right _ (odt : (l0.length : Int).toNat ≤ 8796093022208)) (by omega)) (Below.refl _ _) (Nat.le_refl _) ?_; intro bK w4 a3 hb hg_ hnew_; clear hg_ hnew_; (first | rw [← aR.out] at a3 | (simp only [Int.reduceToNat] at a3; rw [← aR.out] at a3)); have a4 := A_ (Kd.R_lower a3 (bz Z1)); replace HB := A_ (bst Z1 hb); clear hb a3))
   go_loopg [4] k (fun kq v4 w' => ∃ (aB : List (S98)) (aA : Int), v4 = .int .i64 aA ∧ Aside0 (laws_toValueS.l0 kq l0 aB aA = some r) ∧ Aside0 (kq ≤ k) ∧ Aside0 (Kd.R k98 98 w' w.heap.size (fun _ => True) bK aB) ∧ Aside0 (Below w.heap.size w w'))
   case atStart => exact ⟨(bJ), (0), Z17, H', ⟨Nat.le_refl _⟩, ⟨Z9 a4.out⟩, ⟨Z1⟩⟩
   case round =>
    clear H'; try clear c2
    try clear bF
    try clear bG
    try clear c3
    try clear bH
    try clear bI
    obtain ⟨aB, aA, rfl, HA, b1, aD, HB⟩ := hrel
    cases gk with
    | zero => exact absurd HA.out (by simp [laws_toValueS.l0])
    | succ k1 =>
     have H := HA.out; clear HA; simp only [laws_toValueS.l0] at H
     by_cases c6 : aA < (l0.length : Int)
     ·rw [if_pos c6] at H
      have bL := dt c6; clear c6
      by_cases c7 : 0 ≤ aA
      ·rw [if_pos c7] at H
       have b6 := dt c7; clear c7; replace H := bS H; obtain ⟨⟨aN, aO, aP⟩, b2, H⟩ := H
       try dsimp only at H
       have A8 := A_ b2; clear b2
       by_cases c9 : aA < (aB.length : Int)
       ·rw [if_pos c9] at H
        have b7 := dt c9; clear c9; obtain ⟨a5, aG⟩ : ∃ y_ : List (S98), y_ = (aB.set (aA : Int).toNat (⟨aN, aO, aP⟩ : S98)) := ⟨_, rfl⟩
        first | rw [← aG, Option.bind_some] at H | rw [← aG] at H
        have a6 := A_ aG; clear aG; have H' := A_ H; clear H; have aT : 0 ≤ (aA : Int) := odt; have aU : aA < (l0.length : Int) := odt; obtain ⟨b3, bM, aH, aI, aJ⟩ := at_T125 b5.out aA aT aU; cases bM; replace aH := ZC HB.out aH; replace aI := ZC HB.out aI; replace aJ := ZC HB.out aJ; replace aT := eq_true aT; replace aU := eq_true aU
        go_wp2_with (first | ((with_reducible refine gate_callee (f := 101) rfl ?_); refine gL 20 Try.func101 #[.agg #[.int .i64 ((rd_T125 l0 aA).f0), .int .i64 ((rd_T125 l0 aA).f1), .string ((rd_T125 l0 aA).f2)]] ?_; (with_reducible refine (laws_toValue.calls ((rd_T125 l0 aA).f0) ((rd_T125 l0 aA).f1) ((rd_T125 l0 aA).f2) aN aO aP _ A8.out).mono ?_); rintro e aQ ⟨rfl, hb⟩; refine ⟨_, rfl, ?_⟩; replace aD := A_ (Rbl (Z9 aD.out) hb); replace HB := A_ (bst Z1 hb); (try clear hb); have bN : 0 ≤ (aA : Int) := odt; have bO : (aA : Int) < ((aB.length : Int) : Int) := odt; obtain ⟨aC, a7, a8, a9, bP, b8, bA⟩ := Kd.R_form aD.out (by omega); (first | cases a8 | (injection a8 with ea_ en_ ec_; (first | subst ea_ | (injection ea_ with ea_; subst ea_)); subst ec_; clear en_)); have aV := A_ a9; have b9 := A_ bA; clear a9 bP bA; obtain ⟨cA, bB, bC, aK, aL⟩ := Kd.R_elem aD.out z98 (aA : Int) bN bO; obtain rfl := k98_openM bC; have bQ : aQ.cell? ⟨aC, (aA : Int).toNat * 3, none⟩ = some (.int .i64 ((rd_T98 aB aA).f0)) := aK 0 _ rfl; have bR : aQ.cell? ⟨aC, (aA : Int).toNat * 3 + 1, none⟩ = some (.int .i64 ((rd_T98 aB aA).f1)) := aK 1 _ rfl; have bT : aQ.cell? ⟨aC, (aA : Int).toNat * 3 + 2, none⟩ = some (.string ((rd_T98 aB aA).f2)) := aK 2 _ rfl; have bU : aQ.frozen? ⟨aC, (aA : Int).toNat * 3, none⟩ = false := aL 0; have bV : aQ.frozen? ⟨aC, (aA : Int).toNat * 3 + 1, none⟩ = false := aL 1; have bW : aQ.frozen? ⟨aC, (aA : Int).toNat * 3 + 2, none⟩ = false := aL 2; (try clear bC); clear bB aK aL; replace bN := eq_true bN; replace bO := eq_true bO; have bD := A_ (show Kd.R k98 98 aQ w.heap.size (fun _ => True) (.slice (some ⟨aC, 0, none⟩) aB.length a7) aB from (Z9 aD.out)); obtain ⟨cB, aS, bE, aE, aM⟩ := Kd.R_elem bD.out z98 (aA : Int) (odt) (by have h_ : (aA : Int) < ((aB.length : Int) : Int) := odt; first | exact h_ | (have e_ := (Kd.R_reads' aD.out).1; omega) | simpa using h_); obtain rfl := k98_openM bE; have aW := Kd.R_seg bD.out (aA : Int) (odt) (by have h_ : (aA : Int) < ((aB.length : Int) : Int) := odt; first | exact h_ | (have e_ := (Kd.R_reads' aD.out).1; omega) | simpa using h_) (seg := [.int .i64 aN, .int .i64 aO, .string aP]) (j := 0) aS aE (show 3 ≤ 3 from by decide) (x' := (⟨aN, aO, aP⟩ : S98)) (k98_mkM _ _ _ (⟨aN, aO, aP⟩ : S98) ) (fun _ hk => hk); have aX := aE 0 _ rfl; (try simp only [show (k98).sz = 3 from rfl, Nat.mul_one, Nat.add_zero] at aX); have aY := aM 0; (try simp only [show (k98).sz = 3 from rfl, Nat.mul_one, Nat.add_zero] at aY); have aZ := aE 1 _ rfl; (try simp only [show (k98).sz = 3 from rfl, Nat.mul_one, Nat.add_zero] at aZ); have a0 := aM 1; (try simp only [show (k98).sz = 3 from rfl, Nat.mul_one, Nat.add_zero] at a0); have a1 := aE 2 _ rfl; (try simp only [show (k98).sz = 3 from rfl, Nat.mul_one, Nat.add_zero] at a1); have a2 := aM 2; (try simp only [show (k98).sz = 3 from rfl, Nat.mul_one, Nat.add_zero] at a2); (try clear bE); clear aS aE aM) | ((with_reducible refine gate_store (t := 98) (p := 21) rfl ?_); refine store_event (t := 98) (p := 21) (v := ?vo_w13) (w1 := (((aQ.setCell ⟨aC, (aA : Int).toNat * 3, none⟩ (.int .i64 aN)).setCell ⟨aC, (aA : Int).toNat * 3 + 1, none⟩ (.int .i64 aO)).setCell ⟨aC, (aA : Int).toNat * 3 + 2, none⟩ (.string aP))) ?hg ?ho ?hn ?hr ?_; (case ho => rfl); (case hg => rfl); (case hn => rfl); (case hr => exact Z36); intro bX hw; have hg : aQ.grownBy bX (some aC) := (by rw [hw]; exact aW.2); have hp_ : Kd.R k98 98 bX w.heap.size (fun _ => True) (.slice (some ⟨aC, 0, none⟩) aB.length a7) a5 := (by rw [hw, a6.out]; exact aW.1); clear aW; replace aD := A_ hp_; replace HB := A_ ((by rw [hw]; exact below_set (below_set (below_set (HB.out) aV.out) aV.out) aV.out : Below w.heap.size w bX)); clear hg hw hp_))
        go_roundg k1
        case measure => have := b1.out; omega
        case rel => exact ⟨(a5), (wrap64 (aA + 1)), Z17, H', ⟨by have := b1.out; omega⟩, ⟨Z9 aD.out⟩, ⟨Z1⟩⟩
       ·rw [if_neg c9] at H
        exact absurd H (by simp)
      ·rw [if_neg c7] at H
       exact absurd H (by simp)
     ·rw [if_neg c6] at H
      have bL := df c6; clear c6; obtain rfl := Option.some.inj H
      go_wp2
      go_ret
      exact ⟨_, Z7, Z9 aD.out, Z1⟩
  ·exact Z51
 ·rw [if_neg c2] at H
  exact absurd H (by simp)
end Go.Proofs.Ytgbbcebjgpoioaa.PFnExactHistUndo
