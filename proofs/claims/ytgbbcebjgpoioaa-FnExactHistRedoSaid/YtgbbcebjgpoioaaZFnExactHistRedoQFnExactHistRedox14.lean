/- Walks (lines of the print; no condition). -/
import Derived.Test.YtgbbcebjgpoioaaZFnExactHistRedoQFnExactHistRedox13
namespace Go.Proofs.Ytgbbcebjgpoioaa.PFnExactHistRedo
open Go.RowKit Go.Proofs.YtgbbcebjgpoioaaW.PrintWords Go.Proofs.YtgbbcebjgpoioaaW.PrintLast Go.Proofs.YtgbbcebjgpoioaaW.PrintMore
attribute [local go_sem] max2_int min2_int max_two min_two max_three min_three max_four min_four
set_option linter.unusedVariables false
set_option linter.unusedSimpArgs false
set_option maxHeartbeats 8000000
set_option maxRecDepth 100000
def laws_eqCell.f (k : Nat) (aA : List (S96)) (aB : List (S98)) (aC : List (S96)) (aD : List (S98)) : Option (Bool) := (laws_eqSlotS.f k aA aC).bind fun aE => (if aE = true then ((laws_eqValueS.f k aB aD).bind fun aF => (if aF = true then (some true) else (some false))) else (some false))
theorem laws_eqCell.calls (k : Nat) (aM : Option Addr) (aN : Nat) (aG : List (S96)) (aS : Option Addr) (aT : Nat) (aK : List (S98)) (aO : Option Addr) (aP : Nat) (aH : List (S96)) (aU : Option Addr) (aV : Nat) (aL : List (S98)) (r : Bool) (w : World) (a0 : Kd.C k96 w aM aG.length aG) (a1 : aG.length ≤ aN) (a2 : Kd.C k98 w aS aK.length aK) (a3 : aK.length ≤ aT) (a4 : Kd.C k96 w aO aH.length aH) (a5 : aH.length ≤ aP) (a6 : Kd.C k98 w aU aL.length aL) (a7 : aL.length ≤ aV) (h : laws_eqCell.f k aG aK aH aL = some r) :
  Calls Try.prog 66 #[.agg #[.slice aM aG.length aN, .slice aS aK.length aT], .agg #[.slice aO aH.length aP, .slice aU aL.length aV]] w fun e w' => e = .returned (.bool r) ∧ Below w.heap.size w w' := by
 have cP := Try.underlying72; have aW := A_ a0; have aX := A_ a1; clear a0 a1; have a8 := A_ a2; have a9 := A_ a3; clear a2 a3; have aY := A_ a4; have aZ := A_ a5; clear a4 a5; have bA := A_ a6; have bB := A_ a7; clear a6 a7; have HB := A_ (Below.refl w.heap.size w); have H := h; unfold laws_eqCell.f at H; clear h; replace H := bS H; obtain ⟨cH, cJ, H⟩ := H
 try dsimp only at H
 have A3 := A_ cJ; clear cJ
 by_cases c4 : cH = true
 ·subst c4
  rw [if_pos rfl] at H; replace H := bS H; obtain ⟨cI, cK, H⟩ := H
  try dsimp only at H
  have A5 := A_ cK; clear cK
  by_cases c6 : cI = true
  ·subst c6
   rw [if_pos rfl] at H; obtain rfl := Option.some.inj H
   go_enter Try.func66, Try.ntmps66
   go_wp2_with (first | ((with_reducible refine gate_dst (N := 2) rfl ?_); refine be (cs := #[.slice aM aG.length aN, .slice aS aK.length aT]) (t := 72) ?_; intro aI hg w7 hbox hb; have aA := A_ hbox; have aQ := A_ (gl hg (bz Z1)); have aC := aQ; replace HB := A_ (bst Z1 hb); clear hb hbox hg) | ((with_reducible refine gate_dst (N := 3) rfl ?_); refine be (cs := #[.slice aO aH.length aP, .slice aU aL.length aV]) (t := 72) ?_; intro aJ hg w8 hbox hb; have aB := A_ hbox; have aR := A_ (gl hg (bz (Z3 aC.out))); have aF := aR; replace HB := A_ (bst (Z3 aC.out) hb); have aD := A_ ((by rw [hg]; exact nl (blk_lt (Z2 aA.out)) : aI ≠ aJ)); have aE := A_ ((by rw [hg]; exact Nat.ne_of_gt (blk_lt (Z2 aA.out)) : aJ ≠ aI)); replace aA := A_ (bb (Z2 aA.out) hb); clear hb hbox hg; have cQ := aD.out; have cR := aE.out; obtain ⟨bC, bD, bE, bF⟩ := C2 aA.out; obtain ⟨bG, bH, bI, bJ⟩ := C2 aB.out) | ((with_reducible refine gate_callee (f := 87) rfl ?_); refine gL 9 Try.func87 #[.slice aM aG.length aN, .slice aO aH.length aP] ?_; (with_reducible refine (laws_eqSlotS.calls k _ _ aG _ _ aH true _ ?s1 aX.out ?s3 aZ.out A3.out).mono ?_); (case s1 => exact Z4 aW.out); (case s3 => exact Z4 aY.out); rintro e cS ⟨rfl, hb⟩; refine ⟨_, rfl, ?_⟩; replace aA := A_ (bb (Z2 aA.out) hb); replace aB := A_ (bb (Z2 aB.out) hb); replace HB := A_ (bst (Z5 aC.out aF.out) hb); (try clear hb); obtain ⟨bK, bL, bM, bN⟩ := C2 aA.out; obtain ⟨bO, bP, bQ, bR⟩ := C2 aB.out) | ((with_reducible refine gate_callee (f := 88) rfl ?_); refine gL 15 Try.func88 #[.slice aS aK.length aT, .slice aU aL.length aV] ?_; (with_reducible refine (laws_eqValueS.calls k _ _ aK _ _ aL true _ ?s1 a9.out ?s3 bB.out A5.out).mono ?_); (case s1 => exact Z4 a8.out); (case s3 => exact Z4 bA.out); rintro e cT ⟨rfl, hb⟩; refine ⟨_, rfl, ?_⟩; replace aA := A_ (bb (Z2 aA.out) hb); replace aB := A_ (bb (Z2 aB.out) hb); replace HB := A_ (bst (Z5 aC.out aF.out) hb); (try clear hb)))
   go_ret
   exact ⟨Z7, Z5 aC.out aF.out⟩
  ·replace c6 := Bool.eq_false_iff.mpr c6
   subst c6; rw [if_neg (show ¬ (false = true) by decide)] at H; obtain rfl := Option.some.inj H
   go_enter Try.func66, Try.ntmps66
   go_wp2_with (first | ((with_reducible refine gate_dst (N := 2) rfl ?_); refine be (cs := #[.slice aM aG.length aN, .slice aS aK.length aT]) (t := 72) ?_; intro aI hg cU hbox hb; have aA := A_ hbox; have aQ := A_ (gl hg (bz Z1)); have aC := aQ; replace HB := A_ (bst Z1 hb); clear hb hbox hg) | ((with_reducible refine gate_dst (N := 3) rfl ?_); refine be (cs := #[.slice aO aH.length aP, .slice aU aL.length aV]) (t := 72) ?_; intro aJ hg cV hbox hb; have aB := A_ hbox; have aR := A_ (gl hg (bz (Z3 aC.out))); have aF := aR; replace HB := A_ (bst (Z3 aC.out) hb); have aD := A_ ((by rw [hg]; exact nl (blk_lt (Z2 aA.out)) : aI ≠ aJ)); have aE := A_ ((by rw [hg]; exact Nat.ne_of_gt (blk_lt (Z2 aA.out)) : aJ ≠ aI)); replace aA := A_ (bb (Z2 aA.out) hb); clear hb hbox hg; have cL := aD.out; have cM := aE.out; obtain ⟨bT, bU, bV, bW⟩ := C2 aA.out; obtain ⟨bX, bY, bZ, b0⟩ := C2 aB.out) | ((with_reducible refine gate_callee (f := 87) rfl ?_); refine gL 9 Try.func87 #[.slice aM aG.length aN, .slice aO aH.length aP] ?_; (with_reducible refine (laws_eqSlotS.calls k _ _ aG _ _ aH true _ ?s1 aX.out ?s3 aZ.out A3.out).mono ?_); (case s1 => exact Z4 aW.out); (case s3 => exact Z4 aY.out); rintro e cW ⟨rfl, hb⟩; refine ⟨_, rfl, ?_⟩; replace aA := A_ (bb (Z2 aA.out) hb); replace aB := A_ (bb (Z2 aB.out) hb); replace HB := A_ (bst (Z5 aC.out aF.out) hb); (try clear hb); obtain ⟨b1, b2, b3, b4⟩ := C2 aA.out; obtain ⟨b5, b6, b7, b8⟩ := C2 aB.out) | ((with_reducible refine gate_callee (f := 88) rfl ?_); refine gL 15 Try.func88 #[.slice aS aK.length aT, .slice aU aL.length aV] ?_; (with_reducible refine (laws_eqValueS.calls k _ _ aK _ _ aL false _ ?s1 a9.out ?s3 bB.out A5.out).mono ?_); (case s1 => exact Z4 a8.out); (case s3 => exact Z4 bA.out); rintro e cX ⟨rfl, hb⟩; refine ⟨_, rfl, ?_⟩; replace aA := A_ (bb (Z2 aA.out) hb); replace aB := A_ (bb (Z2 aB.out) hb); replace HB := A_ (bst (Z5 aC.out aF.out) hb); (try clear hb)))
   go_ret
   exact ⟨Z7, Z5 aC.out aF.out⟩
 ·replace c4 := Bool.eq_false_iff.mpr c4
  subst c4; rw [if_neg (show ¬ (false = true) by decide)] at H; obtain rfl := Option.some.inj H
  go_enter Try.func66, Try.ntmps66
  go_wp2_with (first | ((with_reducible refine gate_dst (N := 2) rfl ?_); refine be (cs := #[.slice aM aG.length aN, .slice aS aK.length aT]) (t := 72) ?_; intro aI hg cY hbox hb; have aA := A_ hbox; have aQ := A_ (gl hg (bz Z1)); have aC := aQ; replace HB := A_ (bst Z1 hb); clear hb hbox hg) | ((with_reducible refine gate_dst (N := 3) rfl ?_); refine be (cs := #[.slice aO aH.length aP, .slice aU aL.length aV]) (t := 72) ?_; intro aJ hg cZ hbox hb; have aB := A_ hbox; have aR := A_ (gl hg (bz (Z3 aC.out))); have aF := aR; replace HB := A_ (bst (Z3 aC.out) hb); have aD := A_ ((by rw [hg]; exact nl (blk_lt (Z2 aA.out)) : aI ≠ aJ)); have aE := A_ ((by rw [hg]; exact Nat.ne_of_gt (blk_lt (Z2 aA.out)) : aJ ≠ aI)); replace aA := A_ (bb (Z2 aA.out) hb); clear hb hbox hg; have cN := aD.out; have cO := aE.out; obtain ⟨b9, cA, cB, cC⟩ := C2 aA.out; obtain ⟨cD, cE, cF, cG⟩ := C2 aB.out) | ((with_reducible refine gate_callee (f := 87) rfl ?_); refine gL 9 Try.func87 #[.slice aM aG.length aN, .slice aO aH.length aP] ?_; (with_reducible refine (laws_eqSlotS.calls k _ _ aG _ _ aH false _ ?s1 aX.out ?s3 aZ.out A3.out).mono ?_); (case s1 => exact Z4 aW.out); (case s3 => exact Z4 aY.out); rintro e dA ⟨rfl, hb⟩; refine ⟨_, rfl, ?_⟩; replace aA := A_ (bb (Z2 aA.out) hb); replace aB := A_ (bb (Z2 aB.out) hb); replace HB := A_ (bst (Z5 aC.out aF.out) hb); (try clear hb)))
  go_ret
  exact ⟨Z7, Z5 aC.out aF.out⟩
def laws_eqCellS.l0 : Nat → List (S72) → List (S72) → Int → Option (Bool)
 | 0, _, _, _ => none
 | k + 1, x0, x1, x5 => if x5 < (x0.length : Int) then (if 0 ≤ x5 then (if x5 < (x1.length : Int) then ((laws_eqCell.f k ((rd_T72 x0 x5).f0) ((rd_T72 x0 x5).f1) ((rd_T72 x1 x5).f0) ((rd_T72 x1 x5).f1)).bind fun aA => (if aA = true then (laws_eqCellS.l0 k x0 x1 (wrap64 (x5 + 1))) else (some false))) else (none)) else (none)) else (some true)
def laws_eqCellS.f (k : Nat) (l0 : List (S72)) (l1 : List (S72)) : Option (Bool) := if (l0.length : Int) = (l1.length : Int) then (laws_eqCellS.l0 k l0 l1 0) else (some false)
def laws_eqCellS.T6 : Bool × List (List Nat × List Nat) := (true, [([], []), ([], []), ([0, 1], [0, 1]), ([2], [2]), ([], []), ([], []), ([4, 5], [4, 5]), ([6], [6]), ([3, 7], [3, 7]), ([8], [8])])
def laws_eqCellS.B6 : List Nat := [0, 0, 3, 7, 0, 0, 48, 112, 255, 511]
theorem laws_eqCellS.tab6 : rtab .any (opsOf Try.f40 6) = laws_eqCellS.T6 := by kernel_rfl
theorem laws_eqCellS.bits6 : waitsOk laws_eqCellS.T6.2 laws_eqCellS.B6 = true := by kernel_rfl
theorem laws_eqCellS.calls (k : Nat) (A0 : Option Addr) (c0 : Nat) (l0 : List (S72)) (A1 : Option Addr) (c1 : Nat) (l1 : List (S72)) (r : Bool) (w : World) (bK : Kd.C k72 w A0 l0.length l0) (hc0 : l0.length ≤ c0) (hr1 : Kd.C k72 w A1 l1.length l1) (bL : l1.length ≤ c1) (h : laws_eqCellS.f k l0 l1 = some r) :
  Calls Try.prog 40 #[.slice A0 l0.length c0, .slice A1 l1.length c1] w fun e w' => e = .returned (.bool r) ∧ Below w.heap.size w w' := by
 have bQ := Try.underlying72; have bM := A_ bK; have bV := A_ hc0; clear bK hc0; have bN := A_ hr1; have bW := A_ bL; clear hr1 bL; have HB := A_ (Below.refl w.heap.size w); have H := h; unfold laws_eqCellS.f at H; clear h
 by_cases c3 : (l0.length : Int) = (l1.length : Int)
 ·rw [if_pos c3] at H
  have bF : ((l0.length : Int) == (l1.length : Int)) = true := beq_iff_eq.mpr c3; have bG : ((l0.length : Int) != (l1.length : Int)) = false := bne_eq_false_iff_eq.mpr c3
  have bH : (l0.length == l1.length) = true := by first | simpa using c3 | (simp at c3 ⊢; omega)
  clear c3; have H' := A_ H; clear H
  go_enter Try.func40, Try.ntmps40
  go_wp2
  go_loopg [5] k (fun kq v5 w' => ∃ (aA : Int), v5 = .int .i64 aA ∧ Aside0 (laws_eqCellS.l0 kq l0 l1 aA = some r) ∧ Aside0 (kq ≤ k) ∧ Aside0 (Below w.heap.size w w'))
  case atStart => exact ⟨(0), Z17, H', ⟨Nat.le_refl _⟩, ⟨Z1⟩⟩
  case round =>
   clear H'; try clear c1
   try clear c3
   try clear bF
   try clear bG
   try clear bH
   obtain ⟨aA, rfl, HA, bO, HB⟩ := hrel
   cases gk with
   | zero => exact absurd HA.out (by simp [laws_eqCellS.l0])
   | succ k1 =>
    have H := HA.out; clear HA; simp only [laws_eqCellS.l0] at H
    by_cases c4 : aA < (l0.length : Int)
    ·rw [if_pos c4] at H
     have bI := dt c4; clear c4
     by_cases c5 : 0 ≤ aA
     ·rw [if_pos c5] at H
      have bR := dt c5; clear c5
      by_cases c6 : aA < (l1.length : Int)
      ·rw [if_pos c6] at H
       have bT := dt c6; clear c6; replace H := bS H; obtain ⟨bJ, bP, H⟩ := H
       try dsimp only at H
       have A7 := A_ bP; clear bP
       by_cases c8 : bJ = true
       ·subst c8
        rw [if_pos rfl] at H; have H' := A_ H; clear H
        try go_wp2
        replace HB := A_ (below_drew1 HB.out); have a9 : 0 ≤ (aA : Int) := odt; have bA : aA < (l0.length : Int) := odt; obtain ⟨aV, aW, aX, aY, aZ, bD, aB, aC, aF, aG, aH, aI⟩ := at_T72 bM.out aA a9 bA; have aJ := aC; have aK := aB; cases bD; replace aB := ZC HB.out aB; replace aC := ZC HB.out aC; have aL := A_ aG; have a5 := A_ aF; clear aG aF; have aM := A_ aI; have a6 := A_ aH; clear aI aH; replace a9 := eq_true a9; replace bA := eq_true bA; have bB : 0 ≤ (aA : Int) := odt; have bC : aA < (l1.length : Int) := odt; obtain ⟨a0, a1, a2, a3, a4, bE, aD, aE, aN, aO, aP, aQ⟩ := at_T72 bN.out aA bB bC; have aR := aE; have aS := aD; cases bE; replace aD := ZC HB.out aD; replace aE := ZC HB.out aE; have aT := A_ aO; have a7 := A_ aN; clear aO aN; have aU := A_ aQ; have a8 := A_ aP; clear aQ aP; replace bB := eq_true bB; replace bC := eq_true bC
        refine start_ (n := 10) (S := fun w' => w'.cell? (aV.add ((aA).toNat * 2)) = some (.slice aW ((rd_T72 l0 aA).f0).length aX) ∧ w'.cell? ⟨(aV.add ((aA).toNat * 2)).block, (aV.add ((aA).toNat * 2)).off + 1, none⟩ = some (.slice aY ((rd_T72 l0 aA).f1).length aZ) ∧ w'.cell? (a0.add ((aA).toNat * 2)) = some (.slice a1 ((rd_T72 l1 aA).f0).length a2) ∧ w'.cell? ⟨(a0.add ((aA).toNat * 2)).block, (a0.add ((aA).toNat * 2)).off + 1, none⟩ = some (.slice a3 ((rd_T72 l1 aA).f1).length a4)) (ds := []) M0 (by kernel_rfl) rfl rfl ⟨(ZC HB.out aK :), (ZC HB.out aJ :), (ZC HB.out aS :), (ZC HB.out aR :)⟩ (fun hHeld => ?_); refine with_tabW laws_eqCellS.tab6 laws_eqCellS.bits6 (fun HT_ HW_ => ?_)
        generalize wr.drew = w9 at HB aL aM aT aU aB aC aD aE hHeld ⊢; refine pU 0 17 M6 ?_; refine pU 1 18 M7 ?_; refine pU 2 19 M8 ?_; refine pU 4 21 M9 ?_; refine pU 5 22 M10 ?_; refine pU 6 23 M2 ?_; refine tU 3 20 M1 ?_ (y := Z30); refine tU 7 24 M3 ?_ (y := Z30)
        refine oU 8 (some 25) M4 (fun K hK => ?_)
        refine goes_ Try.func66 (by kernel_rfl) rfl #[.agg #[.slice aW ((rd_T72 l0 aA).f0).length aX, .slice aY ((rd_T72 l0 aA).f1).length aZ], .agg #[.slice a1 ((rd_T72 l1 aA).f0).length a2, .slice a3 ((rd_T72 l1 aA).f1).length a4]] (by rfl) rfl rfl Z16 ?_
        with_reducible refine (laws_eqCell.calls k1 _ _ ((rd_T72 l0 aA).f0) _ _ ((rd_T72 l0 aA).f1) _ _ ((rd_T72 l1 aA).f0) _ _ ((rd_T72 l1 aA).f1) true _ ?s1 ?s2 ?s3 ?s4 ?s5 ?s6 ?s7 ?s8 A7.out).mono ?_
        (case s1 => exact Z4 aL.out)
        (case s2 => exact a5.out)
        (case s3 => exact Z4 aM.out)
        (case s4 => exact a6.out)
        (case s5 => exact Z4 aT.out)
        (case s6 => exact a7.out)
        (case s7 => exact Z4 aU.out)
        (case s8 => exact a8.out)
        rintro e bX ⟨rfl, hb⟩
        refine ⟨_, rfl, ?_⟩
        replace HB := A_ (bst Z1 hb); (try clear hb); (try clear bU); (try clear hk); (try clear hi)
        refine hK.out _ _ ⟨(ZC HB.out aK :), (ZC HB.out aJ :), (ZC HB.out aS :), (ZC HB.out aR :)⟩ (fun hHeld => ?_)
        clear hK K
        refine norm_ (a' := ?_) ?_ ?_
        rotate_left; (·exact Z31); refine pU 9 26 M5 ?_
        refine done_ (done_of HT_.out (by kernel_rfl)) ?_
        try go_wp2
        go_roundg k1
        case measure => have := bO.out; omega
        case rel => exact ⟨(wrap64 (aA + 1)), Z17, H', ⟨by have := bO.out; omega⟩, ⟨Z1⟩⟩
       ·replace c8 := Bool.eq_false_iff.mpr c8
        subst c8; rw [if_neg (show ¬ (false = true) by decide)] at H; obtain rfl := Option.some.inj H
        try go_wp2
        replace HB := A_ (below_drew1 HB.out); have a9 : 0 ≤ (aA : Int) := odt; have bA : aA < (l0.length : Int) := odt; obtain ⟨aV, aW, aX, aY, aZ, bD, aB, aC, aF, aG, aH, aI⟩ := at_T72 bM.out aA a9 bA; have aJ := aC; have aK := aB; cases bD; replace aB := ZC HB.out aB; replace aC := ZC HB.out aC; have aL := A_ aG; have a5 := A_ aF; clear aG aF; have aM := A_ aI; have a6 := A_ aH; clear aI aH; replace a9 := eq_true a9; replace bA := eq_true bA; have bB : 0 ≤ (aA : Int) := odt; have bC : aA < (l1.length : Int) := odt; obtain ⟨a0, a1, a2, a3, a4, bE, aD, aE, aN, aO, aP, aQ⟩ := at_T72 bN.out aA bB bC; have aR := aE; have aS := aD; cases bE; replace aD := ZC HB.out aD; replace aE := ZC HB.out aE; have aT := A_ aO; have a7 := A_ aN; clear aO aN; have aU := A_ aQ; have a8 := A_ aP; clear aQ aP; replace bB := eq_true bB; replace bC := eq_true bC
        refine start_ (n := 10) (S := fun w' => w'.cell? (aV.add ((aA).toNat * 2)) = some (.slice aW ((rd_T72 l0 aA).f0).length aX) ∧ w'.cell? ⟨(aV.add ((aA).toNat * 2)).block, (aV.add ((aA).toNat * 2)).off + 1, none⟩ = some (.slice aY ((rd_T72 l0 aA).f1).length aZ) ∧ w'.cell? (a0.add ((aA).toNat * 2)) = some (.slice a1 ((rd_T72 l1 aA).f0).length a2) ∧ w'.cell? ⟨(a0.add ((aA).toNat * 2)).block, (a0.add ((aA).toNat * 2)).off + 1, none⟩ = some (.slice a3 ((rd_T72 l1 aA).f1).length a4)) (ds := []) M0 (by kernel_rfl) rfl rfl ⟨(ZC HB.out aK :), (ZC HB.out aJ :), (ZC HB.out aS :), (ZC HB.out aR :)⟩ (fun hHeld => ?_); refine with_tabW laws_eqCellS.tab6 laws_eqCellS.bits6 (fun HT_ HW_ => ?_)
        generalize wr.drew = bY at HB aL aM aT aU aB aC aD aE hHeld ⊢; refine pU 0 17 M6 ?_; refine pU 1 18 M7 ?_; refine pU 2 19 M8 ?_; refine pU 4 21 M9 ?_; refine pU 5 22 M10 ?_; refine pU 6 23 M2 ?_; refine tU 3 20 M1 ?_ (y := Z30); refine tU 7 24 M3 ?_ (y := Z30)
        refine oU 8 (some 25) M4 (fun K hK => ?_)
        refine goes_ Try.func66 (by kernel_rfl) rfl #[.agg #[.slice aW ((rd_T72 l0 aA).f0).length aX, .slice aY ((rd_T72 l0 aA).f1).length aZ], .agg #[.slice a1 ((rd_T72 l1 aA).f0).length a2, .slice a3 ((rd_T72 l1 aA).f1).length a4]] (by rfl) rfl rfl Z16 ?_
        with_reducible refine (laws_eqCell.calls k1 _ _ ((rd_T72 l0 aA).f0) _ _ ((rd_T72 l0 aA).f1) _ _ ((rd_T72 l1 aA).f0) _ _ ((rd_T72 l1 aA).f1) false _ ?s1 ?s2 ?s3 ?s4 ?s5 ?s6 ?s7 ?s8 A7.out).mono ?_
        (case s1 => exact Z4 aL.out)
        (case s2 => exact a5.out)
        (case s3 => exact Z4 aM.out)
        (case s4 => exact a6.out)
        (case s5 => exact Z4 aT.out)
        (case s6 => exact a7.out)
        (case s7 => exact Z4 aU.out)
        (case s8 => exact a8.out)
        rintro e bZ ⟨rfl, hb⟩
        refine ⟨_, rfl, ?_⟩
        replace HB := A_ (bst Z1 hb); (try clear hb); (try clear bU); (try clear hk); (try clear hi)
        refine hK.out _ _ ⟨(ZC HB.out aK :), (ZC HB.out aJ :), (ZC HB.out aS :), (ZC HB.out aR :)⟩ (fun hHeld => ?_)
        clear hK K
        refine norm_ (a' := ?_) ?_ ?_
        rotate_left; (·exact Z31); refine pU 9 26 M5 ?_
        refine done_ (done_of HT_.out (by kernel_rfl)) ?_
        try go_wp2
        go_ret
        exact ⟨Z7, Z1⟩
      ·rw [if_neg c6] at H
       exact absurd H (by simp)
     ·rw [if_neg c5] at H
      exact absurd H (by simp)
    ·rw [if_neg c4] at H
     have bI := df c4; clear c4; obtain rfl := Option.some.inj H
     go_wp2
     go_ret
     exact ⟨Z7, Z1⟩
 ·rw [if_neg c3] at H
  have bF : ((l0.length : Int) == (l1.length : Int)) = false := beq_eq_false_iff_ne.mpr c3; have bG : ((l0.length : Int) != (l1.length : Int)) = true := bne_iff_ne.mpr c3
  have bH : (l0.length == l1.length) = false := by first | simpa using c3 | (simp at c3 ⊢; omega)
  obtain rfl := Option.some.inj H
  go_enter Try.func40, Try.ntmps40
  go_wp2
  go_ret
  exact ⟨Z7, Z1⟩
end Go.Proofs.Ytgbbcebjgpoioaa.PFnExactHistRedo
