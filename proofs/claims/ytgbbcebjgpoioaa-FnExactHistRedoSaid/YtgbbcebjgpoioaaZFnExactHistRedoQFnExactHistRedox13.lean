/- Walks (lines of the print; no condition). -/
import Derived.Test.YtgbbcebjgpoioaaZFnExactHistRedoQFnExactHistRedox12
namespace Go.Proofs.Ytgbbcebjgpoioaa.PFnExactHistRedo
open Go.RowKit Go.Proofs.YtgbbcebjgpoioaaW.PrintWords Go.Proofs.YtgbbcebjgpoioaaW.PrintLast Go.Proofs.YtgbbcebjgpoioaaW.PrintMore
attribute [local go_sem] max2_int min2_int max_two min_two max_three min_three max_four min_four
set_option linter.unusedVariables false
set_option linter.unusedSimpArgs false
set_option maxHeartbeats 8000000
set_option maxRecDepth 100000
def laws_eqSlotS.l0 : Nat → List (S96) → List (S96) → Int → Option (Bool)
 | 0, _, _, _ => none
 | k + 1, x0, x1, x5 => if x5 < (x0.length : Int) then (if 0 ≤ x5 then (if x5 < (x1.length : Int) then ((laws_eqSlot.f ((rd_T96 x0 x5).f0) ((rd_T96 x0 x5).f1) ((rd_T96 x1 x5).f0) ((rd_T96 x1 x5).f1)).bind fun aA => (if aA = true then (laws_eqSlotS.l0 k x0 x1 (wrap64 (x5 + 1))) else (some false))) else (none)) else (none)) else (some true)
def laws_eqSlotS.f (k : Nat) (l0 : List (S96)) (l1 : List (S96)) : Option (Bool) := if (l0.length : Int) = (l1.length : Int) then (laws_eqSlotS.l0 k l0 l1 0) else (some false)
def laws_eqSlotS.T6 : Bool × List (List Nat × List Nat) := (true, [([], []), ([], []), ([0, 1], [0, 1]), ([2], [2]), ([], []), ([], []), ([4, 5], [4, 5]), ([6], [6]), ([3, 7], [3, 7]), ([8], [8])])
def laws_eqSlotS.B6 : List Nat := [0, 0, 3, 7, 0, 0, 48, 112, 255, 511]
theorem laws_eqSlotS.tab6 : rtab .any (opsOf Try.f87 6) = laws_eqSlotS.T6 := by kernel_rfl
theorem laws_eqSlotS.bits6 : waitsOk laws_eqSlotS.T6.2 laws_eqSlotS.B6 = true := by kernel_rfl
theorem laws_eqSlotS.calls (k : Nat) (A0 : Option Addr) (c0 : Nat) (l0 : List (S96)) (A1 : Option Addr) (c1 : Nat) (l1 : List (S96)) (r : Bool) (w : World) (aW : Kd.C k96 w A0 l0.length l0) (hc0 : l0.length ≤ c0) (hr1 : Kd.C k96 w A1 l1.length l1) (aX : l1.length ≤ c1) (h : laws_eqSlotS.f k l0 l1 = some r) :
  Calls Try.prog 87 #[.slice A0 l0.length c0, .slice A1 l1.length c1] w fun e w' => e = .returned (.bool r) ∧ Below w.heap.size w w' := by
 have a2 := Try.underlying96; have aY := A_ aW; have a6 := A_ hc0; clear aW hc0; have aZ := A_ hr1; have a7 := A_ aX; clear hr1 aX; have HB := A_ (Below.refl w.heap.size w); have H := h; unfold laws_eqSlotS.f at H; clear h
 by_cases c3 : (l0.length : Int) = (l1.length : Int)
 ·rw [if_pos c3] at H
  have aR : ((l0.length : Int) == (l1.length : Int)) = true := beq_iff_eq.mpr c3; have aS : ((l0.length : Int) != (l1.length : Int)) = false := bne_eq_false_iff_eq.mpr c3
  have aT : (l0.length == l1.length) = true := by first | simpa using c3 | (simp at c3 ⊢; omega)
  clear c3; have H' := A_ H; clear H
  go_enter Try.func87, Try.ntmps87
  go_wp2
  go_loopg [5] k (fun kq v5 w' => ∃ (aA : Int), v5 = .int .i64 aA ∧ Aside0 (laws_eqSlotS.l0 kq l0 l1 aA = some r) ∧ Aside0 (kq ≤ k) ∧ Aside0 (Below w.heap.size w w'))
  case atStart => exact ⟨(0), Z17, H', ⟨Nat.le_refl _⟩, ⟨Z1⟩⟩
  case round =>
   clear H'; try clear c1
   try clear c3
   try clear aR
   try clear aS
   try clear aT
   obtain ⟨aA, rfl, HA, a0, HB⟩ := hrel
   cases gk with
   | zero => exact absurd HA.out (by simp [laws_eqSlotS.l0])
   | succ k1 =>
    have H := HA.out; clear HA; simp only [laws_eqSlotS.l0] at H
    by_cases c4 : aA < (l0.length : Int)
    ·rw [if_pos c4] at H
     have aU := dt c4; clear c4
     by_cases c5 : 0 ≤ aA
     ·rw [if_pos c5] at H
      have a3 := dt c5; clear c5
      by_cases c6 : aA < (l1.length : Int)
      ·rw [if_pos c6] at H
       have a4 := dt c6; clear c6; replace H := bS H; obtain ⟨aV, a1, H⟩ := H
       try dsimp only at H
       have A7 := A_ a1; clear a1
       by_cases c8 : aV = true
       ·subst c8
        rw [if_pos rfl] at H; have H' := A_ H; clear H
        try go_wp2
        replace HB := A_ (below_drew1 HB.out); have aL : 0 ≤ (aA : Int) := odt; have aM : aA < (l0.length : Int) := odt; obtain ⟨aJ, aP, aB, aC⟩ := at_T96 aY.out aA aL aM; have aF := aC; have aG := aB; cases aP; replace aB := ZC HB.out aB; replace aC := ZC HB.out aC; replace aL := eq_true aL; replace aM := eq_true aM; have aN : 0 ≤ (aA : Int) := odt; have aO : aA < (l1.length : Int) := odt; obtain ⟨aK, aQ, aD, aE⟩ := at_T96 aZ.out aA aN aO; have aH := aE; have aI := aD; cases aQ; replace aD := ZC HB.out aD; replace aE := ZC HB.out aE; replace aN := eq_true aN; replace aO := eq_true aO
        refine start_ (n := 10) (S := fun w' => w'.cell? (aJ.add ((aA).toNat * 2)) = some (.int .i64 ((rd_T96 l0 aA).f0)) ∧ w'.cell? ⟨(aJ.add ((aA).toNat * 2)).block, (aJ.add ((aA).toNat * 2)).off + 1, none⟩ = some (.int .i64 ((rd_T96 l0 aA).f1)) ∧ w'.cell? (aK.add ((aA).toNat * 2)) = some (.int .i64 ((rd_T96 l1 aA).f0)) ∧ w'.cell? ⟨(aK.add ((aA).toNat * 2)).block, (aK.add ((aA).toNat * 2)).off + 1, none⟩ = some (.int .i64 ((rd_T96 l1 aA).f1))) (ds := []) M0 (by kernel_rfl) rfl rfl ⟨(ZC HB.out aG :), (ZC HB.out aF :), (ZC HB.out aI :), (ZC HB.out aH :)⟩ (fun hHeld => ?_); refine with_tabW laws_eqSlotS.tab6 laws_eqSlotS.bits6 (fun HT_ HW_ => ?_)
        generalize wr.drew = w9 at HB aB aC aD aE hHeld ⊢; refine pU 0 17 M6 ?_; refine pU 1 18 M7 ?_; refine pU 2 19 M8 ?_; refine pU 4 21 M9 ?_; refine pU 5 22 M10 ?_; refine pU 6 23 M2 ?_; refine tU 3 20 M1 ?_ (y := Z30); refine tU 7 24 M3 ?_ (y := Z30)
        refine oU 8 (some 25) M4 (fun K hK => ?_)
        refine goes_ Try.func102 (by kernel_rfl) rfl #[.agg #[.int .i64 ((rd_T96 l0 aA).f0), .int .i64 ((rd_T96 l0 aA).f1)], .agg #[.int .i64 ((rd_T96 l1 aA).f0), .int .i64 ((rd_T96 l1 aA).f1)]] (by rfl) rfl rfl Z16 ?_
        with_reducible refine (laws_eqSlot.calls ((rd_T96 l0 aA).f0) ((rd_T96 l0 aA).f1) ((rd_T96 l1 aA).f0) ((rd_T96 l1 aA).f1) true _ A7.out).mono ?_
        rintro e a8 ⟨rfl, hb⟩
        refine ⟨_, rfl, ?_⟩
        replace HB := A_ (bst Z1 hb); (try clear hb); (try clear a5); (try clear hk); (try clear hi)
        refine hK.out _ _ ⟨(ZC HB.out aG :), (ZC HB.out aF :), (ZC HB.out aI :), (ZC HB.out aH :)⟩ (fun hHeld => ?_)
        clear hK K
        refine norm_ (a' := ?_) ?_ ?_
        rotate_left; (·exact Z31); refine pU 9 26 M5 ?_
        refine done_ (done_of HT_.out (by kernel_rfl)) ?_
        try go_wp2
        go_roundg k1
        case measure => have := a0.out; omega
        case rel => exact ⟨(wrap64 (aA + 1)), Z17, H', ⟨by have := a0.out; omega⟩, ⟨Z1⟩⟩
       ·replace c8 := Bool.eq_false_iff.mpr c8
        subst c8; rw [if_neg (show ¬ (false = true) by decide)] at H; obtain rfl := Option.some.inj H
        try go_wp2
        replace HB := A_ (below_drew1 HB.out); have aL : 0 ≤ (aA : Int) := odt; have aM : aA < (l0.length : Int) := odt; obtain ⟨aJ, aP, aB, aC⟩ := at_T96 aY.out aA aL aM; have aF := aC; have aG := aB; cases aP; replace aB := ZC HB.out aB; replace aC := ZC HB.out aC; replace aL := eq_true aL; replace aM := eq_true aM; have aN : 0 ≤ (aA : Int) := odt; have aO : aA < (l1.length : Int) := odt; obtain ⟨aK, aQ, aD, aE⟩ := at_T96 aZ.out aA aN aO; have aH := aE; have aI := aD; cases aQ; replace aD := ZC HB.out aD; replace aE := ZC HB.out aE; replace aN := eq_true aN; replace aO := eq_true aO
        refine start_ (n := 10) (S := fun w' => w'.cell? (aJ.add ((aA).toNat * 2)) = some (.int .i64 ((rd_T96 l0 aA).f0)) ∧ w'.cell? ⟨(aJ.add ((aA).toNat * 2)).block, (aJ.add ((aA).toNat * 2)).off + 1, none⟩ = some (.int .i64 ((rd_T96 l0 aA).f1)) ∧ w'.cell? (aK.add ((aA).toNat * 2)) = some (.int .i64 ((rd_T96 l1 aA).f0)) ∧ w'.cell? ⟨(aK.add ((aA).toNat * 2)).block, (aK.add ((aA).toNat * 2)).off + 1, none⟩ = some (.int .i64 ((rd_T96 l1 aA).f1))) (ds := []) M0 (by kernel_rfl) rfl rfl ⟨(ZC HB.out aG :), (ZC HB.out aF :), (ZC HB.out aI :), (ZC HB.out aH :)⟩ (fun hHeld => ?_); refine with_tabW laws_eqSlotS.tab6 laws_eqSlotS.bits6 (fun HT_ HW_ => ?_)
        generalize wr.drew = a9 at HB aB aC aD aE hHeld ⊢; refine pU 0 17 M6 ?_; refine pU 1 18 M7 ?_; refine pU 2 19 M8 ?_; refine pU 4 21 M9 ?_; refine pU 5 22 M10 ?_; refine pU 6 23 M2 ?_; refine tU 3 20 M1 ?_ (y := Z30); refine tU 7 24 M3 ?_ (y := Z30)
        refine oU 8 (some 25) M4 (fun K hK => ?_)
        refine goes_ Try.func102 (by kernel_rfl) rfl #[.agg #[.int .i64 ((rd_T96 l0 aA).f0), .int .i64 ((rd_T96 l0 aA).f1)], .agg #[.int .i64 ((rd_T96 l1 aA).f0), .int .i64 ((rd_T96 l1 aA).f1)]] (by rfl) rfl rfl Z16 ?_
        with_reducible refine (laws_eqSlot.calls ((rd_T96 l0 aA).f0) ((rd_T96 l0 aA).f1) ((rd_T96 l1 aA).f0) ((rd_T96 l1 aA).f1) false _ A7.out).mono ?_
        rintro e bA ⟨rfl, hb⟩
        refine ⟨_, rfl, ?_⟩
        replace HB := A_ (bst Z1 hb); (try clear hb); (try clear a5); (try clear hk); (try clear hi)
        refine hK.out _ _ ⟨(ZC HB.out aG :), (ZC HB.out aF :), (ZC HB.out aI :), (ZC HB.out aH :)⟩ (fun hHeld => ?_)
        clear hK K
        refine norm_ (a' := ?_) ?_ ?_
        rotate_left; (·exact Z31); refine pU 9 26 M5 ?_
        refine done_ (done_of HT_.out (by kernel_rfl)) ?_
        try go_wp2
        go_ret
        exact ⟨Z7, Z1⟩
      ·rw [if_neg c6] at H
       exact absurd H (by simp)
     ·rw [if_neg c5] at H
      exact absurd H (by simp)
    ·rw [if_neg c4] at H
     have aU := df c4; clear c4; obtain rfl := Option.some.inj H
     go_wp2
     go_ret
     exact ⟨Z7, Z1⟩
 ·rw [if_neg c3] at H
  have aR : ((l0.length : Int) == (l1.length : Int)) = false := beq_eq_false_iff_ne.mpr c3; have aS : ((l0.length : Int) != (l1.length : Int)) = true := bne_iff_ne.mpr c3
  have aT : (l0.length == l1.length) = false := by first | simpa using c3 | (simp at c3 ⊢; omega)
  obtain rfl := Option.some.inj H
  go_enter Try.func87, Try.ntmps87
  go_wp2
  go_ret
  exact ⟨Z7, Z1⟩
def laws_eqValue.f (aA : Int) (aB : Int) (aC : ByteArray) (aD : Int) (aE : Int) (aF : ByteArray) : Option (Bool) := if aA = aD then (if aB = aE then (if aC.toList = aF.toList then (some true) else (some false)) else (some false)) else (some false)
theorem laws_eqValue.calls (aG : Int) (aH : Int) (aI : ByteArray) (aJ : Int) (aK : Int) (aL : ByteArray) (r : Bool) (w : World) (h : laws_eqValue.f aG aH aI aJ aK aL = some r) :
  Calls Try.prog 103 #[.agg #[.int .i64 aG, .int .i64 aH, .string aI], .agg #[.int .i64 aJ, .int .i64 aK, .string aL]] w fun e w' => e = .returned (.bool r) ∧ Below w.heap.size w w' := by
 have cF := Try.underlying98; have HB := A_ (Below.refl w.heap.size w); have H := h; unfold laws_eqValue.f at H; clear h
 by_cases c3 : aG = aJ
 ·rw [if_pos c3] at H
  have bX : (aG == aJ) = true := beq_iff_eq.mpr c3; have bY : (aG != aJ) = false := bne_eq_false_iff_eq.mpr c3; clear c3
  by_cases c4 : aH = aK
  ·rw [if_pos c4] at H
   have bZ : (aH == aK) = true := beq_iff_eq.mpr c4; have b0 : (aH != aK) = false := bne_eq_false_iff_eq.mpr c4; clear c4
   by_cases c5 : aI.toList = aL.toList
   ·rw [if_pos c5] at H
    have b1 : (aI.toList == aL.toList) = true := beq_iff_eq.mpr c5; have b2 : (aI.toList != aL.toList) = false := bne_eq_false_iff_eq.mpr c5; clear c5; obtain rfl := Option.some.inj H
    go_enter Try.func103, Try.ntmps103
    go_wp2_with (first | ((with_reducible refine gate_dst (N := 2) rfl ?_); refine be (cs := #[.int .i64 aG, .int .i64 aH, .string aI]) (t := 98) ?_; intro aE hg w6 hbox hb; have aA := A_ hbox; have aM := A_ (gl hg (bz Z1)); have aD := aM; replace HB := A_ (bst Z1 hb); clear hb hbox hg) | ((with_reducible refine gate_dst (N := 3) rfl ?_); refine be (cs := #[.int .i64 aJ, .int .i64 aK, .string aL]) (t := 98) ?_; intro aF hg w7 hbox hb; have aN := A_ hbox; have aO := A_ (gl hg (bz (Z3 aD.out))); have aP := aO; replace HB := A_ (bst (Z3 aD.out) hb); have aB := A_ ((by rw [hg]; exact nl (blk_lt (Z2 aA.out)) : aE ≠ aF)); have aC := A_ ((by rw [hg]; exact Nat.ne_of_gt (blk_lt (Z2 aA.out)) : aF ≠ aE)); replace aA := A_ (bb (Z2 aA.out) hb); clear hb hbox hg; have cG := aB.out; have cH := aC.out; obtain ⟨b3, b4, b5, b6, b7, b8⟩ := C3 aA.out; obtain ⟨aQ, aR, aS, aT, aU, aV⟩ := C3 aN.out))
    go_ret
    exact ⟨Z7, Z5 aD.out aP.out⟩
   ·rw [if_neg c5] at H
    have b1 : (aI.toList == aL.toList) = false := beq_eq_false_iff_ne.mpr c5; have b2 : (aI.toList != aL.toList) = true := bne_iff_ne.mpr c5; obtain rfl := Option.some.inj H
    go_enter Try.func103, Try.ntmps103
    go_wp2_with (first | ((with_reducible refine gate_dst (N := 2) rfl ?_); refine be (cs := #[.int .i64 aG, .int .i64 aH, .string aI]) (t := 98) ?_; intro aE hg cI hbox hb; have aA := A_ hbox; have aM := A_ (gl hg (bz Z1)); have aD := aM; replace HB := A_ (bst Z1 hb); clear hb hbox hg) | ((with_reducible refine gate_dst (N := 3) rfl ?_); refine be (cs := #[.int .i64 aJ, .int .i64 aK, .string aL]) (t := 98) ?_; intro aF hg cJ hbox hb; have aN := A_ hbox; have aO := A_ (gl hg (bz (Z3 aD.out))); have aP := aO; replace HB := A_ (bst (Z3 aD.out) hb); have aB := A_ ((by rw [hg]; exact nl (blk_lt (Z2 aA.out)) : aE ≠ aF)); have aC := A_ ((by rw [hg]; exact Nat.ne_of_gt (blk_lt (Z2 aA.out)) : aF ≠ aE)); replace aA := A_ (bb (Z2 aA.out) hb); clear hb hbox hg; have b9 := aB.out; have cA := aC.out; obtain ⟨aW, aX, aY, aZ, a0, a1⟩ := C3 aA.out; obtain ⟨a2, a3, a4, a5, a6, a7⟩ := C3 aN.out))
    go_ret
    exact ⟨Z7, Z5 aD.out aP.out⟩
  ·rw [if_neg c4] at H
   have bZ : (aH == aK) = false := beq_eq_false_iff_ne.mpr c4; have b0 : (aH != aK) = true := bne_iff_ne.mpr c4; obtain rfl := Option.some.inj H
   go_enter Try.func103, Try.ntmps103
   go_wp2_with (first | ((with_reducible refine gate_dst (N := 2) rfl ?_); refine be (cs := #[.int .i64 aG, .int .i64 aH, .string aI]) (t := 98) ?_; intro aE hg cK hbox hb; have aA := A_ hbox; have aM := A_ (gl hg (bz Z1)); have aD := aM; replace HB := A_ (bst Z1 hb); clear hb hbox hg) | ((with_reducible refine gate_dst (N := 3) rfl ?_); refine be (cs := #[.int .i64 aJ, .int .i64 aK, .string aL]) (t := 98) ?_; intro aF hg cL hbox hb; have aN := A_ hbox; have aO := A_ (gl hg (bz (Z3 aD.out))); have aP := aO; replace HB := A_ (bst (Z3 aD.out) hb); have aB := A_ ((by rw [hg]; exact nl (blk_lt (Z2 aA.out)) : aE ≠ aF)); have aC := A_ ((by rw [hg]; exact Nat.ne_of_gt (blk_lt (Z2 aA.out)) : aF ≠ aE)); replace aA := A_ (bb (Z2 aA.out) hb); clear hb hbox hg; have cB := aB.out; have cC := aC.out; obtain ⟨a8, a9, bA, bB, bC, bD⟩ := C3 aA.out; obtain ⟨bE, bF, bG, bH, bI, bJ⟩ := C3 aN.out))
   go_ret
   exact ⟨Z7, Z5 aD.out aP.out⟩
 ·rw [if_neg c3] at H
  have bX : (aG == aJ) = false := beq_eq_false_iff_ne.mpr c3; have bY : (aG != aJ) = true := bne_iff_ne.mpr c3; obtain rfl := Option.some.inj H
  go_enter Try.func103, Try.ntmps103
  go_wp2_with (first | ((with_reducible refine gate_dst (N := 2) rfl ?_); refine be (cs := #[.int .i64 aG, .int .i64 aH, .string aI]) (t := 98) ?_; intro aE hg cM hbox hb; have aA := A_ hbox; have aM := A_ (gl hg (bz Z1)); have aD := aM; replace HB := A_ (bst Z1 hb); clear hb hbox hg) | ((with_reducible refine gate_dst (N := 3) rfl ?_); refine be (cs := #[.int .i64 aJ, .int .i64 aK, .string aL]) (t := 98) ?_; intro aF hg cN hbox hb; have aN := A_ hbox; have aO := A_ (gl hg (bz (Z3 aD.out))); have aP := aO; replace HB := A_ (bst (Z3 aD.out) hb); have aB := A_ ((by rw [hg]; exact nl (blk_lt (Z2 aA.out)) : aE ≠ aF)); have aC := A_ ((by rw [hg]; exact Nat.ne_of_gt (blk_lt (Z2 aA.out)) : aF ≠ aE)); replace aA := A_ (bb (Z2 aA.out) hb); clear hb hbox hg; have cD := aB.out; have cE := aC.out; obtain ⟨bK, bL, bM, bN, bO, bP⟩ := C3 aA.out; obtain ⟨bQ, bR, bT, bU, bV, bW⟩ := C3 aN.out))
  go_ret
  exact ⟨Z7, Z5 aD.out aP.out⟩
def laws_eqValueS.l0 : Nat → List (S98) → List (S98) → Int → Option (Bool)
 | 0, _, _, _ => none
 | k + 1, x0, x1, x5 => if x5 < (x0.length : Int) then (if 0 ≤ x5 then (if x5 < (x1.length : Int) then ((laws_eqValue.f ((rd_T98 x0 x5).f0) ((rd_T98 x0 x5).f1) ((rd_T98 x0 x5).f2) ((rd_T98 x1 x5).f0) ((rd_T98 x1 x5).f1) ((rd_T98 x1 x5).f2)).bind fun aA => (if aA = true then (laws_eqValueS.l0 k x0 x1 (wrap64 (x5 + 1))) else (some false))) else (none)) else (none)) else (some true)
def laws_eqValueS.f (k : Nat) (l0 : List (S98)) (l1 : List (S98)) : Option (Bool) := if (l0.length : Int) = (l1.length : Int) then (laws_eqValueS.l0 k l0 l1 0) else (some false)
def laws_eqValueS.T6 : Bool × List (List Nat × List Nat) := (true, [([], []), ([], []), ([0, 1], [0, 1]), ([2], [2]), ([], []), ([], []), ([4, 5], [4, 5]), ([6], [6]), ([3, 7], [3, 7]), ([8], [8])])
def laws_eqValueS.B6 : List Nat := [0, 0, 3, 7, 0, 0, 48, 112, 255, 511]
theorem laws_eqValueS.tab6 : rtab .any (opsOf Try.f88 6) = laws_eqValueS.T6 := by kernel_rfl
theorem laws_eqValueS.bits6 : waitsOk laws_eqValueS.T6.2 laws_eqValueS.B6 = true := by kernel_rfl
theorem laws_eqValueS.calls (k : Nat) (A0 : Option Addr) (c0 : Nat) (l0 : List (S98)) (A1 : Option Addr) (c1 : Nat) (l1 : List (S98)) (r : Bool) (w : World) (a0 : Kd.C k98 w A0 l0.length l0) (hc0 : l0.length ≤ c0) (hr1 : Kd.C k98 w A1 l1.length l1) (a1 : l1.length ≤ c1) (h : laws_eqValueS.f k l0 l1 = some r) :
  Calls Try.prog 88 #[.slice A0 l0.length c0, .slice A1 l1.length c1] w fun e w' => e = .returned (.bool r) ∧ Below w.heap.size w w' := by
 have a6 := Try.underlying98; have a2 := A_ a0; have bA := A_ hc0; clear a0 hc0; have a3 := A_ hr1; have bB := A_ a1; clear hr1 a1; have HB := A_ (Below.refl w.heap.size w); have H := h; unfold laws_eqValueS.f at H; clear h
 by_cases c3 : (l0.length : Int) = (l1.length : Int)
 ·rw [if_pos c3] at H
  have aV : ((l0.length : Int) == (l1.length : Int)) = true := beq_iff_eq.mpr c3; have aW : ((l0.length : Int) != (l1.length : Int)) = false := bne_eq_false_iff_eq.mpr c3
  have aX : (l0.length == l1.length) = true := by first | simpa using c3 | (simp at c3 ⊢; omega)
  clear c3; have H' := A_ H; clear H
  go_enter Try.func88, Try.ntmps88
  go_wp2
  go_loopg [5] k (fun kq v5 w' => ∃ (aA : Int), v5 = .int .i64 aA ∧ Aside0 (laws_eqValueS.l0 kq l0 l1 aA = some r) ∧ Aside0 (kq ≤ k) ∧ Aside0 (Below w.heap.size w w'))
  case atStart => exact ⟨(0), Z17, H', ⟨Nat.le_refl _⟩, ⟨Z1⟩⟩
  case round =>
   clear H'; try clear c1
   try clear c3
   try clear aV
   try clear aW
   try clear aX
   obtain ⟨aA, rfl, HA, a4, HB⟩ := hrel
   cases gk with
   | zero => exact absurd HA.out (by simp [laws_eqValueS.l0])
   | succ k1 =>
    have H := HA.out; clear HA; simp only [laws_eqValueS.l0] at H
    by_cases c4 : aA < (l0.length : Int)
    ·rw [if_pos c4] at H
     have aY := dt c4; clear c4
     by_cases c5 : 0 ≤ aA
     ·rw [if_pos c5] at H
      have a7 := dt c5; clear c5
      by_cases c6 : aA < (l1.length : Int)
      ·rw [if_pos c6] at H
       have a8 := dt c6; clear c6; replace H := bS H; obtain ⟨aZ, a5, H⟩ := H
       try dsimp only at H
       have A7 := A_ a5; clear a5
       by_cases c8 : aZ = true
       ·subst c8
        rw [if_pos rfl] at H; have H' := A_ H; clear H
        try go_wp2
        replace HB := A_ (below_drew1 HB.out); have aP : 0 ≤ (aA : Int) := odt; have aQ : aA < (l0.length : Int) := odt; obtain ⟨aH, aT, aB, aC, aD⟩ := at_T98 a2.out aA aP aQ; have aJ := aD; have aK := aC; have aL := aB; cases aT; replace aB := ZC HB.out aB; replace aC := ZC HB.out aC; replace aD := ZC HB.out aD; replace aP := eq_true aP; replace aQ := eq_true aQ; have aR : 0 ≤ (aA : Int) := odt; have aS : aA < (l1.length : Int) := odt; obtain ⟨aI, aU, aE, aF, aG⟩ := at_T98 a3.out aA aR aS; have aM := aG; have aN := aF; have aO := aE; cases aU; replace aE := ZC HB.out aE; replace aF := ZC HB.out aF; replace aG := ZC HB.out aG; replace aR := eq_true aR; replace aS := eq_true aS
        refine start_ (n := 10) (S := fun w' => w'.cell? (aH.add ((aA).toNat * 3)) = some (.int .i64 ((rd_T98 l0 aA).f0)) ∧ w'.cell? ⟨(aH.add ((aA).toNat * 3)).block, (aH.add ((aA).toNat * 3)).off + 1, none⟩ = some (.int .i64 ((rd_T98 l0 aA).f1)) ∧ w'.cell? ⟨(aH.add ((aA).toNat * 3)).block, (aH.add ((aA).toNat * 3)).off + 2, none⟩ = some (.string ((rd_T98 l0 aA).f2)) ∧ w'.cell? (aI.add ((aA).toNat * 3)) = some (.int .i64 ((rd_T98 l1 aA).f0)) ∧ w'.cell? ⟨(aI.add ((aA).toNat * 3)).block, (aI.add ((aA).toNat * 3)).off + 1, none⟩ = some (.int .i64 ((rd_T98 l1 aA).f1)) ∧ w'.cell? ⟨(aI.add ((aA).toNat * 3)).block, (aI.add ((aA).toNat * 3)).off + 2, none⟩ = some (.string ((rd_T98 l1 aA).f2))) (ds := []) M0 (by kernel_rfl) rfl rfl ⟨(ZC HB.out aL :), (ZC HB.out aK :), (ZC HB.out aJ :), (ZC HB.out aO :), (ZC HB.out aN :), (ZC HB.out aM :)⟩ (fun hHeld => ?_); refine with_tabW laws_eqValueS.tab6 laws_eqValueS.bits6 (fun HT_ HW_ => ?_)
        generalize wr.drew = w9 at HB aB aC aD aE aF aG hHeld ⊢; refine pU 0 17 M6 ?_; refine pU 1 18 M7 ?_; refine pU 2 19 M8 ?_; refine pU 4 21 M9 ?_; refine pU 5 22 M10 ?_; refine pU 6 23 M2 ?_; refine tU 3 20 M1 ?_ (y := Z40); refine tU 7 24 M3 ?_ (y := Z40)
        refine oU 8 (some 25) M4 (fun K hK => ?_)
        refine goes_ Try.func103 (by kernel_rfl) rfl #[.agg #[.int .i64 ((rd_T98 l0 aA).f0), .int .i64 ((rd_T98 l0 aA).f1), .string ((rd_T98 l0 aA).f2)], .agg #[.int .i64 ((rd_T98 l1 aA).f0), .int .i64 ((rd_T98 l1 aA).f1), .string ((rd_T98 l1 aA).f2)]] (by rfl) rfl rfl Z16 ?_
        with_reducible refine (laws_eqValue.calls ((rd_T98 l0 aA).f0) ((rd_T98 l0 aA).f1) ((rd_T98 l0 aA).f2) ((rd_T98 l1 aA).f0) ((rd_T98 l1 aA).f1) ((rd_T98 l1 aA).f2) true _ A7.out).mono ?_
        rintro e bC ⟨rfl, hb⟩
        refine ⟨_, rfl, ?_⟩
        replace HB := A_ (bst Z1 hb); (try clear hb); (try clear a9); (try clear hk); (try clear hi)
        refine hK.out _ _ ⟨(ZC HB.out aL :), (ZC HB.out aK :), (ZC HB.out aJ :), (ZC HB.out aO :), (ZC HB.out aN :), (ZC HB.out aM :)⟩ (fun hHeld => ?_)
        clear hK K
        refine norm_ (a' := ?_) ?_ ?_
        rotate_left; (·exact Z31); refine pU 9 26 M5 ?_
        refine done_ (done_of HT_.out (by kernel_rfl)) ?_
        try go_wp2
        go_roundg k1
        case measure => have := a4.out; omega
        case rel => exact ⟨(wrap64 (aA + 1)), Z17, H', ⟨by have := a4.out; omega⟩, ⟨Z1⟩⟩
       ·replace c8 := Bool.eq_false_iff.mpr c8
        subst c8; rw [if_neg (show ¬ (false = true) by decide)] at H; obtain rfl := Option.some.inj H
        try go_wp2
        replace HB := A_ (below_drew1 HB.out); have aP : 0 ≤ (aA : Int) := odt; have aQ : aA < (l0.length : Int) := odt; obtain ⟨aH, aT, aB, aC, aD⟩ := at_T98 a2.out aA aP aQ; have aJ := aD; have aK := aC; have aL := aB; cases aT; replace aB := ZC HB.out aB; replace aC := ZC HB.out aC; replace aD := ZC HB.out aD; replace aP := eq_true aP; replace aQ := eq_true aQ; have aR : 0 ≤ (aA : Int) := odt; have aS : aA < (l1.length : Int) := odt; obtain ⟨aI, aU, aE, aF, aG⟩ := at_T98 a3.out aA aR aS; have aM := aG; have aN := aF; have aO := aE; cases aU; replace aE := ZC HB.out aE; replace aF := ZC HB.out aF; replace aG := ZC HB.out aG; replace aR := eq_true aR; replace aS := eq_true aS
        refine start_ (n := 10) (S := fun w' => w'.cell? (aH.add ((aA).toNat * 3)) = some (.int .i64 ((rd_T98 l0 aA).f0)) ∧ w'.cell? ⟨(aH.add ((aA).toNat * 3)).block, (aH.add ((aA).toNat * 3)).off + 1, none⟩ = some (.int .i64 ((rd_T98 l0 aA).f1)) ∧ w'.cell? ⟨(aH.add ((aA).toNat * 3)).block, (aH.add ((aA).toNat * 3)).off + 2, none⟩ = some (.string ((rd_T98 l0 aA).f2)) ∧ w'.cell? (aI.add ((aA).toNat * 3)) = some (.int .i64 ((rd_T98 l1 aA).f0)) ∧ w'.cell? ⟨(aI.add ((aA).toNat * 3)).block, (aI.add ((aA).toNat * 3)).off + 1, none⟩ = some (.int .i64 ((rd_T98 l1 aA).f1)) ∧ w'.cell? ⟨(aI.add ((aA).toNat * 3)).block, (aI.add ((aA).toNat * 3)).off + 2, none⟩ = some (.string ((rd_T98 l1 aA).f2))) (ds := []) M0 (by kernel_rfl) rfl rfl ⟨(ZC HB.out aL :), (ZC HB.out aK :), (ZC HB.out aJ :), (ZC HB.out aO :), (ZC HB.out aN :), (ZC HB.out aM :)⟩ (fun hHeld => ?_); refine with_tabW laws_eqValueS.tab6 laws_eqValueS.bits6 (fun HT_ HW_ => ?_)
        generalize wr.drew = bD at HB aB aC aD aE aF aG hHeld ⊢; refine pU 0 17 M6 ?_; refine pU 1 18 M7 ?_; refine pU 2 19 M8 ?_; refine pU 4 21 M9 ?_; refine pU 5 22 M10 ?_; refine pU 6 23 M2 ?_; refine tU 3 20 M1 ?_ (y := Z40); refine tU 7 24 M3 ?_ (y := Z40)
        refine oU 8 (some 25) M4 (fun K hK => ?_)
        refine goes_ Try.func103 (by kernel_rfl) rfl #[.agg #[.int .i64 ((rd_T98 l0 aA).f0), .int .i64 ((rd_T98 l0 aA).f1), .string ((rd_T98 l0 aA).f2)], .agg #[.int .i64 ((rd_T98 l1 aA).f0), .int .i64 ((rd_T98 l1 aA).f1), .string ((rd_T98 l1 aA).f2)]] (by rfl) rfl rfl Z16 ?_
        with_reducible refine (laws_eqValue.calls ((rd_T98 l0 aA).f0) ((rd_T98 l0 aA).f1) ((rd_T98 l0 aA).f2) ((rd_T98 l1 aA).f0) ((rd_T98 l1 aA).f1) ((rd_T98 l1 aA).f2) false _ A7.out).mono ?_
        rintro e bE ⟨rfl, hb⟩
        refine ⟨_, rfl, ?_⟩
        replace HB := A_ (bst Z1 hb); (try clear hb); (try clear a9); (try clear hk); (try clear hi)
        refine hK.out _ _ ⟨(ZC HB.out aL :), (ZC HB.out aK :), (ZC HB.out aJ :), (ZC HB.out aO :), (ZC HB.out aN :), (ZC HB.out aM :)⟩ (fun hHeld => ?_)
        clear hK K
        refine norm_ (a' := ?_) ?_ ?_
        rotate_left; (·exact Z31); refine pU 9 26 M5 ?_
        refine done_ (done_of HT_.out (by kernel_rfl)) ?_
        try go_wp2
        go_ret
        exact ⟨Z7, Z1⟩
      ·rw [if_neg c6] at H
       exact absurd H (by simp)
     ·rw [if_neg c5] at H
      exact absurd H (by simp)
    ·rw [if_neg c4] at H
     have aY := df c4; clear c4; obtain rfl := Option.some.inj H
     go_wp2
     go_ret
     exact ⟨Z7, Z1⟩
 ·rw [if_neg c3] at H
  have aV : ((l0.length : Int) == (l1.length : Int)) = false := beq_eq_false_iff_ne.mpr c3; have aW : ((l0.length : Int) != (l1.length : Int)) = true := bne_iff_ne.mpr c3
  have aX : (l0.length == l1.length) = false := by first | simpa using c3 | (simp at c3 ⊢; omega)
  obtain rfl := Option.some.inj H
  go_enter Try.func88, Try.ntmps88
  go_wp2
  go_ret
  exact ⟨Z7, Z1⟩
end Go.Proofs.Ytgbbcebjgpoioaa.PFnExactHistRedo
