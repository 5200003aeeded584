/- Walks (lines of the print; no condition). -/
import Derived.Test.YtgbbcebjgpoioaaZFnExactHistRedoQFnExactHistRedox15
namespace Go.Proofs.Ytgbbcebjgpoioaa.PFnExactHistRedo
open Go.RowKit Go.Proofs.YtgbbcebjgpoioaaW.PrintWords Go.Proofs.YtgbbcebjgpoioaaW.PrintLast Go.Proofs.YtgbbcebjgpoioaaW.PrintMore
attribute [local go_sem] max2_int min2_int max_two min_two max_three min_three max_four min_four
set_option linter.unusedVariables false
set_option linter.unusedSimpArgs false
set_option maxHeartbeats 8000000
set_option maxRecDepth 100000
def laws_heldSlotS.l0 : Nat → List (S96) → Int → Int → Option (Int)
 | 0, _, _, _ => none
 | k + 1, x0, x1, x5 => if x5 < (x0.length : Int) then (if 0 ≤ x5 then (if ((rd_T96 x0 x5).f0) = x1 then (if ((rd_T96 x0 x5).f1) = (wrap64 (x1 + 1)) then (laws_heldSlotS.l0 k x0 (wrap64 ((wrap64 (x1 + 1)) + 1)) (wrap64 (x5 + 1))) else (some (-1))) else (some (-1))) else (none)) else (some x1)
def laws_heldSlotS.f (k : Nat) (l0 : List (S96)) (a1 : Int) : Option (Int) := laws_heldSlotS.l0 k l0 a1 0
theorem laws_heldSlotS.calls (k : Nat) (A0 : Option Addr) (c0 : Nat) (l0 : List (S96)) (a1 : Int) (r : Int) (w : World) (aU : Kd.C k96 w A0 l0.length l0) (hc0 : l0.length ≤ c0) (h : laws_heldSlotS.f k l0 a1 = some r) :
  Calls Try.prog 69 #[.slice A0 l0.length c0, .int .i64 a1] w fun e w' => e = .returned (.int .i64 r) ∧ Drawn0 w w' := by
 have aO := A_ aU; have aX := A_ hc0; clear aU hc0; have H := h; unfold laws_heldSlotS.f at H; clear h; have H' := A_ H; clear H
 go_enter Try.func69, Try.ntmps69
 go_wp2
 go_loopg [1, 5] k (fun kq v1 v5 w' => ∃ (aB : Int) (aA : Int), v1 = .int .i64 aB ∧ v5 = .int .i64 aA ∧ Aside0 (laws_heldSlotS.l0 kq l0 aB aA = some r) ∧ Aside0 (kq ≤ k) ∧ Drawn0 w w')
 case atStart => exact ⟨(a1), (0), Z17, Z17, H', ⟨Nat.le_refl _⟩, Z23⟩
 case round =>
  clear H'; obtain ⟨aB, aA, rfl, rfl, HA, aV, ⟨m1, rfl⟩⟩ := hrel
  cases gk with
  | zero => exact absurd HA.out (by simp [laws_heldSlotS.l0])
  | succ k1 =>
   have H := HA.out; clear HA; simp only [laws_heldSlotS.l0] at H
   by_cases c3 : aA < (l0.length : Int)
   ·rw [if_pos c3] at H
    have aP := dt c3; clear c3
    by_cases c4 : 0 ≤ aA
    ·rw [if_pos c4] at H
     have aW := dt c4; clear c4
     by_cases c5 : ((rd_T96 l0 aA).f0) = aB
     ·rw [if_pos c5] at H
      have aQ : (((rd_T96 l0 aA).f0) == aB) = true := beq_iff_eq.mpr c5; have aR : (((rd_T96 l0 aA).f0) != aB) = false := bne_eq_false_iff_eq.mpr c5; clear c5
      by_cases c6 : ((rd_T96 l0 aA).f1) = (wrap64 (aB + 1))
      ·rw [if_pos c6] at H
       have aS : (((rd_T96 l0 aA).f1) == (wrap64 (aB + 1))) = true := beq_iff_eq.mpr c6; have aT : (((rd_T96 l0 aA).f1) != (wrap64 (aB + 1))) = false := bne_eq_false_iff_eq.mpr c6; clear c6; have H' := A_ H; clear H; have aC : 0 ≤ (aA : Int) := odt; have aD : aA < (l0.length : Int) := odt; obtain ⟨aG, aJ, aH, aI⟩ := at_T96 aO.out aA aC aD; cases aJ; replace aC := eq_true aC; replace aD := eq_true aD; have aE : 0 ≤ (aA : Int) := odt; have aF : aA < (l0.length : Int) := odt; obtain ⟨aK, aN, aL, aM⟩ := at_T96 aO.out aA aE aF; obtain rfl : aG = aK := (by injection aN); replace aE := eq_true aE; replace aF := eq_true aF
       go_wp2
       go_roundg k1
       case measure => have := aV.out; omega
       case rel => exact ⟨(wrap64 ((wrap64 (aB + 1)) + 1)), (wrap64 (aA + 1)), Z17, Z17, H', ⟨by have := aV.out; omega⟩, Z23⟩
      ·rw [if_neg c6] at H
       have aS : (((rd_T96 l0 aA).f1) == (wrap64 (aB + 1))) = false := beq_eq_false_iff_ne.mpr c6; have aT : (((rd_T96 l0 aA).f1) != (wrap64 (aB + 1))) = true := bne_iff_ne.mpr c6; obtain rfl := Option.some.inj H; have aC : 0 ≤ (aA : Int) := odt; have aD : aA < (l0.length : Int) := odt; obtain ⟨aG, aJ, aH, aI⟩ := at_T96 aO.out aA aC aD; cases aJ; replace aC := eq_true aC; replace aD := eq_true aD; have aE : 0 ≤ (aA : Int) := odt; have aF : aA < (l0.length : Int) := odt; obtain ⟨aK, aN, aL, aM⟩ := at_T96 aO.out aA aE aF; obtain rfl : aG = aK := (by injection aN); replace aE := eq_true aE; replace aF := eq_true aF
       go_wp2
       go_ret
       exact ⟨Z17, Z23⟩
     ·rw [if_neg c5] at H
      have aQ : (((rd_T96 l0 aA).f0) == aB) = false := beq_eq_false_iff_ne.mpr c5; have aR : (((rd_T96 l0 aA).f0) != aB) = true := bne_iff_ne.mpr c5; obtain rfl := Option.some.inj H; have aC : 0 ≤ (aA : Int) := odt; have aD : aA < (l0.length : Int) := odt; obtain ⟨aG, aJ, aH, aI⟩ := at_T96 aO.out aA aC aD; cases aJ; replace aC := eq_true aC; replace aD := eq_true aD
      go_wp2
      go_ret
      exact ⟨Z17, Z23⟩
    ·exact Z45
   ·rw [if_neg c3] at H
    have aP := df c3; clear c3; obtain rfl := Option.some.inj H
    go_wp2
    go_ret
    exact ⟨Z17, Z23⟩
def laws_heldValueS.l0 : Nat → List (S98) → Int → Int → Option (Int)
 | 0, _, _, _ => none
 | k + 1, x0, x1, x5 => if x5 < (x0.length : Int) then (if 0 ≤ x5 then (if ((rd_T98 x0 x5).f0) = x1 then (if ((rd_T98 x0 x5).f1) = (wrap64 (x1 + 1)) then ((laws_markText.f k (wrap64 ((wrap64 (x1 + 1)) + 1))).bind fun aA => (if ((rd_T98 x0 x5).f2).toList = aA.toList then (laws_heldValueS.l0 k x0 (wrap64 ((wrap64 ((wrap64 (x1 + 1)) + 1)) + 1)) (wrap64 (x5 + 1))) else (some (-1)))) else (some (-1))) else (some (-1))) else (none)) else (some x1)
def laws_heldValueS.f (k : Nat) (l0 : List (S98)) (a1 : Int) : Option (Int) := laws_heldValueS.l0 k l0 a1 0
def laws_heldValueS.T10 : Bool × List (List Nat × List Nat) := (true, [([], []), ([], []), ([0, 1], [0, 1]), ([2], [2]), ([3], [3]), ([], []), ([5], [5]), ([4, 6], [4, 6])])
def laws_heldValueS.B10 : List Nat := [0, 0, 3, 7, 15, 0, 32, 127]
theorem laws_heldValueS.tab10 : rtab .any (opsOf Try.f70 10) = laws_heldValueS.T10 := by kernel_rfl
theorem laws_heldValueS.bits10 : waitsOk laws_heldValueS.T10.2 laws_heldValueS.B10 = true := by kernel_rfl
theorem laws_heldValueS.calls (k : Nat) (A0 : Option Addr) (c0 : Nat) (l0 : List (S98)) (a1 : Int) (r : Int) (w : World) (bA : Kd.C k98 w A0 l0.length l0) (hc0 : l0.length ≤ c0) (h : laws_heldValueS.f k l0 a1 = some r) :
  Calls Try.prog 70 #[.slice A0 l0.length c0, .int .i64 a1] w fun e w' => e = .returned (.int .i64 r) ∧ Below w.heap.size w w' := by
 have a0 := A_ bA; have bF := A_ hc0; clear bA hc0; have HB := A_ (Below.refl w.heap.size w); have H := h; unfold laws_heldValueS.f at H; clear h; have H' := A_ H; clear H
 go_enter Try.func70, Try.ntmps70
 go_wp2
 go_loopg [1, 5] k (fun kq v1 v5 w' => ∃ (aL : Int) (aA : Int), v1 = .int .i64 aL ∧ v5 = .int .i64 aA ∧ Aside0 (laws_heldValueS.l0 kq l0 aL aA = some r) ∧ Aside0 (kq ≤ k) ∧ Aside0 (Below w.heap.size w w'))
 case atStart => exact ⟨(a1), (0), Z17, Z17, H', ⟨Nat.le_refl _⟩, ⟨Z1⟩⟩
 case round =>
  clear H'; obtain ⟨aL, aA, rfl, rfl, HA, bB, HB⟩ := hrel
  cases gk with
  | zero => exact absurd HA.out (by simp [laws_heldValueS.l0])
  | succ k1 =>
   have H := HA.out; clear HA; simp only [laws_heldValueS.l0] at H
   by_cases c3 : aA < (l0.length : Int)
   ·rw [if_pos c3] at H
    have a3 := dt c3; clear c3
    by_cases c4 : 0 ≤ aA
    ·rw [if_pos c4] at H
     have bD := dt c4; clear c4
     by_cases c5 : ((rd_T98 l0 aA).f0) = aL
     ·rw [if_pos c5] at H
      have a4 : (((rd_T98 l0 aA).f0) == aL) = true := beq_iff_eq.mpr c5; have a5 : (((rd_T98 l0 aA).f0) != aL) = false := bne_eq_false_iff_eq.mpr c5; clear c5
      by_cases c6 : ((rd_T98 l0 aA).f1) = (wrap64 (aL + 1))
      ·rw [if_pos c6] at H
       have a6 : (((rd_T98 l0 aA).f1) == (wrap64 (aL + 1))) = true := beq_iff_eq.mpr c6; have a7 : (((rd_T98 l0 aA).f1) != (wrap64 (aL + 1))) = false := bne_eq_false_iff_eq.mpr c6; clear c6; replace H := bS H; obtain ⟨aU, bC, H⟩ := H
       try dsimp only at H
       have A7 := A_ bC; clear bC
       by_cases c8 : ((rd_T98 l0 aA).f2).toList = aU.toList
       ·rw [if_pos c8] at H
        have a8 : (((rd_T98 l0 aA).f2).toList == aU.toList) = true := beq_iff_eq.mpr c8; have a9 : (((rd_T98 l0 aA).f2).toList != aU.toList) = false := bne_eq_false_iff_eq.mpr c8; clear c8; have H' := A_ H; clear H; have aM : 0 ≤ (aA : Int) := odt; have aN : aA < (l0.length : Int) := odt; obtain ⟨aE, aV, aB, aC, aD⟩ := at_T98 a0.out aA aM aN; cases aV; replace aB := ZC HB.out aB; replace aC := ZC HB.out aC; replace aD := ZC HB.out aD; replace aM := eq_true aM; replace aN := eq_true aN; have aR : 0 ≤ (aA : Int) := odt; have aS : aA < (l0.length : Int) := odt; obtain ⟨aT, aY, aI, aJ, aK⟩ := at_T98 a0.out aA aR aS; obtain rfl : aE = aT := (by injection aY); replace aI := ZC HB.out aI; replace aJ := ZC HB.out aJ; replace aK := ZC HB.out aK; replace aR := eq_true aR; replace aS := eq_true aS
        try go_wp2
        replace HB := A_ (below_drew1 HB.out); have aW : 0 ≤ (aA : Int) := odt; have aX : aA < (l0.length : Int) := odt; obtain ⟨aZ, a2, aF, aG, aH⟩ := at_T98 a0.out aA aW aX; have aO := aH; have aP := aG; have aQ := aF; obtain rfl : aE = aZ := (by injection a2); replace aF := ZC HB.out aF; replace aG := ZC HB.out aG; replace aH := ZC HB.out aH; replace aW := eq_true aW; replace aX := eq_true aX
        refine start_ (n := 8) (S := fun w' => w'.cell? (aE.add ((aA).toNat * 3)) = some (.int .i64 ((rd_T98 l0 aA).f0)) ∧ w'.cell? ⟨(aE.add ((aA).toNat * 3)).block, (aE.add ((aA).toNat * 3)).off + 1, none⟩ = some (.int .i64 ((rd_T98 l0 aA).f1)) ∧ w'.cell? ⟨(aE.add ((aA).toNat * 3)).block, (aE.add ((aA).toNat * 3)).off + 2, none⟩ = some (.string ((rd_T98 l0 aA).f2))) (ds := []) #[F,F,F,F,F,F,F,F] (by kernel_rfl) rfl rfl ⟨(ZC HB.out aQ :), (ZC HB.out aP :), (ZC HB.out aO :)⟩ (fun hHeld => ?_); refine with_tabW laws_heldValueS.tab10 laws_heldValueS.bits10 (fun HT_ HW_ => ?_)
        generalize wr.drew = w9 at HB aF aG aH hHeld ⊢; refine pU 0 30 #[T,F,F,F,F,F,F,F] ?_; refine pU 1 31 #[T,T,F,F,F,F,F,F] ?_; refine pU 2 32 #[T,T,T,F,F,F,F,F] ?_; refine pU 3 33 #[T,T,T,T,F,F,F,F] ?_; refine pU 5 35 #[T,T,T,T,F,T,F,F] ?_; refine take_ (i := 4) (N := some 34) (v := ?_) (a' := ?_) #[T,T,T,T,T,T,F,F] rfl rfl (take_ofW HT_.out HW_.out (by kernel_rfl)) ZF (Or.inl ⟨by rfl, ?_⟩) hHeld ?_ ?_; rotate_left
        ·rintro w' ⟨s0, s1, s2⟩
         go_simp
         with_reducible rfl
        rotate_left; (·exact Z0)
        refine oU 6 (some 36) #[T,T,T,T,T,T,T,F] (fun K hK => ?_)
        refine goes_ Try.func89 (by kernel_rfl) rfl #[.int .i64 (wrap64 ((wrap64 (aL + 1)) + 1))] (by rfl) rfl rfl Z16 ?_
        with_reducible refine (laws_markText.calls k1 (wrap64 ((wrap64 (aL + 1)) + 1)) aU _ A7.out).mono ?_
        rintro e bG ⟨rfl, hb⟩
        refine ⟨_, rfl, ?_⟩
        replace HB := A_ (bst Z1 hb); (try clear hb); (try clear bE); (try clear hk); (try clear hi)
        refine hK.out _ _ ⟨(ZC HB.out aQ :), (ZC HB.out aP :), (ZC HB.out aO :)⟩ (fun hHeld => ?_)
        clear hK K
        refine norm_ (a' := ?_) ?_ ?_
        rotate_left
        ·show Act.put _ (some 36) _ = _
         simp only [Act.put, List.setIfInBounds_toArray, List.set_cons_zero, List.set_cons_succ, i64_w, i32_w]
         rfl
        refine pU 7 37 #[T,T,T,T,T,T,T,T] ?_
        refine done_ (done_of HT_.out (by kernel_rfl)) ?_
        try go_wp2
        go_roundg k1
        case measure => have := bB.out; omega
        case rel => exact ⟨(wrap64 ((wrap64 ((wrap64 (aL + 1)) + 1)) + 1)), (wrap64 (aA + 1)), Z17, Z17, H', ⟨by have := bB.out; omega⟩, ⟨Z1⟩⟩
       ·rw [if_neg c8] at H
        have a8 : (((rd_T98 l0 aA).f2).toList == aU.toList) = false := beq_eq_false_iff_ne.mpr c8; have a9 : (((rd_T98 l0 aA).f2).toList != aU.toList) = true := bne_iff_ne.mpr c8; obtain rfl := Option.some.inj H; have aM : 0 ≤ (aA : Int) := odt; have aN : aA < (l0.length : Int) := odt; obtain ⟨aE, aV, aB, aC, aD⟩ := at_T98 a0.out aA aM aN; cases aV; replace aB := ZC HB.out aB; replace aC := ZC HB.out aC; replace aD := ZC HB.out aD; replace aM := eq_true aM; replace aN := eq_true aN; have aR : 0 ≤ (aA : Int) := odt; have aS : aA < (l0.length : Int) := odt; obtain ⟨aT, aY, aI, aJ, aK⟩ := at_T98 a0.out aA aR aS; obtain rfl : aE = aT := (by injection aY); replace aI := ZC HB.out aI; replace aJ := ZC HB.out aJ; replace aK := ZC HB.out aK; replace aR := eq_true aR; replace aS := eq_true aS
        try go_wp2
        replace HB := A_ (below_drew1 HB.out); have aW : 0 ≤ (aA : Int) := odt; have aX : aA < (l0.length : Int) := odt; obtain ⟨aZ, a2, aF, aG, aH⟩ := at_T98 a0.out aA aW aX; have aO := aH; have aP := aG; have aQ := aF; obtain rfl : aE = aZ := (by injection a2); replace aF := ZC HB.out aF; replace aG := ZC HB.out aG; replace aH := ZC HB.out aH; replace aW := eq_true aW; replace aX := eq_true aX
        refine start_ (n := 8) (S := fun w' => w'.cell? (aE.add ((aA).toNat * 3)) = some (.int .i64 ((rd_T98 l0 aA).f0)) ∧ w'.cell? ⟨(aE.add ((aA).toNat * 3)).block, (aE.add ((aA).toNat * 3)).off + 1, none⟩ = some (.int .i64 ((rd_T98 l0 aA).f1)) ∧ w'.cell? ⟨(aE.add ((aA).toNat * 3)).block, (aE.add ((aA).toNat * 3)).off + 2, none⟩ = some (.string ((rd_T98 l0 aA).f2))) (ds := []) #[F,F,F,F,F,F,F,F] (by kernel_rfl) rfl rfl ⟨(ZC HB.out aQ :), (ZC HB.out aP :), (ZC HB.out aO :)⟩ (fun hHeld => ?_); refine with_tabW laws_heldValueS.tab10 laws_heldValueS.bits10 (fun HT_ HW_ => ?_)
        generalize wr.drew = bH at HB aF aG aH hHeld ⊢; refine pU 0 30 #[T,F,F,F,F,F,F,F] ?_; refine pU 1 31 #[T,T,F,F,F,F,F,F] ?_; refine pU 2 32 #[T,T,T,F,F,F,F,F] ?_; refine pU 3 33 #[T,T,T,T,F,F,F,F] ?_; refine pU 5 35 #[T,T,T,T,F,T,F,F] ?_; refine take_ (i := 4) (N := some 34) (v := ?_) (a' := ?_) #[T,T,T,T,T,T,F,F] rfl rfl (take_ofW HT_.out HW_.out (by kernel_rfl)) ZF (Or.inl ⟨by rfl, ?_⟩) hHeld ?_ ?_; rotate_left
        ·rintro w' ⟨s0, s1, s2⟩
         go_simp
         with_reducible rfl
        rotate_left; (·exact Z0)
        refine oU 6 (some 36) #[T,T,T,T,T,T,T,F] (fun K hK => ?_)
        refine goes_ Try.func89 (by kernel_rfl) rfl #[.int .i64 (wrap64 ((wrap64 (aL + 1)) + 1))] (by rfl) rfl rfl Z16 ?_
        with_reducible refine (laws_markText.calls k1 (wrap64 ((wrap64 (aL + 1)) + 1)) aU _ A7.out).mono ?_
        rintro e bI ⟨rfl, hb⟩
        refine ⟨_, rfl, ?_⟩
        replace HB := A_ (bst Z1 hb); (try clear hb); (try clear bE); (try clear hk); (try clear hi)
        refine hK.out _ _ ⟨(ZC HB.out aQ :), (ZC HB.out aP :), (ZC HB.out aO :)⟩ (fun hHeld => ?_)
        clear hK K
        refine norm_ (a' := ?_) ?_ ?_
        rotate_left
        ·show Act.put _ (some 36) _ = _
         simp only [Act.put, List.setIfInBounds_toArray, List.set_cons_zero, List.set_cons_succ, i64_w, i32_w]
         rfl
        refine pU 7 37 #[T,T,T,T,T,T,T,T] ?_
        refine done_ (done_of HT_.out (by kernel_rfl)) ?_
        try go_wp2
        go_ret
        exact ⟨Z7, Z1⟩
      ·rw [if_neg c6] at H
       have a6 : (((rd_T98 l0 aA).f1) == (wrap64 (aL + 1))) = false := beq_eq_false_iff_ne.mpr c6; have a7 : (((rd_T98 l0 aA).f1) != (wrap64 (aL + 1))) = true := bne_iff_ne.mpr c6; obtain rfl := Option.some.inj H; have aM : 0 ≤ (aA : Int) := odt; have aN : aA < (l0.length : Int) := odt; obtain ⟨aE, aV, aB, aC, aD⟩ := at_T98 a0.out aA aM aN; cases aV; replace aB := ZC HB.out aB; replace aC := ZC HB.out aC; replace aD := ZC HB.out aD; replace aM := eq_true aM; replace aN := eq_true aN; have aR : 0 ≤ (aA : Int) := odt; have aS : aA < (l0.length : Int) := odt; obtain ⟨aT, aY, aI, aJ, aK⟩ := at_T98 a0.out aA aR aS; obtain rfl : aE = aT := (by injection aY); replace aI := ZC HB.out aI; replace aJ := ZC HB.out aJ; replace aK := ZC HB.out aK; replace aR := eq_true aR; replace aS := eq_true aS
       go_wp2
       go_ret
       exact ⟨Z7, Z1⟩
     ·rw [if_neg c5] at H
      have a4 : (((rd_T98 l0 aA).f0) == aL) = false := beq_eq_false_iff_ne.mpr c5; have a5 : (((rd_T98 l0 aA).f0) != aL) = true := bne_iff_ne.mpr c5; obtain rfl := Option.some.inj H; have aM : 0 ≤ (aA : Int) := odt; have aN : aA < (l0.length : Int) := odt; obtain ⟨aE, aV, aB, aC, aD⟩ := at_T98 a0.out aA aM aN; cases aV; replace aB := ZC HB.out aB; replace aC := ZC HB.out aC; replace aD := ZC HB.out aD; replace aM := eq_true aM; replace aN := eq_true aN
      go_wp2
      go_ret
      exact ⟨Z7, Z1⟩
    ·exact Z45
   ·rw [if_neg c3] at H
    have a3 := df c3; clear c3; obtain rfl := Option.some.inj H
    go_wp2
    go_ret
    exact ⟨Z7, Z1⟩
def laws_heldCellS.l0 : Nat → List (S72) → Int → Int → Option (Int)
 | 0, _, _, _ => none
 | k + 1, x0, x1, x5 => if x5 < (x0.length : Int) then (if 0 ≤ x5 then ((laws_heldSlotS.f k ((rd_T72 x0 x5).f0) x1).bind fun aA => (if aA < 0 then (some (-1)) else ((laws_heldValueS.f k ((rd_T72 x0 x5).f1) aA).bind fun aB => (if aB < 0 then (some (-1)) else (laws_heldCellS.l0 k x0 aB (wrap64 (x5 + 1))))))) else (none)) else (some x1)
def laws_heldCellS.f (k : Nat) (l0 : List (S72)) (a1 : Int) : Option (Int) := laws_heldCellS.l0 k l0 a1 0
theorem laws_heldCellS.calls (k : Nat) (A0 : Option Addr) (c0 : Nat) (l0 : List (S72)) (a1 : Int) (r : Int) (w : World) (bJ : Kd.C k72 w A0 l0.length l0) (hc0 : l0.length ≤ c0) (h : laws_heldCellS.f k l0 a1 = some r) :
  Calls Try.prog 44 #[.slice A0 l0.length c0, .int .i64 a1] w fun e w' => e = .returned (.int .i64 r) ∧ Below w.heap.size w w' := by
 have bF := A_ bJ; have bO := A_ hc0; clear bJ hc0; have HB := A_ (Below.refl w.heap.size w); have H := h; unfold laws_heldCellS.f at H; clear h; have H' := A_ H; clear H
 go_enter Try.func44, Try.ntmps44
 go_wp2
 go_loopg [1, 5] k (fun kq v1 v5 w' => ∃ (aT : Int) (aA : Int), v1 = .int .i64 aT ∧ v5 = .int .i64 aA ∧ Aside0 (laws_heldCellS.l0 kq l0 aT aA = some r) ∧ Aside0 (kq ≤ k) ∧ Aside0 (Below w.heap.size w w'))
 case atStart => exact ⟨(a1), (0), Z17, Z17, H', ⟨Nat.le_refl _⟩, ⟨Z1⟩⟩
 case round =>
  clear H'; obtain ⟨aT, aA, rfl, rfl, HA, bK, HB⟩ := hrel
  cases gk with
  | zero => exact absurd HA.out (by simp [laws_heldCellS.l0])
  | succ k1 =>
   have H := HA.out; clear HA; simp only [laws_heldCellS.l0] at H
   by_cases c3 : aA < (l0.length : Int)
   ·rw [if_pos c3] at H
    have bG := dt c3; clear c3
    by_cases c4 : 0 ≤ aA
    ·rw [if_pos c4] at H
     have bN := dt c4; clear c4; replace H := bS H; obtain ⟨aY, bL, H⟩ := H
     try dsimp only at H
     have A5 := A_ bL; clear bL
     by_cases c6 : aY < 0
     ·rw [if_pos c6] at H
      have bH := dt c6; clear c6; obtain rfl := Option.some.inj H; have aP : 0 ≤ (aA : Int) := odt; have aQ : aA < (l0.length : Int) := odt; obtain ⟨a2, aR, aS, aU, aV, a5, aB, aC, aD, aE, aF, aG⟩ := at_T72 bF.out aA aP aQ; cases a5; replace aB := ZC HB.out aB; replace aC := ZC HB.out aC; have aJ := A_ aE; have aK := A_ aD; clear aE aD; have a3 := A_ aG; have a4 := A_ aF; clear aG aF; replace aP := eq_true aP; replace aQ := eq_true aQ
      go_wp2_with (first | ((with_reducible refine gate_callee (f := 69) rfl ?_); refine gL 18 Try.func69 #[.slice aR ((rd_T72 l0 aA).f0).length aS, .int .i64 aT] ?_; (with_reducible refine (laws_heldSlotS.calls k1 _ _ ((rd_T72 l0 aA).f0) aT aY _ ?s1 aK.out A5.out).mono ?_); (case s1 => exact Z4 aJ.out); rintro e w' ⟨rfl, ⟨nd, rfl⟩⟩; refine ⟨_, rfl, ?_⟩))
      go_ret
      exact ⟨Z7, Z1⟩
     ·rw [if_neg c6] at H
      have bH := df c6; clear c6; replace H := bS H; obtain ⟨a7, bM, H⟩ := H
      try dsimp only at H
      have A7 := A_ bM; clear bM
      by_cases c8 : a7 < 0
      ·rw [if_pos c8] at H
       have bI := dt c8; clear c8; obtain rfl := Option.some.inj H; have aP : 0 ≤ (aA : Int) := odt; have aQ : aA < (l0.length : Int) := odt; obtain ⟨a2, aR, aS, aU, aV, a5, aB, aC, aD, aE, aF, aG⟩ := at_T72 bF.out aA aP aQ; cases a5; replace aB := ZC HB.out aB; replace aC := ZC HB.out aC; have aJ := A_ aE; have aK := A_ aD; clear aE aD; have a3 := A_ aG; have a4 := A_ aF; clear aG aF; replace aP := eq_true aP; replace aQ := eq_true aQ
       go_wp2_with (first | ((with_reducible refine gate_callee (f := 69) rfl ?_); refine gL 18 Try.func69 #[.slice aR ((rd_T72 l0 aA).f0).length aS, .int .i64 aT] ?_; (with_reducible refine (laws_heldSlotS.calls k1 _ _ ((rd_T72 l0 aA).f0) aT aY _ ?s1 aK.out A5.out).mono ?_); (case s1 => exact Z4 aJ.out); rintro e w' ⟨rfl, ⟨nd, rfl⟩⟩; refine ⟨_, rfl, ?_⟩; have aZ : 0 ≤ (aA : Int) := odt; have a0 : aA < (l0.length : Int) := odt; obtain ⟨a6, bA, bB, bC, bD, bE, aH, aI, aL, aM, aN, aO⟩ := at_T72 bF.out aA aZ a0; obtain rfl : a2 = a6 := (by injection bE); replace aH := ZC HB.out aH; replace aI := ZC HB.out aI; have a8 := A_ aM; have a9 := A_ aL; clear aM aL; have aW := A_ aO; have aX := A_ aN; clear aO aN; replace aZ := eq_true aZ; replace a0 := eq_true a0; have ea_ := Option.some.inj (aB.symm.trans aH); injection ea_ with ea_ en_ ec_; subst ea_; subst ec_; clear en_; have ea_ := Option.some.inj (aC.symm.trans aI); injection ea_ with ea_ en_ ec_; subst ea_; subst ec_; clear en_) | ((with_reducible refine gate_callee (f := 70) rfl ?_); refine gL 27 Try.func70 #[.slice aU ((rd_T72 l0 aA).f1).length aV, .int .i64 aY] ?_; (with_reducible refine (laws_heldValueS.calls k1 _ _ ((rd_T72 l0 aA).f1) aY a7 _ ?s1 aX.out A7.out).mono ?_); (case s1 => repeat (first | exact (Kd.C_below aW.out Z1) | (with_reducible refine Kd.C_alloc ?_ _) | (with_reducible refine Kd.C_drewN ?_ _) | (with_reducible refine Kd.C_drew ?_))); rintro e w9 ⟨rfl, hb⟩; refine ⟨_, rfl, ?_⟩; replace HB := A_ (bst Z1 hb); (try clear hb)))
       go_ret
       exact ⟨Z7, Z1⟩
      ·rw [if_neg c8] at H
       have bI := df c8; clear c8; have H' := A_ H; clear H; have aP : 0 ≤ (aA : Int) := odt; have aQ : aA < (l0.length : Int) := odt; obtain ⟨a2, aR, aS, aU, aV, a5, aB, aC, aD, aE, aF, aG⟩ := at_T72 bF.out aA aP aQ; cases a5; replace aB := ZC HB.out aB; replace aC := ZC HB.out aC; have aJ := A_ aE; have aK := A_ aD; clear aE aD; have a3 := A_ aG; have a4 := A_ aF; clear aG aF; replace aP := eq_true aP; replace aQ := eq_true aQ
       go_wp2_with (first | ((with_reducible refine gate_callee (f := 69) rfl ?_); refine gL 18 Try.func69 #[.slice aR ((rd_T72 l0 aA).f0).length aS, .int .i64 aT] ?_; (with_reducible refine (laws_heldSlotS.calls k1 _ _ ((rd_T72 l0 aA).f0) aT aY _ ?s1 aK.out A5.out).mono ?_); (case s1 => exact Z4 aJ.out); rintro e w' ⟨rfl, ⟨nd, rfl⟩⟩; refine ⟨_, rfl, ?_⟩; have aZ : 0 ≤ (aA : Int) := odt; have a0 : aA < (l0.length : Int) := odt; obtain ⟨a6, bA, bB, bC, bD, bE, aH, aI, aL, aM, aN, aO⟩ := at_T72 bF.out aA aZ a0; obtain rfl : a2 = a6 := (by injection bE); replace aH := ZC HB.out aH; replace aI := ZC HB.out aI; have a8 := A_ aM; have a9 := A_ aL; clear aM aL; have aW := A_ aO; have aX := A_ aN; clear aO aN; replace aZ := eq_true aZ; replace a0 := eq_true a0; have ea_ := Option.some.inj (aB.symm.trans aH); injection ea_ with ea_ en_ ec_; subst ea_; subst ec_; clear en_; have ea_ := Option.some.inj (aC.symm.trans aI); injection ea_ with ea_ en_ ec_; subst ea_; subst ec_; clear en_) | ((with_reducible refine gate_callee (f := 70) rfl ?_); refine gL 27 Try.func70 #[.slice aU ((rd_T72 l0 aA).f1).length aV, .int .i64 aY] ?_; (with_reducible refine (laws_heldValueS.calls k1 _ _ ((rd_T72 l0 aA).f1) aY a7 _ ?s1 aX.out A7.out).mono ?_); (case s1 => repeat (first | exact (Kd.C_below aW.out Z1) | (with_reducible refine Kd.C_alloc ?_ _) | (with_reducible refine Kd.C_drewN ?_ _) | (with_reducible refine Kd.C_drew ?_))); rintro e bP ⟨rfl, hb⟩; refine ⟨_, rfl, ?_⟩; replace HB := A_ (bst Z1 hb); (try clear hb)))
       go_roundg k1
       case measure => have := bK.out; omega
       case rel => exact ⟨(a7), (wrap64 (aA + 1)), Z17, Z17, H', ⟨by have := bK.out; omega⟩, ⟨Z1⟩⟩
    ·exact Z45
   ·rw [if_neg c3] at H
    have bG := df c3; clear c3; obtain rfl := Option.some.inj H
    go_wp2
    go_ret
    exact ⟨Z7, Z1⟩
def laws_heldCellSS.l0 : Nat → List (List (S72)) → Int → Int → Option (Int)
 | 0, _, _, _ => none
 | k + 1, x0, x1, x5 => if x5 < (x0.length : Int) then (if 0 ≤ x5 then ((laws_heldCellS.f k (rd_L7 x0 x5) x1).bind fun aA => (if aA < 0 then (some (-1)) else (laws_heldCellSS.l0 k x0 aA (wrap64 (x5 + 1))))) else (none)) else (some x1)
def laws_heldCellSS.f (k : Nat) (l0 : List (List (S72))) (a1 : Int) : Option (Int) := laws_heldCellSS.l0 k l0 a1 0
theorem laws_heldCellSS.calls (k : Nat) (A0 : Option Addr) (c0 : Nat) (l0 : List (List (S72))) (a1 : Int) (r : Int) (w : World) (aQ : Kd.C (Kd.slice 72 k72) w A0 l0.length l0) (hc0 : l0.length ≤ c0) (h : laws_heldCellSS.f k l0 a1 = some r) :
  Calls Try.prog 45 #[.slice A0 l0.length c0, .int .i64 a1] w fun e w' => e = .returned (.int .i64 r) ∧ Below w.heap.size w w' := by
 have aR := A_ aQ; have aV := A_ hc0; clear aQ hc0; have HB := A_ (Below.refl w.heap.size w); have H := h; unfold laws_heldCellSS.f at H; clear h; have H' := A_ H; clear H
 go_enter Try.func45, Try.ntmps45
 go_wp2
 go_loopg [1, 5] k (fun kq v1 v5 w' => ∃ (aG : Int) (aA : Int), v1 = .int .i64 aG ∧ v5 = .int .i64 aA ∧ Aside0 (laws_heldCellSS.l0 kq l0 aG aA = some r) ∧ Aside0 (kq ≤ k) ∧ Aside0 (Below w.heap.size w w'))
 case atStart => exact ⟨(a1), (0), Z17, Z17, H', ⟨Nat.le_refl _⟩, ⟨Z1⟩⟩
 case round =>
  clear H'; obtain ⟨aG, aA, rfl, rfl, HA, aS, HB⟩ := hrel
  cases gk with
  | zero => exact absurd HA.out (by simp [laws_heldCellSS.l0])
  | succ k1 =>
   have H := HA.out; clear HA; simp only [laws_heldCellSS.l0] at H
   by_cases c3 : aA < (l0.length : Int)
   ·rw [if_pos c3] at H
    have aO := dt c3; clear c3
    by_cases c4 : 0 ≤ aA
    ·rw [if_pos c4] at H
     have aU := dt c4; clear c4; replace H := bS H; obtain ⟨aL, aT, H⟩ := H
     try dsimp only at H
     have A5 := A_ aT; clear aT
     by_cases c6 : aL < 0
     ·rw [if_pos c6] at H
      have aP := dt c6; clear c6; obtain rfl := Option.some.inj H; have aH : 0 ≤ (aA : Int) := odt; have aI : aA < (l0.length : Int) := odt; obtain ⟨aN, aJ, aK, aM, aB, aC, aD⟩ := at_L7 aR.out aA aH aI; cases aM; replace aB := ZC HB.out aB; have aE := A_ aD; have aF := A_ aC; clear aD aC; replace aH := eq_true aH; replace aI := eq_true aI
      go_wp2_with (first | ((with_reducible refine gate_callee (f := 44) rfl ?_); refine gL 17 Try.func44 #[.slice aJ (rd_L7 l0 aA).length aK, .int .i64 aG] ?_; (with_reducible refine (laws_heldCellS.calls k1 _ _ (rd_L7 l0 aA) aG aL _ ?s1 aF.out A5.out).mono ?_); (case s1 => exact Z4 aE.out); rintro e w7 ⟨rfl, hb⟩; refine ⟨_, rfl, ?_⟩; replace HB := A_ (bst Z1 hb); (try clear hb)))
      go_ret
      exact ⟨Z7, Z1⟩
     ·rw [if_neg c6] at H
      have aP := df c6; clear c6; have H' := A_ H; clear H; have aH : 0 ≤ (aA : Int) := odt; have aI : aA < (l0.length : Int) := odt; obtain ⟨aN, aJ, aK, aM, aB, aC, aD⟩ := at_L7 aR.out aA aH aI; cases aM; replace aB := ZC HB.out aB; have aE := A_ aD; have aF := A_ aC; clear aD aC; replace aH := eq_true aH; replace aI := eq_true aI
      go_wp2_with (first | ((with_reducible refine gate_callee (f := 44) rfl ?_); refine gL 17 Try.func44 #[.slice aJ (rd_L7 l0 aA).length aK, .int .i64 aG] ?_; (with_reducible refine (laws_heldCellS.calls k1 _ _ (rd_L7 l0 aA) aG aL _ ?s1 aF.out A5.out).mono ?_); (case s1 => exact Z4 aE.out); rintro e w8 ⟨rfl, hb⟩; refine ⟨_, rfl, ?_⟩; replace HB := A_ (bst Z1 hb); (try clear hb)))
      go_roundg k1
      case measure => have := aS.out; omega
      case rel => exact ⟨(aL), (wrap64 (aA + 1)), Z17, Z17, H', ⟨by have := aS.out; omega⟩, ⟨Z1⟩⟩
    ·exact Z45
   ·rw [if_neg c3] at H
    have aO := df c3; clear c3; obtain rfl := Option.some.inj H
    go_wp2
    go_ret
    exact ⟨Z7, Z1⟩
end Go.Proofs.Ytgbbcebjgpoioaa.PFnExactHistRedo
