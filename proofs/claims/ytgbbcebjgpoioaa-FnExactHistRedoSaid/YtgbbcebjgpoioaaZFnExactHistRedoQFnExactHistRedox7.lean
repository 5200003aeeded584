/- Walks (lines of the print; no condition). -/
import Derived.Test.YtgbbcebjgpoioaaZFnExactHistRedoQFnExactHistRedox1
namespace Go.Proofs.Ytgbbcebjgpoioaa.PFnExactHistRedo
open Go.RowKit Go.Proofs.YtgbbcebjgpoioaaW.PrintWords Go.Proofs.YtgbbcebjgpoioaaW.PrintLast Go.Proofs.YtgbbcebjgpoioaaW.PrintMore
attribute [local go_sem] max2_int min2_int max_two min_two max_three min_three max_four min_four
set_option linter.unusedVariables false
set_option linter.unusedSimpArgs false
set_option maxHeartbeats 8000000
set_option maxRecDepth 100000
attribute [local go_sem high] eqA96
def spec_inRange.f (a0 : Int) (a1 : Int) (a2 : Int) : Option (Bool) := if a0 ≥ a1 then (some (decide (a0 ≤ a2))) else (some false)
theorem spec_inRange.calls (a0 : Int) (a1 : Int) (a2 : Int) (r : Bool) (w : World) (h : spec_inRange.f a0 a1 a2 = some r) :
  Calls Try.prog 77 #[.int .i64 a0, .int .i64 a1, .int .i64 a2] w fun e w' => e = .returned (.bool r) ∧ Drawn0 w w' := by
 have H := h; unfold spec_inRange.f at H; clear h
 by_cases c4 : a0 ≥ a1
 ·rw [if_pos c4] at H
  have aA : decide (a1 ≤ a0) = true := dt c4; clear c4; obtain rfl := Option.some.inj H
  go_enter Try.func77, Try.ntmps77
  go_wp2
  go_ret
  exact ⟨Z17, Z23⟩
 ·rw [if_neg c4] at H
  have aA : decide (a1 ≤ a0) = false := df c4; clear c4; obtain rfl := Option.some.inj H
  go_enter Try.func77, Try.ntmps77
  go_wp2
  go_ret
  exact ⟨Z17, Z23⟩
def spec_validSlot.f (aA : Int) (aB : Int) : Option (Bool) := (spec_inRange.f aA 0 3).bind fun aC => (if aC = true then ((spec_inRange.f aB 0 103).bind fun aD => (some aD)) else (some false))
theorem spec_validSlot.calls (aA : Int) (aB : Int) (r : Bool) (w : World) (h : spec_validSlot.f aA aB = some r) :
  Calls Try.prog 73 #[.agg #[.int .i64 aA, .int .i64 aB]] w fun e w' => e = .returned (.bool r) ∧ Below w.heap.size w w' := by
 have aS := Try.underlying96; have HB := A_ (Below.refl w.heap.size w); have H := h; unfold spec_validSlot.f at H; clear h; replace H := bS H; obtain ⟨aG, aQ, H⟩ := H
 try dsimp only at H
 have A2 := A_ aQ; clear aQ
 by_cases c3 : aG = true
 ·subst c3
  rw [if_pos rfl] at H; replace H := bS H; obtain ⟨aH, aR, H⟩ := H
  try dsimp only at H
  have A4 := A_ aR; clear aR; obtain rfl := Option.some.inj H
  go_enter Try.func73, Try.ntmps73
  go_wp2_with (first | ((with_reducible refine gate_dst (N := 1) rfl ?_); refine be (cs := #[.int .i64 aA, .int .i64 aB]) (t := 96) ?_; intro aF hg w5 hbox hb; have aC := A_ hbox; have aD := A_ (gl hg (bz Z1)); have aE := aD; replace HB := A_ (bst Z1 hb); clear hb hbox hg; obtain ⟨aI, aJ, aK, aL⟩ := C2 aC.out) | ((with_reducible refine gate_callee (f := 77) rfl ?_); refine gL 5 Try.func77 #[.int .i64 aA, .int .i64 0, .int .i64 3] ?_; (with_reducible refine (spec_inRange.calls aA 0 3 true _ A2.out).mono ?_); rintro e w' ⟨rfl, ⟨nd, rfl⟩⟩; refine ⟨_, rfl, ?_⟩) | (go_at_call 77; (with_reducible refine (spec_inRange.calls aB 0 103 aH _ A4.out).mono ?_); rintro e w' ⟨rfl, ⟨nd, rfl⟩⟩))
  go_ret
  exact ⟨Z7, Z3 aE.out⟩
 ·replace c3 := Bool.eq_false_iff.mpr c3
  subst c3; rw [if_neg (show ¬ (false = true) by decide)] at H; obtain rfl := Option.some.inj H
  go_enter Try.func73, Try.ntmps73
  go_wp2_with (first | ((with_reducible refine gate_dst (N := 1) rfl ?_); refine be (cs := #[.int .i64 aA, .int .i64 aB]) (t := 96) ?_; intro aF hg w7 hbox hb; have aC := A_ hbox; have aD := A_ (gl hg (bz Z1)); have aE := aD; replace HB := A_ (bst Z1 hb); clear hb hbox hg; obtain ⟨aM, aN, aO, aP⟩ := C2 aC.out) | ((with_reducible refine gate_callee (f := 77) rfl ?_); refine gL 5 Try.func77 #[.int .i64 aA, .int .i64 0, .int .i64 3] ?_; (with_reducible refine (spec_inRange.calls aA 0 3 false _ A2.out).mono ?_); rintro e w' ⟨rfl, ⟨nd, rfl⟩⟩; refine ⟨_, rfl, ?_⟩))
  go_ret
  exact ⟨Z7, Z3 aE.out⟩
def spec_validPlace.l0 : Nat → List (S96) → Int → Option (Bool)
 | 0, _, _ => none
 | k + 1, x0, x3 => if x3 < (x0.length : Int) then (if 0 ≤ x3 then ((spec_validSlot.f ((rd_T96 x0 x3).f0) ((rd_T96 x0 x3).f1)).bind fun aA => (if aA = true then (spec_validPlace.l0 k x0 (wrap64 (x3 + 1))) else (some false))) else (none)) else (some true)
def spec_validPlace.f (k : Nat) (l0 : List (S96)) : Option (Bool) := if (l0.length : Int) > 20 then (some false) else (spec_validPlace.l0 k l0 0)
theorem spec_validPlace.calls (k : Nat) (A0 : Option Addr) (c0 : Nat) (l0 : List (S96)) (r : Bool) (w : World) (aL : Kd.C k96 w A0 l0.length l0) (hc0 : l0.length ≤ c0) (h : spec_validPlace.f k l0 = some r) :
  Calls Try.prog 48 #[.slice A0 l0.length c0] w fun e w' => e = .returned (.bool r) ∧ Below w.heap.size w w' := by
 have aP := Try.underlying96; have aM := A_ aL; have aR := A_ hc0; clear aL hc0; have HB := A_ (Below.refl w.heap.size w); have H := h; unfold spec_validPlace.f at H; clear h
 by_cases c2 : (l0.length : Int) > 20
 ·rw [if_pos c2] at H
  have aG : decide (20 < (l0.length : Int)) = true := dt c2; have aH : decide (20 < l0.length) = true := dt (by omega); clear c2; obtain rfl := Option.some.inj H
  go_enter Try.func48, Try.ntmps48
  go_wp2
  go_ret
  exact ⟨Z7, Z1⟩
 ·rw [if_neg c2] at H
  have aG : decide (20 < (l0.length : Int)) = false := df c2; have aH : decide (20 < l0.length) = false := df (by omega); clear c2; have H' := A_ H; clear H
  go_enter Try.func48, Try.ntmps48
  go_wp2
  go_loopg [3] k (fun kq v3 w' => ∃ (aA : Int), v3 = .int .i64 aA ∧ Aside0 (spec_validPlace.l0 kq l0 aA = some r) ∧ Aside0 (kq ≤ k) ∧ Aside0 (Below w.heap.size w w'))
  case atStart => exact ⟨(0), Z17, H', ⟨Nat.le_refl _⟩, ⟨Z1⟩⟩
  case round =>
   clear H'; try clear c2
   try clear aG
   try clear aH
   obtain ⟨aA, rfl, HA, aN, HB⟩ := hrel
   cases gk with
   | zero => exact absurd HA.out (by simp [spec_validPlace.l0])
   | succ k1 =>
    have H := HA.out; clear HA; simp only [spec_validPlace.l0] at H
    by_cases c3 : aA < (l0.length : Int)
    ·rw [if_pos c3] at H
     have aJ := dt c3; clear c3
     by_cases c4 : 0 ≤ aA
     ·rw [if_pos c4] at H
      have aQ := dt c4; clear c4; replace H := bS H; obtain ⟨aK, aO, H⟩ := H
      try dsimp only at H
      have A5 := A_ aO; clear aO
      by_cases c6 : aK = true
      ·subst c6
       rw [if_pos rfl] at H; have H' := A_ H; clear H; have aD : 0 ≤ (aA : Int) := odt; have aE : aA < (l0.length : Int) := odt; obtain ⟨aI, aF, aB, aC⟩ := at_T96 aM.out aA aD aE; cases aF; replace aB := ZC HB.out aB; replace aC := ZC HB.out aC; replace aD := eq_true aD; replace aE := eq_true aE
       go_wp2_with (first | ((with_reducible refine gate_callee (f := 73) rfl ?_); refine gL 17 Try.func73 #[.agg #[.int .i64 ((rd_T96 l0 aA).f0), .int .i64 ((rd_T96 l0 aA).f1)]] ?_; (with_reducible refine (spec_validSlot.calls ((rd_T96 l0 aA).f0) ((rd_T96 l0 aA).f1) true _ A5.out).mono ?_); rintro e w7 ⟨rfl, hb⟩; refine ⟨_, rfl, ?_⟩; replace HB := A_ (bst Z1 hb); (try clear hb)))
       go_roundg k1
       case measure => have := aN.out; omega
       case rel => exact ⟨(wrap64 (aA + 1)), Z17, H', ⟨by have := aN.out; omega⟩, ⟨Z1⟩⟩
      ·replace c6 := Bool.eq_false_iff.mpr c6
       subst c6; rw [if_neg (show ¬ (false = true) by decide)] at H; obtain rfl := Option.some.inj H; have aD : 0 ≤ (aA : Int) := odt; have aE : aA < (l0.length : Int) := odt; obtain ⟨aI, aF, aB, aC⟩ := at_T96 aM.out aA aD aE; cases aF; replace aB := ZC HB.out aB; replace aC := ZC HB.out aC; replace aD := eq_true aD; replace aE := eq_true aE
       go_wp2_with (first | ((with_reducible refine gate_callee (f := 73) rfl ?_); refine gL 17 Try.func73 #[.agg #[.int .i64 ((rd_T96 l0 aA).f0), .int .i64 ((rd_T96 l0 aA).f1)]] ?_; (with_reducible refine (spec_validSlot.calls ((rd_T96 l0 aA).f0) ((rd_T96 l0 aA).f1) false _ A5.out).mono ?_); rintro e w8 ⟨rfl, hb⟩; refine ⟨_, rfl, ?_⟩; replace HB := A_ (bst Z1 hb); (try clear hb)))
       go_ret
       exact ⟨Z7, Z1⟩
     ·exact Z45
    ·rw [if_neg c3] at H
     have aJ := df c3; clear c3; obtain rfl := Option.some.inj H
     go_wp2
     go_ret
     exact ⟨Z7, Z1⟩
mutual
def spec_comparePlaces.l0 : Nat → List (S96) → List (S96) → Int → Option (Int)
 | 0, _, _, _ => none
 | k + 1, x0, x1, x5 => if x5 < (x0.length : Int) then (spec_comparePlaces.j1 k x0 x1 x5 (decide (x5 < (x1.length : Int)))) else (spec_comparePlaces.j1 k x0 x1 x5 false)
def spec_comparePlaces.j1 : Nat → List (S96) → List (S96) → Int → Bool → Option (Int)
 | 0, _, _, _, _ => none
 | k + 1, x0, x1, x5, aA => if aA = true then (if 0 ≤ x5 then (if x5 < (x0.length : Int) then (if x5 < (x1.length : Int) then (if ((rd_T96 x0 x5).f0) < ((rd_T96 x1 x5).f0) then (spec_comparePlaces.j2 k x0 x1 x5 (decide (((rd_T96 x0 x5).f0) < ((rd_T96 x1 x5).f0)))) else (if ((rd_T96 x0 x5).f0) = ((rd_T96 x1 x5).f0) then (spec_comparePlaces.j2 k x0 x1 x5 (decide (((rd_T96 x0 x5).f1) < ((rd_T96 x1 x5).f1)))) else (spec_comparePlaces.j2 k x0 x1 x5 false))) else (none)) else (none)) else (none)) else (if (x0.length : Int) < (x1.length : Int) then (some (-1)) else (if (x0.length : Int) > (x1.length : Int) then (some 1) else (some 0)))
def spec_comparePlaces.j2 : Nat → List (S96) → List (S96) → Int → Bool → Option (Int)
 | 0, _, _, _, _ => none
 | k + 1, x0, x1, x5, aB => if aB = true then (some (-1)) else (if 0 ≤ x5 then (if x5 < (x0.length : Int) then (if x5 < (x1.length : Int) then (if (!(((rd_T96 x0 x5).f0) == ((rd_T96 x1 x5).f0)) || (!(((rd_T96 x0 x5).f1) == ((rd_T96 x1 x5).f1)))) = true then (some 1) else (spec_comparePlaces.l0 k x0 x1 (wrap64 (x5 + 1)))) else (none)) else (none)) else (none))
end
def spec_comparePlaces.f (k : Nat) (l0 : List (S96)) (l1 : List (S96)) : Option (Int) := spec_comparePlaces.l0 k l0 l1 0
theorem spec_comparePlaces.calls (k : Nat) (A0 : Option Addr) (c0 : Nat) (l0 : List (S96)) (A1 : Option Addr) (c1 : Nat) (l1 : List (S96)) (r : Int) (w : World) (cG : Kd.C k96 w A0 l0.length l0) (hc0 : l0.length ≤ c0) (hr1 : Kd.C k96 w A1 l1.length l1) (cH : l1.length ≤ c1) (h : spec_comparePlaces.f k l0 l1 = some r) :
  Calls Try.prog 59 #[.slice A0 l0.length c0, .slice A1 l1.length c1] w fun e w' => e = .returned (.int .i64 r) ∧ Drawn0 w w' := by
 have cM := Try.underlying96; have bL := A_ cG; have cR := A_ hc0; clear cG hc0; have bM := A_ hr1; have cS := A_ cH; clear hr1 cH; have H := h; unfold spec_comparePlaces.f at H; clear h; have H' := A_ H; clear H
 go_enter Try.func59, Try.ntmps59
 go_wp2
 repeat (go_quiet (fail); try go_wp2)
 go_loopg [5] k (fun kq v5 w' => ∃ (aA : Int), v5 = .int .i64 aA ∧ Aside0 (spec_comparePlaces.l0 kq l0 l1 aA = some r) ∧ Aside0 (kq ≤ k) ∧ Drawn0 w w')
 case atStart => exact ⟨(0), Z17, H', ⟨Nat.le_refl _⟩, Z23⟩
 case round =>
  clear H'; try clear c1
  obtain ⟨aA, rfl, HA, bB, ⟨m1, rfl⟩⟩ := hrel
  cases gk with
  | zero => exact absurd HA.out (by simp [spec_comparePlaces.l0])
  | succ k1 =>
   have H := HA.out; clear HA; simp only [spec_comparePlaces.l0] at H; have b7 := A_ H; clear H
   go_upto_region 2 with (fail)
   repeat (go_quiet (fail); go_upto_region 2 with (fail))
   go_cut [15] (fun cN wc => ∃ (kq : Nat) (aM : Bool), cN = .bool aM ∧ Aside0 (spec_comparePlaces.j1 kq l0 l1 aA aM = some r) ∧ Aside0 (kq ≤ k1) ∧ Drawn0 w wc)
   case first =>
    have H := b7.out; clear b7
    by_cases c4 : aA < (l0.length : Int)
    ·rw [if_pos c4] at H
     have aO := dt c4; clear c4; (first | rw [aO] | (simp only [i64_w, i32_w]; rw [aO]) | skip); have H' := A_ H; clear H
     go_wp2
     repeat (go_quiet (fail); try go_wp2)
     go_meet
     case rel => exact ⟨_, (decide (aA < (l1.length : Int))), Z17, H', ⟨by have := bB.out; first | omega | exact Nat.le_refl _⟩, Z23⟩
    ·rw [if_neg c4] at H
     have aO := df c4; clear c4; (first | rw [aO] | (simp only [i64_w, i32_w]; rw [aO]) | skip); have H' := A_ H; clear H
     go_wp2
     repeat (go_quiet (fail); try go_wp2)
     go_meet
     case rel => exact ⟨_, (false), Z17, H', ⟨by have := bB.out; first | omega | exact Nat.le_refl _⟩, Z23⟩
   case rest =>
    clear b7; try clear c1
    try clear c4
    obtain ⟨kq, aM, rfl, HA, bO, ⟨cT, rfl⟩⟩ := hcut
    cases kq with
    | zero => exact absurd HA.out (by simp [spec_comparePlaces.j1])
    | succ cO =>
     have H := HA.out; clear HA; simp only [spec_comparePlaces.j1] at H
     by_cases c5 : aM = true
     ·subst c5
      rw [if_pos rfl] at H
      by_cases c6 : 0 ≤ aA
      ·rw [if_pos c6] at H
       have b8 := dt c6; clear c6
       by_cases c7 : aA < (l0.length : Int)
       ·rw [if_pos c7] at H
        have b9 := dt c7; clear c7
        by_cases c8 : aA < (l1.length : Int)
        ·rw [if_pos c8] at H
         have cA := dt c8; clear c8; have cB := A_ H; clear H; have aT : 0 ≤ (aA : Int) := odt; have aU : aA < (l0.length : Int) := odt; obtain ⟨aB, cC, aV, aW⟩ := at_T96 bL.out aA aT aU; cases cC; replace aT := eq_true aT; replace aU := eq_true aU; have aX : 0 ≤ (aA : Int) := odt; have aY : aA < (l1.length : Int) := odt; obtain ⟨aC, cD, aZ, a0⟩ := at_T96 bM.out aA aX aY; cases cD; replace aX := eq_true aX; replace aY := eq_true aY
         go_upto_if 18 with (fail)
         repeat (go_quiet (fail); go_upto_if 18 with (fail))
         go_cut [18] (fun cP wc => ∃ (kq : Nat) (aN : Bool), cP = .bool aN ∧ Aside0 (spec_comparePlaces.j2 kq l0 l1 aA aN = some r) ∧ Aside0 (kq ≤ cO) ∧ Drawn0 w wc)
         case first =>
          have H := cB.out; clear cB
          by_cases c10 : ((rd_T96 l0 aA).f0) < ((rd_T96 l1 aA).f0)
          ·rw [if_pos c10] at H
           have aD := dt c10; clear c10; (first | rw [aD] | (simp only [i64_w, i32_w]; rw [aD]) | skip); have H' := A_ H; clear H
           go_wp2
           repeat (go_quiet (fail); try go_wp2)
           go_meet
           case rel => exact ⟨_, (decide (((rd_T96 l0 aA).f0) < ((rd_T96 l1 aA).f0))), Z17, H', ⟨by have := bB.out; have := bO.out; first | omega | exact Nat.le_refl _⟩, Z23⟩
          ·rw [if_neg c10] at H
           have aD := df c10; clear c10; (first | rw [aD] | (simp only [i64_w, i32_w]; rw [aD]) | skip)
           by_cases bC : ((rd_T96 l0 aA).f0) = ((rd_T96 l1 aA).f0)
           ·rw [if_pos bC] at H
            have bP : (((rd_T96 l0 aA).f0) == ((rd_T96 l1 aA).f0)) = true := beq_iff_eq.mpr bC; have bQ : (((rd_T96 l0 aA).f0) != ((rd_T96 l1 aA).f0)) = false := bne_eq_false_iff_eq.mpr bC; clear bC; have H' := A_ H; clear H; have aE : 0 ≤ (aA : Int) := odt; have aF : aA < (l0.length : Int) := odt; obtain ⟨aP, bD, a1, a2⟩ := at_T96 bL.out aA aE aF; obtain rfl : aB = aP := (by injection bD); replace aE := eq_true aE; replace aF := eq_true aF; have aG : 0 ≤ (aA : Int) := odt; have aH : aA < (l1.length : Int) := odt; obtain ⟨aQ, bE, a3, a4⟩ := at_T96 bM.out aA aG aH; obtain rfl : aC = aQ := (by injection bE); replace aG := eq_true aG; replace aH := eq_true aH; have bF : 0 ≤ (aA : Int) := odt; have bG : aA < (l0.length : Int) := odt; obtain ⟨bR, cE, bZ, b0⟩ := at_T96 bL.out aA bF bG; obtain rfl : aB = bR := (by injection cE); replace bF := eq_true bF; replace bG := eq_true bG; have bH : 0 ≤ (aA : Int) := odt; have bI : aA < (l1.length : Int) := odt; obtain ⟨bT, cF, b1, b2⟩ := at_T96 bM.out aA bH bI; obtain rfl : aC = bT := (by injection cF); replace bH := eq_true bH; replace bI := eq_true bI
            go_wp2
            repeat (go_quiet (fail); try go_wp2)
            go_meet
            case rel => exact ⟨_, (decide (((rd_T96 l0 aA).f1) < ((rd_T96 l1 aA).f1))), Z17, H', ⟨by have := bB.out; have := bO.out; first | omega | exact Nat.le_refl _⟩, Z23⟩
           ·rw [if_neg bC] at H
            have bP : (((rd_T96 l0 aA).f0) == ((rd_T96 l1 aA).f0)) = false := beq_eq_false_iff_ne.mpr bC; have bQ : (((rd_T96 l0 aA).f0) != ((rd_T96 l1 aA).f0)) = true := bne_iff_ne.mpr bC; have H' := A_ H; clear H; have aE : 0 ≤ (aA : Int) := odt; have aF : aA < (l0.length : Int) := odt; obtain ⟨aP, bD, a1, a2⟩ := at_T96 bL.out aA aE aF; obtain rfl : aB = aP := (by injection bD); replace aE := eq_true aE; replace aF := eq_true aF; have aG : 0 ≤ (aA : Int) := odt; have aH : aA < (l1.length : Int) := odt; obtain ⟨aQ, bE, a3, a4⟩ := at_T96 bM.out aA aG aH; obtain rfl : aC = aQ := (by injection bE); replace aG := eq_true aG; replace aH := eq_true aH
            go_wp2
            repeat (go_quiet (fail); try go_wp2)
            go_meet
            case rel => exact ⟨_, (false), Z17, H', ⟨by have := bB.out; have := bO.out; first | omega | exact Nat.le_refl _⟩, Z23⟩
         case rest =>
          clear cB; try clear c1
          try clear c4
          try clear aO
          try clear c5
          try clear c6
          try clear b8
          try clear c7
          try clear b9
          try clear c8
          try clear cA
          try clear c10
          try clear aV
          try clear aW
          try clear aZ
          try clear a0
          try clear aT
          try clear aX
          try clear aU
          try clear aY
          obtain ⟨kq, aN, rfl, HA, cI, ⟨cU, rfl⟩⟩ := hcut
          cases kq with
          | zero => exact absurd HA.out (by simp [spec_comparePlaces.j2])
          | succ cQ =>
           have H := HA.out; clear HA; simp only [spec_comparePlaces.j2] at H
           by_cases b3 : aN = true
           ·subst b3
            rw [if_pos rfl] at H; obtain rfl := Option.some.inj H
            go_wp2
            repeat (go_quiet (fail); try go_wp2)
            go_ret
            exact ⟨Z17, Z23⟩
           ·replace b3 := Bool.eq_false_iff.mpr b3
            subst b3; rw [if_neg (show ¬ (false = true) by decide)] at H
            by_cases b4 : 0 ≤ aA
            ·rw [if_pos b4] at H
             have cJ := dt b4; clear b4
             by_cases b5 : aA < (l0.length : Int)
             ·rw [if_pos b5] at H
              have cK := dt b5; clear b5
              by_cases b6 : aA < (l1.length : Int)
              ·rw [if_pos b6] at H
               have cL := dt b6; clear b6
               by_cases bN : (!(((rd_T96 l0 aA).f0) == ((rd_T96 l1 aA).f0)) || (!(((rd_T96 l0 aA).f1) == ((rd_T96 l1 aA).f1)))) = true
               ·rw [if_pos bN] at H
                have bU : (!(((rd_T96 l0 aA).f0) == ((rd_T96 l1 aA).f0)) || (!(((rd_T96 l0 aA).f1) == ((rd_T96 l1 aA).f1)))) = true := bN; clear bN; obtain rfl := Option.some.inj H; have aI : 0 ≤ (aA : Int) := odt; have aJ : aA < (l0.length : Int) := odt; obtain ⟨aR, bJ, a5, a6⟩ := at_T96 bL.out aA aI aJ; obtain rfl : aB = aR := (by injection bJ); replace aI := eq_true aI; replace aJ := eq_true aJ; have aK : 0 ≤ (aA : Int) := odt; have aL : aA < (l1.length : Int) := odt; obtain ⟨aS, bK, a7, a8⟩ := at_T96 bM.out aA aK aL; obtain rfl : aC = aS := (by injection bK); replace aK := eq_true aK; replace aL := eq_true aL
                go_wp2
                repeat (go_quiet (fail); try go_wp2)
                go_ret
                exact ⟨Z17, Z23⟩
               ·rw [if_neg bN] at H
                have bU : (!(((rd_T96 l0 aA).f0) == ((rd_T96 l1 aA).f0)) || (!(((rd_T96 l0 aA).f1) == ((rd_T96 l1 aA).f1)))) = false := by simpa using bN
                clear bN; have H' := A_ H; clear H; have aI : 0 ≤ (aA : Int) := odt; have aJ : aA < (l0.length : Int) := odt; obtain ⟨aR, bJ, a5, a6⟩ := at_T96 bL.out aA aI aJ; obtain rfl : aB = aR := (by injection bJ); replace aI := eq_true aI; replace aJ := eq_true aJ; have aK : 0 ≤ (aA : Int) := odt; have aL : aA < (l1.length : Int) := odt; obtain ⟨aS, bK, a7, a8⟩ := at_T96 bM.out aA aK aL; obtain rfl : aC = aS := (by injection bK); replace aK := eq_true aK; replace aL := eq_true aL
                go_wp2
                repeat (go_quiet (fail); try go_wp2)
                go_roundg cQ
                case measure => have := bB.out; have := bO.out; have := cI.out; omega
                case rel => exact ⟨(wrap64 (aA + 1)), Z17, H', ⟨by have := bB.out; have := bO.out; have := cI.out; omega⟩, Z23⟩
              ·rw [if_neg b6] at H
               exact absurd H (by simp)
             ·rw [if_neg b5] at H
              exact absurd H (by simp)
            ·rw [if_neg b4] at H
             exact absurd H (by simp)
        ·rw [if_neg c8] at H
         exact absurd H (by simp)
       ·rw [if_neg c7] at H
        exact absurd H (by simp)
      ·rw [if_neg c6] at H
       exact absurd H (by simp)
     ·replace c5 := Bool.eq_false_iff.mpr c5
      subst c5; rw [if_neg (show ¬ (false = true) by decide)] at H
      by_cases a9 : (l0.length : Int) < (l1.length : Int)
      ·rw [if_pos a9] at H
       have bV := dt a9; have bW : decide (l0.length < l1.length) = true := dt (Int.ofNat_lt.mp a9); clear a9; obtain rfl := Option.some.inj H
       go_wp2
       repeat (go_quiet (fail); try go_wp2)
       go_ret
       exact ⟨Z17, Z23⟩
      ·rw [if_neg a9] at H
       have bV := df a9; have bW : decide (l0.length < l1.length) = false := df (fun h => a9 (Int.ofNat_lt.mpr h)); clear a9
       by_cases bA : (l0.length : Int) > (l1.length : Int)
       ·rw [if_pos bA] at H
        have bX : decide ((l1.length : Int) < (l0.length : Int)) = true := dt bA; have bY : decide (l1.length < l0.length) = true := dt (Int.ofNat_lt.mp bA); clear bA; obtain rfl := Option.some.inj H
        go_wp2
        repeat (go_quiet (fail); try go_wp2)
        go_ret
        exact ⟨Z17, Z23⟩
       ·rw [if_neg bA] at H
        have bX : decide ((l1.length : Int) < (l0.length : Int)) = false := df bA; have bY : decide (l1.length < l0.length) = false := df (fun h => bA (Int.ofNat_lt.mpr h)); clear bA; obtain rfl := Option.some.inj H
        go_wp2
        repeat (go_quiet (fail); try go_wp2)
        go_ret
        exact ⟨Z17, Z23⟩
def spec_plainByte.f (a0 : Int) : Option (Bool) := if a0 ≥ 97 then (if a0 ≤ 122 then (some true) else (if a0 ≥ 48 then (if a0 ≤ 57 then (some true) else (some (a0 == 32))) else (some (a0 == 32)))) else (if a0 ≥ 48 then (if a0 ≤ 57 then (some true) else (some (a0 == 32))) else (some (a0 == 32)))
theorem spec_plainByte.calls (a0 : Int) (r : Bool) (w : World) (h : spec_plainByte.f a0 = some r) :
  Calls Try.prog 108 #[.int .u8 a0] w fun e w' => e = .returned (.bool r) ∧ Drawn0 w w' := by
 have H := h; unfold spec_plainByte.f at H; clear h
 by_cases c2 : a0 ≥ 97
 ·rw [if_pos c2] at H
  have aA : decide (97 ≤ a0) = true := dt c2; clear c2
  by_cases c3 : a0 ≤ 122
  ·rw [if_pos c3] at H
   have aB := dt c3; clear c3; obtain rfl := Option.some.inj H
   go_enter Try.func108, Try.ntmps108
   go_wp2
   go_ret
   exact ⟨Z17, Z23⟩
  ·rw [if_neg c3] at H
   have aB := df c3; clear c3
   by_cases c4 : a0 ≥ 48
   ·rw [if_pos c4] at H
    have aC : decide (48 ≤ a0) = true := dt c4; clear c4
    by_cases c5 : a0 ≤ 57
    ·rw [if_pos c5] at H
     have aD := dt c5; clear c5; obtain rfl := Option.some.inj H
     go_enter Try.func108, Try.ntmps108
     go_wp2
     go_ret
     exact ⟨Z17, Z23⟩
    ·rw [if_neg c5] at H
     have aD := df c5; clear c5; obtain rfl := Option.some.inj H
     go_enter Try.func108, Try.ntmps108
     go_wp2
     go_ret
     exact ⟨Z17, Z23⟩
   ·rw [if_neg c4] at H
    have aC : decide (48 ≤ a0) = false := df c4; clear c4; obtain rfl := Option.some.inj H
    go_enter Try.func108, Try.ntmps108
    go_wp2
    go_ret
    exact ⟨Z17, Z23⟩
 ·rw [if_neg c2] at H
  have aA : decide (97 ≤ a0) = false := df c2; clear c2
  by_cases c6 : a0 ≥ 48
  ·rw [if_pos c6] at H
   have aE : decide (48 ≤ a0) = true := dt c6; clear c6
   by_cases c7 : a0 ≤ 57
   ·rw [if_pos c7] at H
    have aF := dt c7; clear c7; obtain rfl := Option.some.inj H
    go_enter Try.func108, Try.ntmps108
    go_wp2
    go_ret
    exact ⟨Z17, Z23⟩
   ·rw [if_neg c7] at H
    have aF := df c7; clear c7; obtain rfl := Option.some.inj H
    go_enter Try.func108, Try.ntmps108
    go_wp2
    go_ret
    exact ⟨Z17, Z23⟩
  ·rw [if_neg c6] at H
   have aE : decide (48 ≤ a0) = false := df c6; clear c6; obtain rfl := Option.some.inj H
   go_enter Try.func108, Try.ntmps108
   go_wp2
   go_ret
   exact ⟨Z17, Z23⟩
def spec_validWord.l0 : Nat → ByteArray → Int → Option (Bool)
 | 0, _, _ => none
 | k + 1, x0, x3 => if x3 < (x0.size : Int) then (if 0 ≤ x3 then ((spec_plainByte.f (bt x0 x3)).bind fun aA => (if aA = true then (spec_validWord.l0 k x0 (wrap64 (x3 + 1))) else (some false))) else (none)) else (some true)
def spec_validWord.f (k : Nat) (a0 : ByteArray) : Option (Bool) := if (a0.size : Int) > 12 then (some false) else (spec_validWord.l0 k a0 0)
theorem spec_validWord.calls (k : Nat) (a0 : ByteArray) (r : Bool) (w : World) (h : spec_validWord.f k a0 = some r) :
  Calls Try.prog 105 #[.string a0] w fun e w' => e = .returned (.bool r) ∧ Drawn0 w w' := by
 have H := h; unfold spec_validWord.f at H; clear h
 by_cases c2 : (a0.size : Int) > 12
 ·rw [if_pos c2] at H
  have aB : decide (12 < (a0.size : Int)) = true := dt c2; have aC : decide (12 < a0.size) = true := dt (by omega); clear c2; obtain rfl := Option.some.inj H
  go_enter Try.func105, Try.ntmps105
  go_wp2
  go_ret
  exact ⟨Z17, Z23⟩
 ·rw [if_neg c2] at H
  have aB : decide (12 < (a0.size : Int)) = false := df c2; have aC : decide (12 < a0.size) = false := df (by omega); clear c2; have H' := A_ H; clear H
  go_enter Try.func105, Try.ntmps105
  go_wp2
  go_loopg [3] k (fun kq v3 w' => ∃ (aA : Int), v3 = .int .i64 aA ∧ Aside0 (spec_validWord.l0 kq a0 aA = some r) ∧ Aside0 (kq ≤ k) ∧ Drawn0 w w')
  case atStart => exact ⟨(0), Z17, H', ⟨Nat.le_refl _⟩, Z23⟩
  case round =>
   clear H'; try clear c2
   try clear aB
   try clear aC
   obtain ⟨aA, rfl, HA, aF, ⟨m1, rfl⟩⟩ := hrel
   cases gk with
   | zero => exact absurd HA.out (by simp [spec_validWord.l0])
   | succ k1 =>
    have H := HA.out; clear HA; simp only [spec_validWord.l0] at H
    by_cases c3 : aA < (a0.size : Int)
    ·rw [if_pos c3] at H
     have aD := dt c3; clear c3
     by_cases c4 : 0 ≤ aA
     ·rw [if_pos c4] at H
      have aH := dt c4; clear c4; replace H := bS H; obtain ⟨aE, aG, H⟩ := H
      try dsimp only at H
      have A6 := A_ aG; clear aG
      by_cases c7 : aE = true
      ·subst c7
       rw [if_pos rfl] at H; have H' := A_ H; clear H; have p5 : 0 ≤ (aA : Int) := odt; have q5 : aA < (a0.size : Int) := odt; have aI := bt_at a0 aA; replace p5 := eq_true p5; replace q5 := eq_true q5
       go_wp2_with (first | ((with_reducible refine gate_callee (f := 108) rfl ?_); refine gL 16 Try.func108 #[.int .u8 (bt a0 aA)] ?_; (with_reducible refine (spec_plainByte.calls (bt a0 aA) true _ A6.out).mono ?_); rintro e w' ⟨rfl, ⟨nd, rfl⟩⟩; refine ⟨_, rfl, ?_⟩))
       go_roundg k1
       case measure => have := aF.out; omega
       case rel => exact ⟨(wrap64 (aA + 1)), Z17, H', ⟨by have := aF.out; omega⟩, Z23⟩
      ·replace c7 := Bool.eq_false_iff.mpr c7
       subst c7; rw [if_neg (show ¬ (false = true) by decide)] at H; obtain rfl := Option.some.inj H; have p5 : 0 ≤ (aA : Int) := odt; have q5 : aA < (a0.size : Int) := odt; have aI := bt_at a0 aA; replace p5 := eq_true p5; replace q5 := eq_true q5
       go_wp2_with (first | ((with_reducible refine gate_callee (f := 108) rfl ?_); refine gL 16 Try.func108 #[.int .u8 (bt a0 aA)] ?_; (with_reducible refine (spec_plainByte.calls (bt a0 aA) false _ A6.out).mono ?_); rintro e w' ⟨rfl, ⟨nd, rfl⟩⟩; refine ⟨_, rfl, ?_⟩))
       go_ret
       exact ⟨Z17, Z23⟩
     ·exact Z45
    ·rw [if_neg c3] at H
     have aD := df c3; clear c3; obtain rfl := Option.some.inj H
     go_wp2
     go_ret
     exact ⟨Z17, Z23⟩
end Go.Proofs.Ytgbbcebjgpoioaa.PFnExactHistRedo
