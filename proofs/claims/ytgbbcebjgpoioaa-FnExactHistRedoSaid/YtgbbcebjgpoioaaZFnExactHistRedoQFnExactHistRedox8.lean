/- Walks (lines of the print; no condition). -/
import Derived.Test.YtgbbcebjgpoioaaZFnExactHistRedoQFnExactHistRedox7
namespace Go.Proofs.Ytgbbcebjgpoioaa.PFnExactHistRedo
open Go.RowKit Go.Proofs.YtgbbcebjgpoioaaW.PrintWords Go.Proofs.YtgbbcebjgpoioaaW.PrintLast Go.Proofs.YtgbbcebjgpoioaaW.PrintMore
attribute [local go_sem] max2_int min2_int max_two min_two max_three min_three max_four min_four
set_option linter.unusedVariables false
set_option linter.unusedSimpArgs false
set_option maxHeartbeats 8000000
set_option maxRecDepth 100000
def spec_validValue.f (k : Nat) (aA : Int) (aB : Int) (aC : ByteArray) : Option (Bool) := if aA = 0 then (if aB = 0 then (some (aC.toList == ([] : List UInt8))) else (some false)) else (if aA = 1 then ((spec_inRange.f aB (-1000) 1000).bind fun aD => (if aD = true then (some (aC.toList == ([] : List UInt8))) else (some false))) else (if aA = 2 then (if aB = 0 then ((spec_validWord.f k aC).bind fun aE => (some aE)) else (some false)) else (some false)))
theorem spec_validValue.calls (k : Nat) (aA : Int) (aB : Int) (aF : ByteArray) (r : Bool) (w : World) (h : spec_validValue.f k aA aB aF = some r) :
  Calls Try.prog 91 #[.agg #[.int .i64 aA, .int .i64 aB, .string aF]] w fun e w' => e = .returned (.bool r) ∧ Below w.heap.size w w' := by
 have b4 := Try.underlying98; have HB := A_ (Below.refl w.heap.size w); have H := h; unfold spec_validValue.f at H; clear h
 by_cases c2 : aA = 0
 ·rw [if_pos c2] at H
  have bI : (aA == 0) = true := beq_iff_eq.mpr c2; have bJ : (aA != 0) = false := bne_eq_false_iff_eq.mpr c2; clear c2
  by_cases c3 : aB = 0
  ·rw [if_pos c3] at H
   have bK : (aB == 0) = true := beq_iff_eq.mpr c3; have bL : (aB != 0) = false := bne_eq_false_iff_eq.mpr c3; clear c3; obtain rfl := Option.some.inj H
   go_enter Try.func91, Try.ntmps91
   go_wp2_with (first | ((with_reducible refine gate_dst (N := 1) rfl ?_); refine be (cs := #[.int .i64 aA, .int .i64 aB, .string aF]) (t := 98) ?_; intro aG hg w4 hbox hb; have aC := A_ hbox; have aD := A_ (gl hg (bz Z1)); have aE := aD; replace HB := A_ (bst Z1 hb); clear hb hbox hg; obtain ⟨bM, bN, bO, bP, bQ, bR⟩ := C3 aC.out))
   go_ret
   exact ⟨Z7, Z3 aE.out⟩
  ·rw [if_neg c3] at H
   have bK : (aB == 0) = false := beq_eq_false_iff_ne.mpr c3; have bL : (aB != 0) = true := bne_iff_ne.mpr c3; obtain rfl := Option.some.inj H
   go_enter Try.func91, Try.ntmps91
   go_wp2_with (first | ((with_reducible refine gate_dst (N := 1) rfl ?_); refine be (cs := #[.int .i64 aA, .int .i64 aB, .string aF]) (t := 98) ?_; intro aG hg w6 hbox hb; have aC := A_ hbox; have aD := A_ (gl hg (bz Z1)); have aE := aD; replace HB := A_ (bst Z1 hb); clear hb hbox hg; obtain ⟨bT, bU, bV, bW, bX, bY⟩ := C3 aC.out))
   go_ret
   exact ⟨Z7, Z3 aE.out⟩
 ·rw [if_neg c2] at H
  have bI : (aA == 0) = false := beq_eq_false_iff_ne.mpr c2; have bJ : (aA != 0) = true := bne_iff_ne.mpr c2
  by_cases c8 : aA = 1
  ·rw [if_pos c8] at H
   have bZ : (aA == 1) = true := beq_iff_eq.mpr c8; have b0 : (aA != 1) = false := bne_eq_false_iff_eq.mpr c8; clear c8; replace H := bS H; obtain ⟨b1, b3, H⟩ := H
   try dsimp only at H
   have A9 := A_ b3; clear b3
   by_cases c10 : b1 = true
   ·subst c10
    rw [if_pos rfl] at H; obtain rfl := Option.some.inj H
    go_enter Try.func91, Try.ntmps91
    go_wp2_with (first | ((with_reducible refine gate_dst (N := 1) rfl ?_); refine be (cs := #[.int .i64 aA, .int .i64 aB, .string aF]) (t := 98) ?_; intro aG hg b6 hbox hb; have aC := A_ hbox; have aD := A_ (gl hg (bz Z1)); have aE := aD; replace HB := A_ (bst Z1 hb); clear hb hbox hg; obtain ⟨aO, aP, aQ, aR, aS, aT⟩ := C3 aC.out) | ((with_reducible refine gate_callee (f := 77) rfl ?_); refine gL 19 Try.func77 #[.int .i64 aB, .int .i64 (-1000), .int .i64 1000] ?_; (with_reducible refine (spec_inRange.calls aB (-1000) 1000 true _ A9.out).mono ?_); rintro e w' ⟨rfl, ⟨nd, rfl⟩⟩; refine ⟨_, rfl, ?_⟩))
    go_ret
    exact ⟨Z7, Z3 aE.out⟩
   ·replace c10 := Bool.eq_false_iff.mpr c10
    subst c10; rw [if_neg (show ¬ (false = true) by decide)] at H; obtain rfl := Option.some.inj H
    go_enter Try.func91, Try.ntmps91
    go_wp2_with (first | ((with_reducible refine gate_dst (N := 1) rfl ?_); refine be (cs := #[.int .i64 aA, .int .i64 aB, .string aF]) (t := 98) ?_; intro aG hg b7 hbox hb; have aC := A_ hbox; have aD := A_ (gl hg (bz Z1)); have aE := aD; replace HB := A_ (bst Z1 hb); clear hb hbox hg; obtain ⟨aU, aV, aW, aX, aY, aZ⟩ := C3 aC.out) | ((with_reducible refine gate_callee (f := 77) rfl ?_); refine gL 19 Try.func77 #[.int .i64 aB, .int .i64 (-1000), .int .i64 1000] ?_; (with_reducible refine (spec_inRange.calls aB (-1000) 1000 false _ A9.out).mono ?_); rintro e w' ⟨rfl, ⟨nd, rfl⟩⟩; refine ⟨_, rfl, ?_⟩))
    go_ret
    exact ⟨Z7, Z3 aE.out⟩
  ·rw [if_neg c8] at H
   have bZ : (aA == 1) = false := beq_eq_false_iff_ne.mpr c8; have b0 : (aA != 1) = true := bne_iff_ne.mpr c8
   by_cases aH : aA = 2
   ·rw [if_pos aH] at H
    have aJ : (aA == 2) = true := beq_iff_eq.mpr aH; have aK : (aA != 2) = false := bne_eq_false_iff_eq.mpr aH; clear aH
    by_cases aI : aB = 0
    ·rw [if_pos aI] at H
     have aL : (aB == 0) = true := beq_iff_eq.mpr aI; have aM : (aB != 0) = false := bne_eq_false_iff_eq.mpr aI; clear aI; replace H := bS H; obtain ⟨b2, aN, H⟩ := H
     try dsimp only at H
     have b5 := A_ aN; clear aN; obtain rfl := Option.some.inj H
     go_enter Try.func91, Try.ntmps91
     go_wp2_with (first | ((with_reducible refine gate_dst (N := 1) rfl ?_); refine be (cs := #[.int .i64 aA, .int .i64 aB, .string aF]) (t := 98) ?_; intro aG hg b8 hbox hb; have aC := A_ hbox; have aD := A_ (gl hg (bz Z1)); have aE := aD; replace HB := A_ (bst Z1 hb); clear hb hbox hg; obtain ⟨a0, a1, a2, a3, a4, a5⟩ := C3 aC.out) | (go_at_call 105; (with_reducible refine (spec_validWord.calls k aF b2 _ b5.out).mono ?_); rintro e w' ⟨rfl, ⟨nd, rfl⟩⟩))
     go_ret
     exact ⟨Z7, Z3 aE.out⟩
    ·rw [if_neg aI] at H
     have aL : (aB == 0) = false := beq_eq_false_iff_ne.mpr aI; have aM : (aB != 0) = true := bne_iff_ne.mpr aI; obtain rfl := Option.some.inj H
     go_enter Try.func91, Try.ntmps91
     go_wp2_with (first | ((with_reducible refine gate_dst (N := 1) rfl ?_); refine be (cs := #[.int .i64 aA, .int .i64 aB, .string aF]) (t := 98) ?_; intro aG hg b9 hbox hb; have aC := A_ hbox; have aD := A_ (gl hg (bz Z1)); have aE := aD; replace HB := A_ (bst Z1 hb); clear hb hbox hg; obtain ⟨a6, a7, a8, a9, bA, bB⟩ := C3 aC.out))
     go_ret
     exact ⟨Z7, Z3 aE.out⟩
   ·rw [if_neg aH] at H
    have aJ : (aA == 2) = false := beq_eq_false_iff_ne.mpr aH; have aK : (aA != 2) = true := bne_iff_ne.mpr aH; obtain rfl := Option.some.inj H
    go_enter Try.func91, Try.ntmps91
    go_wp2_with (first | ((with_reducible refine gate_dst (N := 1) rfl ?_); refine be (cs := #[.int .i64 aA, .int .i64 aB, .string aF]) (t := 98) ?_; intro aG hg cA hbox hb; have aC := A_ hbox; have aD := A_ (gl hg (bz Z1)); have aE := aD; replace HB := A_ (bst Z1 hb); clear hb hbox hg; obtain ⟨bC, bD, bE, bF, bG, bH⟩ := C3 aC.out))
    go_ret
    exact ⟨Z7, Z3 aE.out⟩
def spec_validValues.l0 : Nat → List (S98) → Int → Option (Bool)
 | 0, _, _ => none
 | k + 1, x0, x3 => if x3 < (x0.length : Int) then (if 0 ≤ x3 then ((spec_validValue.f k ((rd_T98 x0 x3).f0) ((rd_T98 x0 x3).f1) ((rd_T98 x0 x3).f2)).bind fun aA => (if aA = true then (spec_validValues.l0 k x0 (wrap64 (x3 + 1))) else (some false))) else (none)) else (some true)
def spec_validValues.f (k : Nat) (l0 : List (S98)) : Option (Bool) := spec_validValues.l0 k l0 0
theorem spec_validValues.calls (k : Nat) (A0 : Option Addr) (c0 : Nat) (l0 : List (S98)) (r : Bool) (w : World) (aK : Kd.C k98 w A0 l0.length l0) (hc0 : l0.length ≤ c0) (h : spec_validValues.f k l0 = some r) :
  Calls Try.prog 76 #[.slice A0 l0.length c0] w fun e w' => e = .returned (.bool r) ∧ Below w.heap.size w w' := by
 have aO := Try.underlying98; have aL := A_ aK; have aQ := A_ hc0; clear aK hc0; have HB := A_ (Below.refl w.heap.size w); have H := h; unfold spec_validValues.f at H; clear h; have H' := A_ H; clear H
 go_enter Try.func76, Try.ntmps76
 go_wp2
 go_loopg [3] k (fun kq v3 w' => ∃ (aA : Int), v3 = .int .i64 aA ∧ Aside0 (spec_validValues.l0 kq l0 aA = some r) ∧ Aside0 (kq ≤ k) ∧ Aside0 (Below w.heap.size w w'))
 case atStart => exact ⟨(0), Z17, H', ⟨Nat.le_refl _⟩, ⟨Z1⟩⟩
 case round =>
  clear H'; obtain ⟨aA, rfl, HA, aM, HB⟩ := hrel
  cases gk with
  | zero => exact absurd HA.out (by simp [spec_validValues.l0])
  | succ k1 =>
   have H := HA.out; clear HA; simp only [spec_validValues.l0] at H
   by_cases c2 : aA < (l0.length : Int)
   ·rw [if_pos c2] at H
    have aI := dt c2; clear c2
    by_cases c3 : 0 ≤ aA
    ·rw [if_pos c3] at H
     have aP := dt c3; clear c3; replace H := bS H; obtain ⟨aJ, aN, H⟩ := H
     try dsimp only at H
     have A4 := A_ aN; clear aN
     by_cases c5 : aJ = true
     ·subst c5
      rw [if_pos rfl] at H; have H' := A_ H; clear H; have aE : 0 ≤ (aA : Int) := odt; have aF : aA < (l0.length : Int) := odt; obtain ⟨aH, aG, aB, aC, aD⟩ := at_T98 aL.out aA aE aF; cases aG; replace aB := ZC HB.out aB; replace aC := ZC HB.out aC; replace aD := ZC HB.out aD; replace aE := eq_true aE; replace aF := eq_true aF
      go_wp2_with (first | ((with_reducible refine gate_callee (f := 91) rfl ?_); refine gL 14 Try.func91 #[.agg #[.int .i64 ((rd_T98 l0 aA).f0), .int .i64 ((rd_T98 l0 aA).f1), .string ((rd_T98 l0 aA).f2)]] ?_; (with_reducible refine (spec_validValue.calls k1 ((rd_T98 l0 aA).f0) ((rd_T98 l0 aA).f1) ((rd_T98 l0 aA).f2) true _ A4.out).mono ?_); rintro e w6 ⟨rfl, hb⟩; refine ⟨_, rfl, ?_⟩; replace HB := A_ (bst Z1 hb); (try clear hb)))
      go_roundg k1
      case measure => have := aM.out; omega
      case rel => exact ⟨(wrap64 (aA + 1)), Z17, H', ⟨by have := aM.out; omega⟩, ⟨Z1⟩⟩
     ·replace c5 := Bool.eq_false_iff.mpr c5
      subst c5; rw [if_neg (show ¬ (false = true) by decide)] at H; obtain rfl := Option.some.inj H; have aE : 0 ≤ (aA : Int) := odt; have aF : aA < (l0.length : Int) := odt; obtain ⟨aH, aG, aB, aC, aD⟩ := at_T98 aL.out aA aE aF; cases aG; replace aB := ZC HB.out aB; replace aC := ZC HB.out aC; replace aD := ZC HB.out aD; replace aE := eq_true aE; replace aF := eq_true aF
      go_wp2_with (first | ((with_reducible refine gate_callee (f := 91) rfl ?_); refine gL 14 Try.func91 #[.agg #[.int .i64 ((rd_T98 l0 aA).f0), .int .i64 ((rd_T98 l0 aA).f1), .string ((rd_T98 l0 aA).f2)]] ?_; (with_reducible refine (spec_validValue.calls k1 ((rd_T98 l0 aA).f0) ((rd_T98 l0 aA).f1) ((rd_T98 l0 aA).f2) false _ A4.out).mono ?_); rintro e w7 ⟨rfl, hb⟩; refine ⟨_, rfl, ?_⟩; replace HB := A_ (bst Z1 hb); (try clear hb)))
      go_ret
      exact ⟨Z7, Z1⟩
    ·exact Z50
   ·rw [if_neg c2] at H
    have aI := df c2; clear c2; obtain rfl := Option.some.inj H
    go_wp2
    go_ret
    exact ⟨Z7, Z1⟩
end Go.Proofs.Ytgbbcebjgpoioaa.PFnExactHistRedo
