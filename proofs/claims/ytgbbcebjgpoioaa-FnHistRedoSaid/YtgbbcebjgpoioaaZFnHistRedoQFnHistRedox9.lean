/- Walks (lines of the print; no condition). -/
import Derived.Test.YtgbbcebjgpoioaaZFnHistRedoQFnHistRedox8
namespace Go.Proofs.Ytgbbcebjgpoioaa.PFnHistRedo
open Go.RowKit Go.Proofs.YtgbbcebjgpoioaaW.PrintWords Go.Proofs.YtgbbcebjgpoioaaW.PrintLast Go.Proofs.YtgbbcebjgpoioaaW.PrintMore
attribute [local go_sem] max2_int min2_int max_two min_two max_three min_three max_four min_four
set_option linter.unusedVariables false
set_option linter.unusedSimpArgs false
set_option maxHeartbeats 8000000
set_option maxRecDepth 100000
def spec_validSlot.f (aA : Int) (aB : Int) : Option (Bool) := (spec_inRange.f aA 0 3).bind fun aC => (if aC = true then ((spec_inRange.f aB 0 103).bind fun aD => (some aD)) else (some false))
theorem spec_validSlot.calls (aA : Int) (aB : Int) (r : Bool) (w : World) (h : spec_validSlot.f aA aB = some r) :
  Calls Try.prog 73 #[.agg #[.int .i64 aA, .int .i64 aB]] w fun e w' => e = .returned (.bool r) ∧ Below w.heap.size w w' := by
 have aS := Try.underlying96; have HB := A_ (Below.refl w.heap.size w); have H := h; unfold spec_validSlot.f at H; clear h; replace H := bS H; obtain ⟨aG, aQ, H⟩ := H
 try dsimp only at H
 have A2 := A_ aQ; clear aQ
 by_cases c3 : aG = true
 ·subst c3
  rw [if_pos rfl] at H; replace H := bS H; obtain ⟨aH, aR, H⟩ := H
  try dsimp only at H
  have A4 := A_ aR; clear aR; obtain rfl := Option.some.inj H
  go_enter Try.func73, Try.ntmps73
  go_wp2_with (first | ((with_reducible refine gate_dst (N := 1) rfl ?_); refine be (cs := #[.int .i64 aA, .int .i64 aB]) (t := 96) ?_; intro aF hg w5 hbox hb; have aC := A_ hbox; have aD := A_ (gl hg (bz Z2)); have aE := aD; replace HB := A_ (bst Z2 hb); clear hb hbox hg; obtain ⟨aI, aJ, aK, aL⟩ := C2 aC.out) | ((with_reducible refine gate_callee (f := 77) rfl ?_); refine gL 5 Try.func77 #[.int .i64 aA, .int .i64 0, .int .i64 3] ?_; (with_reducible refine (spec_inRange.calls aA 0 3 true _ A2.out).mono ?_); rintro e w' ⟨rfl, ⟨nd, rfl⟩⟩; refine ⟨_, rfl, ?_⟩) | (go_at_call 77; (with_reducible refine (spec_inRange.calls aB 0 103 aH _ A4.out).mono ?_); rintro e w' ⟨rfl, ⟨nd, rfl⟩⟩))
  go_ret
  exact ⟨Z11, Z3 aE.out⟩
 ·replace c3 := Bool.eq_false_iff.mpr c3
  subst c3; rw [if_neg (show ¬ (false = true) by decide)] at H; obtain rfl := Option.some.inj H
  go_enter Try.func73, Try.ntmps73
  go_wp2_with (first | ((with_reducible refine gate_dst (N := 1) rfl ?_); refine be (cs := #[.int .i64 aA, .int .i64 aB]) (t := 96) ?_; intro aF hg w7 hbox hb; have aC := A_ hbox; have aD := A_ (gl hg (bz Z2)); have aE := aD; replace HB := A_ (bst Z2 hb); clear hb hbox hg; obtain ⟨aM, aN, aO, aP⟩ := C2 aC.out) | ((with_reducible refine gate_callee (f := 77) rfl ?_); refine gL 5 Try.func77 #[.int .i64 aA, .int .i64 0, .int .i64 3] ?_; (with_reducible refine (spec_inRange.calls aA 0 3 false _ A2.out).mono ?_); rintro e w' ⟨rfl, ⟨nd, rfl⟩⟩; refine ⟨_, rfl, ?_⟩))
  go_ret
  exact ⟨Z11, Z3 aE.out⟩
def spec_validPlace.l0 : Nat → List (S96) → Int → Option (Bool)
 | 0, _, _ => none
 | k + 1, x0, x3 => if x3 < (x0.length : Int) then (if 0 ≤ x3 then ((spec_validSlot.f ((rd_T96 x0 x3).f0) ((rd_T96 x0 x3).f1)).bind fun aA => (if aA = true then (spec_validPlace.l0 k x0 (wrap64 (x3 + 1))) else (some false))) else (none)) else (some true)
def spec_validPlace.f (k : Nat) (l0 : List (S96)) : Option (Bool) := if (l0.length : Int) > 20 then (some false) else (spec_validPlace.l0 k l0 0)
theorem spec_validPlace.calls (k : Nat) (A0 : Option Addr) (c0 : Nat) (l0 : List (S96)) (r : Bool) (w : World) (aL : Kd.C k96 w A0 l0.length l0) (hc0 : l0.length ≤ c0) (h : spec_validPlace.f k l0 = some r) :
  Calls Try.prog 48 #[.slice A0 l0.length c0] w fun e w' => e = .returned (.bool r) ∧ Below w.heap.size w w' := by
 have aP := Try.underlying96; have aM := A_ aL; have aR := A_ hc0; clear aL hc0; have HB := A_ (Below.refl w.heap.size w); have H := h; unfold spec_validPlace.f at H; clear h
 by_cases c2 : (l0.length : Int) > 20
 ·rw [if_pos c2] at H
  have aG : decide (20 < (l0.length : Int)) = true := dt c2; have aH : decide (20 < l0.length) = true := dt (by omega); clear c2; obtain rfl := Option.some.inj H
  go_enter Try.func48, Try.ntmps48
  go_wp2
  go_ret
  exact ⟨Z11, Z2⟩
 ·rw [if_neg c2] at H
  have aG : decide (20 < (l0.length : Int)) = false := df c2; have aH : decide (20 < l0.length) = false := df (by omega); clear c2; have H' := A_ H; clear H
  go_enter Try.func48, Try.ntmps48
  go_wp2
  go_loopg [3] k (fun kq v3 w' => ∃ (aA : Int), v3 = .int .i64 aA ∧ Aside0 (spec_validPlace.l0 kq l0 aA = some r) ∧ Aside0 (kq ≤ k) ∧ Aside0 (Below w.heap.size w w'))
  case atStart => exact ⟨(0), Z26, H', ⟨Nat.le_refl _⟩, ⟨Z2⟩⟩
  case round =>
   clear H'; try clear c2
   try clear aG
   try clear aH
   obtain ⟨aA, rfl, HA, aN, HB⟩ := hrel
   cases gk with
   | zero => exact absurd HA.out (by simp [spec_validPlace.l0])
   | succ k1 =>
    have H := HA.out; clear HA; simp only [spec_validPlace.l0] at H
    by_cases c3 : aA < (l0.length : Int)
    ·rw [if_pos c3] at H
     have aJ := dt c3; clear c3
     by_cases c4 : 0 ≤ aA
     ·rw [if_pos c4] at H
      have aQ := dt c4; clear c4; replace H := bS H; obtain ⟨aK, aO, H⟩ := H
      try dsimp only at H
      have A5 := A_ aO; clear aO
      by_cases c6 : aK = true
      ·subst c6
       rw [if_pos rfl] at H; have H' := A_ H; clear H; have aD : 0 ≤ (aA : Int) := odt; have aE : aA < (l0.length : Int) := odt; obtain ⟨aI, aF, aB, aC⟩ := at_T96 aM.out aA aD aE; cases aF; replace aB := ZC HB.out aB; replace aC := ZC HB.out aC; replace aD := eq_true aD; replace aE := eq_true aE
       go_wp2_with (first | ((with_reducible refine gate_callee (f := 73) rfl ?_); refine gL 17 Try.func73 #[.agg #[.int .i64 ((rd_T96 l0 aA).f0), .int .i64 ((rd_T96 l0 aA).f1)]] ?_; (with_reducible refine (spec_validSlot.calls ((rd_T96 l0 aA).f0) ((rd_T96 l0 aA).f1) true _ A5.out).mono ?_); rintro e w7 ⟨rfl, hb⟩; refine ⟨_, rfl, ?_⟩; replace HB := A_ (bst Z2 hb); (try clear hb)))
       go_roundg k1
       case measure => have := aN.out; omega
       case rel => exact ⟨(wrap64 (aA + 1)), Z26, H', ⟨by have := aN.out; omega⟩, ⟨Z2⟩⟩
      ·replace c6 := Bool.eq_false_iff.mpr c6
       subst c6; rw [if_neg (show ¬ (false = true) by decide)] at H; obtain rfl := Option.some.inj H; have aD : 0 ≤ (aA : Int) := odt; have aE : aA < (l0.length : Int) := odt; obtain ⟨aI, aF, aB, aC⟩ := at_T96 aM.out aA aD aE; cases aF; replace aB := ZC HB.out aB; replace aC := ZC HB.out aC; replace aD := eq_true aD; replace aE := eq_true aE
       go_wp2_with (first | ((with_reducible refine gate_callee (f := 73) rfl ?_); refine gL 17 Try.func73 #[.agg #[.int .i64 ((rd_T96 l0 aA).f0), .int .i64 ((rd_T96 l0 aA).f1)]] ?_; (with_reducible refine (spec_validSlot.calls ((rd_T96 l0 aA).f0) ((rd_T96 l0 aA).f1) false _ A5.out).mono ?_); rintro e w8 ⟨rfl, hb⟩; refine ⟨_, rfl, ?_⟩; replace HB := A_ (bst Z2 hb); (try clear hb)))
       go_ret
       exact ⟨Z11, Z2⟩
     ·exact Z84
    ·rw [if_neg c3] at H
     have aJ := df c3; clear c3; obtain rfl := Option.some.inj H
     go_wp2
     go_ret
     exact ⟨Z11, Z2⟩
def spec_plainByte.f (a0 : Int) : Option (Bool) := if a0 ≥ 97 then (if a0 ≤ 122 then (some true) else (if a0 ≥ 48 then (if a0 ≤ 57 then (some true) else (some (a0 == 32))) else (some (a0 == 32)))) else (if a0 ≥ 48 then (if a0 ≤ 57 then (some true) else (some (a0 == 32))) else (some (a0 == 32)))
theorem spec_plainByte.calls (a0 : Int) (r : Bool) (w : World) (h : spec_plainByte.f a0 = some r) :
  Calls Try.prog 108 #[.int .u8 a0] w fun e w' => e = .returned (.bool r) ∧ Drawn0 w w' := by
 have H := h; unfold spec_plainByte.f at H; clear h
 by_cases c2 : a0 ≥ 97
 ·rw [if_pos c2] at H
  have aA : decide (97 ≤ a0) = true := dt c2; clear c2
  by_cases c3 : a0 ≤ 122
  ·rw [if_pos c3] at H
   have aB := dt c3; clear c3; obtain rfl := Option.some.inj H
   go_enter Try.func108, Try.ntmps108
   go_wp2
   go_ret
   exact ⟨Z26, Z34⟩
  ·rw [if_neg c3] at H
   have aB := df c3; clear c3
   by_cases c4 : a0 ≥ 48
   ·rw [if_pos c4] at H
    have aC : decide (48 ≤ a0) = true := dt c4; clear c4
    by_cases c5 : a0 ≤ 57
    ·rw [if_pos c5] at H
     have aD := dt c5; clear c5; obtain rfl := Option.some.inj H
     go_enter Try.func108, Try.ntmps108
     go_wp2
     go_ret
     exact ⟨Z26, Z34⟩
    ·rw [if_neg c5] at H
     have aD := df c5; clear c5; obtain rfl := Option.some.inj H
     go_enter Try.func108, Try.ntmps108
     go_wp2
     go_ret
     exact ⟨Z26, Z34⟩
   ·rw [if_neg c4] at H
    have aC : decide (48 ≤ a0) = false := df c4; clear c4; obtain rfl := Option.some.inj H
    go_enter Try.func108, Try.ntmps108
    go_wp2
    go_ret
    exact ⟨Z26, Z34⟩
 ·rw [if_neg c2] at H
  have aA : decide (97 ≤ a0) = false := df c2; clear c2
  by_cases c6 : a0 ≥ 48
  ·rw [if_pos c6] at H
   have aE : decide (48 ≤ a0) = true := dt c6; clear c6
   by_cases c7 : a0 ≤ 57
   ·rw [if_pos c7] at H
    have aF := dt c7; clear c7; obtain rfl := Option.some.inj H
    go_enter Try.func108, Try.ntmps108
    go_wp2
    go_ret
    exact ⟨Z26, Z34⟩
   ·rw [if_neg c7] at H
    have aF := df c7; clear c7; obtain rfl := Option.some.inj H
    go_enter Try.func108, Try.ntmps108
    go_wp2
    go_ret
    exact ⟨Z26, Z34⟩
  ·rw [if_neg c6] at H
   have aE : decide (48 ≤ a0) = false := df c6; clear c6; obtain rfl := Option.some.inj H
   go_enter Try.func108, Try.ntmps108
   go_wp2
   go_ret
   exact ⟨Z26, Z34⟩
def spec_validWord.l0 : Nat → ByteArray → Int → Option (Bool)
 | 0, _, _ => none
 | k + 1, x0, x3 => if x3 < (x0.size : Int) then (if 0 ≤ x3 then ((spec_plainByte.f (bt x0 x3)).bind fun aA => (if aA = true then (spec_validWord.l0 k x0 (wrap64 (x3 + 1))) else (some false))) else (none)) else (some true)
def spec_validWord.f (k : Nat) (a0 : ByteArray) : Option (Bool) := if (a0.size : Int) > 12 then (some false) else (spec_validWord.l0 k a0 0)
theorem spec_validWord.calls (k : Nat) (a0 : ByteArray) (r : Bool) (w : World) (h : spec_validWord.f k a0 = some r) :
  Calls Try.prog 105 #[.string a0] w fun e w' => e = .returned (.bool r) ∧ Drawn0 w w' := by
 have H := h; unfold spec_validWord.f at H; clear h
 by_cases c2 : (a0.size : Int) > 12
 ·rw [if_pos c2] at H
  have aB : decide (12 < (a0.size : Int)) = true := dt c2; have aC : decide (12 < a0.size) = true := dt (by omega); clear c2; obtain rfl := Option.some.inj H
  go_enter Try.func105, Try.ntmps105
  go_wp2
  go_ret
  exact ⟨Z26, Z34⟩
 ·rw [if_neg c2] at H
  have aB : decide (12 < (a0.size : Int)) = false := df c2; have aC : decide (12 < a0.size) = false := df (by omega); clear c2; have H' := A_ H; clear H
  go_enter Try.func105, Try.ntmps105
  go_wp2
  go_loopg [3] k (fun kq v3 w' => ∃ (aA : Int), v3 = .int .i64 aA ∧ Aside0 (spec_validWord.l0 kq a0 aA = some r) ∧ Aside0 (kq ≤ k) ∧ Drawn0 w w')
  case atStart => exact ⟨(0), Z26, H', ⟨Nat.le_refl _⟩, Z34⟩
  case round =>
   clear H'; try clear c2
   try clear aB
   try clear aC
   obtain ⟨aA, rfl, HA, aF, ⟨m1, rfl⟩⟩ := hrel
   cases gk with
   | zero => exact absurd HA.out (by simp [spec_validWord.l0])
   | succ k1 =>
    have H := HA.out; clear HA; simp only [spec_validWord.l0] at H
    by_cases c3 : aA < (a0.size : Int)
    ·rw [if_pos c3] at H
     have aD := dt c3; clear c3
     by_cases c4 : 0 ≤ aA
     ·rw [if_pos c4] at H
      have aH := dt c4; clear c4; replace H := bS H; obtain ⟨aE, aG, H⟩ := H
      try dsimp only at H
      have A6 := A_ aG; clear aG
      by_cases c7 : aE = true
      ·subst c7
       rw [if_pos rfl] at H; have H' := A_ H; clear H; have p5 : 0 ≤ (aA : Int) := odt; have q5 : aA < (a0.size : Int) := odt; have aI := bt_at a0 aA; replace p5 := eq_true p5; replace q5 := eq_true q5
       go_wp2_with (first | ((with_reducible refine gate_callee (f := 108) rfl ?_); refine gL 16 Try.func108 #[.int .u8 (bt a0 aA)] ?_; (with_reducible refine (spec_plainByte.calls (bt a0 aA) true _ A6.out).mono ?_); rintro e w' ⟨rfl, ⟨nd, rfl⟩⟩; refine ⟨_, rfl, ?_⟩))
       go_roundg k1
       case measure => have := aF.out; omega
       case rel => exact ⟨(wrap64 (aA + 1)), Z26, H', ⟨by have := aF.out; omega⟩, Z34⟩
      ·replace c7 := Bool.eq_false_iff.mpr c7
       subst c7; rw [if_neg (show ¬ (false = true) by decide)] at H; obtain rfl := Option.some.inj H; have p5 : 0 ≤ (aA : Int) := odt; have q5 : aA < (a0.size : Int) := odt; have aI := bt_at a0 aA; replace p5 := eq_true p5; replace q5 := eq_true q5
       go_wp2_with (first | ((with_reducible refine gate_callee (f := 108) rfl ?_); refine gL 16 Try.func108 #[.int .u8 (bt a0 aA)] ?_; (with_reducible refine (spec_plainByte.calls (bt a0 aA) false _ A6.out).mono ?_); rintro e w' ⟨rfl, ⟨nd, rfl⟩⟩; refine ⟨_, rfl, ?_⟩))
       go_ret
       exact ⟨Z26, Z34⟩
     ·exact Z84
    ·rw [if_neg c3] at H
     have aD := df c3; clear c3; obtain rfl := Option.some.inj H
     go_wp2
     go_ret
     exact ⟨Z26, Z34⟩
def spec_validValue.f (k : Nat) (aA : Int) (aB : Int) (aC : ByteArray) : Option (Bool) := if aA = 0 then (if aB = 0 then (some (aC.toList == ([] : List UInt8))) else (some false)) else (if aA = 1 then ((spec_inRange.f aB (-1000) 1000).bind fun aD => (if aD = true then (some (aC.toList == ([] : List UInt8))) else (some false))) else (if aA = 2 then (if aB = 0 then ((spec_validWord.f k aC).bind fun aE => (some aE)) else (some false)) else (some false)))
theorem spec_validValue.calls (k : Nat) (aA : Int) (aB : Int) (aF : ByteArray) (r : Bool) (w : World) (h : spec_validValue.f k aA aB aF = some r) :
  Calls Try.prog 91 #[.agg #[.int .i64 aA, .int .i64 aB, .string aF]] w fun e w' => e = .returned (.bool r) ∧ Below w.heap.size w w' := by
 have b4 := Try.underlying98; have HB := A_ (Below.refl w.heap.size w); have H := h; unfold spec_validValue.f at H; clear h
 by_cases c2 : aA = 0
 ·rw [if_pos c2] at H
  have bI : (aA == 0) = true := beq_iff_eq.mpr c2; have bJ : (aA != 0) = false := bne_eq_false_iff_eq.mpr c2; clear c2
  by_cases c3 : aB = 0
  ·rw [if_pos c3] at H
   have bK : (aB == 0) = true := beq_iff_eq.mpr c3; have bL : (aB != 0) = false := bne_eq_false_iff_eq.mpr c3; clear c3; obtain rfl := Option.some.inj H
   go_enter Try.func91, Try.ntmps91
   go_wp2_with (first | ((with_reducible refine gate_dst (N := 1) rfl ?_); refine be (cs := #[.int .i64 aA, .int .i64 aB, .string aF]) (t := 98) ?_; intro aG hg w4 hbox hb; have aC := A_ hbox; have aD := A_ (gl hg (bz Z2)); have aE := aD; replace HB := A_ (bst Z2 hb); clear hb hbox hg; obtain ⟨bM, bN, bO, bP, bQ, bR⟩ := C3 aC.out))
   go_ret
   exact ⟨Z11, Z3 aE.out⟩
  ·rw [if_neg c3] at H
   have bK : (aB == 0) = false := beq_eq_false_iff_ne.mpr c3; have bL : (aB != 0) = true := bne_iff_ne.mpr c3; obtain rfl := Option.some.inj H
   go_enter Try.func91, Try.ntmps91
   go_wp2_with (first | ((with_reducible refine gate_dst (N := 1) rfl ?_); refine be (cs := #[.int .i64 aA, .int .i64 aB, .string aF]) (t := 98) ?_; intro aG hg w6 hbox hb; have aC := A_ hbox; have aD := A_ (gl hg (bz Z2)); have aE := aD; replace HB := A_ (bst Z2 hb); clear hb hbox hg; obtain ⟨bT, bU, bV, bW, bX, bY⟩ := C3 aC.out))
   go_ret
   exact ⟨Z11, Z3 aE.out⟩
 ·rw [if_neg c2] at H
  have bI : (aA == 0) = false := beq_eq_false_iff_ne.mpr c2; have bJ : (aA != 0) = true := bne_iff_ne.mpr c2
  by_cases c8 : aA = 1
  ·rw [if_pos c8] at H
   have bZ : (aA == 1) = true := beq_iff_eq.mpr c8; have b0 : (aA != 1) = false := bne_eq_false_iff_eq.mpr c8; clear c8; replace H := bS H; obtain ⟨b1, b3, H⟩ := H
   try dsimp only at H
   have A9 := A_ b3; clear b3
   by_cases c10 : b1 = true
   ·subst c10
    rw [if_pos rfl] at H; obtain rfl := Option.some.inj H
    go_enter Try.func91, Try.ntmps91
    go_wp2_with (first | ((with_reducible refine gate_dst (N := 1) rfl ?_); refine be (cs := #[.int .i64 aA, .int .i64 aB, .string aF]) (t := 98) ?_; intro aG hg b6 hbox hb; have aC := A_ hbox; have aD := A_ (gl hg (bz Z2)); have aE := aD; replace HB := A_ (bst Z2 hb); clear hb hbox hg; obtain ⟨aO, aP, aQ, aR, aS, aT⟩ := C3 aC.out) | ((with_reducible refine gate_callee (f := 77) rfl ?_); refine gL 19 Try.func77 #[.int .i64 aB, .int .i64 (-1000), .int .i64 1000] ?_; (with_reducible refine (spec_inRange.calls aB (-1000) 1000 true _ A9.out).mono ?_); rintro e w' ⟨rfl, ⟨nd, rfl⟩⟩; refine ⟨_, rfl, ?_⟩))
    go_ret
    exact ⟨Z11, Z3 aE.out⟩
   ·replace c10 := Bool.eq_false_iff.mpr c10
    subst c10; rw [if_neg (show ¬ (false = true) by decide)] at H; obtain rfl := Option.some.inj H
    go_enter Try.func91, Try.ntmps91
    go_wp2_with (first | ((with_reducible refine gate_dst (N := 1) rfl ?_); refine be (cs := #[.int .i64 aA, .int .i64 aB, .string aF]) (t := 98) ?_; intro aG hg b7 hbox hb; have aC := A_ hbox; have aD := A_ (gl hg (bz Z2)); have aE := aD; replace HB := A_ (bst Z2 hb); clear hb hbox hg; obtain ⟨aU, aV, aW, aX, aY, aZ⟩ := C3 aC.out) | ((with_reducible refine gate_callee (f := 77) rfl ?_); refine gL 19 Try.func77 #[.int .i64 aB, .int .i64 (-1000), .int .i64 1000] ?_; (with_reducible refine (spec_inRange.calls aB (-1000) 1000 false _ A9.out).mono ?_); rintro e w' ⟨rfl, ⟨nd, rfl⟩⟩; refine ⟨_, rfl, ?_⟩))
    go_ret
    exact ⟨Z11, Z3 aE.out⟩
  ·rw [if_neg c8] at H
   have bZ : (aA == 1) = false := beq_eq_false_iff_ne.mpr c8; have b0 : (aA != 1) = true := bne_iff_ne.mpr c8
   by_cases aH : aA = 2
   ·rw [if_pos aH] at H
    have aJ : (aA == 2) = true := beq_iff_eq.mpr aH; have aK : (aA != 2) = false := bne_eq_false_iff_eq.mpr aH; clear aH
    by_cases aI : aB = 0
    ·rw [if_pos aI] at H
     have aL : (aB == 0) = true := beq_iff_eq.mpr aI; have aM : (aB != 0) = false := bne_eq_false_iff_eq.mpr aI; clear aI; replace H := bS H; obtain ⟨b2, aN, H⟩ := H
     try dsimp only at H
     have b5 := A_ aN; clear aN; obtain rfl := Option.some.inj H
     go_enter Try.func91, Try.ntmps91
     go_wp2_with (first | ((with_reducible refine gate_dst (N := 1) rfl ?_); refine be (cs := #[.int .i64 aA, .int .i64 aB, .string aF]) (t := 98) ?_; intro aG hg b8 hbox hb; have aC := A_ hbox; have aD := A_ (gl hg (bz Z2)); have aE := aD; replace HB := A_ (bst Z2 hb); clear hb hbox hg; obtain ⟨a0, a1, a2, a3, a4, a5⟩ := C3 aC.out) | (go_at_call 105; (with_reducible refine (spec_validWord.calls k aF b2 _ b5.out).mono ?_); rintro e w' ⟨rfl, ⟨nd, rfl⟩⟩))
     go_ret
     exact ⟨Z11, Z3 aE.out⟩
    ·rw [if_neg aI] at H
     have aL : (aB == 0) = false := beq_eq_false_iff_ne.mpr aI; have aM : (aB != 0) = true := bne_iff_ne.mpr aI; obtain rfl := Option.some.inj H
     go_enter Try.func91, Try.ntmps91
     go_wp2_with (first | ((with_reducible refine gate_dst (N := 1) rfl ?_); refine be (cs := #[.int .i64 aA, .int .i64 aB, .string aF]) (t := 98) ?_; intro aG hg b9 hbox hb; have aC := A_ hbox; have aD := A_ (gl hg (bz Z2)); have aE := aD; replace HB := A_ (bst Z2 hb); clear hb hbox hg; obtain ⟨a6, a7, a8, a9, bA, bB⟩ := C3 aC.out))
     go_ret
     exact ⟨Z11, Z3 aE.out⟩
   ·rw [if_neg aH] at H
    have aJ : (aA == 2) = false := beq_eq_false_iff_ne.mpr aH; have aK : (aA != 2) = true := bne_iff_ne.mpr aH; obtain rfl := Option.some.inj H
    go_enter Try.func91, Try.ntmps91
    go_wp2_with (first | ((with_reducible refine gate_dst (N := 1) rfl ?_); refine be (cs := #[.int .i64 aA, .int .i64 aB, .string aF]) (t := 98) ?_; intro aG hg cA hbox hb; have aC := A_ hbox; have aD := A_ (gl hg (bz Z2)); have aE := aD; replace HB := A_ (bst Z2 hb); clear hb hbox hg; obtain ⟨bC, bD, bE, bF, bG, bH⟩ := C3 aC.out))
    go_ret
    exact ⟨Z11, Z3 aE.out⟩
def spec_validValues.l0 : Nat → List (S98) → Int → Option (Bool)
 | 0, _, _ => none
 | k + 1, x0, x3 => if x3 < (x0.length : Int) then (if 0 ≤ x3 then ((spec_validValue.f k ((rd_T98 x0 x3).f0) ((rd_T98 x0 x3).f1) ((rd_T98 x0 x3).f2)).bind fun aA => (if aA = true then (spec_validValues.l0 k x0 (wrap64 (x3 + 1))) else (some false))) else (none)) else (some true)
def spec_validValues.f (k : Nat) (l0 : List (S98)) : Option (Bool) := spec_validValues.l0 k l0 0
theorem spec_validValues.calls (k : Nat) (A0 : Option Addr) (c0 : Nat) (l0 : List (S98)) (r : Bool) (w : World) (aK : Kd.C k98 w A0 l0.length l0) (hc0 : l0.length ≤ c0) (h : spec_validValues.f k l0 = some r) :
  Calls Try.prog 76 #[.slice A0 l0.length c0] w fun e w' => e = .returned (.bool r) ∧ Below w.heap.size w w' := by
 have aO := Try.underlying98; have aL := A_ aK; have aQ := A_ hc0; clear aK hc0; have HB := A_ (Below.refl w.heap.size w); have H := h; unfold spec_validValues.f at H; clear h; have H' := A_ H; clear H
 go_enter Try.func76, Try.ntmps76
 go_wp2
 go_loopg [3] k (fun kq v3 w' => ∃ (aA : Int), v3 = .int .i64 aA ∧ Aside0 (spec_validValues.l0 kq l0 aA = some r) ∧ Aside0 (kq ≤ k) ∧ Aside0 (Below w.heap.size w w'))
 case atStart => exact ⟨(0), Z26, H', ⟨Nat.le_refl _⟩, ⟨Z2⟩⟩
 case round =>
  clear H'; obtain ⟨aA, rfl, HA, aM, HB⟩ := hrel
  cases gk with
  | zero => exact absurd HA.out (by simp [spec_validValues.l0])
  | succ k1 =>
   have H := HA.out; clear HA; simp only [spec_validValues.l0] at H
   by_cases c2 : aA < (l0.length : Int)
   ·rw [if_pos c2] at H
    have aI := dt c2; clear c2
    by_cases c3 : 0 ≤ aA
    ·rw [if_pos c3] at H
     have aP := dt c3; clear c3; replace H := bS H; obtain ⟨aJ, aN, H⟩ := H
     try dsimp only at H
     have A4 := A_ aN; clear aN
     by_cases c5 : aJ = true
     ·subst c5
      rw [if_pos rfl] at H; have H' := A_ H; clear H; have aE : 0 ≤ (aA : Int) := odt; have aF : aA < (l0.length : Int) := odt; obtain ⟨aH, aG, aB, aC, aD⟩ := at_T98 aL.out aA aE aF; cases aG; replace aB := ZC HB.out aB; replace aC := ZC HB.out aC; replace aD := ZC HB.out aD; replace aE := eq_true aE; replace aF := eq_true aF
      go_wp2_with (first | ((with_reducible refine gate_callee (f := 91) rfl ?_); refine gL 14 Try.func91 #[.agg #[.int .i64 ((rd_T98 l0 aA).f0), .int .i64 ((rd_T98 l0 aA).f1), .string ((rd_T98 l0 aA).f2)]] ?_; (with_reducible refine (spec_validValue.calls k1 ((rd_T98 l0 aA).f0) ((rd_T98 l0 aA).f1) ((rd_T98 l0 aA).f2) true _ A4.out).mono ?_); rintro e w6 ⟨rfl, hb⟩; refine ⟨_, rfl, ?_⟩; replace HB := A_ (bst Z2 hb); (try clear hb)))
      go_roundg k1
      case measure => have := aM.out; omega
      case rel => exact ⟨(wrap64 (aA + 1)), Z26, H', ⟨by have := aM.out; omega⟩, ⟨Z2⟩⟩
     ·replace c5 := Bool.eq_false_iff.mpr c5
      subst c5; rw [if_neg (show ¬ (false = true) by decide)] at H; obtain rfl := Option.some.inj H; have aE : 0 ≤ (aA : Int) := odt; have aF : aA < (l0.length : Int) := odt; obtain ⟨aH, aG, aB, aC, aD⟩ := at_T98 aL.out aA aE aF; cases aG; replace aB := ZC HB.out aB; replace aC := ZC HB.out aC; replace aD := ZC HB.out aD; replace aE := eq_true aE; replace aF := eq_true aF
      go_wp2_with (first | ((with_reducible refine gate_callee (f := 91) rfl ?_); refine gL 14 Try.func91 #[.agg #[.int .i64 ((rd_T98 l0 aA).f0), .int .i64 ((rd_T98 l0 aA).f1), .string ((rd_T98 l0 aA).f2)]] ?_; (with_reducible refine (spec_validValue.calls k1 ((rd_T98 l0 aA).f0) ((rd_T98 l0 aA).f1) ((rd_T98 l0 aA).f2) false _ A4.out).mono ?_); rintro e w7 ⟨rfl, hb⟩; refine ⟨_, rfl, ?_⟩; replace HB := A_ (bst Z2 hb); (try clear hb)))
      go_ret
      exact ⟨Z11, Z2⟩
    ·rw [if_neg c3] at H
     exact absurd H (by simp)
   ·rw [if_neg c2] at H
    have aI := df c2; clear c2; obtain rfl := Option.some.inj H
    go_wp2
    go_ret
    exact ⟨Z11, Z2⟩
end Go.Proofs.Ytgbbcebjgpoioaa.PFnHistRedo
