/- Walks (lines of the print; no condition). -/
import Derived.Test.YtgbbcebjgpoioaaZFnExactHistRedoQFnExactHistRedox0
namespace Go.Proofs.Ytgbbcebjgpoioaa.PFnExactHistRedo
open Go.RowKit Go.Proofs.YtgbbcebjgpoioaaW.PrintWords Go.Proofs.YtgbbcebjgpoioaaW.PrintLast Go.Proofs.YtgbbcebjgpoioaaW.PrintMore
attribute [local go_sem] max2_int min2_int max_two min_two max_three min_three max_four min_four
set_option linter.unusedVariables false
set_option linter.unusedSimpArgs false
set_option maxHeartbeats 8000000
set_option maxRecDepth 100000
def impl_within.f (a0 : Int) (a1 : Int) (a2 : Int) : Option (Bool) := if a0 ≥ a1 then (some (decide (a0 ≤ a2))) else (some false)
theorem impl_within.calls (a0 : Int) (a1 : Int) (a2 : Int) (r : Bool) (w : World) (h : impl_within.f a0 a1 a2 = some r) :
  Calls Try.prog 81 #[.int .i64 a0, .int .i64 a1, .int .i64 a2] w fun e w' => e = .returned (.bool r) ∧ Drawn0 w w' := by
 have H := h; unfold impl_within.f at H; clear h
 by_cases c4 : a0 ≥ a1
 ·rw [if_pos c4] at H
  have aA : decide (a1 ≤ a0) = true := dt c4; clear c4; obtain rfl := Option.some.inj H
  go_enter Try.func81, Try.ntmps81
  go_wp2
  go_ret
  exact ⟨Z17, Z23⟩
 ·rw [if_neg c4] at H
  have aA : decide (a1 ≤ a0) = false := df c4; clear c4; obtain rfl := Option.some.inj H
  go_enter Try.func81, Try.ntmps81
  go_wp2
  go_ret
  exact ⟨Z17, Z23⟩
def impl_PlaceOk.l0 : Nat → List (S96) → List (S96) → Int → Int → Option (Bool)
 | 0, _, _, _, _ => none
 | k + 1, x0, x5, x6, x7 => if x7 < x6 then (if 0 ≤ x7 then (if x7 < (x5.length : Int) then ((impl_within.f ((rd_T96 x5 x7).f0) 0 3).bind fun aA => (if aA = true then ((impl_within.f ((rd_T96 x5 x7).f1) 0 103).bind fun aB => (if aB = true then (impl_PlaceOk.l0 k x0 x5 x6 (wrap64 (x7 + 1))) else (some false))) else (some false))) else (none)) else (none)) else (some (decide ((x0.length : Int) ≤ 20)))
def impl_PlaceOk.f (k : Nat) (l0 : List (S96)) : Option (Bool) := impl_PlaceOk.l0 k l0 l0 (l0.length : Int) 0
theorem impl_PlaceOk.calls (k : Nat) (A0 : Option Addr) (c0 : Nat) (l0 : List (S96)) (r : Bool) (w : World) (a0 : Kd.C k96 w A0 l0.length l0) (hc0 : l0.length ≤ c0) (h : impl_PlaceOk.f k l0 = some r) :
  Calls Try.prog 61 #[.slice A0 l0.length c0] w fun e w' => e = .returned (.bool r) ∧ Below w.heap.size w w' := by
 have a4 := Try.underlying96; have aW := A_ a0; have a7 := A_ hc0; clear a0 hc0; have HB := A_ (Below.refl w.heap.size w); have H := h; unfold impl_PlaceOk.f at H; clear h; have H' := A_ H; clear H
 go_enter Try.func61, Try.ntmps61
 go_wp2
 go_loopg [7] k (fun kq v7 w' => ∃ (x7_1 : Int), v7 = .int .i64 x7_1 ∧ Aside0 (impl_PlaceOk.l0 kq l0 l0 (l0.length : Int) x7_1 = some r) ∧ Aside0 (kq ≤ k) ∧ Aside0 (Below w.heap.size w w'))
 case atStart => exact ⟨(0), Z17, H', ⟨Nat.le_refl _⟩, ⟨Z1⟩⟩
 case round =>
  clear H'; obtain ⟨x7_1, rfl, HA, a1, HB⟩ := hrel
  cases gk with
  | zero => exact absurd HA.out (by simp [impl_PlaceOk.l0])
  | succ k1 =>
   have H := HA.out; clear HA; simp only [impl_PlaceOk.l0] at H
   by_cases c2 : x7_1 < (l0.length : Int)
   ·rw [if_pos c2] at H
    have aX := dt c2; clear c2
    by_cases c3 : 0 ≤ x7_1
    ·rw [if_pos c3] at H
     have a5 := dt c3; clear c3
     by_cases c4 : x7_1 < (l0.length : Int)
     ·rw [if_pos c4] at H
      have a6 := dt c4; clear c4; replace H := bS H; obtain ⟨aY, a2, H⟩ := H
      try dsimp only at H
      have A5 := A_ a2; clear a2
      by_cases c6 : aY = true
      ·subst c6
       rw [if_pos rfl] at H; replace H := bS H; obtain ⟨aZ, a3, H⟩ := H
       try dsimp only at H
       have A7 := A_ a3; clear a3
       by_cases c8 : aZ = true
       ·subst c8
        rw [if_pos rfl] at H; have H' := A_ H; clear H; have aC : 0 ≤ (x7_1 : Int) := odt; have aD : x7_1 < (l0.length : Int) := odt; obtain ⟨aI, aH, aA, aB⟩ := at_T96 aW.out x7_1 aC aD; cases aH; replace aA := ZC HB.out aA; replace aB := ZC HB.out aB; replace aC := eq_true aC; replace aD := eq_true aD
        go_wp2_with (first | ((with_reducible refine gate_dst (N := 4) rfl ?_); refine be (cs := #[.int .i64 0, .int .i64 0]) (t := 96) ?_; intro aJ hg w9 hbox hb; have aE := A_ hbox; have aF := A_ (gl hg (bz Z1)); have aG := aF; replace HB := A_ (bst Z1 hb); clear hb hbox hg; obtain ⟨aK, aL, aM, aN⟩ := C2 aE.out) | ((with_reducible refine gate_callee (f := 81) rfl ?_); refine gL 13 Try.func81 #[.int .i64 ((rd_T96 l0 x7_1).f0), .int .i64 0, .int .i64 3] ?_; (with_reducible refine (impl_within.calls ((rd_T96 l0 x7_1).f0) 0 3 true _ A5.out).mono ?_); rintro e w' ⟨rfl, ⟨nd, rfl⟩⟩; refine ⟨_, rfl, ?_⟩) | (go_at_call 81; (with_reducible refine (impl_within.calls ((rd_T96 l0 x7_1).f1) 0 103 true _ A7.out).mono ?_); rintro e w' ⟨rfl, ⟨nd, rfl⟩⟩))
        go_roundg k1
        case measure => have := a1.out; omega
        case rel => exact ⟨(wrap64 (x7_1 + 1)), Z17, H', ⟨by have := a1.out; omega⟩, ⟨Z3 aG.out⟩⟩
       ·replace c8 := Bool.eq_false_iff.mpr c8
        subst c8; rw [if_neg (show ¬ (false = true) by decide)] at H; obtain rfl := Option.some.inj H; have aC : 0 ≤ (x7_1 : Int) := odt; have aD : x7_1 < (l0.length : Int) := odt; obtain ⟨aI, aH, aA, aB⟩ := at_T96 aW.out x7_1 aC aD; cases aH; replace aA := ZC HB.out aA; replace aB := ZC HB.out aB; replace aC := eq_true aC; replace aD := eq_true aD
        go_wp2_with (first | ((with_reducible refine gate_dst (N := 4) rfl ?_); refine be (cs := #[.int .i64 0, .int .i64 0]) (t := 96) ?_; intro aJ hg a8 hbox hb; have aE := A_ hbox; have aF := A_ (gl hg (bz Z1)); have aG := aF; replace HB := A_ (bst Z1 hb); clear hb hbox hg; obtain ⟨aO, aP, aQ, aR⟩ := C2 aE.out) | ((with_reducible refine gate_callee (f := 81) rfl ?_); refine gL 13 Try.func81 #[.int .i64 ((rd_T96 l0 x7_1).f0), .int .i64 0, .int .i64 3] ?_; (with_reducible refine (impl_within.calls ((rd_T96 l0 x7_1).f0) 0 3 true _ A5.out).mono ?_); rintro e w' ⟨rfl, ⟨nd, rfl⟩⟩; refine ⟨_, rfl, ?_⟩) | (go_at_call 81; (with_reducible refine (impl_within.calls ((rd_T96 l0 x7_1).f1) 0 103 false _ A7.out).mono ?_); rintro e w' ⟨rfl, ⟨nd, rfl⟩⟩))
        go_ret
        exact ⟨Z7, Z3 aG.out⟩
      ·replace c6 := Bool.eq_false_iff.mpr c6
       subst c6; rw [if_neg (show ¬ (false = true) by decide)] at H; obtain rfl := Option.some.inj H; have aC : 0 ≤ (x7_1 : Int) := odt; have aD : x7_1 < (l0.length : Int) := odt; obtain ⟨aI, aH, aA, aB⟩ := at_T96 aW.out x7_1 aC aD; cases aH; replace aA := ZC HB.out aA; replace aB := ZC HB.out aB; replace aC := eq_true aC; replace aD := eq_true aD
       go_wp2_with (first | ((with_reducible refine gate_dst (N := 4) rfl ?_); refine be (cs := #[.int .i64 0, .int .i64 0]) (t := 96) ?_; intro aJ hg a9 hbox hb; have aE := A_ hbox; have aF := A_ (gl hg (bz Z1)); have aG := aF; replace HB := A_ (bst Z1 hb); clear hb hbox hg; obtain ⟨aS, aT, aU, aV⟩ := C2 aE.out) | ((with_reducible refine gate_callee (f := 81) rfl ?_); refine gL 13 Try.func81 #[.int .i64 ((rd_T96 l0 x7_1).f0), .int .i64 0, .int .i64 3] ?_; (with_reducible refine (impl_within.calls ((rd_T96 l0 x7_1).f0) 0 3 false _ A5.out).mono ?_); rintro e w' ⟨rfl, ⟨nd, rfl⟩⟩; refine ⟨_, rfl, ?_⟩))
       go_ret
       exact ⟨Z7, Z3 aG.out⟩
     ·exact Z45
    ·exact Z50
   ·rw [if_neg c2] at H
    have aX := df c2; clear c2; obtain rfl := Option.some.inj H
    go_wp2
    go_ret
    exact ⟨Z7, Z1⟩
def impl_word.l0 : Nat → ByteArray → Int → Option (Bool)
 | 0, _, _ => none
 | k + 1, x0, x3 => if x3 < (x0.size : Int) then (if 0 ≤ x3 then (if (bt x0 x3) ≥ 97 then (if (bt x0 x3) ≤ 122 then (impl_word.l0 k x0 (wrap64 (x3 + 1))) else (if (bt x0 x3) ≥ 48 then (if (bt x0 x3) ≤ 57 then (impl_word.l0 k x0 (wrap64 (x3 + 1))) else (if ((bt x0 x3) = 32) then (impl_word.l0 k x0 (wrap64 (x3 + 1))) else (some false))) else (if ((bt x0 x3) = 32) then (impl_word.l0 k x0 (wrap64 (x3 + 1))) else (some false)))) else (if (bt x0 x3) ≥ 48 then (if (bt x0 x3) ≤ 57 then (impl_word.l0 k x0 (wrap64 (x3 + 1))) else (if ((bt x0 x3) = 32) then (impl_word.l0 k x0 (wrap64 (x3 + 1))) else (some false))) else (if ((bt x0 x3) = 32) then (impl_word.l0 k x0 (wrap64 (x3 + 1))) else (some false)))) else (none)) else (some (decide ((x0.size : Int) ≤ 12)))
def impl_word.f (k : Nat) (a0 : ByteArray) : Option (Bool) := impl_word.l0 k a0 0
theorem impl_word.calls (k : Nat) (a0 : ByteArray) (r : Bool) (w : World) (h : impl_word.f k a0 = some r) :
  Calls Try.prog 98 #[.string a0] w fun e w' => e = .returned (.bool r) ∧ Drawn0 w w' := by
 have H := h; unfold impl_word.f at H; clear h; have H' := A_ H; clear H
 go_enter Try.func98, Try.ntmps98
 go_wp2
 go_loopg [3] k (fun kq v3 w' => ∃ (aA : Int), v3 = .int .i64 aA ∧ Aside0 (impl_word.l0 kq a0 aA = some r) ∧ Aside0 (kq ≤ k) ∧ Drawn0 w w')
 case atStart => exact ⟨(0), Z17, H', ⟨Nat.le_refl _⟩, Z23⟩
 case round =>
  clear H'; obtain ⟨aA, rfl, HA, aB, ⟨m1, rfl⟩⟩ := hrel
  cases gk with
  | zero => exact absurd HA.out (by simp [impl_word.l0])
  | succ k1 =>
   have H := HA.out; clear HA; simp only [impl_word.l0] at H
   by_cases c2 : aA < (a0.size : Int)
   ·rw [if_pos c2] at H
    have aP := dt c2; clear c2
    by_cases c3 : 0 ≤ aA
    ·rw [if_pos c3] at H
     have aW := dt c3; clear c3
     by_cases c5 : (bt a0 aA) ≥ 97
     ·rw [if_pos c5] at H
      have aQ : decide (97 ≤ (bt a0 aA)) = true := dt c5; clear c5
      by_cases c6 : (bt a0 aA) ≤ 122
      ·rw [if_pos c6] at H
       have aR := dt c6; clear c6; have H' := A_ H; clear H; have p4 : 0 ≤ (aA : Int) := odt; have q4 : aA < (a0.size : Int) := odt; have aC := bt_at a0 aA; replace p4 := eq_true p4; replace q4 := eq_true q4
       go_wp2
       go_roundg k1
       case measure => have := aB.out; omega
       case rel => exact ⟨(wrap64 (aA + 1)), Z17, H', ⟨by have := aB.out; omega⟩, Z23⟩
      ·rw [if_neg c6] at H
       have aR := df c6; clear c6
       by_cases c7 : (bt a0 aA) ≥ 48
       ·rw [if_pos c7] at H
        have aS : decide (48 ≤ (bt a0 aA)) = true := dt c7; clear c7
        by_cases c8 : (bt a0 aA) ≤ 57
        ·rw [if_pos c8] at H
         have aT := dt c8; clear c8; have H' := A_ H; clear H; have p4 : 0 ≤ (aA : Int) := odt; have q4 : aA < (a0.size : Int) := odt; have aC := bt_at a0 aA; replace p4 := eq_true p4; replace q4 := eq_true q4
         go_wp2
         go_roundg k1
         case measure => have := aB.out; omega
         case rel => exact ⟨(wrap64 (aA + 1)), Z17, H', ⟨by have := aB.out; omega⟩, Z23⟩
        ·rw [if_neg c8] at H
         have aT := df c8; clear c8
         by_cases c9 : ((bt a0 aA) = 32)
         ·rw [if_pos c9] at H
          have aU : ((bt a0 aA) == 32) = true := beq_iff_eq.mpr c9; have aV : ((bt a0 aA) != 32) = false := bne_eq_false_iff_eq.mpr c9; clear c9; have H' := A_ H; clear H; have p4 : 0 ≤ (aA : Int) := odt; have q4 : aA < (a0.size : Int) := odt; have aC := bt_at a0 aA; replace p4 := eq_true p4; replace q4 := eq_true q4
          go_wp2
          go_roundg k1
          case measure => have := aB.out; omega
          case rel => exact ⟨(wrap64 (aA + 1)), Z17, H', ⟨by have := aB.out; omega⟩, Z23⟩
         ·rw [if_neg c9] at H
          have aU : ((bt a0 aA) == 32) = false := beq_eq_false_iff_ne.mpr c9; have aV : ((bt a0 aA) != 32) = true := bne_iff_ne.mpr c9; obtain rfl := Option.some.inj H; have p4 : 0 ≤ (aA : Int) := odt; have q4 : aA < (a0.size : Int) := odt; have aC := bt_at a0 aA; replace p4 := eq_true p4; replace q4 := eq_true q4
          go_wp2
          go_ret
          exact ⟨Z17, Z23⟩
       ·rw [if_neg c7] at H
        have aS : decide (48 ≤ (bt a0 aA)) = false := df c7; clear c7
        by_cases c10 : ((bt a0 aA) = 32)
        ·rw [if_pos c10] at H
         have aH : ((bt a0 aA) == 32) = true := beq_iff_eq.mpr c10; have aI : ((bt a0 aA) != 32) = false := bne_eq_false_iff_eq.mpr c10; clear c10; have H' := A_ H; clear H; have p4 : 0 ≤ (aA : Int) := odt; have q4 : aA < (a0.size : Int) := odt; have aC := bt_at a0 aA; replace p4 := eq_true p4; replace q4 := eq_true q4
         go_wp2
         go_roundg k1
         case measure => have := aB.out; omega
         case rel => exact ⟨(wrap64 (aA + 1)), Z17, H', ⟨by have := aB.out; omega⟩, Z23⟩
        ·rw [if_neg c10] at H
         have aH : ((bt a0 aA) == 32) = false := beq_eq_false_iff_ne.mpr c10; have aI : ((bt a0 aA) != 32) = true := bne_iff_ne.mpr c10; obtain rfl := Option.some.inj H; have p4 : 0 ≤ (aA : Int) := odt; have q4 : aA < (a0.size : Int) := odt; have aC := bt_at a0 aA; replace p4 := eq_true p4; replace q4 := eq_true q4
         go_wp2
         go_ret
         exact ⟨Z17, Z23⟩
     ·rw [if_neg c5] at H
      have aQ : decide (97 ≤ (bt a0 aA)) = false := df c5; clear c5
      by_cases aF : (bt a0 aA) ≥ 48
      ·rw [if_pos aF] at H
       have aJ : decide (48 ≤ (bt a0 aA)) = true := dt aF; clear aF
       by_cases aG : (bt a0 aA) ≤ 57
       ·rw [if_pos aG] at H
        have aK := dt aG; clear aG; have H' := A_ H; clear H; have p4 : 0 ≤ (aA : Int) := odt; have q4 : aA < (a0.size : Int) := odt; have aC := bt_at a0 aA; replace p4 := eq_true p4; replace q4 := eq_true q4
        go_wp2
        go_roundg k1
        case measure => have := aB.out; omega
        case rel => exact ⟨(wrap64 (aA + 1)), Z17, H', ⟨by have := aB.out; omega⟩, Z23⟩
       ·rw [if_neg aG] at H
        have aK := df aG; clear aG
        by_cases aD : ((bt a0 aA) = 32)
        ·rw [if_pos aD] at H
         have aL : ((bt a0 aA) == 32) = true := beq_iff_eq.mpr aD; have aM : ((bt a0 aA) != 32) = false := bne_eq_false_iff_eq.mpr aD; clear aD; have H' := A_ H; clear H; have p4 : 0 ≤ (aA : Int) := odt; have q4 : aA < (a0.size : Int) := odt; have aC := bt_at a0 aA; replace p4 := eq_true p4; replace q4 := eq_true q4
         go_wp2
         go_roundg k1
         case measure => have := aB.out; omega
         case rel => exact ⟨(wrap64 (aA + 1)), Z17, H', ⟨by have := aB.out; omega⟩, Z23⟩
        ·rw [if_neg aD] at H
         have aL : ((bt a0 aA) == 32) = false := beq_eq_false_iff_ne.mpr aD; have aM : ((bt a0 aA) != 32) = true := bne_iff_ne.mpr aD; obtain rfl := Option.some.inj H; have p4 : 0 ≤ (aA : Int) := odt; have q4 : aA < (a0.size : Int) := odt; have aC := bt_at a0 aA; replace p4 := eq_true p4; replace q4 := eq_true q4
         go_wp2
         go_ret
         exact ⟨Z17, Z23⟩
      ·rw [if_neg aF] at H
       have aJ : decide (48 ≤ (bt a0 aA)) = false := df aF; clear aF
       by_cases aE : ((bt a0 aA) = 32)
       ·rw [if_pos aE] at H
        have aN : ((bt a0 aA) == 32) = true := beq_iff_eq.mpr aE; have aO : ((bt a0 aA) != 32) = false := bne_eq_false_iff_eq.mpr aE; clear aE; have H' := A_ H; clear H; have p4 : 0 ≤ (aA : Int) := odt; have q4 : aA < (a0.size : Int) := odt; have aC := bt_at a0 aA; replace p4 := eq_true p4; replace q4 := eq_true q4
        go_wp2
        go_roundg k1
        case measure => have := aB.out; omega
        case rel => exact ⟨(wrap64 (aA + 1)), Z17, H', ⟨by have := aB.out; omega⟩, Z23⟩
       ·rw [if_neg aE] at H
        have aN : ((bt a0 aA) == 32) = false := beq_eq_false_iff_ne.mpr aE; have aO : ((bt a0 aA) != 32) = true := bne_iff_ne.mpr aE; obtain rfl := Option.some.inj H; have p4 : 0 ≤ (aA : Int) := odt; have q4 : aA < (a0.size : Int) := odt; have aC := bt_at a0 aA; replace p4 := eq_true p4; replace q4 := eq_true q4
        go_wp2
        go_ret
        exact ⟨Z17, Z23⟩
    ·exact Z50
   ·rw [if_neg c2] at H
    have aP := df c2; clear c2; obtain rfl := Option.some.inj H
    go_wp2
    go_ret
    exact ⟨Z17, Z23⟩
def impl_ValOk.f (k : Nat) (aA : Int) (aB : Int) (aC : ByteArray) : Option (Bool) := if aA = 0 then (if aB = 0 then (some (aC.toList == ([] : List UInt8))) else (some false)) else (if aA = 1 then ((impl_within.f aB (-1000) 1000).bind fun aD => (if aD = true then (some (aC.toList == ([] : List UInt8))) else (some false))) else (if aA = 2 then (if aB = 0 then ((impl_word.f k aC).bind fun aE => (some aE)) else (some false)) else (some false)))
theorem impl_ValOk.calls (k : Nat) (aA : Int) (aB : Int) (aF : ByteArray) (r : Bool) (w : World) (h : impl_ValOk.f k aA aB aF = some r) :
  Calls Try.prog 82 #[.agg #[.int .i64 aA, .int .i64 aB, .string aF]] w fun e w' => e = .returned (.bool r) ∧ Below w.heap.size w w' := by
 have b4 := Try.underlying98; have HB := A_ (Below.refl w.heap.size w); have H := h; unfold impl_ValOk.f at H; clear h
 by_cases c2 : aA = 0
 ·rw [if_pos c2] at H
  have bI : (aA == 0) = true := beq_iff_eq.mpr c2; have bJ : (aA != 0) = false := bne_eq_false_iff_eq.mpr c2; clear c2
  by_cases c3 : aB = 0
  ·rw [if_pos c3] at H
   have bK : (aB == 0) = true := beq_iff_eq.mpr c3; have bL : (aB != 0) = false := bne_eq_false_iff_eq.mpr c3; clear c3; obtain rfl := Option.some.inj H
   go_enter Try.func82, Try.ntmps82
   go_wp2_with (first | ((with_reducible refine gate_dst (N := 1) rfl ?_); refine be (cs := #[.int .i64 aA, .int .i64 aB, .string aF]) (t := 98) ?_; intro aG hg w4 hbox hb; have aC := A_ hbox; have aD := A_ (gl hg (bz Z1)); have aE := aD; replace HB := A_ (bst Z1 hb); clear hb hbox hg; obtain ⟨bM, bN, bO, bP, bQ, bR⟩ := C3 aC.out))
   go_ret
   exact ⟨Z7, Z3 aE.out⟩
  ·rw [if_neg c3] at H
   have bK : (aB == 0) = false := beq_eq_false_iff_ne.mpr c3; have bL : (aB != 0) = true := bne_iff_ne.mpr c3; obtain rfl := Option.some.inj H
   go_enter Try.func82, Try.ntmps82
   go_wp2_with (first | ((with_reducible refine gate_dst (N := 1) rfl ?_); refine be (cs := #[.int .i64 aA, .int .i64 aB, .string aF]) (t := 98) ?_; intro aG hg w6 hbox hb; have aC := A_ hbox; have aD := A_ (gl hg (bz Z1)); have aE := aD; replace HB := A_ (bst Z1 hb); clear hb hbox hg; obtain ⟨bT, bU, bV, bW, bX, bY⟩ := C3 aC.out))
   go_ret
   exact ⟨Z7, Z3 aE.out⟩
 ·rw [if_neg c2] at H
  have bI : (aA == 0) = false := beq_eq_false_iff_ne.mpr c2; have bJ : (aA != 0) = true := bne_iff_ne.mpr c2
  by_cases c8 : aA = 1
  ·rw [if_pos c8] at H
   have bZ : (aA == 1) = true := beq_iff_eq.mpr c8; have b0 : (aA != 1) = false := bne_eq_false_iff_eq.mpr c8; clear c8; replace H := bS H; obtain ⟨b1, b3, H⟩ := H
   try dsimp only at H
   have A9 := A_ b3; clear b3
   by_cases c10 : b1 = true
   ·subst c10
    rw [if_pos rfl] at H; obtain rfl := Option.some.inj H
    go_enter Try.func82, Try.ntmps82
    go_wp2_with (first | ((with_reducible refine gate_dst (N := 1) rfl ?_); refine be (cs := #[.int .i64 aA, .int .i64 aB, .string aF]) (t := 98) ?_; intro aG hg b6 hbox hb; have aC := A_ hbox; have aD := A_ (gl hg (bz Z1)); have aE := aD; replace HB := A_ (bst Z1 hb); clear hb hbox hg; obtain ⟨aO, aP, aQ, aR, aS, aT⟩ := C3 aC.out) | ((with_reducible refine gate_callee (f := 81) rfl ?_); refine gL 19 Try.func81 #[.int .i64 aB, .int .i64 (-1000), .int .i64 1000] ?_; (with_reducible refine (impl_within.calls aB (-1000) 1000 true _ A9.out).mono ?_); rintro e w' ⟨rfl, ⟨nd, rfl⟩⟩; refine ⟨_, rfl, ?_⟩))
    go_ret
    exact ⟨Z7, Z3 aE.out⟩
   ·replace c10 := Bool.eq_false_iff.mpr c10
    subst c10; rw [if_neg (show ¬ (false = true) by decide)] at H; obtain rfl := Option.some.inj H
    go_enter Try.func82, Try.ntmps82
    go_wp2_with (first | ((with_reducible refine gate_dst (N := 1) rfl ?_); refine be (cs := #[.int .i64 aA, .int .i64 aB, .string aF]) (t := 98) ?_; intro aG hg b7 hbox hb; have aC := A_ hbox; have aD := A_ (gl hg (bz Z1)); have aE := aD; replace HB := A_ (bst Z1 hb); clear hb hbox hg; obtain ⟨aU, aV, aW, aX, aY, aZ⟩ := C3 aC.out) | ((with_reducible refine gate_callee (f := 81) rfl ?_); refine gL 19 Try.func81 #[.int .i64 aB, .int .i64 (-1000), .int .i64 1000] ?_; (with_reducible refine (impl_within.calls aB (-1000) 1000 false _ A9.out).mono ?_); rintro e w' ⟨rfl, ⟨nd, rfl⟩⟩; refine ⟨_, rfl, ?_⟩))
    go_ret
    exact ⟨Z7, Z3 aE.out⟩
  ·rw [if_neg c8] at H
   have bZ : (aA == 1) = false := beq_eq_false_iff_ne.mpr c8; have b0 : (aA != 1) = true := bne_iff_ne.mpr c8
   by_cases aH : aA = 2
   ·rw [if_pos aH] at H
    have aJ : (aA == 2) = true := beq_iff_eq.mpr aH; have aK : (aA != 2) = false := bne_eq_false_iff_eq.mpr aH; clear aH
    by_cases aI : aB = 0
    ·rw [if_pos aI] at H
     have aL : (aB == 0) = true := beq_iff_eq.mpr aI; have aM : (aB != 0) = false := bne_eq_false_iff_eq.mpr aI; clear aI; replace H := bS H; obtain ⟨b2, aN, H⟩ := H
     try dsimp only at H
     have b5 := A_ aN; clear aN; obtain rfl := Option.some.inj H
     go_enter Try.func82, Try.ntmps82
     go_wp2_with (first | ((with_reducible refine gate_dst (N := 1) rfl ?_); refine be (cs := #[.int .i64 aA, .int .i64 aB, .string aF]) (t := 98) ?_; intro aG hg b8 hbox hb; have aC := A_ hbox; have aD := A_ (gl hg (bz Z1)); have aE := aD; replace HB := A_ (bst Z1 hb); clear hb hbox hg; obtain ⟨a0, a1, a2, a3, a4, a5⟩ := C3 aC.out) | (go_at_call 98; (with_reducible refine (impl_word.calls k aF b2 _ b5.out).mono ?_); rintro e w' ⟨rfl, ⟨nd, rfl⟩⟩))
     go_ret
     exact ⟨Z7, Z3 aE.out⟩
    ·rw [if_neg aI] at H
     have aL : (aB == 0) = false := beq_eq_false_iff_ne.mpr aI; have aM : (aB != 0) = true := bne_iff_ne.mpr aI; obtain rfl := Option.some.inj H
     go_enter Try.func82, Try.ntmps82
     go_wp2_with (first | ((with_reducible refine gate_dst (N := 1) rfl ?_); refine be (cs := #[.int .i64 aA, .int .i64 aB, .string aF]) (t := 98) ?_; intro aG hg b9 hbox hb; have aC := A_ hbox; have aD := A_ (gl hg (bz Z1)); have aE := aD; replace HB := A_ (bst Z1 hb); clear hb hbox hg; obtain ⟨a6, a7, a8, a9, bA, bB⟩ := C3 aC.out))
     go_ret
     exact ⟨Z7, Z3 aE.out⟩
   ·rw [if_neg aH] at H
    have aJ : (aA == 2) = false := beq_eq_false_iff_ne.mpr aH; have aK : (aA != 2) = true := bne_iff_ne.mpr aH; obtain rfl := Option.some.inj H
    go_enter Try.func82, Try.ntmps82
    go_wp2_with (first | ((with_reducible refine gate_dst (N := 1) rfl ?_); refine be (cs := #[.int .i64 aA, .int .i64 aB, .string aF]) (t := 98) ?_; intro aG hg cA hbox hb; have aC := A_ hbox; have aD := A_ (gl hg (bz Z1)); have aE := aD; replace HB := A_ (bst Z1 hb); clear hb hbox hg; obtain ⟨bC, bD, bE, bF, bG, bH⟩ := C3 aC.out))
    go_ret
    exact ⟨Z7, Z3 aE.out⟩
def impl_valsOk.l0 : Nat → List (S98) → Int → Int → Option (Bool)
 | 0, _, _, _ => none
 | k + 1, x5, x6, x7 => if x7 < x6 then (if 0 ≤ x7 then (if x7 < (x5.length : Int) then ((impl_ValOk.f k ((rd_T98 x5 x7).f0) ((rd_T98 x5 x7).f1) ((rd_T98 x5 x7).f2)).bind fun aA => (if aA = true then (impl_valsOk.l0 k x5 x6 (wrap64 (x7 + 1))) else (some false))) else (none)) else (none)) else (some true)
def impl_valsOk.f (k : Nat) (l0 : List (S98)) : Option (Bool) := impl_valsOk.l0 k l0 (l0.length : Int) 0
theorem impl_valsOk.calls (k : Nat) (A0 : Option Addr) (c0 : Nat) (l0 : List (S98)) (r : Bool) (w : World) (aZ : Kd.C k98 w A0 l0.length l0) (hc0 : l0.length ≤ c0) (h : impl_valsOk.f k l0 = some r) :
  Calls Try.prog 62 #[.slice A0 l0.length c0] w fun e w' => e = .returned (.bool r) ∧ Below w.heap.size w w' := by
 have a3 := Try.underlying98; have a0 := A_ aZ; have a6 := A_ hc0; clear aZ hc0; have HB := A_ (Below.refl w.heap.size w); have H := h; unfold impl_valsOk.f at H; clear h; have H' := A_ H; clear H
 go_enter Try.func62, Try.ntmps62
 go_wp2
 go_loopg [7] k (fun kq v7 w' => ∃ (x7_1 : Int), v7 = .int .i64 x7_1 ∧ Aside0 (impl_valsOk.l0 kq l0 (l0.length : Int) x7_1 = some r) ∧ Aside0 (kq ≤ k) ∧ Aside0 (Below w.heap.size w w'))
 case atStart => exact ⟨(0), Z17, H', ⟨Nat.le_refl _⟩, ⟨Z1⟩⟩
 case round =>
  clear H'; obtain ⟨x7_1, rfl, HA, a1, HB⟩ := hrel
  cases gk with
  | zero => exact absurd HA.out (by simp [impl_valsOk.l0])
  | succ k1 =>
   have H := HA.out; clear HA; simp only [impl_valsOk.l0] at H
   by_cases c2 : x7_1 < (l0.length : Int)
   ·rw [if_pos c2] at H
    have aR := dt c2; clear c2
    by_cases c3 : 0 ≤ x7_1
    ·rw [if_pos c3] at H
     have a4 := dt c3; clear c3
     by_cases c4 : x7_1 < (l0.length : Int)
     ·rw [if_pos c4] at H
      have a5 := dt c4; clear c4; replace H := bS H; obtain ⟨aS, a2, H⟩ := H
      try dsimp only at H
      have A5 := A_ a2; clear a2
      by_cases c6 : aS = true
      ·subst c6
       rw [if_pos rfl] at H; have H' := A_ H; clear H; have aF : 0 ≤ (x7_1 : Int) := odt; have aG : x7_1 < (l0.length : Int) := odt; obtain ⟨aK, aJ, aA, aB, aC⟩ := at_T98 a0.out x7_1 aF aG; cases aJ; replace aA := ZC HB.out aA; replace aB := ZC HB.out aB; replace aC := ZC HB.out aC; replace aF := eq_true aF; replace aG := eq_true aG
       go_wp2_with (first | ((with_reducible refine gate_dst (N := 4) rfl ?_); refine be (cs := #[.int .i64 0, .int .i64 0, .string (⟨#[]⟩ : ByteArray)]) (t := 98) ?_; intro aH hg w7 hbox hb; have aD := A_ hbox; have aI := A_ (gl hg (bz Z1)); have aE := aI; replace HB := A_ (bst Z1 hb); clear hb hbox hg; obtain ⟨aT, aU, aV, aW, aX, aY⟩ := C3 aD.out) | ((with_reducible refine gate_callee (f := 82) rfl ?_); refine gL 12 Try.func82 #[.agg #[.int .i64 ((rd_T98 l0 x7_1).f0), .int .i64 ((rd_T98 l0 x7_1).f1), .string ((rd_T98 l0 x7_1).f2)]] ?_; (with_reducible refine (impl_ValOk.calls k1 ((rd_T98 l0 x7_1).f0) ((rd_T98 l0 x7_1).f1) ((rd_T98 l0 x7_1).f2) true _ A5.out).mono ?_); rintro e w9 ⟨rfl, hb⟩; refine ⟨_, rfl, ?_⟩; replace aD := A_ (bb (g := aH) (o := .cells #[.int .i64 ((rd_T98 l0 x7_1).f0), .int .i64 ((rd_T98 l0 x7_1).f1), .string ((rd_T98 l0 x7_1).f2)] 98 (0, 0)) (bp0 aD.out) hb); replace HB := A_ (bst (Z3 aE.out) hb); (try clear hb)))
       go_roundg k1
       case measure => have := a1.out; omega
       case rel => exact ⟨(wrap64 (x7_1 + 1)), Z17, H', ⟨by have := a1.out; omega⟩, ⟨Z3 aE.out⟩⟩
      ·replace c6 := Bool.eq_false_iff.mpr c6
       subst c6; rw [if_neg (show ¬ (false = true) by decide)] at H; obtain rfl := Option.some.inj H; have aF : 0 ≤ (x7_1 : Int) := odt; have aG : x7_1 < (l0.length : Int) := odt; obtain ⟨aK, aJ, aA, aB, aC⟩ := at_T98 a0.out x7_1 aF aG; cases aJ; replace aA := ZC HB.out aA; replace aB := ZC HB.out aB; replace aC := ZC HB.out aC; replace aF := eq_true aF; replace aG := eq_true aG
       go_wp2_with (first | ((with_reducible refine gate_dst (N := 4) rfl ?_); refine be (cs := #[.int .i64 0, .int .i64 0, .string (⟨#[]⟩ : ByteArray)]) (t := 98) ?_; intro aH hg a7 hbox hb; have aD := A_ hbox; have aI := A_ (gl hg (bz Z1)); have aE := aI; replace HB := A_ (bst Z1 hb); clear hb hbox hg; obtain ⟨aL, aM, aN, aO, aP, aQ⟩ := C3 aD.out) | ((with_reducible refine gate_callee (f := 82) rfl ?_); refine gL 12 Try.func82 #[.agg #[.int .i64 ((rd_T98 l0 x7_1).f0), .int .i64 ((rd_T98 l0 x7_1).f1), .string ((rd_T98 l0 x7_1).f2)]] ?_; (with_reducible refine (impl_ValOk.calls k1 ((rd_T98 l0 x7_1).f0) ((rd_T98 l0 x7_1).f1) ((rd_T98 l0 x7_1).f2) false _ A5.out).mono ?_); rintro e a8 ⟨rfl, hb⟩; refine ⟨_, rfl, ?_⟩; replace aD := A_ (bb (g := aH) (o := .cells #[.int .i64 ((rd_T98 l0 x7_1).f0), .int .i64 ((rd_T98 l0 x7_1).f1), .string ((rd_T98 l0 x7_1).f2)] 98 (0, 0)) (bp0 aD.out) hb); replace HB := A_ (bst (Z3 aE.out) hb); (try clear hb)))
       go_ret
       exact ⟨Z7, Z3 aE.out⟩
     ·exact Z45
    ·exact Z50
   ·rw [if_neg c2] at H
    have aR := df c2; clear c2; obtain rfl := Option.some.inj H
    go_wp2
    go_ret
    exact ⟨Z7, Z1⟩
end Go.Proofs.Ytgbbcebjgpoioaa.PFnExactHistRedo
