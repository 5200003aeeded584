/- Walks of the functions that the law 'FnExactTurnsJoin' reaches, part 6: for each a Lean function and the proof that Go's comes to just its answer (lines of the print, under own names; no condition). -/
import Derived.Test.YtpadhphdglbciaaZFnExactTurnsJoinQFnExactTurnsJoinx0
import Derived.Test.YtpadhphdglbciaaZFnExactTurnsJoinQFnExactTurnsJoinx5
namespace Go.Proofs.Ytpadhphdglbciaa.PFnExactTurnsJoin
open Go.RowKit Go.Proofs.YtpadhphdglbciaaW.PrintWords Go.Proofs.YtpadhphdglbciaaW.PrintLast Go.Proofs.YtpadhphdglbciaaW.PrintMore
attribute [local go_sem] max2_int min2_int max_two min_two max_three min_three max_four min_four
set_option linter.unusedVariables false
set_option linter.unusedSimpArgs false
def laws_heldSlotS.l0 : Nat → List (S92) → Int → Int → Option (Int)
 | 0, _, _, _ => none
 | k + 1, x0, x1, x5 => if x5 < (x0.length : Int) then (if 0 ≤ x5 then (if ((rd_T92 x0 x5).f0) = x1 then (if ((rd_T92 x0 x5).f1) = (wrap64 (x1 + 1)) then (laws_heldSlotS.l0 k x0 (wrap64 ((wrap64 (x1 + 1)) + 1)) (wrap64 (x5 + 1))) else (some (-1))) else (some (-1))) else (none)) else (some x1)
def laws_heldSlotS.f (k : Nat) (l0 : List (S92)) (a1 : Int) : Option (Int) := laws_heldSlotS.l0 k l0 a1 0
set_option maxHeartbeats 8000000 in
set_option maxRecDepth 100000 in
theorem laws_heldSlotS.calls (k : Nat) (A0 : Option Addr) (c0 : Nat) (l0 : List (S92)) (a1 : Int) (r : Int) (w : World) (hr0 : Kd.C k92 w A0 l0.length l0) (hc0 : l0.length ≤ c0) (h : laws_heldSlotS.f k l0 a1 = some r) :
  Calls Try.prog 57 #[.slice A0 l0.length c0, .int .i64 a1] w fun e w' => e = .returned (.int .i64 r) ∧ Drawn0 w w' := by
 have HR0 := A_ hr0; have HC0 := A_ hc0; clear hr0 hc0; have H : (laws_heldSlotS.l0 k l0 a1 0) = some r := h; clear h; have H' := A_ H; clear H
 go_enter Try.func57, Try.ntmps57
 go_wp2
 go_loopg [1, 5] k (fun kq v1 v5 w' => ∃ (x1_1 : Int) (x5_1 : Int), v1 = .int .i64 x1_1 ∧ v5 = .int .i64 x5_1 ∧ Aside0 (laws_heldSlotS.l0 kq l0 x1_1 x5_1 = some r) ∧ Aside0 (kq ≤ k) ∧ Drawn0 w w')
 case atStart => exact ⟨(a1), (0), Z13, Z13, H', ⟨Nat.le_refl _⟩, Z20⟩
 case round =>
  clear H'
  try clear p2
  obtain ⟨x1_1, x5_1, rfl, rfl, HA, HK1, ⟨m1, rfl⟩⟩ := hrel
  cases gk with
  | zero => exact absurd HA.out (by simp [laws_heldSlotS.l0])
  | succ k1 =>
   have H := HA.out; clear HA; simp only [laws_heldSlotS.l0] at H
   by_cases c3 : x5_1 < (l0.length : Int)
   ·rw [if_pos c3] at H
    have c3b0 : decide (x5_1 < (l0.length : Int)) = true := decide_eq_true c3; clear c3
    by_cases c4 : 0 ≤ x5_1
    ·rw [if_pos c4] at H
     have c4b0 : decide (0 ≤ x5_1) = true := decide_eq_true c4; clear c4
     by_cases c5 : ((rd_T92 l0 x5_1).f0) = x1_1
     ·rw [if_pos c5] at H
      have c5b0 : (((rd_T92 l0 x5_1).f0) == x1_1) = true := beq_iff_eq.mpr c5; have c5b1 : (((rd_T92 l0 x5_1).f0) != x1_1) = false := bne_eq_false_iff_eq.mpr c5; clear c5
      by_cases c6 : ((rd_T92 l0 x5_1).f1) = (wrap64 (x1_1 + 1))
      ·rw [if_pos c6] at H
       have c6b0 : (((rd_T92 l0 x5_1).f1) == (wrap64 (x1_1 + 1))) = true := beq_iff_eq.mpr c6; have c6b1 : (((rd_T92 l0 x5_1).f1) != (wrap64 (x1_1 + 1))) = false := bne_eq_false_iff_eq.mpr c6; clear c6; have H' := A_ H; clear H; have p211 : 0 ≤ (x5_1 : Int) := of_decide_eq_true Z9; have q211 : x5_1 < (l0.length : Int) := of_decide_eq_true Z9; obtain ⟨ad211, e211, hx211_0, hx211_1⟩ := at_T92 HR0.out x5_1 p211 q211; cases e211; replace p211 := eq_true p211; replace q211 := eq_true q211; have p212 : 0 ≤ (x5_1 : Int) := of_decide_eq_true Z9; have q212 : x5_1 < (l0.length : Int) := of_decide_eq_true Z9; obtain ⟨ad212, e212, hx212_0, hx212_1⟩ := at_T92 HR0.out x5_1 p212 q212; obtain rfl : ad211 = ad212 := (by injection e212); replace p212 := eq_true p212; replace q212 := eq_true q212
       go_wp2
       go_roundg k1
       case measure => have := HK1.out; omega
       case rel => exact ⟨(wrap64 ((wrap64 (x1_1 + 1)) + 1)), (wrap64 (x5_1 + 1)), Z13, Z13, H', ⟨by have := HK1.out; omega⟩, Z20⟩
      ·rw [if_neg c6] at H
       have c6b0 : (((rd_T92 l0 x5_1).f1) == (wrap64 (x1_1 + 1))) = false := beq_eq_false_iff_ne.mpr c6; have c6b1 : (((rd_T92 l0 x5_1).f1) != (wrap64 (x1_1 + 1))) = true := bne_iff_ne.mpr c6; obtain rfl := Option.some.inj H; have p211 : 0 ≤ (x5_1 : Int) := of_decide_eq_true Z9; have q211 : x5_1 < (l0.length : Int) := of_decide_eq_true Z9; obtain ⟨ad211, e211, hx211_0, hx211_1⟩ := at_T92 HR0.out x5_1 p211 q211; cases e211; replace p211 := eq_true p211; replace q211 := eq_true q211; have p212 : 0 ≤ (x5_1 : Int) := of_decide_eq_true Z9; have q212 : x5_1 < (l0.length : Int) := of_decide_eq_true Z9; obtain ⟨ad212, e212, hx212_0, hx212_1⟩ := at_T92 HR0.out x5_1 p212 q212; obtain rfl : ad211 = ad212 := (by injection e212); replace p212 := eq_true p212; replace q212 := eq_true q212
       go_wp2
       go_ret
       exact ⟨Z13, Z20⟩
     ·rw [if_neg c5] at H
      have c5b0 : (((rd_T92 l0 x5_1).f0) == x1_1) = false := beq_eq_false_iff_ne.mpr c5; have c5b1 : (((rd_T92 l0 x5_1).f0) != x1_1) = true := bne_iff_ne.mpr c5; obtain rfl := Option.some.inj H; have p211 : 0 ≤ (x5_1 : Int) := of_decide_eq_true Z9; have q211 : x5_1 < (l0.length : Int) := of_decide_eq_true Z9; obtain ⟨ad211, e211, hx211_0, hx211_1⟩ := at_T92 HR0.out x5_1 p211 q211; cases e211; replace p211 := eq_true p211; replace q211 := eq_true q211
      go_wp2
      go_ret
      exact ⟨Z13, Z20⟩
    ·rw [if_neg c4] at H
     exact absurd H (by simp)
   ·rw [if_neg c3] at H
    have c3b0 : decide (x5_1 < (l0.length : Int)) = false := decide_eq_false c3; clear c3; obtain rfl := Option.some.inj H
    go_wp2
    go_ret
    exact ⟨Z13, Z20⟩
def laws_heldStepS.l0 : Nat → List (S137) → Int → Int → Option (Int)
 | 0, _, _, _ => none
 | k + 1, x0, x1, x5 => if x5 < (x0.length : Int) then (if 0 ≤ x5 then (if ((rd_T137 x0 x5).f0) = x1 then (if ((rd_T137 x0 x5).f1) = (wrap64 (x1 + 1)) then (if ((rd_T137 x0 x5).f2.f0) = (wrap64 ((wrap64 (x1 + 1)) + 1)) then (if ((rd_T137 x0 x5).f2.f1) = (wrap64 ((wrap64 ((wrap64 (x1 + 1)) + 1)) + 1)) then ((laws_markText.f k (wrap64 ((wrap64 ((wrap64 ((wrap64 (x1 + 1)) + 1)) + 1)) + 1))).bind fun t218 => (if ((rd_T137 x0 x5).f2.f2).toList = t218.toList then (laws_heldStepS.l0 k x0 (wrap64 ((wrap64 ((wrap64 ((wrap64 ((wrap64 (x1 + 1)) + 1)) + 1)) + 1)) + 1)) (wrap64 (x5 + 1))) else (some (-1)))) else (some (-1))) else (some (-1))) else (some (-1))) else (some (-1))) else (none)) else (some x1)
def laws_heldStepS.f (k : Nat) (l0 : List (S137)) (a1 : Int) : Option (Int) := laws_heldStepS.l0 k l0 a1 0
def laws_heldStepS.T16 : Bool × List (List Nat × List Nat) := (true, [([], []), ([], []), ([0, 1], [0, 1]), ([2], [2]), ([3], [3]), ([4], [4]), ([], []), ([6], [6]), ([5, 7], [5, 7])])
def laws_heldStepS.B16 : List Nat := [0, 0, 3, 7, 15, 31, 0, 64, 255]
theorem laws_heldStepS.tab16 : rtab .any (opsOf Try.f88 16) = laws_heldStepS.T16 := by kernel_rfl
theorem laws_heldStepS.bits16 : waitsOk laws_heldStepS.T16.2 laws_heldStepS.B16 = true := by kernel_rfl
set_option maxHeartbeats 8000000 in
set_option maxRecDepth 100000 in
theorem laws_heldStepS.calls (k : Nat) (A0 : Option Addr) (c0 : Nat) (l0 : List (S137)) (a1 : Int) (r : Int) (w : World) (hr0 : Kd.C k137 w A0 l0.length l0) (hc0 : l0.length ≤ c0) (h : laws_heldStepS.f k l0 a1 = some r) :
  Calls Try.prog 88 #[.slice A0 l0.length c0, .int .i64 a1] w fun e w' => e = .returned (.int .i64 r) ∧ Below w.heap.size w w' := by
 have HR0 := A_ hr0; have HC0 := A_ hc0; clear hr0 hc0; have HB := A_ (Below.refl w.heap.size w); have H : (laws_heldStepS.l0 k l0 a1 0) = some r := h; clear h; have H' := A_ H; clear H
 go_enter Try.func88, Try.ntmps88
 go_wp2
 go_loopg [1, 5] k (fun kq v1 v5 w' => ∃ (x1_1 : Int) (x5_1 : Int), v1 = .int .i64 x1_1 ∧ v5 = .int .i64 x5_1 ∧ Aside0 (laws_heldStepS.l0 kq l0 x1_1 x5_1 = some r) ∧ Aside0 (kq ≤ k) ∧ Aside0 (Below w.heap.size w w'))
 case atStart => exact ⟨(a1), (0), Z13, Z13, H', ⟨Nat.le_refl _⟩, ⟨Z0⟩⟩
 case round =>
  clear H'
  try clear p2
  obtain ⟨x1_1, x5_1, rfl, rfl, HA, HK1, HB⟩ := hrel
  cases gk with
  | zero => exact absurd HA.out (by simp [laws_heldStepS.l0])
  | succ k1 =>
   have H := HA.out; clear HA; simp only [laws_heldStepS.l0] at H
   by_cases c3 : x5_1 < (l0.length : Int)
   ·rw [if_pos c3] at H
    have c3b0 : decide (x5_1 < (l0.length : Int)) = true := decide_eq_true c3; clear c3
    by_cases c4 : 0 ≤ x5_1
    ·rw [if_pos c4] at H
     have c4b0 : decide (0 ≤ x5_1) = true := decide_eq_true c4; clear c4
     by_cases c5 : ((rd_T137 l0 x5_1).f0) = x1_1
     ·rw [if_pos c5] at H
      have c5b0 : (((rd_T137 l0 x5_1).f0) == x1_1) = true := beq_iff_eq.mpr c5; have c5b1 : (((rd_T137 l0 x5_1).f0) != x1_1) = false := bne_eq_false_iff_eq.mpr c5; clear c5
      by_cases c6 : ((rd_T137 l0 x5_1).f1) = (wrap64 (x1_1 + 1))
      ·rw [if_pos c6] at H
       have c6b0 : (((rd_T137 l0 x5_1).f1) == (wrap64 (x1_1 + 1))) = true := beq_iff_eq.mpr c6; have c6b1 : (((rd_T137 l0 x5_1).f1) != (wrap64 (x1_1 + 1))) = false := bne_eq_false_iff_eq.mpr c6; clear c6
       by_cases c7 : ((rd_T137 l0 x5_1).f2.f0) = (wrap64 ((wrap64 (x1_1 + 1)) + 1))
       ·rw [if_pos c7] at H
        have c7b0 : (((rd_T137 l0 x5_1).f2.f0) == (wrap64 ((wrap64 (x1_1 + 1)) + 1))) = true := beq_iff_eq.mpr c7; have c7b1 : (((rd_T137 l0 x5_1).f2.f0) != (wrap64 ((wrap64 (x1_1 + 1)) + 1))) = false := bne_eq_false_iff_eq.mpr c7; clear c7
        by_cases c8 : ((rd_T137 l0 x5_1).f2.f1) = (wrap64 ((wrap64 ((wrap64 (x1_1 + 1)) + 1)) + 1))
        ·rw [if_pos c8] at H
         have c8b0 : (((rd_T137 l0 x5_1).f2.f1) == (wrap64 ((wrap64 ((wrap64 (x1_1 + 1)) + 1)) + 1))) = true := beq_iff_eq.mpr c8; have c8b1 : (((rd_T137 l0 x5_1).f2.f1) != (wrap64 ((wrap64 ((wrap64 (x1_1 + 1)) + 1)) + 1))) = false := bne_eq_false_iff_eq.mpr c8; clear c8; replace H := Option.bind_eq_some_iff.mp H; obtain ⟨t218, A90, H⟩ := H; replace H : (if ((rd_T137 l0 x5_1).f2.f2).toList = t218.toList then (laws_heldStepS.l0 k1 l0 (wrap64 ((wrap64 ((wrap64 ((wrap64 ((wrap64 (x1_1 + 1)) + 1)) + 1)) + 1)) + 1)) (wrap64 (x5_1 + 1))) else (some (-1))) = some r := H; have A9 := A_ A90; clear A90
         by_cases c10 : ((rd_T137 l0 x5_1).f2.f2).toList = t218.toList
         ·rw [if_pos c10] at H
          have c10b0 : (((rd_T137 l0 x5_1).f2.f2).toList == t218.toList) = true := beq_iff_eq.mpr c10; have c10b1 : (((rd_T137 l0 x5_1).f2.f2).toList != t218.toList) = false := bne_eq_false_iff_eq.mpr c10; clear c10; have H' := A_ H; clear H; have p213 : 0 ≤ (x5_1 : Int) := of_decide_eq_true Z9; have q213 : x5_1 < (l0.length : Int) := of_decide_eq_true Z9; obtain ⟨ad213, e213, hx213_0, hx213_1, hx213_2, hx213_3, hx213_4⟩ := at_T137 HR0.out x5_1 p213 q213; cases e213; replace hx213_0 := ZC HB.out hx213_0; replace hx213_1 := ZC HB.out hx213_1; replace hx213_2 := ZC HB.out hx213_2; replace hx213_3 := ZC HB.out hx213_3; replace hx213_4 := ZC HB.out hx213_4; replace p213 := eq_true p213; replace q213 := eq_true q213; have p214 : 0 ≤ (x5_1 : Int) := of_decide_eq_true Z9; have q214 : x5_1 < (l0.length : Int) := of_decide_eq_true Z9; obtain ⟨ad214, e214, hx214_0, hx214_1, hx214_2, hx214_3, hx214_4⟩ := at_T137 HR0.out x5_1 p214 q214; obtain rfl : ad213 = ad214 := (by injection e214); replace hx214_0 := ZC HB.out hx214_0; replace hx214_1 := ZC HB.out hx214_1; replace hx214_2 := ZC HB.out hx214_2; replace hx214_3 := ZC HB.out hx214_3; replace hx214_4 := ZC HB.out hx214_4; replace p214 := eq_true p214; replace q214 := eq_true q214; have p215 : 0 ≤ (x5_1 : Int) := of_decide_eq_true Z9; have q215 : x5_1 < (l0.length : Int) := of_decide_eq_true Z9; obtain ⟨ad215, e215, hx215_0, hx215_1, hx215_2, hx215_3, hx215_4⟩ := at_T137 HR0.out x5_1 p215 q215; obtain rfl : ad213 = ad215 := (by injection e215)
          replace hx215_0 := ZC HB.out hx215_0; replace hx215_1 := ZC HB.out hx215_1; replace hx215_2 := ZC HB.out hx215_2; replace hx215_3 := ZC HB.out hx215_3; replace hx215_4 := ZC HB.out hx215_4; replace p215 := eq_true p215; replace q215 := eq_true q215; have p216 : 0 ≤ (x5_1 : Int) := of_decide_eq_true Z9; have q216 : x5_1 < (l0.length : Int) := of_decide_eq_true Z9; obtain ⟨ad216, e216, hx216_0, hx216_1, hx216_2, hx216_3, hx216_4⟩ := at_T137 HR0.out x5_1 p216 q216; obtain rfl : ad213 = ad216 := (by injection e216); replace hx216_0 := ZC HB.out hx216_0; replace hx216_1 := ZC HB.out hx216_1; replace hx216_2 := ZC HB.out hx216_2; replace hx216_3 := ZC HB.out hx216_3; replace hx216_4 := ZC HB.out hx216_4; replace p216 := eq_true p216; replace q216 := eq_true q216
          try go_wp2
          have n0_ := A_ (below_drew1 HB.out); clear HB; have HB := n0_; clear n0_; have p217 : 0 ≤ (x5_1 : Int) := of_decide_eq_true Z9; have q217 : x5_1 < (l0.length : Int) := of_decide_eq_true Z9; obtain ⟨ad217, e217, hx217_0, hx217_1, hx217_2, hx217_3, hx217_4⟩ := at_T137 HR0.out x5_1 p217 q217; have hw217_4 := hx217_4; have hw217_3 := hx217_3; have hw217_2 := hx217_2; have hw217_1 := hx217_1; have hw217_0 := hx217_0; obtain rfl : ad213 = ad217 := (by injection e217); replace hx217_0 := ZC HB.out hx217_0; replace hx217_1 := ZC HB.out hx217_1; replace hx217_2 := ZC HB.out hx217_2; replace hx217_3 := ZC HB.out hx217_3; replace hx217_4 := ZC HB.out hx217_4; replace p217 := eq_true p217; replace q217 := eq_true q217
          refine start_ (n := 9) (S := fun w' => w'.cell? (ad213.add ((x5_1).toNat * 5)) = some (.int .i64 ((rd_T137 l0 x5_1).f0)) ∧ w'.cell? ⟨(ad213.add ((x5_1).toNat * 5)).block, (ad213.add ((x5_1).toNat * 5)).off + 1, none⟩ = some (.int .i64 ((rd_T137 l0 x5_1).f1)) ∧ w'.cell? ⟨(ad213.add ((x5_1).toNat * 5)).block, (ad213.add ((x5_1).toNat * 5)).off + 2, none⟩ = some (.int .i64 ((rd_T137 l0 x5_1).f2.f0)) ∧ w'.cell? ⟨(ad213.add ((x5_1).toNat * 5)).block, (ad213.add ((x5_1).toNat * 5)).off + 3, none⟩ = some (.int .i64 ((rd_T137 l0 x5_1).f2.f1)) ∧ w'.cell? ⟨(ad213.add ((x5_1).toNat * 5)).block, (ad213.add ((x5_1).toNat * 5)).off + 4, none⟩ = some (.string ((rd_T137 l0 x5_1).f2.f2))) (ds := []) #[F,F,F,F,F,F,F,F,F] (by kernel_rfl) rfl rfl ⟨(ZC HB.out hw217_0 :), (ZC HB.out hw217_1 :), (ZC HB.out hw217_2 :), (ZC HB.out hw217_3 :), (ZC HB.out hw217_4 :)⟩ (fun hHeld => ?_); refine with_tabW laws_heldStepS.tab16 laws_heldStepS.bits16 (fun HT_ HW_ => ?_)
          generalize wr.drew = w11 at HB hx217_0 hx217_1 hx217_2 hx217_3 hx217_4 hHeld ⊢; refine pure_ (i := 0) (N := some 50) (v := ?_) (a' := ?_) #[T,F,F,F,F,F,F,F,F] rfl rfl ZA ZF (Or.inl ⟨by rfl, ?_⟩) ?_ ?_; rotate_left; (·exact Z12); rotate_left; (·exact Z2); refine pure_ (i := 1) (N := some 51) (v := ?_) (a' := ?_) #[T,T,F,F,F,F,F,F,F] rfl rfl ZA ZF (Or.inl ⟨by rfl, ?_⟩) ?_ ?_; rotate_left; (·exact Z12); rotate_left; (·exact Z2); refine pure_ (i := 2) (N := some 52) (v := ?_) (a' := ?_) #[T,T,T,F,F,F,F,F,F] rfl rfl ZA ZF (Or.inl ⟨by rfl, ?_⟩) ?_ ?_; rotate_left; (·exact Z12); rotate_left; (·exact Z2); refine pure_ (i := 3) (N := some 53) (v := ?_) (a' := ?_) #[T,T,T,T,F,F,F,F,F] rfl rfl ZA ZF (Or.inl ⟨by rfl, ?_⟩) ?_ ?_; rotate_left; (·exact Z12); rotate_left; (·exact Z2); refine pure_ (i := 4) (N := some 54) (v := ?_) (a' := ?_) #[T,T,T,T,T,F,F,F,F] rfl rfl ZA ZF (Or.inl ⟨by rfl, ?_⟩) ?_ ?_; rotate_left; (·exact Z12); rotate_left; (·exact Z2); refine pure_ (i := 6) (N := some 56) (v := ?_) (a' := ?_) #[T,T,T,T,T,F,T,F,F] rfl rfl ZA ZF (Or.inl ⟨by rfl, ?_⟩) ?_ ?_; rotate_left; (·exact Z12); rotate_left; (·exact Z2); refine take_ (i := 5) (N := some 55) (v := ?_) (a' := ?_) #[T,T,T,T,T,T,T,F,F] rfl rfl (take_ofW HT_.out HW_.out (by kernel_rfl)) ZF (Or.inl ⟨by rfl, ?_⟩) hHeld ?_ ?_; rotate_left
          ·rintro w' ⟨s0, s1, s2, s3, s4⟩
           go_simp
           with_reducible rfl
          rotate_left; (·exact Z2)
          refine one_ (i := 7) (N := some 57) #[T,T,T,T,T,T,T,T,F] rfl rfl (one_of HT_.out (by kernel_rfl)) (by decide) (fun K hK => ?_)
          refine goes_ Try.func69 (by kernel_rfl) rfl #[.int .i64 (wrap64 ((wrap64 ((wrap64 ((wrap64 (x1_1 + 1)) + 1)) + 1)) + 1))] (by rfl) rfl rfl Z3 ?_
          with_reducible refine (laws_markText.calls k1 (wrap64 ((wrap64 ((wrap64 ((wrap64 (x1_1 + 1)) + 1)) + 1)) + 1)) t218 _ A9.out).mono ?_
          rintro e w12 ⟨rfl, hb⟩
          refine ⟨_, rfl, ?_⟩
          have n0_ := A_ (below_step Z0 hb); clear HB; have HB := n0_; clear n0_; (try clear hb); (try clear hb2); (try clear hk); (try clear hi)
          refine hK.out _ _ ⟨(ZC HB.out hw217_0 :), (ZC HB.out hw217_1 :), (ZC HB.out hw217_2 :), (ZC HB.out hw217_3 :), (ZC HB.out hw217_4 :)⟩ (fun hHeld => ?_)
          clear hK K
          refine norm_ (a' := ?_) ?_ ?_
          rotate_left
          ·show Act.put _ (some 57) _ = _
           simp only [Act.put, List.setIfInBounds_toArray, List.set_cons_zero, List.set_cons_succ, i64_w, i32_w]
           rfl
          refine pure_ (i := 8) (N := some 58) (v := ?_) (a' := ?_) #[T,T,T,T,T,T,T,T,T] rfl rfl ZA ZF (Or.inl ⟨by rfl, ?_⟩) ?_ ?_; rotate_left; (·exact Z12); rotate_left; (·exact Z2)
          refine done_ (done_of HT_.out (by kernel_rfl)) ?_
          try go_wp2
          go_roundg k1
          case measure => have := HK1.out; omega
          case rel => exact ⟨(wrap64 ((wrap64 ((wrap64 ((wrap64 ((wrap64 (x1_1 + 1)) + 1)) + 1)) + 1)) + 1)), (wrap64 (x5_1 + 1)), Z13, Z13, H', ⟨by have := HK1.out; omega⟩, ⟨Z0⟩⟩
         ·rw [if_neg c10] at H
          have c10b0 : (((rd_T137 l0 x5_1).f2.f2).toList == t218.toList) = false := beq_eq_false_iff_ne.mpr c10; have c10b1 : (((rd_T137 l0 x5_1).f2.f2).toList != t218.toList) = true := bne_iff_ne.mpr c10; obtain rfl := Option.some.inj H; have p213 : 0 ≤ (x5_1 : Int) := of_decide_eq_true Z9; have q213 : x5_1 < (l0.length : Int) := of_decide_eq_true Z9; obtain ⟨ad213, e213, hx213_0, hx213_1, hx213_2, hx213_3, hx213_4⟩ := at_T137 HR0.out x5_1 p213 q213; cases e213; replace hx213_0 := ZC HB.out hx213_0; replace hx213_1 := ZC HB.out hx213_1; replace hx213_2 := ZC HB.out hx213_2; replace hx213_3 := ZC HB.out hx213_3; replace hx213_4 := ZC HB.out hx213_4; replace p213 := eq_true p213; replace q213 := eq_true q213; have p214 : 0 ≤ (x5_1 : Int) := of_decide_eq_true Z9; have q214 : x5_1 < (l0.length : Int) := of_decide_eq_true Z9; obtain ⟨ad214, e214, hx214_0, hx214_1, hx214_2, hx214_3, hx214_4⟩ := at_T137 HR0.out x5_1 p214 q214; obtain rfl : ad213 = ad214 := (by injection e214); replace hx214_0 := ZC HB.out hx214_0; replace hx214_1 := ZC HB.out hx214_1; replace hx214_2 := ZC HB.out hx214_2; replace hx214_3 := ZC HB.out hx214_3; replace hx214_4 := ZC HB.out hx214_4; replace p214 := eq_true p214; replace q214 := eq_true q214; have p215 : 0 ≤ (x5_1 : Int) := of_decide_eq_true Z9; have q215 : x5_1 < (l0.length : Int) := of_decide_eq_true Z9; obtain ⟨ad215, e215, hx215_0, hx215_1, hx215_2, hx215_3, hx215_4⟩ := at_T137 HR0.out x5_1 p215 q215; obtain rfl : ad213 = ad215 := (by injection e215)
          replace hx215_0 := ZC HB.out hx215_0; replace hx215_1 := ZC HB.out hx215_1; replace hx215_2 := ZC HB.out hx215_2; replace hx215_3 := ZC HB.out hx215_3; replace hx215_4 := ZC HB.out hx215_4; replace p215 := eq_true p215; replace q215 := eq_true q215; have p216 : 0 ≤ (x5_1 : Int) := of_decide_eq_true Z9; have q216 : x5_1 < (l0.length : Int) := of_decide_eq_true Z9; obtain ⟨ad216, e216, hx216_0, hx216_1, hx216_2, hx216_3, hx216_4⟩ := at_T137 HR0.out x5_1 p216 q216; obtain rfl : ad213 = ad216 := (by injection e216); replace hx216_0 := ZC HB.out hx216_0; replace hx216_1 := ZC HB.out hx216_1; replace hx216_2 := ZC HB.out hx216_2; replace hx216_3 := ZC HB.out hx216_3; replace hx216_4 := ZC HB.out hx216_4; replace p216 := eq_true p216; replace q216 := eq_true q216
          try go_wp2
          have n0_ := A_ (below_drew1 HB.out); clear HB; have HB := n0_; clear n0_; have p217 : 0 ≤ (x5_1 : Int) := of_decide_eq_true Z9; have q217 : x5_1 < (l0.length : Int) := of_decide_eq_true Z9; obtain ⟨ad217, e217, hx217_0, hx217_1, hx217_2, hx217_3, hx217_4⟩ := at_T137 HR0.out x5_1 p217 q217; have hw217_4 := hx217_4; have hw217_3 := hx217_3; have hw217_2 := hx217_2; have hw217_1 := hx217_1; have hw217_0 := hx217_0; obtain rfl : ad213 = ad217 := (by injection e217); replace hx217_0 := ZC HB.out hx217_0; replace hx217_1 := ZC HB.out hx217_1; replace hx217_2 := ZC HB.out hx217_2; replace hx217_3 := ZC HB.out hx217_3; replace hx217_4 := ZC HB.out hx217_4; replace p217 := eq_true p217; replace q217 := eq_true q217
          refine start_ (n := 9) (S := fun w' => w'.cell? (ad213.add ((x5_1).toNat * 5)) = some (.int .i64 ((rd_T137 l0 x5_1).f0)) ∧ w'.cell? ⟨(ad213.add ((x5_1).toNat * 5)).block, (ad213.add ((x5_1).toNat * 5)).off + 1, none⟩ = some (.int .i64 ((rd_T137 l0 x5_1).f1)) ∧ w'.cell? ⟨(ad213.add ((x5_1).toNat * 5)).block, (ad213.add ((x5_1).toNat * 5)).off + 2, none⟩ = some (.int .i64 ((rd_T137 l0 x5_1).f2.f0)) ∧ w'.cell? ⟨(ad213.add ((x5_1).toNat * 5)).block, (ad213.add ((x5_1).toNat * 5)).off + 3, none⟩ = some (.int .i64 ((rd_T137 l0 x5_1).f2.f1)) ∧ w'.cell? ⟨(ad213.add ((x5_1).toNat * 5)).block, (ad213.add ((x5_1).toNat * 5)).off + 4, none⟩ = some (.string ((rd_T137 l0 x5_1).f2.f2))) (ds := []) #[F,F,F,F,F,F,F,F,F] (by kernel_rfl) rfl rfl ⟨(ZC HB.out hw217_0 :), (ZC HB.out hw217_1 :), (ZC HB.out hw217_2 :), (ZC HB.out hw217_3 :), (ZC HB.out hw217_4 :)⟩ (fun hHeld => ?_); refine with_tabW laws_heldStepS.tab16 laws_heldStepS.bits16 (fun HT_ HW_ => ?_)
          generalize wr.drew = w13 at HB hx217_0 hx217_1 hx217_2 hx217_3 hx217_4 hHeld ⊢; refine pure_ (i := 0) (N := some 50) (v := ?_) (a' := ?_) #[T,F,F,F,F,F,F,F,F] rfl rfl ZA ZF (Or.inl ⟨by rfl, ?_⟩) ?_ ?_; rotate_left; (·exact Z12); rotate_left; (·exact Z2); refine pure_ (i := 1) (N := some 51) (v := ?_) (a' := ?_) #[T,T,F,F,F,F,F,F,F] rfl rfl ZA ZF (Or.inl ⟨by rfl, ?_⟩) ?_ ?_; rotate_left; (·exact Z12); rotate_left; (·exact Z2); refine pure_ (i := 2) (N := some 52) (v := ?_) (a' := ?_) #[T,T,T,F,F,F,F,F,F] rfl rfl ZA ZF (Or.inl ⟨by rfl, ?_⟩) ?_ ?_; rotate_left; (·exact Z12); rotate_left; (·exact Z2); refine pure_ (i := 3) (N := some 53) (v := ?_) (a' := ?_) #[T,T,T,T,F,F,F,F,F] rfl rfl ZA ZF (Or.inl ⟨by rfl, ?_⟩) ?_ ?_; rotate_left; (·exact Z12); rotate_left; (·exact Z2); refine pure_ (i := 4) (N := some 54) (v := ?_) (a' := ?_) #[T,T,T,T,T,F,F,F,F] rfl rfl ZA ZF (Or.inl ⟨by rfl, ?_⟩) ?_ ?_; rotate_left; (·exact Z12); rotate_left; (·exact Z2); refine pure_ (i := 6) (N := some 56) (v := ?_) (a' := ?_) #[T,T,T,T,T,F,T,F,F] rfl rfl ZA ZF (Or.inl ⟨by rfl, ?_⟩) ?_ ?_; rotate_left; (·exact Z12); rotate_left; (·exact Z2); refine take_ (i := 5) (N := some 55) (v := ?_) (a' := ?_) #[T,T,T,T,T,T,T,F,F] rfl rfl (take_ofW HT_.out HW_.out (by kernel_rfl)) ZF (Or.inl ⟨by rfl, ?_⟩) hHeld ?_ ?_; rotate_left
          ·rintro w' ⟨s0, s1, s2, s3, s4⟩
           go_simp
           with_reducible rfl
          rotate_left; (·exact Z2)
          refine one_ (i := 7) (N := some 57) #[T,T,T,T,T,T,T,T,F] rfl rfl (one_of HT_.out (by kernel_rfl)) (by decide) (fun K hK => ?_)
          refine goes_ Try.func69 (by kernel_rfl) rfl #[.int .i64 (wrap64 ((wrap64 ((wrap64 ((wrap64 (x1_1 + 1)) + 1)) + 1)) + 1))] (by rfl) rfl rfl Z3 ?_
          with_reducible refine (laws_markText.calls k1 (wrap64 ((wrap64 ((wrap64 ((wrap64 (x1_1 + 1)) + 1)) + 1)) + 1)) t218 _ A9.out).mono ?_
          rintro e w14 ⟨rfl, hb⟩
          refine ⟨_, rfl, ?_⟩
          have n0_ := A_ (below_step Z0 hb); clear HB; have HB := n0_; clear n0_; (try clear hb); (try clear hb2); (try clear hk); (try clear hi)
          refine hK.out _ _ ⟨(ZC HB.out hw217_0 :), (ZC HB.out hw217_1 :), (ZC HB.out hw217_2 :), (ZC HB.out hw217_3 :), (ZC HB.out hw217_4 :)⟩ (fun hHeld => ?_)
          clear hK K
          refine norm_ (a' := ?_) ?_ ?_
          rotate_left
          ·show Act.put _ (some 57) _ = _
           simp only [Act.put, List.setIfInBounds_toArray, List.set_cons_zero, List.set_cons_succ, i64_w, i32_w]
           rfl
          refine pure_ (i := 8) (N := some 58) (v := ?_) (a' := ?_) #[T,T,T,T,T,T,T,T,T] rfl rfl ZA ZF (Or.inl ⟨by rfl, ?_⟩) ?_ ?_; rotate_left; (·exact Z12); rotate_left; (·exact Z2)
          refine done_ (done_of HT_.out (by kernel_rfl)) ?_
          try go_wp2
          go_ret
          exact ⟨Z6, Z0⟩
        ·rw [if_neg c8] at H
         have c8b0 : (((rd_T137 l0 x5_1).f2.f1) == (wrap64 ((wrap64 ((wrap64 (x1_1 + 1)) + 1)) + 1))) = false := beq_eq_false_iff_ne.mpr c8; have c8b1 : (((rd_T137 l0 x5_1).f2.f1) != (wrap64 ((wrap64 ((wrap64 (x1_1 + 1)) + 1)) + 1))) = true := bne_iff_ne.mpr c8; obtain rfl := Option.some.inj H; have p213 : 0 ≤ (x5_1 : Int) := of_decide_eq_true Z9; have q213 : x5_1 < (l0.length : Int) := of_decide_eq_true Z9; obtain ⟨ad213, e213, hx213_0, hx213_1, hx213_2, hx213_3, hx213_4⟩ := at_T137 HR0.out x5_1 p213 q213; cases e213; replace hx213_0 := ZC HB.out hx213_0; replace hx213_1 := ZC HB.out hx213_1; replace hx213_2 := ZC HB.out hx213_2; replace hx213_3 := ZC HB.out hx213_3; replace hx213_4 := ZC HB.out hx213_4; replace p213 := eq_true p213; replace q213 := eq_true q213; have p214 : 0 ≤ (x5_1 : Int) := of_decide_eq_true Z9; have q214 : x5_1 < (l0.length : Int) := of_decide_eq_true Z9; obtain ⟨ad214, e214, hx214_0, hx214_1, hx214_2, hx214_3, hx214_4⟩ := at_T137 HR0.out x5_1 p214 q214; obtain rfl : ad213 = ad214 := (by injection e214); replace hx214_0 := ZC HB.out hx214_0; replace hx214_1 := ZC HB.out hx214_1; replace hx214_2 := ZC HB.out hx214_2; replace hx214_3 := ZC HB.out hx214_3; replace hx214_4 := ZC HB.out hx214_4; replace p214 := eq_true p214; replace q214 := eq_true q214; have p215 : 0 ≤ (x5_1 : Int) := of_decide_eq_true Z9; have q215 : x5_1 < (l0.length : Int) := of_decide_eq_true Z9; obtain ⟨ad215, e215, hx215_0, hx215_1, hx215_2, hx215_3, hx215_4⟩ := at_T137 HR0.out x5_1 p215 q215
         obtain rfl : ad213 = ad215 := (by injection e215); replace hx215_0 := ZC HB.out hx215_0; replace hx215_1 := ZC HB.out hx215_1; replace hx215_2 := ZC HB.out hx215_2; replace hx215_3 := ZC HB.out hx215_3; replace hx215_4 := ZC HB.out hx215_4; replace p215 := eq_true p215; replace q215 := eq_true q215; have p216 : 0 ≤ (x5_1 : Int) := of_decide_eq_true Z9; have q216 : x5_1 < (l0.length : Int) := of_decide_eq_true Z9; obtain ⟨ad216, e216, hx216_0, hx216_1, hx216_2, hx216_3, hx216_4⟩ := at_T137 HR0.out x5_1 p216 q216; obtain rfl : ad213 = ad216 := (by injection e216); replace hx216_0 := ZC HB.out hx216_0; replace hx216_1 := ZC HB.out hx216_1; replace hx216_2 := ZC HB.out hx216_2; replace hx216_3 := ZC HB.out hx216_3; replace hx216_4 := ZC HB.out hx216_4; replace p216 := eq_true p216; replace q216 := eq_true q216
         go_wp2
         go_ret
         exact ⟨Z6, Z0⟩
       ·rw [if_neg c7] at H
        have c7b0 : (((rd_T137 l0 x5_1).f2.f0) == (wrap64 ((wrap64 (x1_1 + 1)) + 1))) = false := beq_eq_false_iff_ne.mpr c7; have c7b1 : (((rd_T137 l0 x5_1).f2.f0) != (wrap64 ((wrap64 (x1_1 + 1)) + 1))) = true := bne_iff_ne.mpr c7; obtain rfl := Option.some.inj H; have p213 : 0 ≤ (x5_1 : Int) := of_decide_eq_true Z9; have q213 : x5_1 < (l0.length : Int) := of_decide_eq_true Z9; obtain ⟨ad213, e213, hx213_0, hx213_1, hx213_2, hx213_3, hx213_4⟩ := at_T137 HR0.out x5_1 p213 q213; cases e213; replace hx213_0 := ZC HB.out hx213_0; replace hx213_1 := ZC HB.out hx213_1; replace hx213_2 := ZC HB.out hx213_2; replace hx213_3 := ZC HB.out hx213_3; replace hx213_4 := ZC HB.out hx213_4; replace p213 := eq_true p213; replace q213 := eq_true q213; have p214 : 0 ≤ (x5_1 : Int) := of_decide_eq_true Z9; have q214 : x5_1 < (l0.length : Int) := of_decide_eq_true Z9; obtain ⟨ad214, e214, hx214_0, hx214_1, hx214_2, hx214_3, hx214_4⟩ := at_T137 HR0.out x5_1 p214 q214; obtain rfl : ad213 = ad214 := (by injection e214); replace hx214_0 := ZC HB.out hx214_0; replace hx214_1 := ZC HB.out hx214_1; replace hx214_2 := ZC HB.out hx214_2; replace hx214_3 := ZC HB.out hx214_3; replace hx214_4 := ZC HB.out hx214_4; replace p214 := eq_true p214; replace q214 := eq_true q214; have p215 : 0 ≤ (x5_1 : Int) := of_decide_eq_true Z9; have q215 : x5_1 < (l0.length : Int) := of_decide_eq_true Z9; obtain ⟨ad215, e215, hx215_0, hx215_1, hx215_2, hx215_3, hx215_4⟩ := at_T137 HR0.out x5_1 p215 q215; obtain rfl : ad213 = ad215 := (by injection e215)
        replace hx215_0 := ZC HB.out hx215_0; replace hx215_1 := ZC HB.out hx215_1; replace hx215_2 := ZC HB.out hx215_2; replace hx215_3 := ZC HB.out hx215_3; replace hx215_4 := ZC HB.out hx215_4; replace p215 := eq_true p215; replace q215 := eq_true q215
        go_wp2
        go_ret
        exact ⟨Z6, Z0⟩
      ·rw [if_neg c6] at H
       have c6b0 : (((rd_T137 l0 x5_1).f1) == (wrap64 (x1_1 + 1))) = false := beq_eq_false_iff_ne.mpr c6; have c6b1 : (((rd_T137 l0 x5_1).f1) != (wrap64 (x1_1 + 1))) = true := bne_iff_ne.mpr c6; obtain rfl := Option.some.inj H; have p213 : 0 ≤ (x5_1 : Int) := of_decide_eq_true Z9; have q213 : x5_1 < (l0.length : Int) := of_decide_eq_true Z9; obtain ⟨ad213, e213, hx213_0, hx213_1, hx213_2, hx213_3, hx213_4⟩ := at_T137 HR0.out x5_1 p213 q213; cases e213; replace hx213_0 := ZC HB.out hx213_0; replace hx213_1 := ZC HB.out hx213_1; replace hx213_2 := ZC HB.out hx213_2; replace hx213_3 := ZC HB.out hx213_3; replace hx213_4 := ZC HB.out hx213_4; replace p213 := eq_true p213; replace q213 := eq_true q213; have p214 : 0 ≤ (x5_1 : Int) := of_decide_eq_true Z9; have q214 : x5_1 < (l0.length : Int) := of_decide_eq_true Z9; obtain ⟨ad214, e214, hx214_0, hx214_1, hx214_2, hx214_3, hx214_4⟩ := at_T137 HR0.out x5_1 p214 q214; obtain rfl : ad213 = ad214 := (by injection e214); replace hx214_0 := ZC HB.out hx214_0; replace hx214_1 := ZC HB.out hx214_1; replace hx214_2 := ZC HB.out hx214_2; replace hx214_3 := ZC HB.out hx214_3; replace hx214_4 := ZC HB.out hx214_4; replace p214 := eq_true p214; replace q214 := eq_true q214
       go_wp2
       go_ret
       exact ⟨Z6, Z0⟩
     ·rw [if_neg c5] at H
      have c5b0 : (((rd_T137 l0 x5_1).f0) == x1_1) = false := beq_eq_false_iff_ne.mpr c5; have c5b1 : (((rd_T137 l0 x5_1).f0) != x1_1) = true := bne_iff_ne.mpr c5; obtain rfl := Option.some.inj H; have p213 : 0 ≤ (x5_1 : Int) := of_decide_eq_true Z9; have q213 : x5_1 < (l0.length : Int) := of_decide_eq_true Z9; obtain ⟨ad213, e213, hx213_0, hx213_1, hx213_2, hx213_3, hx213_4⟩ := at_T137 HR0.out x5_1 p213 q213; cases e213; replace hx213_0 := ZC HB.out hx213_0; replace hx213_1 := ZC HB.out hx213_1; replace hx213_2 := ZC HB.out hx213_2; replace hx213_3 := ZC HB.out hx213_3; replace hx213_4 := ZC HB.out hx213_4; replace p213 := eq_true p213; replace q213 := eq_true q213
      go_wp2
      go_ret
      exact ⟨Z6, Z0⟩
    ·rw [if_neg c4] at H
     exact absurd H (by simp)
   ·rw [if_neg c3] at H
    have c3b0 : decide (x5_1 < (l0.length : Int)) = false := decide_eq_false c3; clear c3; obtain rfl := Option.some.inj H
    go_wp2
    go_ret
    exact ⟨Z6, Z0⟩
end Go.Proofs.Ytpadhphdglbciaa.PFnExactTurnsJoin
