/- Walks of the functions that the law 'FnExactTurnsJoin' reaches, part 7: for each a Lean function and the proof that Go's comes to just its answer (lines of the print, under own names; no condition). -/
import Derived.Test.YtpadhphdglbciaaZFnExactTurnsJoinQFnExactTurnsJoinx0
import Derived.Test.YtpadhphdglbciaaZFnExactTurnsJoinQFnExactTurnsJoinx6
namespace Go.Proofs.Ytpadhphdglbciaa.PFnExactTurnsJoin
open Go.RowKit Go.Proofs.YtpadhphdglbciaaW.PrintWords Go.Proofs.YtpadhphdglbciaaW.PrintLast Go.Proofs.YtpadhphdglbciaaW.PrintMore
attribute [local go_sem] max2_int min2_int max_two min_two max_three min_three max_four min_four
set_option linter.unusedVariables false
set_option linter.unusedSimpArgs false
def laws_heldTurnS.l0 : Nat → List (S122) → Int → Int → Option (Int)
 | 0, _, _, _ => none
 | k + 1, x0, x1, x5 => if x5 < (x0.length : Int) then (if 0 ≤ x5 then (if ((rd_T122 x0 x5).f0) = x1 then (if ((rd_T122 x0 x5).f1) = (wrap64 (x1 + 1)) then ((laws_heldSlotS.f k ((rd_T122 x0 x5).f2.f0) (wrap64 ((wrap64 (x1 + 1)) + 1))).bind fun t222 => (if t222 < 0 then (some (-1)) else (if ((rd_T122 x0 x5).f2.f1) = t222 then ((laws_heldStepS.f k ((rd_T122 x0 x5).f2.f2) (wrap64 (t222 + 1))).bind fun t225 => (if t225 < 0 then (some (-1)) else (if ((rd_T122 x0 x5).f2.f3) = t225 then (laws_heldTurnS.l0 k x0 (wrap64 (t225 + 1)) (wrap64 (x5 + 1))) else (some (-1))))) else (some (-1))))) else (some (-1))) else (some (-1))) else (none)) else (some x1)
def laws_heldTurnS.f (k : Nat) (l0 : List (S122)) (a1 : Int) : Option (Int) := laws_heldTurnS.l0 k l0 a1 0
set_option maxHeartbeats 8000000 in
set_option maxRecDepth 100000 in
theorem laws_heldTurnS.calls (k : Nat) (A0 : Option Addr) (c0 : Nat) (l0 : List (S122)) (a1 : Int) (r : Int) (w : World) (hr0 : Kd.C k122 w A0 l0.length l0) (hc0 : l0.length ≤ c0) (h : laws_heldTurnS.f k l0 a1 = some r) :
  Calls Try.prog 44 #[.slice A0 l0.length c0, .int .i64 a1] w fun e w' => e = .returned (.int .i64 r) ∧ Below w.heap.size w w' := by
 have HR0 := A_ hr0; have HC0 := A_ hc0; clear hr0 hc0; have HB := A_ (Below.refl w.heap.size w); have H : (laws_heldTurnS.l0 k l0 a1 0) = some r := h; clear h; have H' := A_ H; clear H
 go_enter Try.func44, Try.ntmps44
 go_wp2
 go_loopg [1, 5] k (fun kq v1 v5 w' => ∃ (x1_1 : Int) (x5_1 : Int), v1 = .int .i64 x1_1 ∧ v5 = .int .i64 x5_1 ∧ Aside0 (laws_heldTurnS.l0 kq l0 x1_1 x5_1 = some r) ∧ Aside0 (kq ≤ k) ∧ Aside0 (Below w.heap.size w w'))
 case atStart => exact ⟨(a1), (0), Z13, Z13, H', ⟨Nat.le_refl _⟩, ⟨Z0⟩⟩
 case round =>
  clear H'
  try clear p2
  obtain ⟨x1_1, x5_1, rfl, rfl, HA, HK1, HB⟩ := hrel
  cases gk with
  | zero => exact absurd HA.out (by simp [laws_heldTurnS.l0])
  | succ k1 =>
   have H := HA.out; clear HA; simp only [laws_heldTurnS.l0] at H
   by_cases c3 : x5_1 < (l0.length : Int)
   ·rw [if_pos c3] at H
    have c3b0 : decide (x5_1 < (l0.length : Int)) = true := decide_eq_true c3; clear c3
    by_cases c4 : 0 ≤ x5_1
    ·rw [if_pos c4] at H
     have c4b0 : decide (0 ≤ x5_1) = true := decide_eq_true c4; clear c4
     by_cases c5 : ((rd_T122 l0 x5_1).f0) = x1_1
     ·rw [if_pos c5] at H
      have c5b0 : (((rd_T122 l0 x5_1).f0) == x1_1) = true := beq_iff_eq.mpr c5; have c5b1 : (((rd_T122 l0 x5_1).f0) != x1_1) = false := bne_eq_false_iff_eq.mpr c5; clear c5
      by_cases c6 : ((rd_T122 l0 x5_1).f1) = (wrap64 (x1_1 + 1))
      ·rw [if_pos c6] at H
       have c6b0 : (((rd_T122 l0 x5_1).f1) == (wrap64 (x1_1 + 1))) = true := beq_iff_eq.mpr c6; have c6b1 : (((rd_T122 l0 x5_1).f1) != (wrap64 (x1_1 + 1))) = false := bne_eq_false_iff_eq.mpr c6; clear c6; replace H := Option.bind_eq_some_iff.mp H; obtain ⟨t222, A70, H⟩ := H; replace H : (if t222 < 0 then (some (-1)) else (if ((rd_T122 l0 x5_1).f2.f1) = t222 then ((laws_heldStepS.f k1 ((rd_T122 l0 x5_1).f2.f2) (wrap64 (t222 + 1))).bind fun t225 => (if t225 < 0 then (some (-1)) else (if ((rd_T122 l0 x5_1).f2.f3) = t225 then (laws_heldTurnS.l0 k1 l0 (wrap64 (t225 + 1)) (wrap64 (x5_1 + 1))) else (some (-1))))) else (some (-1)))) = some r := H; have A7 := A_ A70; clear A70
       by_cases c8 : t222 < 0
       ·rw [if_pos c8] at H
        have c8b0 : decide (t222 < 0) = true := decide_eq_true c8; clear c8; obtain rfl := Option.some.inj H; have p219 : 0 ≤ (x5_1 : Int) := of_decide_eq_true Z9; have q219 : x5_1 < (l0.length : Int) := of_decide_eq_true Z9; obtain ⟨ad219, A219_2, c219_2, A219_4, c219_4, e219, hx219_0, hx219_1, hx219_2, hx219_3, hx219_4, hx219_5, hl219_2, hi219_2, hl219_4, hi219_4⟩ := at_T122 HR0.out x5_1 p219 q219; cases e219; replace hx219_0 := ZC HB.out hx219_0; replace hx219_1 := ZC HB.out hx219_1; replace hx219_2 := ZC HB.out hx219_2; replace hx219_3 := ZC HB.out hx219_3; replace hx219_4 := ZC HB.out hx219_4; replace hx219_5 := ZC HB.out hx219_5; have HR219_2 := A_ hi219_2; have HC219_2 := A_ hl219_2; clear hi219_2 hl219_2; have HR219_4 := A_ hi219_4; have HC219_4 := A_ hl219_4; clear hi219_4 hl219_4; replace p219 := eq_true p219; replace q219 := eq_true q219; have p220 : 0 ≤ (x5_1 : Int) := of_decide_eq_true Z9; have q220 : x5_1 < (l0.length : Int) := of_decide_eq_true Z9; obtain ⟨ad220, A220_2, c220_2, A220_4, c220_4, e220, hx220_0, hx220_1, hx220_2, hx220_3, hx220_4, hx220_5, hl220_2, hi220_2, hl220_4, hi220_4⟩ := at_T122 HR0.out x5_1 p220 q220; obtain rfl : ad219 = ad220 := (by injection e220); replace hx220_0 := ZC HB.out hx220_0; replace hx220_1 := ZC HB.out hx220_1; replace hx220_2 := ZC HB.out hx220_2; replace hx220_3 := ZC HB.out hx220_3; replace hx220_4 := ZC HB.out hx220_4; replace hx220_5 := ZC HB.out hx220_5; have HR220_2 := A_ hi220_2; have HC220_2 := A_ hl220_2; clear hi220_2 hl220_2
        have HR220_4 := A_ hi220_4; have HC220_4 := A_ hl220_4; clear hi220_4 hl220_4; replace p220 := eq_true p220; replace q220 := eq_true q220; have ea_ := Option.some.inj (hx219_2.symm.trans hx220_2); injection ea_ with ea_ en_ ec_; subst ea_; subst ec_; clear en_; have ea_ := Option.some.inj (hx219_4.symm.trans hx220_4); injection ea_ with ea_ en_ ec_; subst ea_; subst ec_; clear en_; have p221 : 0 ≤ (x5_1 : Int) := of_decide_eq_true Z9; have q221 : x5_1 < (l0.length : Int) := of_decide_eq_true Z9; obtain ⟨ad221, A221_2, c221_2, A221_4, c221_4, e221, hx221_0, hx221_1, hx221_2, hx221_3, hx221_4, hx221_5, hl221_2, hi221_2, hl221_4, hi221_4⟩ := at_T122 HR0.out x5_1 p221 q221; obtain rfl : ad219 = ad221 := (by injection e221); replace hx221_0 := ZC HB.out hx221_0; replace hx221_1 := ZC HB.out hx221_1; replace hx221_2 := ZC HB.out hx221_2; replace hx221_3 := ZC HB.out hx221_3; replace hx221_4 := ZC HB.out hx221_4; replace hx221_5 := ZC HB.out hx221_5; have HR221_2 := A_ hi221_2; have HC221_2 := A_ hl221_2; clear hi221_2 hl221_2; have HR221_4 := A_ hi221_4; have HC221_4 := A_ hl221_4; clear hi221_4 hl221_4; replace p221 := eq_true p221; replace q221 := eq_true q221; have ea_ := Option.some.inj (hx219_2.symm.trans hx221_2); injection ea_ with ea_ en_ ec_; subst ea_; subst ec_; clear en_; have ea_ := Option.some.inj (hx219_4.symm.trans hx221_4); injection ea_ with ea_ en_ ec_; subst ea_; subst ec_; clear en_
        go_wp2_with (first | ((with_reducible refine gate_callee (f := 57) rfl ?_); refine goesL_ (some 37) rfl rfl Try.func57 (by kernel_rfl) rfl #[.slice A219_2 ((rd_T122 l0 x5_1).f2.f0).length c219_2, .int .i64 (wrap64 ((wrap64 (x1_1 + 1)) + 1))] rfl Z3 ?_; (with_reducible refine (laws_heldSlotS.calls k1 _ _ ((rd_T122 l0 x5_1).f2.f0) (wrap64 ((wrap64 (x1_1 + 1)) + 1)) t222 _ ?side1 ?side2 A7.out).mono ?_); (case side1 => exact Z7 HR221_2.out); (case side2 => exact HC221_2.out); rintro e w' ⟨rfl, ⟨nd, rfl⟩⟩; refine ⟨_, rfl, ?_⟩))
        go_ret
        exact ⟨Z6, Z0⟩
       ·rw [if_neg c8] at H
        have c8b0 : decide (t222 < 0) = false := decide_eq_false c8; clear c8
        by_cases c9 : ((rd_T122 l0 x5_1).f2.f1) = t222
        ·rw [if_pos c9] at H
         have c9b0 : (((rd_T122 l0 x5_1).f2.f1) == t222) = true := beq_iff_eq.mpr c9; have c9b1 : (((rd_T122 l0 x5_1).f2.f1) != t222) = false := bne_eq_false_iff_eq.mpr c9; clear c9; replace H := Option.bind_eq_some_iff.mp H; obtain ⟨t225, A100, H⟩ := H; replace H : (if t225 < 0 then (some (-1)) else (if ((rd_T122 l0 x5_1).f2.f3) = t225 then (laws_heldTurnS.l0 k1 l0 (wrap64 (t225 + 1)) (wrap64 (x5_1 + 1))) else (some (-1)))) = some r := H; have A10 := A_ A100; clear A100
         by_cases c11 : t225 < 0
         ·rw [if_pos c11] at H
          have c11b0 : decide (t225 < 0) = true := decide_eq_true c11; clear c11; obtain rfl := Option.some.inj H; have p219 : 0 ≤ (x5_1 : Int) := of_decide_eq_true Z9; have q219 : x5_1 < (l0.length : Int) := of_decide_eq_true Z9; obtain ⟨ad219, A219_2, c219_2, A219_4, c219_4, e219, hx219_0, hx219_1, hx219_2, hx219_3, hx219_4, hx219_5, hl219_2, hi219_2, hl219_4, hi219_4⟩ := at_T122 HR0.out x5_1 p219 q219; cases e219; replace hx219_0 := ZC HB.out hx219_0; replace hx219_1 := ZC HB.out hx219_1; replace hx219_2 := ZC HB.out hx219_2; replace hx219_3 := ZC HB.out hx219_3; replace hx219_4 := ZC HB.out hx219_4; replace hx219_5 := ZC HB.out hx219_5; have HR219_2 := A_ hi219_2; have HC219_2 := A_ hl219_2; clear hi219_2 hl219_2; have HR219_4 := A_ hi219_4; have HC219_4 := A_ hl219_4; clear hi219_4 hl219_4; replace p219 := eq_true p219; replace q219 := eq_true q219; have p220 : 0 ≤ (x5_1 : Int) := of_decide_eq_true Z9; have q220 : x5_1 < (l0.length : Int) := of_decide_eq_true Z9; obtain ⟨ad220, A220_2, c220_2, A220_4, c220_4, e220, hx220_0, hx220_1, hx220_2, hx220_3, hx220_4, hx220_5, hl220_2, hi220_2, hl220_4, hi220_4⟩ := at_T122 HR0.out x5_1 p220 q220; obtain rfl : ad219 = ad220 := (by injection e220); replace hx220_0 := ZC HB.out hx220_0; replace hx220_1 := ZC HB.out hx220_1; replace hx220_2 := ZC HB.out hx220_2; replace hx220_3 := ZC HB.out hx220_3; replace hx220_4 := ZC HB.out hx220_4; replace hx220_5 := ZC HB.out hx220_5; have HR220_2 := A_ hi220_2; have HC220_2 := A_ hl220_2; clear hi220_2 hl220_2
          have HR220_4 := A_ hi220_4; have HC220_4 := A_ hl220_4; clear hi220_4 hl220_4; replace p220 := eq_true p220; replace q220 := eq_true q220; have ea_ := Option.some.inj (hx219_2.symm.trans hx220_2); injection ea_ with ea_ en_ ec_; subst ea_; subst ec_; clear en_; have ea_ := Option.some.inj (hx219_4.symm.trans hx220_4); injection ea_ with ea_ en_ ec_; subst ea_; subst ec_; clear en_; have p221 : 0 ≤ (x5_1 : Int) := of_decide_eq_true Z9; have q221 : x5_1 < (l0.length : Int) := of_decide_eq_true Z9; obtain ⟨ad221, A221_2, c221_2, A221_4, c221_4, e221, hx221_0, hx221_1, hx221_2, hx221_3, hx221_4, hx221_5, hl221_2, hi221_2, hl221_4, hi221_4⟩ := at_T122 HR0.out x5_1 p221 q221; obtain rfl : ad219 = ad221 := (by injection e221); replace hx221_0 := ZC HB.out hx221_0; replace hx221_1 := ZC HB.out hx221_1; replace hx221_2 := ZC HB.out hx221_2; replace hx221_3 := ZC HB.out hx221_3; replace hx221_4 := ZC HB.out hx221_4; replace hx221_5 := ZC HB.out hx221_5; have HR221_2 := A_ hi221_2; have HC221_2 := A_ hl221_2; clear hi221_2 hl221_2; have HR221_4 := A_ hi221_4; have HC221_4 := A_ hl221_4; clear hi221_4 hl221_4; replace p221 := eq_true p221; replace q221 := eq_true q221; have ea_ := Option.some.inj (hx219_2.symm.trans hx221_2); injection ea_ with ea_ en_ ec_; subst ea_; subst ec_; clear en_; have ea_ := Option.some.inj (hx219_4.symm.trans hx221_4); injection ea_ with ea_ en_ ec_; subst ea_; subst ec_; clear en_
          go_wp2_with (first | ((with_reducible refine gate_callee (f := 57) rfl ?_); refine goesL_ (some 37) rfl rfl Try.func57 (by kernel_rfl) rfl #[.slice A219_2 ((rd_T122 l0 x5_1).f2.f0).length c219_2, .int .i64 (wrap64 ((wrap64 (x1_1 + 1)) + 1))] rfl Z3 ?_; (with_reducible refine (laws_heldSlotS.calls k1 _ _ ((rd_T122 l0 x5_1).f2.f0) (wrap64 ((wrap64 (x1_1 + 1)) + 1)) t222 _ ?side1 ?side2 A7.out).mono ?_); (case side1 => exact Z7 HR221_2.out); (case side2 => exact HC221_2.out); rintro e w' ⟨rfl, ⟨nd, rfl⟩⟩; refine ⟨_, rfl, ?_⟩; have p223 : 0 ≤ (x5_1 : Int) := of_decide_eq_true Z9; have q223 : x5_1 < (l0.length : Int) := of_decide_eq_true Z9; obtain ⟨ad223, A223_2, c223_2, A223_4, c223_4, e223, hx223_0, hx223_1, hx223_2, hx223_3, hx223_4, hx223_5, hl223_2, hi223_2, hl223_4, hi223_4⟩ := at_T122 HR0.out x5_1 p223 q223; obtain rfl : ad219 = ad223 := (by injection e223); replace hx223_0 := ZC HB.out hx223_0; replace hx223_1 := ZC HB.out hx223_1; replace hx223_2 := ZC HB.out hx223_2; replace hx223_3 := ZC HB.out hx223_3; replace hx223_4 := ZC HB.out hx223_4; replace hx223_5 := ZC HB.out hx223_5; have HR223_2 := A_ hi223_2; have HC223_2 := A_ hl223_2; clear hi223_2 hl223_2; have HR223_4 := A_ hi223_4; have HC223_4 := A_ hl223_4; clear hi223_4 hl223_4; replace p223 := eq_true p223; replace q223 := eq_true q223; have ea_ := Option.some.inj (hx219_2.symm.trans hx223_2); injection ea_ with ea_ en_ ec_; subst ea_; subst ec_; clear en_; have ea_ := Option.some.inj (hx219_4.symm.trans hx223_4); injection ea_ with ea_ en_ ec_; subst ea_; subst ec_; clear en_; have p224 : 0 ≤ (x5_1 : Int) := of_decide_eq_true Z9; have q224 : x5_1 < (l0.length : Int) := of_decide_eq_true Z9; obtain ⟨ad224, A224_2, c224_2, A224_4, c224_4, e224, hx224_0, hx224_1, hx224_2, hx224_3, hx224_4, hx224_5, hl224_2, hi224_2, hl224_4, hi224_4⟩ := at_T122 HR0.out x5_1 p224 q224; obtain rfl : ad219 = ad224 := (by injection e224); replace hx224_0 := ZC HB.out hx224_0; replace hx224_1 := ZC HB.out hx224_1; replace hx224_2 := ZC HB.out hx224_2; replace hx224_3 := ZC HB.out hx224_3; replace hx224_4 := ZC HB.out hx224_4; replace hx224_5 := ZC HB.out hx224_5; have HR224_2 := A_ hi224_2; have HC224_2 := A_ hl224_2; clear hi224_2 hl224_2; have HR224_4 := A_ hi224_4; have HC224_4 := A_ hl224_4; clear hi224_4 hl224_4; replace p224 := eq_true p224; replace q224 := eq_true q224; have ea_ := Option.some.inj (hx219_2.symm.trans hx224_2); injection ea_ with ea_ en_ ec_; subst ea_; subst ec_; clear en_; have ea_ := Option.some.inj (hx219_4.symm.trans hx224_4); injection ea_ with ea_ en_ ec_; subst ea_; subst ec_; clear en_) | ((with_reducible refine gate_callee (f := 88) rfl ?_); refine goesL_ (some 57) rfl rfl Try.func88 (by kernel_rfl) rfl #[.slice A219_4 ((rd_T122 l0 x5_1).f2.f2).length c219_4, .int .i64 (wrap64 (t222 + 1))] rfl Z3 ?_; (with_reducible refine (laws_heldStepS.calls k1 _ _ ((rd_T122 l0 x5_1).f2.f2) (wrap64 (t222 + 1)) t225 _ ?side1 ?side2 A10.out).mono ?_); (case side1 => repeat (first | exact (Kd.C_below HR224_4.out Z0) | (with_reducible refine Kd.C_alloc ?_ _) | (with_reducible refine Kd.C_drewN ?_ _) | (with_reducible refine Kd.C_drew ?_))); (case side2 => exact HC224_4.out); rintro e w12 ⟨rfl, hb⟩; refine ⟨_, rfl, ?_⟩; have n0_ := A_ (below_step Z0 hb); clear HB; have HB := n0_; clear n0_; (try clear hb)))
          go_ret
          exact ⟨Z6, Z0⟩
         ·rw [if_neg c11] at H
          have c11b0 : decide (t225 < 0) = false := decide_eq_false c11; clear c11
          by_cases c13 : ((rd_T122 l0 x5_1).f2.f3) = t225
          ·rw [if_pos c13] at H
           have c13b0 : (((rd_T122 l0 x5_1).f2.f3) == t225) = true := beq_iff_eq.mpr c13; have c13b1 : (((rd_T122 l0 x5_1).f2.f3) != t225) = false := bne_eq_false_iff_eq.mpr c13; clear c13; have H' := A_ H; clear H; have p219 : 0 ≤ (x5_1 : Int) := of_decide_eq_true Z9; have q219 : x5_1 < (l0.length : Int) := of_decide_eq_true Z9; obtain ⟨ad219, A219_2, c219_2, A219_4, c219_4, e219, hx219_0, hx219_1, hx219_2, hx219_3, hx219_4, hx219_5, hl219_2, hi219_2, hl219_4, hi219_4⟩ := at_T122 HR0.out x5_1 p219 q219; cases e219; replace hx219_0 := ZC HB.out hx219_0; replace hx219_1 := ZC HB.out hx219_1; replace hx219_2 := ZC HB.out hx219_2; replace hx219_3 := ZC HB.out hx219_3; replace hx219_4 := ZC HB.out hx219_4; replace hx219_5 := ZC HB.out hx219_5; have HR219_2 := A_ hi219_2; have HC219_2 := A_ hl219_2; clear hi219_2 hl219_2; have HR219_4 := A_ hi219_4; have HC219_4 := A_ hl219_4; clear hi219_4 hl219_4; replace p219 := eq_true p219; replace q219 := eq_true q219; have p220 : 0 ≤ (x5_1 : Int) := of_decide_eq_true Z9; have q220 : x5_1 < (l0.length : Int) := of_decide_eq_true Z9; obtain ⟨ad220, A220_2, c220_2, A220_4, c220_4, e220, hx220_0, hx220_1, hx220_2, hx220_3, hx220_4, hx220_5, hl220_2, hi220_2, hl220_4, hi220_4⟩ := at_T122 HR0.out x5_1 p220 q220; obtain rfl : ad219 = ad220 := (by injection e220); replace hx220_0 := ZC HB.out hx220_0; replace hx220_1 := ZC HB.out hx220_1; replace hx220_2 := ZC HB.out hx220_2; replace hx220_3 := ZC HB.out hx220_3; replace hx220_4 := ZC HB.out hx220_4
           replace hx220_5 := ZC HB.out hx220_5; have HR220_2 := A_ hi220_2; have HC220_2 := A_ hl220_2; clear hi220_2 hl220_2; have HR220_4 := A_ hi220_4; have HC220_4 := A_ hl220_4; clear hi220_4 hl220_4; replace p220 := eq_true p220; replace q220 := eq_true q220; have ea_ := Option.some.inj (hx219_2.symm.trans hx220_2); injection ea_ with ea_ en_ ec_; subst ea_; subst ec_; clear en_; have ea_ := Option.some.inj (hx219_4.symm.trans hx220_4); injection ea_ with ea_ en_ ec_; subst ea_; subst ec_; clear en_; have p221 : 0 ≤ (x5_1 : Int) := of_decide_eq_true Z9; have q221 : x5_1 < (l0.length : Int) := of_decide_eq_true Z9; obtain ⟨ad221, A221_2, c221_2, A221_4, c221_4, e221, hx221_0, hx221_1, hx221_2, hx221_3, hx221_4, hx221_5, hl221_2, hi221_2, hl221_4, hi221_4⟩ := at_T122 HR0.out x5_1 p221 q221; obtain rfl : ad219 = ad221 := (by injection e221); replace hx221_0 := ZC HB.out hx221_0; replace hx221_1 := ZC HB.out hx221_1; replace hx221_2 := ZC HB.out hx221_2; replace hx221_3 := ZC HB.out hx221_3; replace hx221_4 := ZC HB.out hx221_4; replace hx221_5 := ZC HB.out hx221_5; have HR221_2 := A_ hi221_2; have HC221_2 := A_ hl221_2; clear hi221_2 hl221_2; have HR221_4 := A_ hi221_4; have HC221_4 := A_ hl221_4; clear hi221_4 hl221_4; replace p221 := eq_true p221; replace q221 := eq_true q221; have ea_ := Option.some.inj (hx219_2.symm.trans hx221_2); injection ea_ with ea_ en_ ec_; subst ea_; subst ec_; clear en_; have ea_ := Option.some.inj (hx219_4.symm.trans hx221_4); injection ea_ with ea_ en_ ec_
           subst ea_; subst ec_; clear en_
           go_wp2_with (first | ((with_reducible refine gate_callee (f := 57) rfl ?_); refine goesL_ (some 37) rfl rfl Try.func57 (by kernel_rfl) rfl #[.slice A219_2 ((rd_T122 l0 x5_1).f2.f0).length c219_2, .int .i64 (wrap64 ((wrap64 (x1_1 + 1)) + 1))] rfl Z3 ?_; (with_reducible refine (laws_heldSlotS.calls k1 _ _ ((rd_T122 l0 x5_1).f2.f0) (wrap64 ((wrap64 (x1_1 + 1)) + 1)) t222 _ ?side1 ?side2 A7.out).mono ?_); (case side1 => exact Z7 HR221_2.out); (case side2 => exact HC221_2.out); rintro e w' ⟨rfl, ⟨nd, rfl⟩⟩; refine ⟨_, rfl, ?_⟩; have p223 : 0 ≤ (x5_1 : Int) := of_decide_eq_true Z9; have q223 : x5_1 < (l0.length : Int) := of_decide_eq_true Z9; obtain ⟨ad223, A223_2, c223_2, A223_4, c223_4, e223, hx223_0, hx223_1, hx223_2, hx223_3, hx223_4, hx223_5, hl223_2, hi223_2, hl223_4, hi223_4⟩ := at_T122 HR0.out x5_1 p223 q223; obtain rfl : ad219 = ad223 := (by injection e223); replace hx223_0 := ZC HB.out hx223_0; replace hx223_1 := ZC HB.out hx223_1; replace hx223_2 := ZC HB.out hx223_2; replace hx223_3 := ZC HB.out hx223_3; replace hx223_4 := ZC HB.out hx223_4; replace hx223_5 := ZC HB.out hx223_5; have HR223_2 := A_ hi223_2; have HC223_2 := A_ hl223_2; clear hi223_2 hl223_2; have HR223_4 := A_ hi223_4; have HC223_4 := A_ hl223_4; clear hi223_4 hl223_4; replace p223 := eq_true p223; replace q223 := eq_true q223; have ea_ := Option.some.inj (hx219_2.symm.trans hx223_2); injection ea_ with ea_ en_ ec_; subst ea_; subst ec_; clear en_; have ea_ := Option.some.inj (hx219_4.symm.trans hx223_4); injection ea_ with ea_ en_ ec_; subst ea_; subst ec_; clear en_; have p224 : 0 ≤ (x5_1 : Int) := of_decide_eq_true Z9; have q224 : x5_1 < (l0.length : Int) := of_decide_eq_true Z9; obtain ⟨ad224, A224_2, c224_2, A224_4, c224_4, e224, hx224_0, hx224_1, hx224_2, hx224_3, hx224_4, hx224_5, hl224_2, hi224_2, hl224_4, hi224_4⟩ := at_T122 HR0.out x5_1 p224 q224; obtain rfl : ad219 = ad224 := (by injection e224); replace hx224_0 := ZC HB.out hx224_0; replace hx224_1 := ZC HB.out hx224_1; replace hx224_2 := ZC HB.out hx224_2; replace hx224_3 := ZC HB.out hx224_3; replace hx224_4 := ZC HB.out hx224_4; replace hx224_5 := ZC HB.out hx224_5; have HR224_2 := A_ hi224_2; have HC224_2 := A_ hl224_2; clear hi224_2 hl224_2; have HR224_4 := A_ hi224_4; have HC224_4 := A_ hl224_4; clear hi224_4 hl224_4; replace p224 := eq_true p224; replace q224 := eq_true q224; have ea_ := Option.some.inj (hx219_2.symm.trans hx224_2); injection ea_ with ea_ en_ ec_; subst ea_; subst ec_; clear en_; have ea_ := Option.some.inj (hx219_4.symm.trans hx224_4); injection ea_ with ea_ en_ ec_; subst ea_; subst ec_; clear en_) | ((with_reducible refine gate_callee (f := 88) rfl ?_); refine goesL_ (some 57) rfl rfl Try.func88 (by kernel_rfl) rfl #[.slice A219_4 ((rd_T122 l0 x5_1).f2.f2).length c219_4, .int .i64 (wrap64 (t222 + 1))] rfl Z3 ?_; (with_reducible refine (laws_heldStepS.calls k1 _ _ ((rd_T122 l0 x5_1).f2.f2) (wrap64 (t222 + 1)) t225 _ ?side1 ?side2 A10.out).mono ?_); (case side1 => repeat (first | exact (Kd.C_below HR224_4.out Z0) | (with_reducible refine Kd.C_alloc ?_ _) | (with_reducible refine Kd.C_drewN ?_ _) | (with_reducible refine Kd.C_drew ?_))); (case side2 => exact HC224_4.out); rintro e w14 ⟨rfl, hb⟩; refine ⟨_, rfl, ?_⟩; have n0_ := A_ (below_step Z0 hb); clear HB; have HB := n0_; clear n0_; (try clear hb); have p226 : 0 ≤ (x5_1 : Int) := of_decide_eq_true Z9; have q226 : x5_1 < (l0.length : Int) := of_decide_eq_true Z9; obtain ⟨ad226, A226_2, c226_2, A226_4, c226_4, e226, hx226_0, hx226_1, hx226_2, hx226_3, hx226_4, hx226_5, hl226_2, hi226_2, hl226_4, hi226_4⟩ := at_T122 HR0.out x5_1 p226 q226; obtain rfl : ad219 = ad226 := (by injection e226); replace hx226_0 := ZC HB.out hx226_0; replace hx226_1 := ZC HB.out hx226_1; replace hx226_2 := ZC HB.out hx226_2; replace hx226_3 := ZC HB.out hx226_3; replace hx226_4 := ZC HB.out hx226_4; replace hx226_5 := ZC HB.out hx226_5; have HR226_2 := A_ hi226_2; have HC226_2 := A_ hl226_2; clear hi226_2 hl226_2; have HR226_4 := A_ hi226_4; have HC226_4 := A_ hl226_4; clear hi226_4 hl226_4; replace p226 := eq_true p226; replace q226 := eq_true q226))
           go_roundg k1
           case measure => have := HK1.out; omega
           case rel => exact ⟨(wrap64 (t225 + 1)), (wrap64 (x5_1 + 1)), Z13, Z13, H', ⟨by have := HK1.out; omega⟩, ⟨Z0⟩⟩
          ·rw [if_neg c13] at H
           have c13b0 : (((rd_T122 l0 x5_1).f2.f3) == t225) = false := beq_eq_false_iff_ne.mpr c13; have c13b1 : (((rd_T122 l0 x5_1).f2.f3) != t225) = true := bne_iff_ne.mpr c13; obtain rfl := Option.some.inj H; have p219 : 0 ≤ (x5_1 : Int) := of_decide_eq_true Z9; have q219 : x5_1 < (l0.length : Int) := of_decide_eq_true Z9; obtain ⟨ad219, A219_2, c219_2, A219_4, c219_4, e219, hx219_0, hx219_1, hx219_2, hx219_3, hx219_4, hx219_5, hl219_2, hi219_2, hl219_4, hi219_4⟩ := at_T122 HR0.out x5_1 p219 q219; cases e219; replace hx219_0 := ZC HB.out hx219_0; replace hx219_1 := ZC HB.out hx219_1; replace hx219_2 := ZC HB.out hx219_2; replace hx219_3 := ZC HB.out hx219_3; replace hx219_4 := ZC HB.out hx219_4; replace hx219_5 := ZC HB.out hx219_5; have HR219_2 := A_ hi219_2; have HC219_2 := A_ hl219_2; clear hi219_2 hl219_2; have HR219_4 := A_ hi219_4; have HC219_4 := A_ hl219_4; clear hi219_4 hl219_4; replace p219 := eq_true p219; replace q219 := eq_true q219; have p220 : 0 ≤ (x5_1 : Int) := of_decide_eq_true Z9; have q220 : x5_1 < (l0.length : Int) := of_decide_eq_true Z9; obtain ⟨ad220, A220_2, c220_2, A220_4, c220_4, e220, hx220_0, hx220_1, hx220_2, hx220_3, hx220_4, hx220_5, hl220_2, hi220_2, hl220_4, hi220_4⟩ := at_T122 HR0.out x5_1 p220 q220; obtain rfl : ad219 = ad220 := (by injection e220); replace hx220_0 := ZC HB.out hx220_0; replace hx220_1 := ZC HB.out hx220_1; replace hx220_2 := ZC HB.out hx220_2; replace hx220_3 := ZC HB.out hx220_3; replace hx220_4 := ZC HB.out hx220_4; replace hx220_5 := ZC HB.out hx220_5
           have HR220_2 := A_ hi220_2; have HC220_2 := A_ hl220_2; clear hi220_2 hl220_2; have HR220_4 := A_ hi220_4; have HC220_4 := A_ hl220_4; clear hi220_4 hl220_4; replace p220 := eq_true p220; replace q220 := eq_true q220; have ea_ := Option.some.inj (hx219_2.symm.trans hx220_2); injection ea_ with ea_ en_ ec_; subst ea_; subst ec_; clear en_; have ea_ := Option.some.inj (hx219_4.symm.trans hx220_4); injection ea_ with ea_ en_ ec_; subst ea_; subst ec_; clear en_; have p221 : 0 ≤ (x5_1 : Int) := of_decide_eq_true Z9; have q221 : x5_1 < (l0.length : Int) := of_decide_eq_true Z9; obtain ⟨ad221, A221_2, c221_2, A221_4, c221_4, e221, hx221_0, hx221_1, hx221_2, hx221_3, hx221_4, hx221_5, hl221_2, hi221_2, hl221_4, hi221_4⟩ := at_T122 HR0.out x5_1 p221 q221; obtain rfl : ad219 = ad221 := (by injection e221); replace hx221_0 := ZC HB.out hx221_0; replace hx221_1 := ZC HB.out hx221_1; replace hx221_2 := ZC HB.out hx221_2; replace hx221_3 := ZC HB.out hx221_3; replace hx221_4 := ZC HB.out hx221_4; replace hx221_5 := ZC HB.out hx221_5; have HR221_2 := A_ hi221_2; have HC221_2 := A_ hl221_2; clear hi221_2 hl221_2; have HR221_4 := A_ hi221_4; have HC221_4 := A_ hl221_4; clear hi221_4 hl221_4; replace p221 := eq_true p221; replace q221 := eq_true q221; have ea_ := Option.some.inj (hx219_2.symm.trans hx221_2); injection ea_ with ea_ en_ ec_; subst ea_; subst ec_; clear en_; have ea_ := Option.some.inj (hx219_4.symm.trans hx221_4); injection ea_ with ea_ en_ ec_; subst ea_; subst ec_; clear en_
           go_wp2_with (first | ((with_reducible refine gate_callee (f := 57) rfl ?_); refine goesL_ (some 37) rfl rfl Try.func57 (by kernel_rfl) rfl #[.slice A219_2 ((rd_T122 l0 x5_1).f2.f0).length c219_2, .int .i64 (wrap64 ((wrap64 (x1_1 + 1)) + 1))] rfl Z3 ?_; (with_reducible refine (laws_heldSlotS.calls k1 _ _ ((rd_T122 l0 x5_1).f2.f0) (wrap64 ((wrap64 (x1_1 + 1)) + 1)) t222 _ ?side1 ?side2 A7.out).mono ?_); (case side1 => exact Z7 HR221_2.out); (case side2 => exact HC221_2.out); rintro e w' ⟨rfl, ⟨nd, rfl⟩⟩; refine ⟨_, rfl, ?_⟩; have p223 : 0 ≤ (x5_1 : Int) := of_decide_eq_true Z9; have q223 : x5_1 < (l0.length : Int) := of_decide_eq_true Z9; obtain ⟨ad223, A223_2, c223_2, A223_4, c223_4, e223, hx223_0, hx223_1, hx223_2, hx223_3, hx223_4, hx223_5, hl223_2, hi223_2, hl223_4, hi223_4⟩ := at_T122 HR0.out x5_1 p223 q223; obtain rfl : ad219 = ad223 := (by injection e223); replace hx223_0 := ZC HB.out hx223_0; replace hx223_1 := ZC HB.out hx223_1; replace hx223_2 := ZC HB.out hx223_2; replace hx223_3 := ZC HB.out hx223_3; replace hx223_4 := ZC HB.out hx223_4; replace hx223_5 := ZC HB.out hx223_5; have HR223_2 := A_ hi223_2; have HC223_2 := A_ hl223_2; clear hi223_2 hl223_2; have HR223_4 := A_ hi223_4; have HC223_4 := A_ hl223_4; clear hi223_4 hl223_4; replace p223 := eq_true p223; replace q223 := eq_true q223; have ea_ := Option.some.inj (hx219_2.symm.trans hx223_2); injection ea_ with ea_ en_ ec_; subst ea_; subst ec_; clear en_; have ea_ := Option.some.inj (hx219_4.symm.trans hx223_4); injection ea_ with ea_ en_ ec_; subst ea_; subst ec_; clear en_; have p224 : 0 ≤ (x5_1 : Int) := of_decide_eq_true Z9; have q224 : x5_1 < (l0.length : Int) := of_decide_eq_true Z9; obtain ⟨ad224, A224_2, c224_2, A224_4, c224_4, e224, hx224_0, hx224_1, hx224_2, hx224_3, hx224_4, hx224_5, hl224_2, hi224_2, hl224_4, hi224_4⟩ := at_T122 HR0.out x5_1 p224 q224; obtain rfl : ad219 = ad224 := (by injection e224); replace hx224_0 := ZC HB.out hx224_0; replace hx224_1 := ZC HB.out hx224_1; replace hx224_2 := ZC HB.out hx224_2; replace hx224_3 := ZC HB.out hx224_3; replace hx224_4 := ZC HB.out hx224_4; replace hx224_5 := ZC HB.out hx224_5; have HR224_2 := A_ hi224_2; have HC224_2 := A_ hl224_2; clear hi224_2 hl224_2; have HR224_4 := A_ hi224_4; have HC224_4 := A_ hl224_4; clear hi224_4 hl224_4; replace p224 := eq_true p224; replace q224 := eq_true q224; have ea_ := Option.some.inj (hx219_2.symm.trans hx224_2); injection ea_ with ea_ en_ ec_; subst ea_; subst ec_; clear en_; have ea_ := Option.some.inj (hx219_4.symm.trans hx224_4); injection ea_ with ea_ en_ ec_; subst ea_; subst ec_; clear en_) | ((with_reducible refine gate_callee (f := 88) rfl ?_); refine goesL_ (some 57) rfl rfl Try.func88 (by kernel_rfl) rfl #[.slice A219_4 ((rd_T122 l0 x5_1).f2.f2).length c219_4, .int .i64 (wrap64 (t222 + 1))] rfl Z3 ?_; (with_reducible refine (laws_heldStepS.calls k1 _ _ ((rd_T122 l0 x5_1).f2.f2) (wrap64 (t222 + 1)) t225 _ ?side1 ?side2 A10.out).mono ?_); (case side1 => repeat (first | exact (Kd.C_below HR224_4.out Z0) | (with_reducible refine Kd.C_alloc ?_ _) | (with_reducible refine Kd.C_drewN ?_ _) | (with_reducible refine Kd.C_drew ?_))); (case side2 => exact HC224_4.out); rintro e w15 ⟨rfl, hb⟩; refine ⟨_, rfl, ?_⟩; have n0_ := A_ (below_step Z0 hb); clear HB; have HB := n0_; clear n0_; (try clear hb); have p226 : 0 ≤ (x5_1 : Int) := of_decide_eq_true Z9; have q226 : x5_1 < (l0.length : Int) := of_decide_eq_true Z9; obtain ⟨ad226, A226_2, c226_2, A226_4, c226_4, e226, hx226_0, hx226_1, hx226_2, hx226_3, hx226_4, hx226_5, hl226_2, hi226_2, hl226_4, hi226_4⟩ := at_T122 HR0.out x5_1 p226 q226; obtain rfl : ad219 = ad226 := (by injection e226); replace hx226_0 := ZC HB.out hx226_0; replace hx226_1 := ZC HB.out hx226_1; replace hx226_2 := ZC HB.out hx226_2; replace hx226_3 := ZC HB.out hx226_3; replace hx226_4 := ZC HB.out hx226_4; replace hx226_5 := ZC HB.out hx226_5; have HR226_2 := A_ hi226_2; have HC226_2 := A_ hl226_2; clear hi226_2 hl226_2; have HR226_4 := A_ hi226_4; have HC226_4 := A_ hl226_4; clear hi226_4 hl226_4; replace p226 := eq_true p226; replace q226 := eq_true q226))
           go_ret
           exact ⟨Z6, Z0⟩
        ·rw [if_neg c9] at H
         have c9b0 : (((rd_T122 l0 x5_1).f2.f1) == t222) = false := beq_eq_false_iff_ne.mpr c9; have c9b1 : (((rd_T122 l0 x5_1).f2.f1) != t222) = true := bne_iff_ne.mpr c9; obtain rfl := Option.some.inj H; have p219 : 0 ≤ (x5_1 : Int) := of_decide_eq_true Z9; have q219 : x5_1 < (l0.length : Int) := of_decide_eq_true Z9; obtain ⟨ad219, A219_2, c219_2, A219_4, c219_4, e219, hx219_0, hx219_1, hx219_2, hx219_3, hx219_4, hx219_5, hl219_2, hi219_2, hl219_4, hi219_4⟩ := at_T122 HR0.out x5_1 p219 q219; cases e219; replace hx219_0 := ZC HB.out hx219_0; replace hx219_1 := ZC HB.out hx219_1; replace hx219_2 := ZC HB.out hx219_2; replace hx219_3 := ZC HB.out hx219_3; replace hx219_4 := ZC HB.out hx219_4; replace hx219_5 := ZC HB.out hx219_5; have HR219_2 := A_ hi219_2; have HC219_2 := A_ hl219_2; clear hi219_2 hl219_2; have HR219_4 := A_ hi219_4; have HC219_4 := A_ hl219_4; clear hi219_4 hl219_4; replace p219 := eq_true p219; replace q219 := eq_true q219; have p220 : 0 ≤ (x5_1 : Int) := of_decide_eq_true Z9; have q220 : x5_1 < (l0.length : Int) := of_decide_eq_true Z9; obtain ⟨ad220, A220_2, c220_2, A220_4, c220_4, e220, hx220_0, hx220_1, hx220_2, hx220_3, hx220_4, hx220_5, hl220_2, hi220_2, hl220_4, hi220_4⟩ := at_T122 HR0.out x5_1 p220 q220; obtain rfl : ad219 = ad220 := (by injection e220); replace hx220_0 := ZC HB.out hx220_0; replace hx220_1 := ZC HB.out hx220_1; replace hx220_2 := ZC HB.out hx220_2; replace hx220_3 := ZC HB.out hx220_3; replace hx220_4 := ZC HB.out hx220_4; replace hx220_5 := ZC HB.out hx220_5
         have HR220_2 := A_ hi220_2; have HC220_2 := A_ hl220_2; clear hi220_2 hl220_2; have HR220_4 := A_ hi220_4; have HC220_4 := A_ hl220_4; clear hi220_4 hl220_4; replace p220 := eq_true p220; replace q220 := eq_true q220; have ea_ := Option.some.inj (hx219_2.symm.trans hx220_2); injection ea_ with ea_ en_ ec_; subst ea_; subst ec_; clear en_; have ea_ := Option.some.inj (hx219_4.symm.trans hx220_4); injection ea_ with ea_ en_ ec_; subst ea_; subst ec_; clear en_; have p221 : 0 ≤ (x5_1 : Int) := of_decide_eq_true Z9; have q221 : x5_1 < (l0.length : Int) := of_decide_eq_true Z9; obtain ⟨ad221, A221_2, c221_2, A221_4, c221_4, e221, hx221_0, hx221_1, hx221_2, hx221_3, hx221_4, hx221_5, hl221_2, hi221_2, hl221_4, hi221_4⟩ := at_T122 HR0.out x5_1 p221 q221; obtain rfl : ad219 = ad221 := (by injection e221); replace hx221_0 := ZC HB.out hx221_0; replace hx221_1 := ZC HB.out hx221_1; replace hx221_2 := ZC HB.out hx221_2; replace hx221_3 := ZC HB.out hx221_3; replace hx221_4 := ZC HB.out hx221_4; replace hx221_5 := ZC HB.out hx221_5; have HR221_2 := A_ hi221_2; have HC221_2 := A_ hl221_2; clear hi221_2 hl221_2; have HR221_4 := A_ hi221_4; have HC221_4 := A_ hl221_4; clear hi221_4 hl221_4; replace p221 := eq_true p221; replace q221 := eq_true q221; have ea_ := Option.some.inj (hx219_2.symm.trans hx221_2); injection ea_ with ea_ en_ ec_; subst ea_; subst ec_; clear en_; have ea_ := Option.some.inj (hx219_4.symm.trans hx221_4); injection ea_ with ea_ en_ ec_; subst ea_; subst ec_; clear en_
         go_wp2_with (first | ((with_reducible refine gate_callee (f := 57) rfl ?_); refine goesL_ (some 37) rfl rfl Try.func57 (by kernel_rfl) rfl #[.slice A219_2 ((rd_T122 l0 x5_1).f2.f0).length c219_2, .int .i64 (wrap64 ((wrap64 (x1_1 + 1)) + 1))] rfl Z3 ?_; (with_reducible refine (laws_heldSlotS.calls k1 _ _ ((rd_T122 l0 x5_1).f2.f0) (wrap64 ((wrap64 (x1_1 + 1)) + 1)) t222 _ ?side1 ?side2 A7.out).mono ?_); (case side1 => exact Z7 HR221_2.out); (case side2 => exact HC221_2.out); rintro e w' ⟨rfl, ⟨nd, rfl⟩⟩; refine ⟨_, rfl, ?_⟩; have p223 : 0 ≤ (x5_1 : Int) := of_decide_eq_true Z9; have q223 : x5_1 < (l0.length : Int) := of_decide_eq_true Z9; obtain ⟨ad223, A223_2, c223_2, A223_4, c223_4, e223, hx223_0, hx223_1, hx223_2, hx223_3, hx223_4, hx223_5, hl223_2, hi223_2, hl223_4, hi223_4⟩ := at_T122 HR0.out x5_1 p223 q223; obtain rfl : ad219 = ad223 := (by injection e223); replace hx223_0 := ZC HB.out hx223_0; replace hx223_1 := ZC HB.out hx223_1; replace hx223_2 := ZC HB.out hx223_2; replace hx223_3 := ZC HB.out hx223_3; replace hx223_4 := ZC HB.out hx223_4; replace hx223_5 := ZC HB.out hx223_5; have HR223_2 := A_ hi223_2; have HC223_2 := A_ hl223_2; clear hi223_2 hl223_2; have HR223_4 := A_ hi223_4; have HC223_4 := A_ hl223_4; clear hi223_4 hl223_4; replace p223 := eq_true p223; replace q223 := eq_true q223; have ea_ := Option.some.inj (hx219_2.symm.trans hx223_2); injection ea_ with ea_ en_ ec_; subst ea_; subst ec_; clear en_; have ea_ := Option.some.inj (hx219_4.symm.trans hx223_4); injection ea_ with ea_ en_ ec_; subst ea_; subst ec_; clear en_))
         go_ret
         exact ⟨Z6, Z0⟩
      ·rw [if_neg c6] at H
       have c6b0 : (((rd_T122 l0 x5_1).f1) == (wrap64 (x1_1 + 1))) = false := beq_eq_false_iff_ne.mpr c6; have c6b1 : (((rd_T122 l0 x5_1).f1) != (wrap64 (x1_1 + 1))) = true := bne_iff_ne.mpr c6; obtain rfl := Option.some.inj H; have p219 : 0 ≤ (x5_1 : Int) := of_decide_eq_true Z9; have q219 : x5_1 < (l0.length : Int) := of_decide_eq_true Z9; obtain ⟨ad219, A219_2, c219_2, A219_4, c219_4, e219, hx219_0, hx219_1, hx219_2, hx219_3, hx219_4, hx219_5, hl219_2, hi219_2, hl219_4, hi219_4⟩ := at_T122 HR0.out x5_1 p219 q219; cases e219; replace hx219_0 := ZC HB.out hx219_0; replace hx219_1 := ZC HB.out hx219_1; replace hx219_2 := ZC HB.out hx219_2; replace hx219_3 := ZC HB.out hx219_3; replace hx219_4 := ZC HB.out hx219_4; replace hx219_5 := ZC HB.out hx219_5; have HR219_2 := A_ hi219_2; have HC219_2 := A_ hl219_2; clear hi219_2 hl219_2; have HR219_4 := A_ hi219_4; have HC219_4 := A_ hl219_4; clear hi219_4 hl219_4; replace p219 := eq_true p219; replace q219 := eq_true q219; have p220 : 0 ≤ (x5_1 : Int) := of_decide_eq_true Z9; have q220 : x5_1 < (l0.length : Int) := of_decide_eq_true Z9; obtain ⟨ad220, A220_2, c220_2, A220_4, c220_4, e220, hx220_0, hx220_1, hx220_2, hx220_3, hx220_4, hx220_5, hl220_2, hi220_2, hl220_4, hi220_4⟩ := at_T122 HR0.out x5_1 p220 q220; obtain rfl : ad219 = ad220 := (by injection e220); replace hx220_0 := ZC HB.out hx220_0; replace hx220_1 := ZC HB.out hx220_1; replace hx220_2 := ZC HB.out hx220_2; replace hx220_3 := ZC HB.out hx220_3; replace hx220_4 := ZC HB.out hx220_4
       replace hx220_5 := ZC HB.out hx220_5; have HR220_2 := A_ hi220_2; have HC220_2 := A_ hl220_2; clear hi220_2 hl220_2; have HR220_4 := A_ hi220_4; have HC220_4 := A_ hl220_4; clear hi220_4 hl220_4; replace p220 := eq_true p220; replace q220 := eq_true q220; have ea_ := Option.some.inj (hx219_2.symm.trans hx220_2); injection ea_ with ea_ en_ ec_; subst ea_; subst ec_; clear en_; have ea_ := Option.some.inj (hx219_4.symm.trans hx220_4); injection ea_ with ea_ en_ ec_; subst ea_; subst ec_; clear en_
       go_wp2
       go_ret
       exact ⟨Z6, Z0⟩
     ·rw [if_neg c5] at H
      have c5b0 : (((rd_T122 l0 x5_1).f0) == x1_1) = false := beq_eq_false_iff_ne.mpr c5; have c5b1 : (((rd_T122 l0 x5_1).f0) != x1_1) = true := bne_iff_ne.mpr c5; obtain rfl := Option.some.inj H; have p219 : 0 ≤ (x5_1 : Int) := of_decide_eq_true Z9; have q219 : x5_1 < (l0.length : Int) := of_decide_eq_true Z9; obtain ⟨ad219, A219_2, c219_2, A219_4, c219_4, e219, hx219_0, hx219_1, hx219_2, hx219_3, hx219_4, hx219_5, hl219_2, hi219_2, hl219_4, hi219_4⟩ := at_T122 HR0.out x5_1 p219 q219; cases e219; replace hx219_0 := ZC HB.out hx219_0; replace hx219_1 := ZC HB.out hx219_1; replace hx219_2 := ZC HB.out hx219_2; replace hx219_3 := ZC HB.out hx219_3; replace hx219_4 := ZC HB.out hx219_4; replace hx219_5 := ZC HB.out hx219_5; have HR219_2 := A_ hi219_2; have HC219_2 := A_ hl219_2; clear hi219_2 hl219_2; have HR219_4 := A_ hi219_4; have HC219_4 := A_ hl219_4; clear hi219_4 hl219_4; replace p219 := eq_true p219; replace q219 := eq_true q219
      go_wp2
      go_ret
      exact ⟨Z6, Z0⟩
    ·rw [if_neg c4] at H
     exact absurd H (by simp)
   ·rw [if_neg c3] at H
    have c3b0 : decide (x5_1 < (l0.length : Int)) = false := decide_eq_false c3; clear c3; obtain rfl := Option.some.inj H
    go_wp2
    go_ret
    exact ⟨Z6, Z0⟩
def spec_inRange.f (a0 : Int) (a1 : Int) (a2 : Int) : Option (Bool) := if a0 ≥ a1 then (some (decide (a0 ≤ a2))) else (some false)
set_option maxHeartbeats 8000000 in
set_option maxRecDepth 100000 in
theorem spec_inRange.calls (a0 : Int) (a1 : Int) (a2 : Int) (r : Bool) (w : World) (h : spec_inRange.f a0 a1 a2 = some r) :
  Calls Try.prog 50 #[.int .i64 a0, .int .i64 a1, .int .i64 a2] w fun e w' => e = .returned (.bool r) ∧ Drawn0 w w' := by
 have H : (if a0 ≥ a1 then (some (decide (a0 ≤ a2))) else (some false)) = some r := h; clear h
 by_cases c4 : a0 ≥ a1
 ·rw [if_pos c4] at H
  have c4b0 : decide (a1 ≤ a0) = true := decide_eq_true c4; clear c4; obtain rfl := Option.some.inj H
  go_enter Try.func50, Try.ntmps50
  go_wp2
  go_ret
  exact ⟨Z13, Z20⟩
 ·rw [if_neg c4] at H
  have c4b0 : decide (a1 ≤ a0) = false := decide_eq_false c4; clear c4; obtain rfl := Option.some.inj H
  go_enter Try.func50, Try.ntmps50
  go_wp2
  go_ret
  exact ⟨Z13, Z20⟩
def spec_validSlot.f (a0_0 : Int) (a0_1 : Int) : Option (Bool) := (spec_inRange.f a0_0 0 3).bind fun t228 => (if t228 = true then ((spec_inRange.f a0_1 0 103).bind fun t229 => (some t229)) else (some false))
set_option maxHeartbeats 8000000 in
set_option maxRecDepth 100000 in
theorem spec_validSlot.calls (a0_0 : Int) (a0_1 : Int) (r : Bool) (w : World) (h : spec_validSlot.f a0_0 a0_1 = some r) :
  Calls Try.prog 91 #[.agg #[.int .i64 a0_0, .int .i64 a0_1]] w fun e w' => e = .returned (.bool r) ∧ Below w.heap.size w w' := by
 have hu92 := Try.underlying92; have HB := A_ (Below.refl w.heap.size w); have H : ((spec_inRange.f a0_0 0 3).bind fun t228 => (if t228 = true then ((spec_inRange.f a0_1 0 103).bind fun t229 => (some t229)) else (some false))) = some r := h; clear h; replace H := Option.bind_eq_some_iff.mp H; obtain ⟨t228, A20, H⟩ := H; replace H : (if t228 = true then ((spec_inRange.f a0_1 0 103).bind fun t229 => (some t229)) else (some false)) = some r := H; have A2 := A_ A20; clear A20
 by_cases c3 : t228 = true
 ·subst c3
  have H1 : ((spec_inRange.f a0_1 0 103).bind fun t229 => (some t229)) = some r := by rw [if_pos rfl] at H; exact H
  clear H; have H := H1; clear H1; replace H := Option.bind_eq_some_iff.mp H; obtain ⟨t229, A40, H⟩ := H; replace H : (some t229) = some r := H; have A4 := A_ A40; clear A40; obtain rfl := Option.some.inj H
  go_enter Try.func91, Try.ntmps91
  go_wp2_with (first | ((with_reducible refine gate_dst (N := 1) rfl ?_); refine box_event ?hg (N := 1) ?hd (cs := #[.int .i64 a0_0, .int .i64 a0_1]) (t := 92) ?hr ?_; (case hd => rfl); (case hg => rfl); (case hr => exact Z15); intro gb227 hg w5 hbox hb; have n0_ := A_ (below_step Z0 hb); have n1_ := A_ (hbox); have n2_ := A_ ((by rw [hg]; exact (below_size Z0) : w.heap.size ≤ gb227)); have n3_ := A_ ((by rw [hg]; exact (below_size Z0) : w.heap.size ≤ gb227)); clear HB; have HB := n0_; have BK227 := n1_; have GW227 := n2_; have GE227 := n3_; clear n0_ n1_ n2_ n3_; clear hb hbox hg; have hcz6_0 : w5.cell? ⟨gb227, 0, none⟩ = some (.int .i64 a0_0) := (blk_cell BK227.out 0).trans rfl; have hcz6_1 : w5.cell? ⟨gb227, 1, none⟩ = some (.int .i64 a0_1) := (blk_cell BK227.out 1).trans rfl; have hfz6_0 := blk_frozen BK227.out 0; have hfz6_1 := blk_frozen BK227.out 1) | ((with_reducible refine gate_callee (f := 50) rfl ?_); refine goesL_ (some 5) rfl rfl Try.func50 (by kernel_rfl) rfl #[.int .i64 a0_0, .int .i64 0, .int .i64 3] rfl Z3 ?_; (with_reducible refine (spec_inRange.calls a0_0 0 3 true _ A2.out).mono ?_); rintro e w' ⟨rfl, ⟨nd, rfl⟩⟩; refine ⟨_, rfl, ?_⟩) | (go_at_call 50; (with_reducible refine (spec_inRange.calls a0_1 0 103 t229 _ A4.out).mono ?_); rintro e w' ⟨rfl, ⟨nd, rfl⟩⟩))
  go_ret
  exact ⟨Z6, Z1 GE227.out⟩
 ·replace c3 := Bool.eq_false_iff.mpr c3
  subst c3
  have H1 : (some false) = some r := by rw [if_neg (show ¬ (false = true) by decide)] at H; exact H
  clear H; have H := H1; clear H1; obtain rfl := Option.some.inj H
  go_enter Try.func91, Try.ntmps91
  go_wp2_with (first | ((with_reducible refine gate_dst (N := 1) rfl ?_); refine box_event ?hg (N := 1) ?hd (cs := #[.int .i64 a0_0, .int .i64 a0_1]) (t := 92) ?hr ?_; (case hd => rfl); (case hg => rfl); (case hr => exact Z15); intro gb227 hg w7 hbox hb; have n0_ := A_ (below_step Z0 hb); have n1_ := A_ (hbox); have n2_ := A_ ((by rw [hg]; exact (below_size Z0) : w.heap.size ≤ gb227)); have n3_ := A_ ((by rw [hg]; exact (below_size Z0) : w.heap.size ≤ gb227)); clear HB; have HB := n0_; have BK227 := n1_; have GW227 := n2_; have GE227 := n3_; clear n0_ n1_ n2_ n3_; clear hb hbox hg; have hcz8_0 : w7.cell? ⟨gb227, 0, none⟩ = some (.int .i64 a0_0) := (blk_cell BK227.out 0).trans rfl; have hcz8_1 : w7.cell? ⟨gb227, 1, none⟩ = some (.int .i64 a0_1) := (blk_cell BK227.out 1).trans rfl; have hfz8_0 := blk_frozen BK227.out 0; have hfz8_1 := blk_frozen BK227.out 1) | ((with_reducible refine gate_callee (f := 50) rfl ?_); refine goesL_ (some 5) rfl rfl Try.func50 (by kernel_rfl) rfl #[.int .i64 a0_0, .int .i64 0, .int .i64 3] rfl Z3 ?_; (with_reducible refine (spec_inRange.calls a0_0 0 3 false _ A2.out).mono ?_); rintro e w' ⟨rfl, ⟨nd, rfl⟩⟩; refine ⟨_, rfl, ?_⟩))
  go_ret
  exact ⟨Z6, Z1 GE227.out⟩
def spec_validPlace.l0 : Nat → List (S92) → Int → Option (Bool)
 | 0, _, _ => none
 | k + 1, x0, x3 => if x3 < (x0.length : Int) then (if 0 ≤ x3 then ((spec_validSlot.f ((rd_T92 x0 x3).f0) ((rd_T92 x0 x3).f1)).bind fun t231 => (if t231 = true then (spec_validPlace.l0 k x0 (wrap64 (x3 + 1))) else (some false))) else (none)) else (some true)
def spec_validPlace.f (k : Nat) (l0 : List (S92)) : Option (Bool) := if (l0.length : Int) > 20 then (some false) else (spec_validPlace.l0 k l0 0)
set_option maxHeartbeats 8000000 in
set_option maxRecDepth 100000 in
theorem spec_validPlace.calls (k : Nat) (A0 : Option Addr) (c0 : Nat) (l0 : List (S92)) (r : Bool) (w : World) (hr0 : Kd.C k92 w A0 l0.length l0) (hc0 : l0.length ≤ c0) (h : spec_validPlace.f k l0 = some r) :
  Calls Try.prog 49 #[.slice A0 l0.length c0] w fun e w' => e = .returned (.bool r) ∧ Below w.heap.size w w' := by
 have hu92 := Try.underlying92; have HR0 := A_ hr0; have HC0 := A_ hc0; clear hr0 hc0; have HB := A_ (Below.refl w.heap.size w); have H : (if (l0.length : Int) > 20 then (some false) else (spec_validPlace.l0 k l0 0)) = some r := h; clear h
 by_cases c2 : (l0.length : Int) > 20
 ·rw [if_pos c2] at H
  have c2b0 : decide (20 < (l0.length : Int)) = true := decide_eq_true c2; have c2b1 : decide (20 < l0.length) = true := decide_eq_true (by omega); clear c2; obtain rfl := Option.some.inj H
  go_enter Try.func49, Try.ntmps49
  go_wp2
  go_ret
  exact ⟨Z6, Z0⟩
 ·rw [if_neg c2] at H
  have c2b0 : decide (20 < (l0.length : Int)) = false := decide_eq_false c2; have c2b1 : decide (20 < l0.length) = false := decide_eq_false (by omega); clear c2; have H' := A_ H; clear H
  go_enter Try.func49, Try.ntmps49
  go_wp2
  go_loopg [3] k (fun kq v3 w' => ∃ (x3_1 : Int), v3 = .int .i64 x3_1 ∧ Aside0 (spec_validPlace.l0 kq l0 x3_1 = some r) ∧ Aside0 (kq ≤ k) ∧ Aside0 (Below w.heap.size w w'))
  case atStart => exact ⟨(0), Z13, H', ⟨Nat.le_refl _⟩, ⟨Z0⟩⟩
  case round =>
   clear H'
   try clear c2
   try clear c2b0
   try clear c2b1
   try clear p2
   obtain ⟨x3_1, rfl, HA, HK1, HB⟩ := hrel
   cases gk with
   | zero => exact absurd HA.out (by simp [spec_validPlace.l0])
   | succ k1 =>
    have H := HA.out; clear HA; simp only [spec_validPlace.l0] at H
    by_cases c3 : x3_1 < (l0.length : Int)
    ·rw [if_pos c3] at H
     have c3b0 : decide (x3_1 < (l0.length : Int)) = true := decide_eq_true c3; clear c3
     by_cases c4 : 0 ≤ x3_1
     ·rw [if_pos c4] at H
      have c4b0 : decide (0 ≤ x3_1) = true := decide_eq_true c4; clear c4; replace H := Option.bind_eq_some_iff.mp H; obtain ⟨t231, A50, H⟩ := H; replace H : (if t231 = true then (spec_validPlace.l0 k1 l0 (wrap64 (x3_1 + 1))) else (some false)) = some r := H; have A5 := A_ A50; clear A50
      by_cases c6 : t231 = true
      ·subst c6
       have H1 : (spec_validPlace.l0 k1 l0 (wrap64 (x3_1 + 1))) = some r := by rw [if_pos rfl] at H; exact H
       clear H; have H := H1; clear H1; have H' := A_ H; clear H; have p230 : 0 ≤ (x3_1 : Int) := of_decide_eq_true Z9; have q230 : x3_1 < (l0.length : Int) := of_decide_eq_true Z9; obtain ⟨ad230, e230, hx230_0, hx230_1⟩ := at_T92 HR0.out x3_1 p230 q230; cases e230; replace hx230_0 := ZC HB.out hx230_0; replace hx230_1 := ZC HB.out hx230_1; replace p230 := eq_true p230; replace q230 := eq_true q230
       go_wp2_with (first | ((with_reducible refine gate_callee (f := 91) rfl ?_); refine goesL_ (some 17) rfl rfl Try.func91 (by kernel_rfl) rfl #[.agg #[.int .i64 ((rd_T92 l0 x3_1).f0), .int .i64 ((rd_T92 l0 x3_1).f1)]] rfl Z3 ?_; (with_reducible refine (spec_validSlot.calls ((rd_T92 l0 x3_1).f0) ((rd_T92 l0 x3_1).f1) true _ A5.out).mono ?_); rintro e w7 ⟨rfl, hb⟩; refine ⟨_, rfl, ?_⟩; have n0_ := A_ (below_step Z0 hb); clear HB; have HB := n0_; clear n0_; (try clear hb)))
       go_roundg k1
       case measure => have := HK1.out; omega
       case rel => exact ⟨(wrap64 (x3_1 + 1)), Z13, H', ⟨by have := HK1.out; omega⟩, ⟨Z0⟩⟩
      ·replace c6 := Bool.eq_false_iff.mpr c6
       subst c6
       have H1 : (some false) = some r := by rw [if_neg (show ¬ (false = true) by decide)] at H; exact H
       clear H; have H := H1; clear H1; obtain rfl := Option.some.inj H; have p230 : 0 ≤ (x3_1 : Int) := of_decide_eq_true Z9; have q230 : x3_1 < (l0.length : Int) := of_decide_eq_true Z9; obtain ⟨ad230, e230, hx230_0, hx230_1⟩ := at_T92 HR0.out x3_1 p230 q230; cases e230; replace hx230_0 := ZC HB.out hx230_0; replace hx230_1 := ZC HB.out hx230_1; replace p230 := eq_true p230; replace q230 := eq_true q230
       go_wp2_with (first | ((with_reducible refine gate_callee (f := 91) rfl ?_); refine goesL_ (some 17) rfl rfl Try.func91 (by kernel_rfl) rfl #[.agg #[.int .i64 ((rd_T92 l0 x3_1).f0), .int .i64 ((rd_T92 l0 x3_1).f1)]] rfl Z3 ?_; (with_reducible refine (spec_validSlot.calls ((rd_T92 l0 x3_1).f0) ((rd_T92 l0 x3_1).f1) false _ A5.out).mono ?_); rintro e w8 ⟨rfl, hb⟩; refine ⟨_, rfl, ?_⟩; have n0_ := A_ (below_step Z0 hb); clear HB; have HB := n0_; clear n0_; (try clear hb)))
       go_ret
       exact ⟨Z6, Z0⟩
     ·rw [if_neg c4] at H
      exact absurd H (by simp)
    ·rw [if_neg c3] at H
     have c3b0 : decide (x3_1 < (l0.length : Int)) = false := decide_eq_false c3; clear c3; obtain rfl := Option.some.inj H
     go_wp2
     go_ret
     exact ⟨Z6, Z0⟩
def spec_plainByte.f (a0 : Int) : Option (Bool) := if a0 ≥ 97 then (if a0 ≤ 122 then (some true) else (if a0 ≥ 48 then (if a0 ≤ 57 then (some true) else (some (a0 == 32))) else (some (a0 == 32)))) else (if a0 ≥ 48 then (if a0 ≤ 57 then (some true) else (some (a0 == 32))) else (some (a0 == 32)))
set_option maxHeartbeats 8000000 in
set_option maxRecDepth 100000 in
theorem spec_plainByte.calls (a0 : Int) (r : Bool) (w : World) (h : spec_plainByte.f a0 = some r) :
  Calls Try.prog 110 #[.int .u8 a0] w fun e w' => e = .returned (.bool r) ∧ Drawn0 w w' := by
 have H : (if a0 ≥ 97 then (if a0 ≤ 122 then (some true) else (if a0 ≥ 48 then (if a0 ≤ 57 then (some true) else (some (a0 == 32))) else (some (a0 == 32)))) else (if a0 ≥ 48 then (if a0 ≤ 57 then (some true) else (some (a0 == 32))) else (some (a0 == 32)))) = some r := h; clear h
 by_cases c2 : a0 ≥ 97
 ·rw [if_pos c2] at H
  have c2b0 : decide (97 ≤ a0) = true := decide_eq_true c2; clear c2
  by_cases c3 : a0 ≤ 122
  ·rw [if_pos c3] at H
   have c3b0 : decide (a0 ≤ 122) = true := decide_eq_true c3; clear c3; obtain rfl := Option.some.inj H
   go_enter Try.func110, Try.ntmps110
   go_wp2
   go_ret
   exact ⟨Z13, Z20⟩
  ·rw [if_neg c3] at H
   have c3b0 : decide (a0 ≤ 122) = false := decide_eq_false c3; clear c3
   by_cases c4 : a0 ≥ 48
   ·rw [if_pos c4] at H
    have c4b0 : decide (48 ≤ a0) = true := decide_eq_true c4; clear c4
    by_cases c5 : a0 ≤ 57
    ·rw [if_pos c5] at H
     have c5b0 : decide (a0 ≤ 57) = true := decide_eq_true c5; clear c5; obtain rfl := Option.some.inj H
     go_enter Try.func110, Try.ntmps110
     go_wp2
     go_ret
     exact ⟨Z13, Z20⟩
    ·rw [if_neg c5] at H
     have c5b0 : decide (a0 ≤ 57) = false := decide_eq_false c5; clear c5; obtain rfl := Option.some.inj H
     go_enter Try.func110, Try.ntmps110
     go_wp2
     go_ret
     exact ⟨Z13, Z20⟩
   ·rw [if_neg c4] at H
    have c4b0 : decide (48 ≤ a0) = false := decide_eq_false c4; clear c4; obtain rfl := Option.some.inj H
    go_enter Try.func110, Try.ntmps110
    go_wp2
    go_ret
    exact ⟨Z13, Z20⟩
 ·rw [if_neg c2] at H
  have c2b0 : decide (97 ≤ a0) = false := decide_eq_false c2; clear c2
  by_cases c6 : a0 ≥ 48
  ·rw [if_pos c6] at H
   have c6b0 : decide (48 ≤ a0) = true := decide_eq_true c6; clear c6
   by_cases c7 : a0 ≤ 57
   ·rw [if_pos c7] at H
    have c7b0 : decide (a0 ≤ 57) = true := decide_eq_true c7; clear c7; obtain rfl := Option.some.inj H
    go_enter Try.func110, Try.ntmps110
    go_wp2
    go_ret
    exact ⟨Z13, Z20⟩
   ·rw [if_neg c7] at H
    have c7b0 : decide (a0 ≤ 57) = false := decide_eq_false c7; clear c7; obtain rfl := Option.some.inj H
    go_enter Try.func110, Try.ntmps110
    go_wp2
    go_ret
    exact ⟨Z13, Z20⟩
  ·rw [if_neg c6] at H
   have c6b0 : decide (48 ≤ a0) = false := decide_eq_false c6; clear c6; obtain rfl := Option.some.inj H
   go_enter Try.func110, Try.ntmps110
   go_wp2
   go_ret
   exact ⟨Z13, Z20⟩
end Go.Proofs.Ytpadhphdglbciaa.PFnExactTurnsJoin
