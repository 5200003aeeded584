/- Walks of the functions that the law 'FnExactTurnsCut' reaches, part 14: for each a Lean function and the proof that Go's comes to just its answer (lines of the print, under own names; no condition). -/
import Derived.Test.YtpadhphdglbciaaZFnExactTurnsCutQFnExactTurnsCutx0
import Derived.Test.YtpadhphdglbciaaZFnExactTurnsCutQFnExactTurnsCutx13
namespace Go.Proofs.Ytpadhphdglbciaa.PFnExactTurnsCut
open Go.RowKit Go.Proofs.YtpadhphdglbciaaW.PrintWords Go.Proofs.YtpadhphdglbciaaW.PrintLast Go.Proofs.YtpadhphdglbciaaW.PrintMore
attribute [local go_sem] max2_int min2_int max_two min_two max_three min_three max_four min_four
set_option linter.unusedVariables false
set_option linter.unusedSimpArgs false
def laws_heldTurnS.l0 : Nat → List (S122) → Int → Int → Option (Int)
 | 0, _, _, _ => none
 | k + 1, x0, x1, x5 => if x5 < (x0.length : Int) then (if 0 ≤ x5 then (if ((rd_T122 x0 x5).f0) = x1 then (if ((rd_T122 x0 x5).f1) = (wrap64 (x1 + 1)) then ((laws_heldSlotS.f k ((rd_T122 x0 x5).f2.f0) (wrap64 ((wrap64 (x1 + 1)) + 1))).bind fun t386 => (if t386 < 0 then (some (-1)) else (if ((rd_T122 x0 x5).f2.f1) = t386 then ((laws_heldStepS.f k ((rd_T122 x0 x5).f2.f2) (wrap64 (t386 + 1))).bind fun t389 => (if t389 < 0 then (some (-1)) else (if ((rd_T122 x0 x5).f2.f3) = t389 then (laws_heldTurnS.l0 k x0 (wrap64 (t389 + 1)) (wrap64 (x5 + 1))) else (some (-1))))) else (some (-1))))) else (some (-1))) else (some (-1))) else (none)) else (some x1)
def laws_heldTurnS.f (k : Nat) (l0 : List (S122)) (a1 : Int) : Option (Int) := laws_heldTurnS.l0 k l0 a1 0
theorem laws_heldTurnS.mono_l : ∀ k, (∀ y0 y1 y2, LeO (laws_heldTurnS.l0 k y0 y1 y2) (laws_heldTurnS.l0 (k + 1) y0 y1 y2))
 | 0 => fun _ _ _ r h => by simp [laws_heldTurnS.l0] at h
 | k + 1 => by
  have ih0 := laws_heldTurnS.mono_l k
  ·intro y0 y1 y2
   unfold laws_heldTurnS.l0
   repeat' first
   | (with_reducible exact ih0 _ _ _)
   | (with_reducible exact laws_heldSlotS.mono _ _ _)
   | (with_reducible exact laws_heldStepS.mono _ _ _)
   | (with_reducible exact LeO.refl _)
   | (with_reducible exact LeO.none _)
   | (with_reducible refine LeO.ite ?_ ?_)
   | (with_reducible refine LeO.bind ?_ (fun _ => ?_))
   | exact ih0 _ _ _
   | exact laws_heldSlotS.mono _ _ _
   | exact laws_heldStepS.mono _ _ _
   | exact LeO.none _
   | refine LeO.ite ?_ ?_
   | refine LeO.bind ?_ (fun _ => ?_)
theorem laws_heldTurnS.mono : ∀ a0 a1 k, LeO (laws_heldTurnS.f k a0 a1) (laws_heldTurnS.f (k + 1) a0 a1) := by
 intro a0 a1 k
 have ih0 := laws_heldTurnS.mono_l k
 unfold laws_heldTurnS.f
 repeat' first
   | (with_reducible exact ih0 _ _ _)
   | (with_reducible exact laws_heldSlotS.mono _ _ _)
   | (with_reducible exact laws_heldStepS.mono _ _ _)
   | (with_reducible exact LeO.refl _)
   | (with_reducible exact LeO.none _)
   | (with_reducible refine LeO.ite ?_ ?_)
   | (with_reducible refine LeO.bind ?_ (fun _ => ?_))
   | exact ih0 _ _ _
   | exact laws_heldSlotS.mono _ _ _
   | exact laws_heldStepS.mono _ _ _
   | exact LeO.none _
   | refine LeO.ite ?_ ?_
   | refine LeO.bind ?_ (fun _ => ?_)
set_option maxHeartbeats 8000000 in
set_option maxRecDepth 100000 in
theorem laws_heldTurnS.calls (k : Nat) (A0 : Option Addr) (c0 : Nat) (l0 : List (S122)) (a1 : Int) (r : Int) (w : World) (hr0 : Kd.C k122 w A0 l0.length l0) (hc0 : l0.length ≤ c0) (h : laws_heldTurnS.f k l0 a1 = some r) :
  Calls Try.prog 44 #[.slice A0 l0.length c0, .int .i64 a1] w fun e w' => e = .returned (.int .i64 r) ∧ Below w.heap.size w w' := by
 have HR0 := A_ hr0
 have HC0 := A_ hc0
 clear hr0 hc0
 have HB := A_ (Below.refl w.heap.size w)
 have H : (laws_heldTurnS.l0 k l0 a1 0) = some r := h
 clear h
 have H' := A_ H
 clear H
 go_enter Try.func44, Try.ntmps44
 go_wp2
 go_loopg [1, 5] k (fun kq v1 v5 w' => ∃ (x1_1 : Int) (x5_1 : Int), v1 = .int .i64 x1_1 ∧ v5 = .int .i64 x5_1 ∧ Aside0 (laws_heldTurnS.l0 kq l0 x1_1 x5_1 = some r) ∧ Aside0 (kq ≤ k) ∧ Aside0 (Below w.heap.size w w'))
 case atStart => exact ⟨(a1), (0), Z12, Z12, H', ⟨Nat.le_refl _⟩, ⟨Z0⟩⟩
 case round =>
  clear H'
  try clear p2
  obtain ⟨x1_1, x5_1, rfl, rfl, HA, HK1, HB⟩ := hrel
  cases gk with
  | zero => exact absurd HA.out (by simp [laws_heldTurnS.l0])
  | succ k1 =>
   have H := HA.out
   clear HA
   simp only [laws_heldTurnS.l0] at H
   by_cases c3 : x5_1 < (l0.length : Int)
   ·rw [if_pos c3] at H
    have c3b0 : decide (x5_1 < (l0.length : Int)) = true := decide_eq_true c3
    clear c3
    by_cases c4 : 0 ≤ x5_1
    ·rw [if_pos c4] at H
     have c4b0 : decide (0 ≤ x5_1) = true := decide_eq_true c4
     clear c4
     by_cases c5 : ((rd_T122 l0 x5_1).f0) = x1_1
     ·rw [if_pos c5] at H
      have c5b0 : (((rd_T122 l0 x5_1).f0) == x1_1) = true := beq_iff_eq.mpr c5
      have c5b1 : (((rd_T122 l0 x5_1).f0) != x1_1) = false := bne_eq_false_iff_eq.mpr c5
      clear c5
      by_cases c6 : ((rd_T122 l0 x5_1).f1) = (wrap64 (x1_1 + 1))
      ·rw [if_pos c6] at H
       have c6b0 : (((rd_T122 l0 x5_1).f1) == (wrap64 (x1_1 + 1))) = true := beq_iff_eq.mpr c6
       have c6b1 : (((rd_T122 l0 x5_1).f1) != (wrap64 (x1_1 + 1))) = false := bne_eq_false_iff_eq.mpr c6
       clear c6
       replace H := Option.bind_eq_some_iff.mp H
       obtain ⟨t386, A70, H⟩ := H
       replace H : (if t386 < 0 then (some (-1)) else (if ((rd_T122 l0 x5_1).f2.f1) = t386 then ((laws_heldStepS.f k1 ((rd_T122 l0 x5_1).f2.f2) (wrap64 (t386 + 1))).bind fun t389 => (if t389 < 0 then (some (-1)) else (if ((rd_T122 l0 x5_1).f2.f3) = t389 then (laws_heldTurnS.l0 k1 l0 (wrap64 (t389 + 1)) (wrap64 (x5_1 + 1))) else (some (-1))))) else (some (-1)))) = some r := H
       have A7 := A_ A70
       clear A70
       by_cases c8 : t386 < 0
       ·rw [if_pos c8] at H
        have c8b0 : decide (t386 < 0) = true := decide_eq_true c8
        clear c8
        obtain rfl := Option.some.inj H
        have p383 : 0 ≤ (x5_1 : Int) := of_decide_eq_true Z7
        have q383 : x5_1 < (l0.length : Int) := of_decide_eq_true Z7
        obtain ⟨ad383, A383_2, c383_2, A383_4, c383_4, e383, hx383_0, hx383_1, hx383_2, hx383_3, hx383_4, hx383_5, hl383_2, hi383_2, hl383_4, hi383_4⟩ := at_T122 HR0.out x5_1 p383 q383
        cases e383
        replace hx383_0 := ZC HB.out hx383_0
        replace hx383_1 := ZC HB.out hx383_1
        replace hx383_2 := ZC HB.out hx383_2
        replace hx383_3 := ZC HB.out hx383_3
        replace hx383_4 := ZC HB.out hx383_4
        replace hx383_5 := ZC HB.out hx383_5
        have HR383_2 := A_ hi383_2
        have HC383_2 := A_ hl383_2
        clear hi383_2 hl383_2
        have HR383_4 := A_ hi383_4
        have HC383_4 := A_ hl383_4
        clear hi383_4 hl383_4
        replace p383 := eq_true p383
        replace q383 := eq_true q383
        have p384 : 0 ≤ (x5_1 : Int) := of_decide_eq_true Z7
        have q384 : x5_1 < (l0.length : Int) := of_decide_eq_true Z7
        obtain ⟨ad384, A384_2, c384_2, A384_4, c384_4, e384, hx384_0, hx384_1, hx384_2, hx384_3, hx384_4, hx384_5, hl384_2, hi384_2, hl384_4, hi384_4⟩ := at_T122 HR0.out x5_1 p384 q384
        obtain rfl : ad383 = ad384 := (by injection e384)
        replace hx384_0 := ZC HB.out hx384_0
        replace hx384_1 := ZC HB.out hx384_1
        replace hx384_2 := ZC HB.out hx384_2
        replace hx384_3 := ZC HB.out hx384_3
        replace hx384_4 := ZC HB.out hx384_4
        replace hx384_5 := ZC HB.out hx384_5
        have HR384_2 := A_ hi384_2
        have HC384_2 := A_ hl384_2
        clear hi384_2 hl384_2
        have HR384_4 := A_ hi384_4
        have HC384_4 := A_ hl384_4
        clear hi384_4 hl384_4
        replace p384 := eq_true p384
        replace q384 := eq_true q384
        have ea_ := Option.some.inj (hx383_2.symm.trans hx384_2)
        injection ea_ with ea_ en_ ec_
        subst ea_
        subst ec_
        clear en_
        have ea_ := Option.some.inj (hx383_4.symm.trans hx384_4)
        injection ea_ with ea_ en_ ec_
        subst ea_
        subst ec_
        clear en_
        have p385 : 0 ≤ (x5_1 : Int) := of_decide_eq_true Z7
        have q385 : x5_1 < (l0.length : Int) := of_decide_eq_true Z7
        obtain ⟨ad385, A385_2, c385_2, A385_4, c385_4, e385, hx385_0, hx385_1, hx385_2, hx385_3, hx385_4, hx385_5, hl385_2, hi385_2, hl385_4, hi385_4⟩ := at_T122 HR0.out x5_1 p385 q385
        obtain rfl : ad383 = ad385 := (by injection e385)
        replace hx385_0 := ZC HB.out hx385_0
        replace hx385_1 := ZC HB.out hx385_1
        replace hx385_2 := ZC HB.out hx385_2
        replace hx385_3 := ZC HB.out hx385_3
        replace hx385_4 := ZC HB.out hx385_4
        replace hx385_5 := ZC HB.out hx385_5
        have HR385_2 := A_ hi385_2
        have HC385_2 := A_ hl385_2
        clear hi385_2 hl385_2
        have HR385_4 := A_ hi385_4
        have HC385_4 := A_ hl385_4
        clear hi385_4 hl385_4
        replace p385 := eq_true p385
        replace q385 := eq_true q385
        have ea_ := Option.some.inj (hx383_2.symm.trans hx385_2)
        injection ea_ with ea_ en_ ec_
        subst ea_
        subst ec_
        clear en_
        have ea_ := Option.some.inj (hx383_4.symm.trans hx385_4)
        injection ea_ with ea_ en_ ec_
        subst ea_
        subst ec_
        clear en_
        go_wp2_with (first | ((with_reducible refine gate_callee (f := 57) rfl ?_); refine goesL_ (some 37) rfl rfl Try.func57 (by kernel_rfl) rfl #[.slice A383_2 ((rd_T122 l0 x5_1).f2.f0).length c383_2, .int .i64 (wrap64 ((wrap64 (x1_1 + 1)) + 1))] rfl Z3 ?_; (with_reducible refine (laws_heldSlotS.calls k1 _ _ ((rd_T122 l0 x5_1).f2.f0) (wrap64 ((wrap64 (x1_1 + 1)) + 1)) t386 _ ?side1 ?side2 A7.out).mono ?_); (case side1 => exact Z6 HR385_2.out); (case side2 => exact HC385_2.out); rintro e w' ⟨rfl, ⟨nd, rfl⟩⟩; refine ⟨_, rfl, ?_⟩))
        go_ret
        exact ⟨Z4, Z0⟩
       ·rw [if_neg c8] at H
        have c8b0 : decide (t386 < 0) = false := decide_eq_false c8
        clear c8
        by_cases c9 : ((rd_T122 l0 x5_1).f2.f1) = t386
        ·rw [if_pos c9] at H
         have c9b0 : (((rd_T122 l0 x5_1).f2.f1) == t386) = true := beq_iff_eq.mpr c9
         have c9b1 : (((rd_T122 l0 x5_1).f2.f1) != t386) = false := bne_eq_false_iff_eq.mpr c9
         clear c9
         replace H := Option.bind_eq_some_iff.mp H
         obtain ⟨t389, A100, H⟩ := H
         replace H : (if t389 < 0 then (some (-1)) else (if ((rd_T122 l0 x5_1).f2.f3) = t389 then (laws_heldTurnS.l0 k1 l0 (wrap64 (t389 + 1)) (wrap64 (x5_1 + 1))) else (some (-1)))) = some r := H
         have A10 := A_ A100
         clear A100
         by_cases c11 : t389 < 0
         ·rw [if_pos c11] at H
          have c11b0 : decide (t389 < 0) = true := decide_eq_true c11
          clear c11
          obtain rfl := Option.some.inj H
          have p383 : 0 ≤ (x5_1 : Int) := of_decide_eq_true Z7
          have q383 : x5_1 < (l0.length : Int) := of_decide_eq_true Z7
          obtain ⟨ad383, A383_2, c383_2, A383_4, c383_4, e383, hx383_0, hx383_1, hx383_2, hx383_3, hx383_4, hx383_5, hl383_2, hi383_2, hl383_4, hi383_4⟩ := at_T122 HR0.out x5_1 p383 q383
          cases e383
          replace hx383_0 := ZC HB.out hx383_0
          replace hx383_1 := ZC HB.out hx383_1
          replace hx383_2 := ZC HB.out hx383_2
          replace hx383_3 := ZC HB.out hx383_3
          replace hx383_4 := ZC HB.out hx383_4
          replace hx383_5 := ZC HB.out hx383_5
          have HR383_2 := A_ hi383_2
          have HC383_2 := A_ hl383_2
          clear hi383_2 hl383_2
          have HR383_4 := A_ hi383_4
          have HC383_4 := A_ hl383_4
          clear hi383_4 hl383_4
          replace p383 := eq_true p383
          replace q383 := eq_true q383
          have p384 : 0 ≤ (x5_1 : Int) := of_decide_eq_true Z7
          have q384 : x5_1 < (l0.length : Int) := of_decide_eq_true Z7
          obtain ⟨ad384, A384_2, c384_2, A384_4, c384_4, e384, hx384_0, hx384_1, hx384_2, hx384_3, hx384_4, hx384_5, hl384_2, hi384_2, hl384_4, hi384_4⟩ := at_T122 HR0.out x5_1 p384 q384
          obtain rfl : ad383 = ad384 := (by injection e384)
          replace hx384_0 := ZC HB.out hx384_0
          replace hx384_1 := ZC HB.out hx384_1
          replace hx384_2 := ZC HB.out hx384_2
          replace hx384_3 := ZC HB.out hx384_3
          replace hx384_4 := ZC HB.out hx384_4
          replace hx384_5 := ZC HB.out hx384_5
          have HR384_2 := A_ hi384_2
          have HC384_2 := A_ hl384_2
          clear hi384_2 hl384_2
          have HR384_4 := A_ hi384_4
          have HC384_4 := A_ hl384_4
          clear hi384_4 hl384_4
          replace p384 := eq_true p384
          replace q384 := eq_true q384
          have ea_ := Option.some.inj (hx383_2.symm.trans hx384_2)
          injection ea_ with ea_ en_ ec_
          subst ea_
          subst ec_
          clear en_
          have ea_ := Option.some.inj (hx383_4.symm.trans hx384_4)
          injection ea_ with ea_ en_ ec_
          subst ea_
          subst ec_
          clear en_
          have p385 : 0 ≤ (x5_1 : Int) := of_decide_eq_true Z7
          have q385 : x5_1 < (l0.length : Int) := of_decide_eq_true Z7
          obtain ⟨ad385, A385_2, c385_2, A385_4, c385_4, e385, hx385_0, hx385_1, hx385_2, hx385_3, hx385_4, hx385_5, hl385_2, hi385_2, hl385_4, hi385_4⟩ := at_T122 HR0.out x5_1 p385 q385
          obtain rfl : ad383 = ad385 := (by injection e385)
          replace hx385_0 := ZC HB.out hx385_0
          replace hx385_1 := ZC HB.out hx385_1
          replace hx385_2 := ZC HB.out hx385_2
          replace hx385_3 := ZC HB.out hx385_3
          replace hx385_4 := ZC HB.out hx385_4
          replace hx385_5 := ZC HB.out hx385_5
          have HR385_2 := A_ hi385_2
          have HC385_2 := A_ hl385_2
          clear hi385_2 hl385_2
          have HR385_4 := A_ hi385_4
          have HC385_4 := A_ hl385_4
          clear hi385_4 hl385_4
          replace p385 := eq_true p385
          replace q385 := eq_true q385
          have ea_ := Option.some.inj (hx383_2.symm.trans hx385_2)
          injection ea_ with ea_ en_ ec_
          subst ea_
          subst ec_
          clear en_
          have ea_ := Option.some.inj (hx383_4.symm.trans hx385_4)
          injection ea_ with ea_ en_ ec_
          subst ea_
          subst ec_
          clear en_
          go_wp2_with (first | ((with_reducible refine gate_callee (f := 57) rfl ?_); refine goesL_ (some 37) rfl rfl Try.func57 (by kernel_rfl) rfl #[.slice A383_2 ((rd_T122 l0 x5_1).f2.f0).length c383_2, .int .i64 (wrap64 ((wrap64 (x1_1 + 1)) + 1))] rfl Z3 ?_; (with_reducible refine (laws_heldSlotS.calls k1 _ _ ((rd_T122 l0 x5_1).f2.f0) (wrap64 ((wrap64 (x1_1 + 1)) + 1)) t386 _ ?side1 ?side2 A7.out).mono ?_); (case side1 => exact Z6 HR385_2.out); (case side2 => exact HC385_2.out); rintro e w' ⟨rfl, ⟨nd, rfl⟩⟩; refine ⟨_, rfl, ?_⟩; have p387 : 0 ≤ (x5_1 : Int) := of_decide_eq_true Z7; have q387 : x5_1 < (l0.length : Int) := of_decide_eq_true Z7; obtain ⟨ad387, A387_2, c387_2, A387_4, c387_4, e387, hx387_0, hx387_1, hx387_2, hx387_3, hx387_4, hx387_5, hl387_2, hi387_2, hl387_4, hi387_4⟩ := at_T122 HR0.out x5_1 p387 q387; obtain rfl : ad383 = ad387 := (by injection e387); replace hx387_0 := ZC HB.out hx387_0; replace hx387_1 := ZC HB.out hx387_1; replace hx387_2 := ZC HB.out hx387_2; replace hx387_3 := ZC HB.out hx387_3; replace hx387_4 := ZC HB.out hx387_4; replace hx387_5 := ZC HB.out hx387_5; have HR387_2 := A_ hi387_2; have HC387_2 := A_ hl387_2; clear hi387_2 hl387_2; have HR387_4 := A_ hi387_4; have HC387_4 := A_ hl387_4; clear hi387_4 hl387_4; replace p387 := eq_true p387; replace q387 := eq_true q387; have ea_ := Option.some.inj (hx383_2.symm.trans hx387_2); injection ea_ with ea_ en_ ec_; subst ea_; subst ec_; clear en_; have ea_ := Option.some.inj (hx383_4.symm.trans hx387_4); injection ea_ with ea_ en_ ec_; subst ea_; subst ec_; clear en_; have p388 : 0 ≤ (x5_1 : Int) := of_decide_eq_true Z7; have q388 : x5_1 < (l0.length : Int) := of_decide_eq_true Z7; obtain ⟨ad388, A388_2, c388_2, A388_4, c388_4, e388, hx388_0, hx388_1, hx388_2, hx388_3, hx388_4, hx388_5, hl388_2, hi388_2, hl388_4, hi388_4⟩ := at_T122 HR0.out x5_1 p388 q388; obtain rfl : ad383 = ad388 := (by injection e388); replace hx388_0 := ZC HB.out hx388_0; replace hx388_1 := ZC HB.out hx388_1; replace hx388_2 := ZC HB.out hx388_2; replace hx388_3 := ZC HB.out hx388_3; replace hx388_4 := ZC HB.out hx388_4; replace hx388_5 := ZC HB.out hx388_5; have HR388_2 := A_ hi388_2; have HC388_2 := A_ hl388_2; clear hi388_2 hl388_2; have HR388_4 := A_ hi388_4; have HC388_4 := A_ hl388_4; clear hi388_4 hl388_4; replace p388 := eq_true p388; replace q388 := eq_true q388; have ea_ := Option.some.inj (hx383_2.symm.trans hx388_2); injection ea_ with ea_ en_ ec_; subst ea_; subst ec_; clear en_; have ea_ := Option.some.inj (hx383_4.symm.trans hx388_4); injection ea_ with ea_ en_ ec_; subst ea_; subst ec_; clear en_) | ((with_reducible refine gate_callee (f := 88) rfl ?_); refine goesL_ (some 57) rfl rfl Try.func88 (by kernel_rfl) rfl #[.slice A383_4 ((rd_T122 l0 x5_1).f2.f2).length c383_4, .int .i64 (wrap64 (t386 + 1))] rfl Z3 ?_; (with_reducible refine (laws_heldStepS.calls k1 _ _ ((rd_T122 l0 x5_1).f2.f2) (wrap64 (t386 + 1)) t389 _ ?side1 ?side2 A10.out).mono ?_); (case side1 => repeat (first | exact (Kd.C_below HR388_4.out Z0) | (with_reducible refine Kd.C_alloc ?_ _) | (with_reducible refine Kd.C_drewN ?_ _) | (with_reducible refine Kd.C_drew ?_))); (case side2 => exact HC388_4.out); rintro e w12 ⟨rfl, hb⟩; refine ⟨_, rfl, ?_⟩; have n0_ := A_ (below_step Z0 hb); clear HB; have HB := n0_; clear n0_; (try clear hb); (try clear hb2); (try clear hk); (try clear hi)))
          go_ret
          exact ⟨Z4, Z0⟩
         ·rw [if_neg c11] at H
          have c11b0 : decide (t389 < 0) = false := decide_eq_false c11
          clear c11
          by_cases c13 : ((rd_T122 l0 x5_1).f2.f3) = t389
          ·rw [if_pos c13] at H
           have c13b0 : (((rd_T122 l0 x5_1).f2.f3) == t389) = true := beq_iff_eq.mpr c13
           have c13b1 : (((rd_T122 l0 x5_1).f2.f3) != t389) = false := bne_eq_false_iff_eq.mpr c13
           clear c13
           have H' := A_ H
           clear H
           have p383 : 0 ≤ (x5_1 : Int) := of_decide_eq_true Z7
           have q383 : x5_1 < (l0.length : Int) := of_decide_eq_true Z7
           obtain ⟨ad383, A383_2, c383_2, A383_4, c383_4, e383, hx383_0, hx383_1, hx383_2, hx383_3, hx383_4, hx383_5, hl383_2, hi383_2, hl383_4, hi383_4⟩ := at_T122 HR0.out x5_1 p383 q383
           cases e383
           replace hx383_0 := ZC HB.out hx383_0
           replace hx383_1 := ZC HB.out hx383_1
           replace hx383_2 := ZC HB.out hx383_2
           replace hx383_3 := ZC HB.out hx383_3
           replace hx383_4 := ZC HB.out hx383_4
           replace hx383_5 := ZC HB.out hx383_5
           have HR383_2 := A_ hi383_2
           have HC383_2 := A_ hl383_2
           clear hi383_2 hl383_2
           have HR383_4 := A_ hi383_4
           have HC383_4 := A_ hl383_4
           clear hi383_4 hl383_4
           replace p383 := eq_true p383
           replace q383 := eq_true q383
           have p384 : 0 ≤ (x5_1 : Int) := of_decide_eq_true Z7
           have q384 : x5_1 < (l0.length : Int) := of_decide_eq_true Z7
           obtain ⟨ad384, A384_2, c384_2, A384_4, c384_4, e384, hx384_0, hx384_1, hx384_2, hx384_3, hx384_4, hx384_5, hl384_2, hi384_2, hl384_4, hi384_4⟩ := at_T122 HR0.out x5_1 p384 q384
           obtain rfl : ad383 = ad384 := (by injection e384)
           replace hx384_0 := ZC HB.out hx384_0
           replace hx384_1 := ZC HB.out hx384_1
           replace hx384_2 := ZC HB.out hx384_2
           replace hx384_3 := ZC HB.out hx384_3
           replace hx384_4 := ZC HB.out hx384_4
           replace hx384_5 := ZC HB.out hx384_5
           have HR384_2 := A_ hi384_2
           have HC384_2 := A_ hl384_2
           clear hi384_2 hl384_2
           have HR384_4 := A_ hi384_4
           have HC384_4 := A_ hl384_4
           clear hi384_4 hl384_4
           replace p384 := eq_true p384
           replace q384 := eq_true q384
           have ea_ := Option.some.inj (hx383_2.symm.trans hx384_2)
           injection ea_ with ea_ en_ ec_
           subst ea_
           subst ec_
           clear en_
           have ea_ := Option.some.inj (hx383_4.symm.trans hx384_4)
           injection ea_ with ea_ en_ ec_
           subst ea_
           subst ec_
           clear en_
           have p385 : 0 ≤ (x5_1 : Int) := of_decide_eq_true Z7
           have q385 : x5_1 < (l0.length : Int) := of_decide_eq_true Z7
           obtain ⟨ad385, A385_2, c385_2, A385_4, c385_4, e385, hx385_0, hx385_1, hx385_2, hx385_3, hx385_4, hx385_5, hl385_2, hi385_2, hl385_4, hi385_4⟩ := at_T122 HR0.out x5_1 p385 q385
           obtain rfl : ad383 = ad385 := (by injection e385)
           replace hx385_0 := ZC HB.out hx385_0
           replace hx385_1 := ZC HB.out hx385_1
           replace hx385_2 := ZC HB.out hx385_2
           replace hx385_3 := ZC HB.out hx385_3
           replace hx385_4 := ZC HB.out hx385_4
           replace hx385_5 := ZC HB.out hx385_5
           have HR385_2 := A_ hi385_2
           have HC385_2 := A_ hl385_2
           clear hi385_2 hl385_2
           have HR385_4 := A_ hi385_4
           have HC385_4 := A_ hl385_4
           clear hi385_4 hl385_4
           replace p385 := eq_true p385
           replace q385 := eq_true q385
           have ea_ := Option.some.inj (hx383_2.symm.trans hx385_2)
           injection ea_ with ea_ en_ ec_
           subst ea_
           subst ec_
           clear en_
           have ea_ := Option.some.inj (hx383_4.symm.trans hx385_4)
           injection ea_ with ea_ en_ ec_
           subst ea_
           subst ec_
           clear en_
           go_wp2_with (first | ((with_reducible refine gate_callee (f := 57) rfl ?_); refine goesL_ (some 37) rfl rfl Try.func57 (by kernel_rfl) rfl #[.slice A383_2 ((rd_T122 l0 x5_1).f2.f0).length c383_2, .int .i64 (wrap64 ((wrap64 (x1_1 + 1)) + 1))] rfl Z3 ?_; (with_reducible refine (laws_heldSlotS.calls k1 _ _ ((rd_T122 l0 x5_1).f2.f0) (wrap64 ((wrap64 (x1_1 + 1)) + 1)) t386 _ ?side1 ?side2 A7.out).mono ?_); (case side1 => exact Z6 HR385_2.out); (case side2 => exact HC385_2.out); rintro e w' ⟨rfl, ⟨nd, rfl⟩⟩; refine ⟨_, rfl, ?_⟩; have p387 : 0 ≤ (x5_1 : Int) := of_decide_eq_true Z7; have q387 : x5_1 < (l0.length : Int) := of_decide_eq_true Z7; obtain ⟨ad387, A387_2, c387_2, A387_4, c387_4, e387, hx387_0, hx387_1, hx387_2, hx387_3, hx387_4, hx387_5, hl387_2, hi387_2, hl387_4, hi387_4⟩ := at_T122 HR0.out x5_1 p387 q387; obtain rfl : ad383 = ad387 := (by injection e387); replace hx387_0 := ZC HB.out hx387_0; replace hx387_1 := ZC HB.out hx387_1; replace hx387_2 := ZC HB.out hx387_2; replace hx387_3 := ZC HB.out hx387_3; replace hx387_4 := ZC HB.out hx387_4; replace hx387_5 := ZC HB.out hx387_5; have HR387_2 := A_ hi387_2; have HC387_2 := A_ hl387_2; clear hi387_2 hl387_2; have HR387_4 := A_ hi387_4; have HC387_4 := A_ hl387_4; clear hi387_4 hl387_4; replace p387 := eq_true p387; replace q387 := eq_true q387; have ea_ := Option.some.inj (hx383_2.symm.trans hx387_2); injection ea_ with ea_ en_ ec_; subst ea_; subst ec_; clear en_; have ea_ := Option.some.inj (hx383_4.symm.trans hx387_4); injection ea_ with ea_ en_ ec_; subst ea_; subst ec_; clear en_; have p388 : 0 ≤ (x5_1 : Int) := of_decide_eq_true Z7; have q388 : x5_1 < (l0.length : Int) := of_decide_eq_true Z7; obtain ⟨ad388, A388_2, c388_2, A388_4, c388_4, e388, hx388_0, hx388_1, hx388_2, hx388_3, hx388_4, hx388_5, hl388_2, hi388_2, hl388_4, hi388_4⟩ := at_T122 HR0.out x5_1 p388 q388; obtain rfl : ad383 = ad388 := (by injection e388); replace hx388_0 := ZC HB.out hx388_0; replace hx388_1 := ZC HB.out hx388_1; replace hx388_2 := ZC HB.out hx388_2; replace hx388_3 := ZC HB.out hx388_3; replace hx388_4 := ZC HB.out hx388_4; replace hx388_5 := ZC HB.out hx388_5; have HR388_2 := A_ hi388_2; have HC388_2 := A_ hl388_2; clear hi388_2 hl388_2; have HR388_4 := A_ hi388_4; have HC388_4 := A_ hl388_4; clear hi388_4 hl388_4; replace p388 := eq_true p388; replace q388 := eq_true q388; have ea_ := Option.some.inj (hx383_2.symm.trans hx388_2); injection ea_ with ea_ en_ ec_; subst ea_; subst ec_; clear en_; have ea_ := Option.some.inj (hx383_4.symm.trans hx388_4); injection ea_ with ea_ en_ ec_; subst ea_; subst ec_; clear en_) | ((with_reducible refine gate_callee (f := 88) rfl ?_); refine goesL_ (some 57) rfl rfl Try.func88 (by kernel_rfl) rfl #[.slice A383_4 ((rd_T122 l0 x5_1).f2.f2).length c383_4, .int .i64 (wrap64 (t386 + 1))] rfl Z3 ?_; (with_reducible refine (laws_heldStepS.calls k1 _ _ ((rd_T122 l0 x5_1).f2.f2) (wrap64 (t386 + 1)) t389 _ ?side1 ?side2 A10.out).mono ?_); (case side1 => repeat (first | exact (Kd.C_below HR388_4.out Z0) | (with_reducible refine Kd.C_alloc ?_ _) | (with_reducible refine Kd.C_drewN ?_ _) | (with_reducible refine Kd.C_drew ?_))); (case side2 => exact HC388_4.out); rintro e w14 ⟨rfl, hb⟩; refine ⟨_, rfl, ?_⟩; have n0_ := A_ (below_step Z0 hb); clear HB; have HB := n0_; clear n0_; (try clear hb); (try clear hb2); (try clear hk); (try clear hi); have p390 : 0 ≤ (x5_1 : Int) := of_decide_eq_true Z7; have q390 : x5_1 < (l0.length : Int) := of_decide_eq_true Z7; obtain ⟨ad390, A390_2, c390_2, A390_4, c390_4, e390, hx390_0, hx390_1, hx390_2, hx390_3, hx390_4, hx390_5, hl390_2, hi390_2, hl390_4, hi390_4⟩ := at_T122 HR0.out x5_1 p390 q390; obtain rfl : ad383 = ad390 := (by injection e390); replace hx390_0 := ZC HB.out hx390_0; replace hx390_1 := ZC HB.out hx390_1; replace hx390_2 := ZC HB.out hx390_2; replace hx390_3 := ZC HB.out hx390_3; replace hx390_4 := ZC HB.out hx390_4; replace hx390_5 := ZC HB.out hx390_5; have HR390_2 := A_ hi390_2; have HC390_2 := A_ hl390_2; clear hi390_2 hl390_2; have HR390_4 := A_ hi390_4; have HC390_4 := A_ hl390_4; clear hi390_4 hl390_4; replace p390 := eq_true p390; replace q390 := eq_true q390))
           go_roundg k1
           case measure => have := HK1.out; omega
           case rel => exact ⟨(wrap64 (t389 + 1)), (wrap64 (x5_1 + 1)), Z12, Z12, H', ⟨by have := HK1.out; omega⟩, ⟨Z0⟩⟩
          ·rw [if_neg c13] at H
           have c13b0 : (((rd_T122 l0 x5_1).f2.f3) == t389) = false := beq_eq_false_iff_ne.mpr c13
           have c13b1 : (((rd_T122 l0 x5_1).f2.f3) != t389) = true := bne_iff_ne.mpr c13
           obtain rfl := Option.some.inj H
           have p383 : 0 ≤ (x5_1 : Int) := of_decide_eq_true Z7
           have q383 : x5_1 < (l0.length : Int) := of_decide_eq_true Z7
           obtain ⟨ad383, A383_2, c383_2, A383_4, c383_4, e383, hx383_0, hx383_1, hx383_2, hx383_3, hx383_4, hx383_5, hl383_2, hi383_2, hl383_4, hi383_4⟩ := at_T122 HR0.out x5_1 p383 q383
           cases e383
           replace hx383_0 := ZC HB.out hx383_0
           replace hx383_1 := ZC HB.out hx383_1
           replace hx383_2 := ZC HB.out hx383_2
           replace hx383_3 := ZC HB.out hx383_3
           replace hx383_4 := ZC HB.out hx383_4
           replace hx383_5 := ZC HB.out hx383_5
           have HR383_2 := A_ hi383_2
           have HC383_2 := A_ hl383_2
           clear hi383_2 hl383_2
           have HR383_4 := A_ hi383_4
           have HC383_4 := A_ hl383_4
           clear hi383_4 hl383_4
           replace p383 := eq_true p383
           replace q383 := eq_true q383
           have p384 : 0 ≤ (x5_1 : Int) := of_decide_eq_true Z7
           have q384 : x5_1 < (l0.length : Int) := of_decide_eq_true Z7
           obtain ⟨ad384, A384_2, c384_2, A384_4, c384_4, e384, hx384_0, hx384_1, hx384_2, hx384_3, hx384_4, hx384_5, hl384_2, hi384_2, hl384_4, hi384_4⟩ := at_T122 HR0.out x5_1 p384 q384
           obtain rfl : ad383 = ad384 := (by injection e384)
           replace hx384_0 := ZC HB.out hx384_0
           replace hx384_1 := ZC HB.out hx384_1
           replace hx384_2 := ZC HB.out hx384_2
           replace hx384_3 := ZC HB.out hx384_3
           replace hx384_4 := ZC HB.out hx384_4
           replace hx384_5 := ZC HB.out hx384_5
           have HR384_2 := A_ hi384_2
           have HC384_2 := A_ hl384_2
           clear hi384_2 hl384_2
           have HR384_4 := A_ hi384_4
           have HC384_4 := A_ hl384_4
           clear hi384_4 hl384_4
           replace p384 := eq_true p384
           replace q384 := eq_true q384
           have ea_ := Option.some.inj (hx383_2.symm.trans hx384_2)
           injection ea_ with ea_ en_ ec_
           subst ea_
           subst ec_
           clear en_
           have ea_ := Option.some.inj (hx383_4.symm.trans hx384_4)
           injection ea_ with ea_ en_ ec_
           subst ea_
           subst ec_
           clear en_
           have p385 : 0 ≤ (x5_1 : Int) := of_decide_eq_true Z7
           have q385 : x5_1 < (l0.length : Int) := of_decide_eq_true Z7
           obtain ⟨ad385, A385_2, c385_2, A385_4, c385_4, e385, hx385_0, hx385_1, hx385_2, hx385_3, hx385_4, hx385_5, hl385_2, hi385_2, hl385_4, hi385_4⟩ := at_T122 HR0.out x5_1 p385 q385
           obtain rfl : ad383 = ad385 := (by injection e385)
           replace hx385_0 := ZC HB.out hx385_0
           replace hx385_1 := ZC HB.out hx385_1
           replace hx385_2 := ZC HB.out hx385_2
           replace hx385_3 := ZC HB.out hx385_3
           replace hx385_4 := ZC HB.out hx385_4
           replace hx385_5 := ZC HB.out hx385_5
           have HR385_2 := A_ hi385_2
           have HC385_2 := A_ hl385_2
           clear hi385_2 hl385_2
           have HR385_4 := A_ hi385_4
           have HC385_4 := A_ hl385_4
           clear hi385_4 hl385_4
           replace p385 := eq_true p385
           replace q385 := eq_true q385
           have ea_ := Option.some.inj (hx383_2.symm.trans hx385_2)
           injection ea_ with ea_ en_ ec_
           subst ea_
           subst ec_
           clear en_
           have ea_ := Option.some.inj (hx383_4.symm.trans hx385_4)
           injection ea_ with ea_ en_ ec_
           subst ea_
           subst ec_
           clear en_
           go_wp2_with (first | ((with_reducible refine gate_callee (f := 57) rfl ?_); refine goesL_ (some 37) rfl rfl Try.func57 (by kernel_rfl) rfl #[.slice A383_2 ((rd_T122 l0 x5_1).f2.f0).length c383_2, .int .i64 (wrap64 ((wrap64 (x1_1 + 1)) + 1))] rfl Z3 ?_; (with_reducible refine (laws_heldSlotS.calls k1 _ _ ((rd_T122 l0 x5_1).f2.f0) (wrap64 ((wrap64 (x1_1 + 1)) + 1)) t386 _ ?side1 ?side2 A7.out).mono ?_); (case side1 => exact Z6 HR385_2.out); (case side2 => exact HC385_2.out); rintro e w' ⟨rfl, ⟨nd, rfl⟩⟩; refine ⟨_, rfl, ?_⟩; have p387 : 0 ≤ (x5_1 : Int) := of_decide_eq_true Z7; have q387 : x5_1 < (l0.length : Int) := of_decide_eq_true Z7; obtain ⟨ad387, A387_2, c387_2, A387_4, c387_4, e387, hx387_0, hx387_1, hx387_2, hx387_3, hx387_4, hx387_5, hl387_2, hi387_2, hl387_4, hi387_4⟩ := at_T122 HR0.out x5_1 p387 q387; obtain rfl : ad383 = ad387 := (by injection e387); replace hx387_0 := ZC HB.out hx387_0; replace hx387_1 := ZC HB.out hx387_1; replace hx387_2 := ZC HB.out hx387_2; replace hx387_3 := ZC HB.out hx387_3; replace hx387_4 := ZC HB.out hx387_4; replace hx387_5 := ZC HB.out hx387_5; have HR387_2 := A_ hi387_2; have HC387_2 := A_ hl387_2; clear hi387_2 hl387_2; have HR387_4 := A_ hi387_4; have HC387_4 := A_ hl387_4; clear hi387_4 hl387_4; replace p387 := eq_true p387; replace q387 := eq_true q387; have ea_ := Option.some.inj (hx383_2.symm.trans hx387_2); injection ea_ with ea_ en_ ec_; subst ea_; subst ec_; clear en_; have ea_ := Option.some.inj (hx383_4.symm.trans hx387_4); injection ea_ with ea_ en_ ec_; subst ea_; subst ec_; clear en_; have p388 : 0 ≤ (x5_1 : Int) := of_decide_eq_true Z7; have q388 : x5_1 < (l0.length : Int) := of_decide_eq_true Z7; obtain ⟨ad388, A388_2, c388_2, A388_4, c388_4, e388, hx388_0, hx388_1, hx388_2, hx388_3, hx388_4, hx388_5, hl388_2, hi388_2, hl388_4, hi388_4⟩ := at_T122 HR0.out x5_1 p388 q388; obtain rfl : ad383 = ad388 := (by injection e388); replace hx388_0 := ZC HB.out hx388_0; replace hx388_1 := ZC HB.out hx388_1; replace hx388_2 := ZC HB.out hx388_2; replace hx388_3 := ZC HB.out hx388_3; replace hx388_4 := ZC HB.out hx388_4; replace hx388_5 := ZC HB.out hx388_5; have HR388_2 := A_ hi388_2; have HC388_2 := A_ hl388_2; clear hi388_2 hl388_2; have HR388_4 := A_ hi388_4; have HC388_4 := A_ hl388_4; clear hi388_4 hl388_4; replace p388 := eq_true p388; replace q388 := eq_true q388; have ea_ := Option.some.inj (hx383_2.symm.trans hx388_2); injection ea_ with ea_ en_ ec_; subst ea_; subst ec_; clear en_; have ea_ := Option.some.inj (hx383_4.symm.trans hx388_4); injection ea_ with ea_ en_ ec_; subst ea_; subst ec_; clear en_) | ((with_reducible refine gate_callee (f := 88) rfl ?_); refine goesL_ (some 57) rfl rfl Try.func88 (by kernel_rfl) rfl #[.slice A383_4 ((rd_T122 l0 x5_1).f2.f2).length c383_4, .int .i64 (wrap64 (t386 + 1))] rfl Z3 ?_; (with_reducible refine (laws_heldStepS.calls k1 _ _ ((rd_T122 l0 x5_1).f2.f2) (wrap64 (t386 + 1)) t389 _ ?side1 ?side2 A10.out).mono ?_); (case side1 => repeat (first | exact (Kd.C_below HR388_4.out Z0) | (with_reducible refine Kd.C_alloc ?_ _) | (with_reducible refine Kd.C_drewN ?_ _) | (with_reducible refine Kd.C_drew ?_))); (case side2 => exact HC388_4.out); rintro e w15 ⟨rfl, hb⟩; refine ⟨_, rfl, ?_⟩; have n0_ := A_ (below_step Z0 hb); clear HB; have HB := n0_; clear n0_; (try clear hb); (try clear hb2); (try clear hk); (try clear hi); have p390 : 0 ≤ (x5_1 : Int) := of_decide_eq_true Z7; have q390 : x5_1 < (l0.length : Int) := of_decide_eq_true Z7; obtain ⟨ad390, A390_2, c390_2, A390_4, c390_4, e390, hx390_0, hx390_1, hx390_2, hx390_3, hx390_4, hx390_5, hl390_2, hi390_2, hl390_4, hi390_4⟩ := at_T122 HR0.out x5_1 p390 q390; obtain rfl : ad383 = ad390 := (by injection e390); replace hx390_0 := ZC HB.out hx390_0; replace hx390_1 := ZC HB.out hx390_1; replace hx390_2 := ZC HB.out hx390_2; replace hx390_3 := ZC HB.out hx390_3; replace hx390_4 := ZC HB.out hx390_4; replace hx390_5 := ZC HB.out hx390_5; have HR390_2 := A_ hi390_2; have HC390_2 := A_ hl390_2; clear hi390_2 hl390_2; have HR390_4 := A_ hi390_4; have HC390_4 := A_ hl390_4; clear hi390_4 hl390_4; replace p390 := eq_true p390; replace q390 := eq_true q390))
           go_ret
           exact ⟨Z4, Z0⟩
        ·rw [if_neg c9] at H
         have c9b0 : (((rd_T122 l0 x5_1).f2.f1) == t386) = false := beq_eq_false_iff_ne.mpr c9
         have c9b1 : (((rd_T122 l0 x5_1).f2.f1) != t386) = true := bne_iff_ne.mpr c9
         obtain rfl := Option.some.inj H
         have p383 : 0 ≤ (x5_1 : Int) := of_decide_eq_true Z7
         have q383 : x5_1 < (l0.length : Int) := of_decide_eq_true Z7
         obtain ⟨ad383, A383_2, c383_2, A383_4, c383_4, e383, hx383_0, hx383_1, hx383_2, hx383_3, hx383_4, hx383_5, hl383_2, hi383_2, hl383_4, hi383_4⟩ := at_T122 HR0.out x5_1 p383 q383
         cases e383
         replace hx383_0 := ZC HB.out hx383_0
         replace hx383_1 := ZC HB.out hx383_1
         replace hx383_2 := ZC HB.out hx383_2
         replace hx383_3 := ZC HB.out hx383_3
         replace hx383_4 := ZC HB.out hx383_4
         replace hx383_5 := ZC HB.out hx383_5
         have HR383_2 := A_ hi383_2
         have HC383_2 := A_ hl383_2
         clear hi383_2 hl383_2
         have HR383_4 := A_ hi383_4
         have HC383_4 := A_ hl383_4
         clear hi383_4 hl383_4
         replace p383 := eq_true p383
         replace q383 := eq_true q383
         have p384 : 0 ≤ (x5_1 : Int) := of_decide_eq_true Z7
         have q384 : x5_1 < (l0.length : Int) := of_decide_eq_true Z7
         obtain ⟨ad384, A384_2, c384_2, A384_4, c384_4, e384, hx384_0, hx384_1, hx384_2, hx384_3, hx384_4, hx384_5, hl384_2, hi384_2, hl384_4, hi384_4⟩ := at_T122 HR0.out x5_1 p384 q384
         obtain rfl : ad383 = ad384 := (by injection e384)
         replace hx384_0 := ZC HB.out hx384_0
         replace hx384_1 := ZC HB.out hx384_1
         replace hx384_2 := ZC HB.out hx384_2
         replace hx384_3 := ZC HB.out hx384_3
         replace hx384_4 := ZC HB.out hx384_4
         replace hx384_5 := ZC HB.out hx384_5
         have HR384_2 := A_ hi384_2
         have HC384_2 := A_ hl384_2
         clear hi384_2 hl384_2
         have HR384_4 := A_ hi384_4
         have HC384_4 := A_ hl384_4
         clear hi384_4 hl384_4
         replace p384 := eq_true p384
         replace q384 := eq_true q384
         have ea_ := Option.some.inj (hx383_2.symm.trans hx384_2)
         injection ea_ with ea_ en_ ec_
         subst ea_
         subst ec_
         clear en_
         have ea_ := Option.some.inj (hx383_4.symm.trans hx384_4)
         injection ea_ with ea_ en_ ec_
         subst ea_
         subst ec_
         clear en_
         have p385 : 0 ≤ (x5_1 : Int) := of_decide_eq_true Z7
         have q385 : x5_1 < (l0.length : Int) := of_decide_eq_true Z7
         obtain ⟨ad385, A385_2, c385_2, A385_4, c385_4, e385, hx385_0, hx385_1, hx385_2, hx385_3, hx385_4, hx385_5, hl385_2, hi385_2, hl385_4, hi385_4⟩ := at_T122 HR0.out x5_1 p385 q385
         obtain rfl : ad383 = ad385 := (by injection e385)
         replace hx385_0 := ZC HB.out hx385_0
         replace hx385_1 := ZC HB.out hx385_1
         replace hx385_2 := ZC HB.out hx385_2
         replace hx385_3 := ZC HB.out hx385_3
         replace hx385_4 := ZC HB.out hx385_4
         replace hx385_5 := ZC HB.out hx385_5
         have HR385_2 := A_ hi385_2
         have HC385_2 := A_ hl385_2
         clear hi385_2 hl385_2
         have HR385_4 := A_ hi385_4
         have HC385_4 := A_ hl385_4
         clear hi385_4 hl385_4
         replace p385 := eq_true p385
         replace q385 := eq_true q385
         have ea_ := Option.some.inj (hx383_2.symm.trans hx385_2)
         injection ea_ with ea_ en_ ec_
         subst ea_
         subst ec_
         clear en_
         have ea_ := Option.some.inj (hx383_4.symm.trans hx385_4)
         injection ea_ with ea_ en_ ec_
         subst ea_
         subst ec_
         clear en_
         go_wp2_with (first | ((with_reducible refine gate_callee (f := 57) rfl ?_); refine goesL_ (some 37) rfl rfl Try.func57 (by kernel_rfl) rfl #[.slice A383_2 ((rd_T122 l0 x5_1).f2.f0).length c383_2, .int .i64 (wrap64 ((wrap64 (x1_1 + 1)) + 1))] rfl Z3 ?_; (with_reducible refine (laws_heldSlotS.calls k1 _ _ ((rd_T122 l0 x5_1).f2.f0) (wrap64 ((wrap64 (x1_1 + 1)) + 1)) t386 _ ?side1 ?side2 A7.out).mono ?_); (case side1 => exact Z6 HR385_2.out); (case side2 => exact HC385_2.out); rintro e w' ⟨rfl, ⟨nd, rfl⟩⟩; refine ⟨_, rfl, ?_⟩; have p387 : 0 ≤ (x5_1 : Int) := of_decide_eq_true Z7; have q387 : x5_1 < (l0.length : Int) := of_decide_eq_true Z7; obtain ⟨ad387, A387_2, c387_2, A387_4, c387_4, e387, hx387_0, hx387_1, hx387_2, hx387_3, hx387_4, hx387_5, hl387_2, hi387_2, hl387_4, hi387_4⟩ := at_T122 HR0.out x5_1 p387 q387; obtain rfl : ad383 = ad387 := (by injection e387); replace hx387_0 := ZC HB.out hx387_0; replace hx387_1 := ZC HB.out hx387_1; replace hx387_2 := ZC HB.out hx387_2; replace hx387_3 := ZC HB.out hx387_3; replace hx387_4 := ZC HB.out hx387_4; replace hx387_5 := ZC HB.out hx387_5; have HR387_2 := A_ hi387_2; have HC387_2 := A_ hl387_2; clear hi387_2 hl387_2; have HR387_4 := A_ hi387_4; have HC387_4 := A_ hl387_4; clear hi387_4 hl387_4; replace p387 := eq_true p387; replace q387 := eq_true q387; have ea_ := Option.some.inj (hx383_2.symm.trans hx387_2); injection ea_ with ea_ en_ ec_; subst ea_; subst ec_; clear en_; have ea_ := Option.some.inj (hx383_4.symm.trans hx387_4); injection ea_ with ea_ en_ ec_; subst ea_; subst ec_; clear en_))
         go_ret
         exact ⟨Z4, Z0⟩
      ·rw [if_neg c6] at H
       have c6b0 : (((rd_T122 l0 x5_1).f1) == (wrap64 (x1_1 + 1))) = false := beq_eq_false_iff_ne.mpr c6
       have c6b1 : (((rd_T122 l0 x5_1).f1) != (wrap64 (x1_1 + 1))) = true := bne_iff_ne.mpr c6
       obtain rfl := Option.some.inj H
       have p383 : 0 ≤ (x5_1 : Int) := of_decide_eq_true Z7
       have q383 : x5_1 < (l0.length : Int) := of_decide_eq_true Z7
       obtain ⟨ad383, A383_2, c383_2, A383_4, c383_4, e383, hx383_0, hx383_1, hx383_2, hx383_3, hx383_4, hx383_5, hl383_2, hi383_2, hl383_4, hi383_4⟩ := at_T122 HR0.out x5_1 p383 q383
       cases e383
       replace hx383_0 := ZC HB.out hx383_0
       replace hx383_1 := ZC HB.out hx383_1
       replace hx383_2 := ZC HB.out hx383_2
       replace hx383_3 := ZC HB.out hx383_3
       replace hx383_4 := ZC HB.out hx383_4
       replace hx383_5 := ZC HB.out hx383_5
       have HR383_2 := A_ hi383_2
       have HC383_2 := A_ hl383_2
       clear hi383_2 hl383_2
       have HR383_4 := A_ hi383_4
       have HC383_4 := A_ hl383_4
       clear hi383_4 hl383_4
       replace p383 := eq_true p383
       replace q383 := eq_true q383
       have p384 : 0 ≤ (x5_1 : Int) := of_decide_eq_true Z7
       have q384 : x5_1 < (l0.length : Int) := of_decide_eq_true Z7
       obtain ⟨ad384, A384_2, c384_2, A384_4, c384_4, e384, hx384_0, hx384_1, hx384_2, hx384_3, hx384_4, hx384_5, hl384_2, hi384_2, hl384_4, hi384_4⟩ := at_T122 HR0.out x5_1 p384 q384
       obtain rfl : ad383 = ad384 := (by injection e384)
       replace hx384_0 := ZC HB.out hx384_0
       replace hx384_1 := ZC HB.out hx384_1
       replace hx384_2 := ZC HB.out hx384_2
       replace hx384_3 := ZC HB.out hx384_3
       replace hx384_4 := ZC HB.out hx384_4
       replace hx384_5 := ZC HB.out hx384_5
       have HR384_2 := A_ hi384_2
       have HC384_2 := A_ hl384_2
       clear hi384_2 hl384_2
       have HR384_4 := A_ hi384_4
       have HC384_4 := A_ hl384_4
       clear hi384_4 hl384_4
       replace p384 := eq_true p384
       replace q384 := eq_true q384
       have ea_ := Option.some.inj (hx383_2.symm.trans hx384_2)
       injection ea_ with ea_ en_ ec_
       subst ea_
       subst ec_
       clear en_
       have ea_ := Option.some.inj (hx383_4.symm.trans hx384_4)
       injection ea_ with ea_ en_ ec_
       subst ea_
       subst ec_
       clear en_
       go_wp2
       go_ret
       exact ⟨Z4, Z0⟩
     ·rw [if_neg c5] at H
      have c5b0 : (((rd_T122 l0 x5_1).f0) == x1_1) = false := beq_eq_false_iff_ne.mpr c5
      have c5b1 : (((rd_T122 l0 x5_1).f0) != x1_1) = true := bne_iff_ne.mpr c5
      obtain rfl := Option.some.inj H
      have p383 : 0 ≤ (x5_1 : Int) := of_decide_eq_true Z7
      have q383 : x5_1 < (l0.length : Int) := of_decide_eq_true Z7
      obtain ⟨ad383, A383_2, c383_2, A383_4, c383_4, e383, hx383_0, hx383_1, hx383_2, hx383_3, hx383_4, hx383_5, hl383_2, hi383_2, hl383_4, hi383_4⟩ := at_T122 HR0.out x5_1 p383 q383
      cases e383
      replace hx383_0 := ZC HB.out hx383_0
      replace hx383_1 := ZC HB.out hx383_1
      replace hx383_2 := ZC HB.out hx383_2
      replace hx383_3 := ZC HB.out hx383_3
      replace hx383_4 := ZC HB.out hx383_4
      replace hx383_5 := ZC HB.out hx383_5
      have HR383_2 := A_ hi383_2
      have HC383_2 := A_ hl383_2
      clear hi383_2 hl383_2
      have HR383_4 := A_ hi383_4
      have HC383_4 := A_ hl383_4
      clear hi383_4 hl383_4
      replace p383 := eq_true p383
      replace q383 := eq_true q383
      go_wp2
      go_ret
      exact ⟨Z4, Z0⟩
    ·rw [if_neg c4] at H
     exact absurd H (by simp)
   ·rw [if_neg c3] at H
    have c3b0 : decide (x5_1 < (l0.length : Int)) = false := decide_eq_false c3
    clear c3
    obtain rfl := Option.some.inj H
    go_wp2
    go_ret
    exact ⟨Z4, Z0⟩
end Go.Proofs.Ytpadhphdglbciaa.PFnExactTurnsCut
