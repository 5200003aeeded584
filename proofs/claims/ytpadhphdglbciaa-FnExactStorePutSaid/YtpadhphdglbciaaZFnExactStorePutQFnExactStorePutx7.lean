/- Walks of the functions that the law 'FnExactStorePut' reaches, part 7: for each a Lean function and the proof that Go's comes to just its answer (lines of the print, under own names; no condition). -/
import Derived.Test.YtpadhphdglbciaaZFnExactStorePutQFnExactStorePutx0
import Derived.Test.YtpadhphdglbciaaZFnExactStorePutQFnExactStorePutx1
namespace Go.Proofs.Ytpadhphdglbciaa.PFnExactStorePut
open Go.RowKit Go.Proofs.YtpadhphdglbciaaW.PrintWords Go.Proofs.YtpadhphdglbciaaW.PrintLast Go.Proofs.YtpadhphdglbciaaW.PrintMore
attribute [local go_sem] max2_int min2_int max_two min_two max_three min_three max_four min_four
set_option linter.unusedVariables false
set_option linter.unusedSimpArgs false
attribute [local go_sem high] eqA92
mutual
def spec_comparePlaces.l0 : Nat → List (S92) → List (S92) → Int → Option (Int)
 | 0, _, _, _ => none
 | k + 1, x0, x1, x5 => if x5 < (x0.length : Int) then (spec_comparePlaces.j1 k x0 x1 x5 (decide (x5 < (x1.length : Int)))) else (spec_comparePlaces.j1 k x0 x1 x5 false)
def spec_comparePlaces.j1 : Nat → List (S92) → List (S92) → Int → Bool → Option (Int)
 | 0, _, _, _, _ => none
 | k + 1, x0, x1, x5, x15 => if x15 = true then (if 0 ≤ x5 then (if x5 < (x0.length : Int) then (if x5 < (x1.length : Int) then (if ((rd_T92 x0 x5).f0) < ((rd_T92 x1 x5).f0) then (spec_comparePlaces.j2 k x0 x1 x5 (decide (((rd_T92 x0 x5).f0) < ((rd_T92 x1 x5).f0)))) else (if ((rd_T92 x0 x5).f0) = ((rd_T92 x1 x5).f0) then (spec_comparePlaces.j2 k x0 x1 x5 (decide (((rd_T92 x0 x5).f1) < ((rd_T92 x1 x5).f1)))) else (spec_comparePlaces.j2 k x0 x1 x5 false))) else (none)) else (none)) else (none)) else (if (x0.length : Int) < (x1.length : Int) then (some (-1)) else (if (x0.length : Int) > (x1.length : Int) then (some 1) else (some 0)))
def spec_comparePlaces.j2 : Nat → List (S92) → List (S92) → Int → Bool → Option (Int)
 | 0, _, _, _, _ => none
 | k + 1, x0, x1, x5, x18 => if x18 = true then (some (-1)) else (if 0 ≤ x5 then (if x5 < (x0.length : Int) then (if x5 < (x1.length : Int) then (if (!(((rd_T92 x0 x5).f0) == ((rd_T92 x1 x5).f0)) || (!(((rd_T92 x0 x5).f1) == ((rd_T92 x1 x5).f1)))) = true then (some 1) else (spec_comparePlaces.l0 k x0 x1 (wrap64 (x5 + 1)))) else (none)) else (none)) else (none))
end
def spec_comparePlaces.f (k : Nat) (l0 : List (S92)) (l1 : List (S92)) : Option (Int) := spec_comparePlaces.l0 k l0 l1 0
theorem spec_comparePlaces.mono_l : ∀ k, (∀ y0 y1 y2, LeO (spec_comparePlaces.l0 k y0 y1 y2) (spec_comparePlaces.l0 (k + 1) y0 y1 y2)) ∧ (∀ y0 y1 y2 y3, LeO (spec_comparePlaces.j1 k y0 y1 y2 y3) (spec_comparePlaces.j1 (k + 1) y0 y1 y2 y3)) ∧ (∀ y0 y1 y2 y3, LeO (spec_comparePlaces.j2 k y0 y1 y2 y3) (spec_comparePlaces.j2 (k + 1) y0 y1 y2 y3))
 | 0 => ⟨fun _ _ _ r h => by simp [spec_comparePlaces.l0] at h, fun _ _ _ _ r h => by simp [spec_comparePlaces.j1] at h, fun _ _ _ _ r h => by simp [spec_comparePlaces.j2] at h⟩
 | k + 1 => by
  obtain ⟨ih0, ih1, ih2⟩ := spec_comparePlaces.mono_l k
  refine ⟨?_, ?_, ?_⟩
  ·intro y0 y1 y2
   unfold spec_comparePlaces.l0
   repeat' first
   | (with_reducible exact ih0 _ _ _)
   | (with_reducible exact ih1 _ _ _ _)
   | (with_reducible exact ih2 _ _ _ _)
   | (with_reducible exact LeO.refl _)
   | (with_reducible exact LeO.none _)
   | (with_reducible refine LeO.ite ?_ ?_)
   | (with_reducible refine LeO.bind ?_ (fun _ => ?_))
   | exact ih0 _ _ _
   | exact ih1 _ _ _ _
   | exact ih2 _ _ _ _
   | exact LeO.none _
   | refine LeO.ite ?_ ?_
   | refine LeO.bind ?_ (fun _ => ?_)
  ·intro y0 y1 y2 y3
   unfold spec_comparePlaces.j1
   repeat' first
   | (with_reducible exact ih0 _ _ _)
   | (with_reducible exact ih1 _ _ _ _)
   | (with_reducible exact ih2 _ _ _ _)
   | (with_reducible exact LeO.refl _)
   | (with_reducible exact LeO.none _)
   | (with_reducible refine LeO.ite ?_ ?_)
   | (with_reducible refine LeO.bind ?_ (fun _ => ?_))
   | exact ih0 _ _ _
   | exact ih1 _ _ _ _
   | exact ih2 _ _ _ _
   | exact LeO.none _
   | refine LeO.ite ?_ ?_
   | refine LeO.bind ?_ (fun _ => ?_)
  ·intro y0 y1 y2 y3
   unfold spec_comparePlaces.j2
   repeat' first
   | (with_reducible exact ih0 _ _ _)
   | (with_reducible exact ih1 _ _ _ _)
   | (with_reducible exact ih2 _ _ _ _)
   | (with_reducible exact LeO.refl _)
   | (with_reducible exact LeO.none _)
   | (with_reducible refine LeO.ite ?_ ?_)
   | (with_reducible refine LeO.bind ?_ (fun _ => ?_))
   | exact ih0 _ _ _
   | exact ih1 _ _ _ _
   | exact ih2 _ _ _ _
   | exact LeO.none _
   | refine LeO.ite ?_ ?_
   | refine LeO.bind ?_ (fun _ => ?_)
theorem spec_comparePlaces.mono : ∀ a0 a1 k, LeO (spec_comparePlaces.f k a0 a1) (spec_comparePlaces.f (k + 1) a0 a1) := by
 intro a0 a1 k
 obtain ⟨ih0, ih1, ih2⟩ := spec_comparePlaces.mono_l k
 unfold spec_comparePlaces.f
 repeat' first
   | (with_reducible exact ih0 _ _ _)
   | (with_reducible exact ih1 _ _ _ _)
   | (with_reducible exact ih2 _ _ _ _)
   | (with_reducible exact LeO.refl _)
   | (with_reducible exact LeO.none _)
   | (with_reducible refine LeO.ite ?_ ?_)
   | (with_reducible refine LeO.bind ?_ (fun _ => ?_))
   | exact ih0 _ _ _
   | exact ih1 _ _ _ _
   | exact ih2 _ _ _ _
   | exact LeO.none _
   | refine LeO.ite ?_ ?_
   | refine LeO.bind ?_ (fun _ => ?_)
set_option maxHeartbeats 8000000 in
set_option maxRecDepth 100000 in
theorem spec_comparePlaces.calls (k : Nat) (A0 : Option Addr) (c0 : Nat) (l0 : List (S92)) (A1 : Option Addr) (c1 : Nat) (l1 : List (S92)) (r : Int) (w : World) (hr0 : Kd.C k92 w A0 l0.length l0) (hc0 : l0.length ≤ c0) (hr1 : Kd.C k92 w A1 l1.length l1) (hc1 : l1.length ≤ c1) (h : spec_comparePlaces.f k l0 l1 = some r) :
  Calls Try.prog 90 #[.slice A0 l0.length c0, .slice A1 l1.length c1] w fun e w' => e = .returned (.int .i64 r) ∧ Drawn0 w w' := by
 have hu92 := Try.underlying92
 have HR0 := A_ hr0
 have HC0 := A_ hc0
 clear hr0 hc0
 have HR1 := A_ hr1
 have HC1 := A_ hc1
 clear hr1 hc1
 have H : (spec_comparePlaces.l0 k l0 l1 0) = some r := h
 clear h
 have H' := A_ H
 clear H
 go_enter Try.func90, Try.ntmps90
 go_wp2
 repeat (go_quiet (fail); try go_wp2)
 go_loopg [5] k (fun kq v5 w' => ∃ (x5_1 : Int), v5 = .int .i64 x5_1 ∧ Aside0 (spec_comparePlaces.l0 kq l0 l1 x5_1 = some r) ∧ Aside0 (kq ≤ k) ∧ Drawn0 w w')
 case atStart => exact ⟨(0), Z17, H', ⟨Nat.le_refl _⟩, Z23⟩
 case round =>
  clear H'
  try clear c1
  try clear p2
  obtain ⟨x5_1, rfl, HA, HK1, ⟨m1, rfl⟩⟩ := hrel
  cases gk with
  | zero => exact absurd HA.out (by simp [spec_comparePlaces.l0])
  | succ k1 =>
   have H := HA.out
   clear HA
   simp only [spec_comparePlaces.l0] at H
   have HC3 := A_ H
   clear H
   go_upto_region 2 with (fail)
   repeat (go_quiet (fail); go_upto_region 2 with (fail))
   go_cut [15] (fun v15 wc => ∃ (kq : Nat) (x15_2 : Bool), v15 = .bool x15_2 ∧ Aside0 (spec_comparePlaces.j1 kq l0 l1 x5_1 x15_2 = some r) ∧ Aside0 (kq ≤ k1) ∧ Drawn0 w wc)
   case first =>
    have H := HC3.out
    clear HC3
    by_cases c4 : x5_1 < (l0.length : Int)
    ·rw [if_pos c4] at H
     have c4b0 : decide (x5_1 < (l0.length : Int)) = true := decide_eq_true c4
     clear c4
     (first | rw [c4b0] | (simp only [i64_w, i32_w]; rw [c4b0]) | skip)
     have H' := A_ H
     clear H
     go_wp2
     repeat (go_quiet (fail); try go_wp2)
     go_meet
     case rel => exact ⟨_, (decide (x5_1 < (l1.length : Int))), Z17, H', ⟨by have := HK1.out; first | omega | exact Nat.le_refl _⟩, Z23⟩
    ·rw [if_neg c4] at H
     have c4b0 : decide (x5_1 < (l0.length : Int)) = false := decide_eq_false c4
     clear c4
     (first | rw [c4b0] | (simp only [i64_w, i32_w]; rw [c4b0]) | skip)
     have H' := A_ H
     clear H
     go_wp2
     repeat (go_quiet (fail); try go_wp2)
     go_meet
     case rel => exact ⟨_, (false), Z17, H', ⟨by have := HK1.out; first | omega | exact Nat.le_refl _⟩, Z23⟩
   case rest =>
    clear HC3
    try clear c1
    try clear p2
    try clear c4
    try clear c4b0
    try clear p2
    obtain ⟨kq, x15_2, rfl, HA, HJ2, ⟨mc2, rfl⟩⟩ := hcut
    cases kq with
    | zero => exact absurd HA.out (by simp [spec_comparePlaces.j1])
    | succ kj2 =>
     have H := HA.out
     clear HA
     simp only [spec_comparePlaces.j1] at H
     by_cases c5 : x15_2 = true
     ·subst c5
      have H1 : (if 0 ≤ x5_1 then (if x5_1 < (l0.length : Int) then (if x5_1 < (l1.length : Int) then (if ((rd_T92 l0 x5_1).f0) < ((rd_T92 l1 x5_1).f0) then (spec_comparePlaces.j2 kj2 l0 l1 x5_1 (decide (((rd_T92 l0 x5_1).f0) < ((rd_T92 l1 x5_1).f0)))) else (if ((rd_T92 l0 x5_1).f0) = ((rd_T92 l1 x5_1).f0) then (spec_comparePlaces.j2 kj2 l0 l1 x5_1 (decide (((rd_T92 l0 x5_1).f1) < ((rd_T92 l1 x5_1).f1)))) else (spec_comparePlaces.j2 kj2 l0 l1 x5_1 false))) else (none)) else (none)) else (none)) = some r := by rw [if_pos rfl] at H; exact H
      clear H
      have H := H1
      clear H1
      by_cases c6 : 0 ≤ x5_1
      ·rw [if_pos c6] at H
       have c6b0 : decide (0 ≤ x5_1) = true := decide_eq_true c6
       clear c6
       by_cases c7 : x5_1 < (l0.length : Int)
       ·rw [if_pos c7] at H
        have c7b0 : decide (x5_1 < (l0.length : Int)) = true := decide_eq_true c7
        clear c7
        by_cases c8 : x5_1 < (l1.length : Int)
        ·rw [if_pos c8] at H
         have c8b0 : decide (x5_1 < (l1.length : Int)) = true := decide_eq_true c8
         clear c8
         have HC9 := A_ H
         clear H
         have p197 : 0 ≤ (x5_1 : Int) := of_decide_eq_true Z13
         have q197 : x5_1 < (l0.length : Int) := of_decide_eq_true Z13
         obtain ⟨ad197, e197, hx197_0, hx197_1⟩ := at_T92 HR0.out x5_1 p197 q197
         cases e197
         replace p197 := eq_true p197
         replace q197 := eq_true q197
         have p198 : 0 ≤ (x5_1 : Int) := of_decide_eq_true Z13
         have q198 : x5_1 < (l1.length : Int) := of_decide_eq_true Z13
         obtain ⟨ad198, e198, hx198_0, hx198_1⟩ := at_T92 HR1.out x5_1 p198 q198
         cases e198
         replace p198 := eq_true p198
         replace q198 := eq_true q198
         go_upto_if 18 with (fail)
         repeat (go_quiet (fail); go_upto_if 18 with (fail))
         go_cut [18] (fun v18 wc => ∃ (kq : Nat) (x18_8 : Bool), v18 = .bool x18_8 ∧ Aside0 (spec_comparePlaces.j2 kq l0 l1 x5_1 x18_8 = some r) ∧ Aside0 (kq ≤ kj2) ∧ Drawn0 w wc)
         case first =>
          have H := HC9.out
          clear HC9
          by_cases c10 : ((rd_T92 l0 x5_1).f0) < ((rd_T92 l1 x5_1).f0)
          ·rw [if_pos c10] at H
           have c10b0 : decide (((rd_T92 l0 x5_1).f0) < ((rd_T92 l1 x5_1).f0)) = true := decide_eq_true c10
           clear c10
           (first | rw [c10b0] | (simp only [i64_w, i32_w]; rw [c10b0]) | skip)
           have H' := A_ H
           clear H
           go_wp2
           repeat (go_quiet (fail); try go_wp2)
           go_meet
           case rel => exact ⟨_, (decide (((rd_T92 l0 x5_1).f0) < ((rd_T92 l1 x5_1).f0))), Z17, H', ⟨by have := HK1.out; have := HJ2.out; first | omega | exact Nat.le_refl _⟩, Z23⟩
          ·rw [if_neg c10] at H
           have c10b0 : decide (((rd_T92 l0 x5_1).f0) < ((rd_T92 l1 x5_1).f0)) = false := decide_eq_false c10
           clear c10
           (first | rw [c10b0] | (simp only [i64_w, i32_w]; rw [c10b0]) | skip)
           by_cases c11 : ((rd_T92 l0 x5_1).f0) = ((rd_T92 l1 x5_1).f0)
           ·rw [if_pos c11] at H
            have c11b0 : (((rd_T92 l0 x5_1).f0) == ((rd_T92 l1 x5_1).f0)) = true := beq_iff_eq.mpr c11
            have c11b1 : (((rd_T92 l0 x5_1).f0) != ((rd_T92 l1 x5_1).f0)) = false := bne_eq_false_iff_eq.mpr c11
            clear c11
            have H' := A_ H
            clear H
            have p199 : 0 ≤ (x5_1 : Int) := of_decide_eq_true Z13
            have q199 : x5_1 < (l0.length : Int) := of_decide_eq_true Z13
            obtain ⟨ad199, e199, hx199_0, hx199_1⟩ := at_T92 HR0.out x5_1 p199 q199
            obtain rfl : ad197 = ad199 := (by injection e199)
            replace p199 := eq_true p199
            replace q199 := eq_true q199
            have p200 : 0 ≤ (x5_1 : Int) := of_decide_eq_true Z13
            have q200 : x5_1 < (l1.length : Int) := of_decide_eq_true Z13
            obtain ⟨ad200, e200, hx200_0, hx200_1⟩ := at_T92 HR1.out x5_1 p200 q200
            obtain rfl : ad198 = ad200 := (by injection e200)
            replace p200 := eq_true p200
            replace q200 := eq_true q200
            have p201 : 0 ≤ (x5_1 : Int) := of_decide_eq_true Z13
            have q201 : x5_1 < (l0.length : Int) := of_decide_eq_true Z13
            obtain ⟨ad201, e201, hx201_0, hx201_1⟩ := at_T92 HR0.out x5_1 p201 q201
            obtain rfl : ad197 = ad201 := (by injection e201)
            replace p201 := eq_true p201
            replace q201 := eq_true q201
            have p202 : 0 ≤ (x5_1 : Int) := of_decide_eq_true Z13
            have q202 : x5_1 < (l1.length : Int) := of_decide_eq_true Z13
            obtain ⟨ad202, e202, hx202_0, hx202_1⟩ := at_T92 HR1.out x5_1 p202 q202
            obtain rfl : ad198 = ad202 := (by injection e202)
            replace p202 := eq_true p202
            replace q202 := eq_true q202
            go_wp2
            repeat (go_quiet (fail); try go_wp2)
            go_meet
            case rel => exact ⟨_, (decide (((rd_T92 l0 x5_1).f1) < ((rd_T92 l1 x5_1).f1))), Z17, H', ⟨by have := HK1.out; have := HJ2.out; first | omega | exact Nat.le_refl _⟩, Z23⟩
           ·rw [if_neg c11] at H
            have c11b0 : (((rd_T92 l0 x5_1).f0) == ((rd_T92 l1 x5_1).f0)) = false := beq_eq_false_iff_ne.mpr c11
            have c11b1 : (((rd_T92 l0 x5_1).f0) != ((rd_T92 l1 x5_1).f0)) = true := bne_iff_ne.mpr c11
            have H' := A_ H
            clear H
            have p199 : 0 ≤ (x5_1 : Int) := of_decide_eq_true Z13
            have q199 : x5_1 < (l0.length : Int) := of_decide_eq_true Z13
            obtain ⟨ad199, e199, hx199_0, hx199_1⟩ := at_T92 HR0.out x5_1 p199 q199
            obtain rfl : ad197 = ad199 := (by injection e199)
            replace p199 := eq_true p199
            replace q199 := eq_true q199
            have p200 : 0 ≤ (x5_1 : Int) := of_decide_eq_true Z13
            have q200 : x5_1 < (l1.length : Int) := of_decide_eq_true Z13
            obtain ⟨ad200, e200, hx200_0, hx200_1⟩ := at_T92 HR1.out x5_1 p200 q200
            obtain rfl : ad198 = ad200 := (by injection e200)
            replace p200 := eq_true p200
            replace q200 := eq_true q200
            go_wp2
            repeat (go_quiet (fail); try go_wp2)
            go_meet
            case rel => exact ⟨_, (false), Z17, H', ⟨by have := HK1.out; have := HJ2.out; first | omega | exact Nat.le_refl _⟩, Z23⟩
         case rest =>
          clear HC9
          try clear c1
          try clear p1
          try clear q1
          try clear hx1
          try clear c2
          try clear p2
          try clear q2
          try clear hx2
          try clear c4
          try clear c4b0
          try clear c5
          try clear c6
          try clear c6b0
          try clear c7
          try clear c7b0
          try clear c8
          try clear c8b0
          try clear c9
          try clear c10
          try clear c10b0
          try clear c11
          try clear c11b0
          try clear c11b1
          try clear hx197_0
          try clear hx197_1
          try clear hx198_0
          try clear hx198_1
          try clear hx199_0
          try clear hx199_1
          try clear hx200_0
          try clear hx200_1
          try clear hx201_0
          try clear hx201_1
          try clear hx202_0
          try clear hx202_1
          try clear p197
          try clear p198
          try clear p199
          try clear p2
          try clear p200
          try clear p201
          try clear p202
          try clear q197
          try clear q198
          try clear q199
          try clear q200
          try clear q201
          try clear q202
          obtain ⟨kq, x18_8, rfl, HA, HJ8, ⟨mc8, rfl⟩⟩ := hcut
          cases kq with
          | zero => exact absurd HA.out (by simp [spec_comparePlaces.j2])
          | succ kj8 =>
           have H := HA.out
           clear HA
           simp only [spec_comparePlaces.j2] at H
           by_cases c12 : x18_8 = true
           ·subst c12
            have H1 : (some (-1)) = some r := by rw [if_pos rfl] at H; exact H
            clear H
            have H := H1
            clear H1
            obtain rfl := Option.some.inj H
            go_wp2
            repeat (go_quiet (fail); try go_wp2)
            go_ret
            exact ⟨Z17, Z23⟩
           ·replace c12 := Bool.eq_false_iff.mpr c12
            subst c12
            have H1 : (if 0 ≤ x5_1 then (if x5_1 < (l0.length : Int) then (if x5_1 < (l1.length : Int) then (if (!(((rd_T92 l0 x5_1).f0) == ((rd_T92 l1 x5_1).f0)) || (!(((rd_T92 l0 x5_1).f1) == ((rd_T92 l1 x5_1).f1)))) = true then (some 1) else (spec_comparePlaces.l0 kj8 l0 l1 (wrap64 (x5_1 + 1)))) else (none)) else (none)) else (none)) = some r := by rw [if_neg (show ¬ (false = true) by decide)] at H; exact H
            clear H
            have H := H1
            clear H1
            by_cases c13 : 0 ≤ x5_1
            ·rw [if_pos c13] at H
             have c13b0 : decide (0 ≤ x5_1) = true := decide_eq_true c13
             clear c13
             by_cases c14 : x5_1 < (l0.length : Int)
             ·rw [if_pos c14] at H
              have c14b0 : decide (x5_1 < (l0.length : Int)) = true := decide_eq_true c14
              clear c14
              by_cases c15 : x5_1 < (l1.length : Int)
              ·rw [if_pos c15] at H
               have c15b0 : decide (x5_1 < (l1.length : Int)) = true := decide_eq_true c15
               clear c15
               by_cases c16 : (!(((rd_T92 l0 x5_1).f0) == ((rd_T92 l1 x5_1).f0)) || (!(((rd_T92 l0 x5_1).f1) == ((rd_T92 l1 x5_1).f1)))) = true
               ·rw [if_pos c16] at H
                have c16b0 : (!(((rd_T92 l0 x5_1).f0) == ((rd_T92 l1 x5_1).f0)) || (!(((rd_T92 l0 x5_1).f1) == ((rd_T92 l1 x5_1).f1)))) = true := c16
                clear c16
                obtain rfl := Option.some.inj H
                have p203 : 0 ≤ (x5_1 : Int) := of_decide_eq_true Z13
                have q203 : x5_1 < (l0.length : Int) := of_decide_eq_true Z13
                obtain ⟨ad203, e203, hx203_0, hx203_1⟩ := at_T92 HR0.out x5_1 p203 q203
                obtain rfl : ad197 = ad203 := (by injection e203)
                replace p203 := eq_true p203
                replace q203 := eq_true q203
                have p204 : 0 ≤ (x5_1 : Int) := of_decide_eq_true Z13
                have q204 : x5_1 < (l1.length : Int) := of_decide_eq_true Z13
                obtain ⟨ad204, e204, hx204_0, hx204_1⟩ := at_T92 HR1.out x5_1 p204 q204
                obtain rfl : ad198 = ad204 := (by injection e204)
                replace p204 := eq_true p204
                replace q204 := eq_true q204
                go_wp2
                repeat (go_quiet (fail); try go_wp2)
                go_ret
                exact ⟨Z17, Z23⟩
               ·rw [if_neg c16] at H
                have c16b0 : (!(((rd_T92 l0 x5_1).f0) == ((rd_T92 l1 x5_1).f0)) || (!(((rd_T92 l0 x5_1).f1) == ((rd_T92 l1 x5_1).f1)))) = false := by simpa using c16
                clear c16
                have H' := A_ H
                clear H
                have p203 : 0 ≤ (x5_1 : Int) := of_decide_eq_true Z13
                have q203 : x5_1 < (l0.length : Int) := of_decide_eq_true Z13
                obtain ⟨ad203, e203, hx203_0, hx203_1⟩ := at_T92 HR0.out x5_1 p203 q203
                obtain rfl : ad197 = ad203 := (by injection e203)
                replace p203 := eq_true p203
                replace q203 := eq_true q203
                have p204 : 0 ≤ (x5_1 : Int) := of_decide_eq_true Z13
                have q204 : x5_1 < (l1.length : Int) := of_decide_eq_true Z13
                obtain ⟨ad204, e204, hx204_0, hx204_1⟩ := at_T92 HR1.out x5_1 p204 q204
                obtain rfl : ad198 = ad204 := (by injection e204)
                replace p204 := eq_true p204
                replace q204 := eq_true q204
                go_wp2
                repeat (go_quiet (fail); try go_wp2)
                go_roundg kj8
                case measure => have := HK1.out; have := HJ2.out; have := HJ8.out; omega
                case rel => exact ⟨(wrap64 (x5_1 + 1)), Z17, H', ⟨by have := HK1.out; have := HJ2.out; have := HJ8.out; omega⟩, Z23⟩
              ·rw [if_neg c15] at H
               exact absurd H (by simp)
             ·rw [if_neg c14] at H
              exact absurd H (by simp)
            ·rw [if_neg c13] at H
             exact absurd H (by simp)
        ·rw [if_neg c8] at H
         exact absurd H (by simp)
       ·rw [if_neg c7] at H
        exact absurd H (by simp)
      ·rw [if_neg c6] at H
       exact absurd H (by simp)
     ·replace c5 := Bool.eq_false_iff.mpr c5
      subst c5
      have H1 : (if (l0.length : Int) < (l1.length : Int) then (some (-1)) else (if (l0.length : Int) > (l1.length : Int) then (some 1) else (some 0))) = some r := by rw [if_neg (show ¬ (false = true) by decide)] at H; exact H
      clear H
      have H := H1
      clear H1
      by_cases c17 : (l0.length : Int) < (l1.length : Int)
      ·rw [if_pos c17] at H
       have c17b0 : decide ((l0.length : Int) < (l1.length : Int)) = true := decide_eq_true c17
       have c17b1 : decide (l0.length < l1.length) = true := decide_eq_true (Int.ofNat_lt.mp c17)
       clear c17
       obtain rfl := Option.some.inj H
       go_wp2
       repeat (go_quiet (fail); try go_wp2)
       go_ret
       exact ⟨Z17, Z23⟩
      ·rw [if_neg c17] at H
       have c17b0 : decide ((l0.length : Int) < (l1.length : Int)) = false := decide_eq_false c17
       have c17b1 : decide (l0.length < l1.length) = false := decide_eq_false (fun h => c17 (Int.ofNat_lt.mpr h))
       clear c17
       by_cases c18 : (l0.length : Int) > (l1.length : Int)
       ·rw [if_pos c18] at H
        have c18b0 : decide ((l1.length : Int) < (l0.length : Int)) = true := decide_eq_true c18
        have c18b1 : decide (l1.length < l0.length) = true := decide_eq_true (Int.ofNat_lt.mp c18)
        clear c18
        obtain rfl := Option.some.inj H
        go_wp2
        repeat (go_quiet (fail); try go_wp2)
        go_ret
        exact ⟨Z17, Z23⟩
       ·rw [if_neg c18] at H
        have c18b0 : decide ((l1.length : Int) < (l0.length : Int)) = false := decide_eq_false c18
        have c18b1 : decide (l1.length < l0.length) = false := decide_eq_false (fun h => c18 (Int.ofNat_lt.mpr h))
        clear c18
        obtain rfl := Option.some.inj H
        go_wp2
        repeat (go_quiet (fail); try go_wp2)
        go_ret
        exact ⟨Z17, Z23⟩
end Go.Proofs.Ytpadhphdglbciaa.PFnExactStorePut
