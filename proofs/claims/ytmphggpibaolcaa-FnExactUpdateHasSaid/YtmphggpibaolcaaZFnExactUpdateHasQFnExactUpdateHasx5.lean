/- Walks of the functions that the law 'FnExactUpdateHas' reaches, part 5: for each a Lean function and the proof that Go's comes to just its answer (lines of the print, under own names; no condition). -/
import Derived.Test.YtmphggpibaolcaaZFnExactUpdateHasQFnExactUpdateHasx0
import Derived.Test.YtmphggpibaolcaaZFnExactUpdateHasQFnExactUpdateHasx1
namespace Go.Proofs.Ytmphggpibaolcaa.PFnExactUpdateHas
open Go.RowKit Go.Proofs.YtmphggpibaolcaaW.PrintWords Go.Proofs.YtmphggpibaolcaaW.PrintLast Go.Proofs.YtmphggpibaolcaaW.PrintMore
attribute [local go_sem] max2_int min2_int max_two min_two max_three min_three max_four min_four
set_option linter.unusedVariables false
set_option linter.unusedSimpArgs false
attribute [local go_sem high] eqA121
mutual
def spec_comparePlaces.l0 : Nat → List (S121) → List (S121) → Int → Option (Int)
 | 0, _, _, _ => none
 | k + 1, x0, x1, x5 => if x5 < (x0.length : Int) then (spec_comparePlaces.j1 k x0 x1 x5 (decide (x5 < (x1.length : Int)))) else (spec_comparePlaces.j1 k x0 x1 x5 false)
def spec_comparePlaces.j1 : Nat → List (S121) → List (S121) → Int → Bool → Option (Int)
 | 0, _, _, _, _ => none
 | k + 1, x0, x1, x5, x15 => if x15 = true then (if 0 ≤ x5 then (if x5 < (x0.length : Int) then (if x5 < (x1.length : Int) then (if ((rd_T121 x0 x5).f0) < ((rd_T121 x1 x5).f0) then (spec_comparePlaces.j2 k x0 x1 x5 (decide (((rd_T121 x0 x5).f0) < ((rd_T121 x1 x5).f0)))) else (if ((rd_T121 x0 x5).f0) = ((rd_T121 x1 x5).f0) then (spec_comparePlaces.j2 k x0 x1 x5 (decide (((rd_T121 x0 x5).f1) < ((rd_T121 x1 x5).f1)))) else (spec_comparePlaces.j2 k x0 x1 x5 false))) else (none)) else (none)) else (none)) else (if (x0.length : Int) < (x1.length : Int) then (some (-1)) else (if (x0.length : Int) > (x1.length : Int) then (some 1) else (some 0)))
def spec_comparePlaces.j2 : Nat → List (S121) → List (S121) → Int → Bool → Option (Int)
 | 0, _, _, _, _ => none
 | k + 1, x0, x1, x5, x18 => if x18 = true then (some (-1)) else (if 0 ≤ x5 then (if x5 < (x0.length : Int) then (if x5 < (x1.length : Int) then (if (!(((rd_T121 x0 x5).f0) == ((rd_T121 x1 x5).f0)) || (!(((rd_T121 x0 x5).f1) == ((rd_T121 x1 x5).f1)))) = true then (some 1) else (spec_comparePlaces.l0 k x0 x1 (wrap64 (x5 + 1)))) else (none)) else (none)) else (none))
end
def spec_comparePlaces.f (k : Nat) (l0 : List (S121)) (l1 : List (S121)) : Option (Int) := spec_comparePlaces.l0 k l0 l1 0
theorem spec_comparePlaces.mono_l : ∀ k, (∀ y0 y1 y2, LeO (spec_comparePlaces.l0 k y0 y1 y2) (spec_comparePlaces.l0 (k + 1) y0 y1 y2)) ∧ (∀ y0 y1 y2 y3, LeO (spec_comparePlaces.j1 k y0 y1 y2 y3) (spec_comparePlaces.j1 (k + 1) y0 y1 y2 y3)) ∧ (∀ y0 y1 y2 y3, LeO (spec_comparePlaces.j2 k y0 y1 y2 y3) (spec_comparePlaces.j2 (k + 1) y0 y1 y2 y3))
 | 0 => ⟨fun _ _ _ r h => by simp [spec_comparePlaces.l0] at h, fun _ _ _ _ r h => by simp [spec_comparePlaces.j1] at h, fun _ _ _ _ r h => by simp [spec_comparePlaces.j2] at h⟩
 | k + 1 => by
  obtain ⟨ih0, ih1, ih2⟩ := spec_comparePlaces.mono_l k
  refine ⟨?_, ?_, ?_⟩
  ·intro y0 y1 y2
   unfold spec_comparePlaces.l0
   repeat' first
   | (with_reducible exact ih0 _ _ _)
   | (with_reducible exact ih1 _ _ _ _)
   | (with_reducible exact ih2 _ _ _ _)
   | (with_reducible exact LeO.refl _)
   | (with_reducible exact LeO.none _)
   | (with_reducible refine LeO.ite ?_ ?_)
   | (with_reducible refine LeO.bind ?_ (fun _ => ?_))
   | exact ih0 _ _ _
   | exact ih1 _ _ _ _
   | exact ih2 _ _ _ _
   | exact LeO.none _
   | refine LeO.ite ?_ ?_
   | refine LeO.bind ?_ (fun _ => ?_)
  ·intro y0 y1 y2 y3
   unfold spec_comparePlaces.j1
   repeat' first
   | (with_reducible exact ih0 _ _ _)
   | (with_reducible exact ih1 _ _ _ _)
   | (with_reducible exact ih2 _ _ _ _)
   | (with_reducible exact LeO.refl _)
   | (with_reducible exact LeO.none _)
   | (with_reducible refine LeO.ite ?_ ?_)
   | (with_reducible refine LeO.bind ?_ (fun _ => ?_))
   | exact ih0 _ _ _
   | exact ih1 _ _ _ _
   | exact ih2 _ _ _ _
   | exact LeO.none _
   | refine LeO.ite ?_ ?_
   | refine LeO.bind ?_ (fun _ => ?_)
  ·intro y0 y1 y2 y3
   unfold spec_comparePlaces.j2
   repeat' first
   | (with_reducible exact ih0 _ _ _)
   | (with_reducible exact ih1 _ _ _ _)
   | (with_reducible exact ih2 _ _ _ _)
   | (with_reducible exact LeO.refl _)
   | (with_reducible exact LeO.none _)
   | (with_reducible refine LeO.ite ?_ ?_)
   | (with_reducible refine LeO.bind ?_ (fun _ => ?_))
   | exact ih0 _ _ _
   | exact ih1 _ _ _ _
   | exact ih2 _ _ _ _
   | exact LeO.none _
   | refine LeO.ite ?_ ?_
   | refine LeO.bind ?_ (fun _ => ?_)
theorem spec_comparePlaces.mono : ∀ a0 a1 k, LeO (spec_comparePlaces.f k a0 a1) (spec_comparePlaces.f (k + 1) a0 a1) := by
 intro a0 a1 k
 obtain ⟨ih0, ih1, ih2⟩ := spec_comparePlaces.mono_l k
 unfold spec_comparePlaces.f
 repeat' first
   | (with_reducible exact ih0 _ _ _)
   | (with_reducible exact ih1 _ _ _ _)
   | (with_reducible exact ih2 _ _ _ _)
   | (with_reducible exact LeO.refl _)
   | (with_reducible exact LeO.none _)
   | (with_reducible refine LeO.ite ?_ ?_)
   | (with_reducible refine LeO.bind ?_ (fun _ => ?_))
   | exact ih0 _ _ _
   | exact ih1 _ _ _ _
   | exact ih2 _ _ _ _
   | exact LeO.none _
   | refine LeO.ite ?_ ?_
   | refine LeO.bind ?_ (fun _ => ?_)
set_option maxHeartbeats 8000000 in
set_option maxRecDepth 100000 in
theorem spec_comparePlaces.calls (k : Nat) (A0 : Option Addr) (c0 : Nat) (l0 : List (S121)) (A1 : Option Addr) (c1 : Nat) (l1 : List (S121)) (r : Int) (w : World) (hr0 : Kd.C k121 w A0 l0.length l0) (hc0 : l0.length ≤ c0) (hr1 : Kd.C k121 w A1 l1.length l1) (hc1 : l1.length ≤ c1) (h : spec_comparePlaces.f k l0 l1 = some r) :
  Calls Try.prog 76 #[.slice A0 l0.length c0, .slice A1 l1.length c1] w fun e w' => e = .returned (.int .i64 r) ∧ Drawn0 w w' := by
 have hu121 := Try.underlying121
 have HR0 := A_ hr0
 have HC0 := A_ hc0
 clear hr0 hc0
 have HR1 := A_ hr1
 have HC1 := A_ hc1
 clear hr1 hc1
 have H : (spec_comparePlaces.l0 k l0 l1 0) = some r := h
 clear h
 have H' := A_ H
 clear H
 go_enter Try.func76, Try.ntmps76
 go_wp2
 repeat (go_quiet (fail); try go_wp2)
 go_loopg [5] k (fun kq v5 w' => ∃ (x5_1 : Int), v5 = .int .i64 x5_1 ∧ Aside0 (spec_comparePlaces.l0 kq l0 l1 x5_1 = some r) ∧ Aside0 (kq ≤ k) ∧ Drawn0 w w')
 case atStart => exact ⟨(0), Z17, H', ⟨Nat.le_refl _⟩, Z24⟩
 case round =>
  clear H'
  try clear c1
  try clear p2
  obtain ⟨x5_1, rfl, HA, HK1, ⟨m1, rfl⟩⟩ := hrel
  cases gk with
  | zero => exact absurd HA.out (by simp [spec_comparePlaces.l0])
  | succ k1 =>
   have H := HA.out
   clear HA
   simp only [spec_comparePlaces.l0] at H
   have HC3 := A_ H
   clear H
   go_upto_region 2 with (fail)
   repeat (go_quiet (fail); go_upto_region 2 with (fail))
   go_cut [15] (fun v15 wc => ∃ (kq : Nat) (x15_2 : Bool), v15 = .bool x15_2 ∧ Aside0 (spec_comparePlaces.j1 kq l0 l1 x5_1 x15_2 = some r) ∧ Aside0 (kq ≤ k1) ∧ Drawn0 w wc)
   case first =>
    have H := HC3.out
    clear HC3
    by_cases c4 : x5_1 < (l0.length : Int)
    ·rw [if_pos c4] at H
     have c4b0 : decide (x5_1 < (l0.length : Int)) = true := decide_eq_true c4
     clear c4
     (first | rw [c4b0] | (simp only [i64_w, i32_w]; rw [c4b0]) | skip)
     have H' := A_ H
     clear H
     go_wp2
     repeat (go_quiet (fail); try go_wp2)
     go_meet
     case rel => exact ⟨_, (decide (x5_1 < (l1.length : Int))), Z17, H', ⟨by have := HK1.out; first | omega | exact Nat.le_refl _⟩, Z24⟩
    ·rw [if_neg c4] at H
     have c4b0 : decide (x5_1 < (l0.length : Int)) = false := decide_eq_false c4
     clear c4
     (first | rw [c4b0] | (simp only [i64_w, i32_w]; rw [c4b0]) | skip)
     have H' := A_ H
     clear H
     go_wp2
     repeat (go_quiet (fail); try go_wp2)
     go_meet
     case rel => exact ⟨_, (false), Z17, H', ⟨by have := HK1.out; first | omega | exact Nat.le_refl _⟩, Z24⟩
   case rest =>
    clear HC3
    try clear c1
    try clear p2
    try clear c4
    try clear c4b0
    try clear p2
    obtain ⟨kq, x15_2, rfl, HA, HJ2, ⟨mc2, rfl⟩⟩ := hcut
    cases kq with
    | zero => exact absurd HA.out (by simp [spec_comparePlaces.j1])
    | succ kj2 =>
     have H := HA.out
     clear HA
     simp only [spec_comparePlaces.j1] at H
     by_cases c5 : x15_2 = true
     ·subst c5
      have H1 : (if 0 ≤ x5_1 then (if x5_1 < (l0.length : Int) then (if x5_1 < (l1.length : Int) then (if ((rd_T121 l0 x5_1).f0) < ((rd_T121 l1 x5_1).f0) then (spec_comparePlaces.j2 kj2 l0 l1 x5_1 (decide (((rd_T121 l0 x5_1).f0) < ((rd_T121 l1 x5_1).f0)))) else (if ((rd_T121 l0 x5_1).f0) = ((rd_T121 l1 x5_1).f0) then (spec_comparePlaces.j2 kj2 l0 l1 x5_1 (decide (((rd_T121 l0 x5_1).f1) < ((rd_T121 l1 x5_1).f1)))) else (spec_comparePlaces.j2 kj2 l0 l1 x5_1 false))) else (none)) else (none)) else (none)) = some r := by rw [if_pos rfl] at H; exact H
      clear H
      have H := H1
      clear H1
      by_cases c6 : 0 ≤ x5_1
      ·rw [if_pos c6] at H
       have c6b0 : decide (0 ≤ x5_1) = true := decide_eq_true c6
       clear c6
       by_cases c7 : x5_1 < (l0.length : Int)
       ·rw [if_pos c7] at H
        have c7b0 : decide (x5_1 < (l0.length : Int)) = true := decide_eq_true c7
        clear c7
        by_cases c8 : x5_1 < (l1.length : Int)
        ·rw [if_pos c8] at H
         have c8b0 : decide (x5_1 < (l1.length : Int)) = true := decide_eq_true c8
         clear c8
         have HC9 := A_ H
         clear H
         have p127 : 0 ≤ (x5_1 : Int) := of_decide_eq_true Z14
         have q127 : x5_1 < (l0.length : Int) := of_decide_eq_true Z14
         obtain ⟨ad127, e127, hx127_0, hx127_1⟩ := at_T121 HR0.out x5_1 p127 q127
         cases e127
         replace p127 := eq_true p127
         replace q127 := eq_true q127
         have p128 : 0 ≤ (x5_1 : Int) := of_decide_eq_true Z14
         have q128 : x5_1 < (l1.length : Int) := of_decide_eq_true Z14
         obtain ⟨ad128, e128, hx128_0, hx128_1⟩ := at_T121 HR1.out x5_1 p128 q128
         cases e128
         replace p128 := eq_true p128
         replace q128 := eq_true q128
         go_upto_if 18 with (fail)
         repeat (go_quiet (fail); go_upto_if 18 with (fail))
         go_cut [18] (fun v18 wc => ∃ (kq : Nat) (x18_8 : Bool), v18 = .bool x18_8 ∧ Aside0 (spec_comparePlaces.j2 kq l0 l1 x5_1 x18_8 = some r) ∧ Aside0 (kq ≤ kj2) ∧ Drawn0 w wc)
         case first =>
          have H := HC9.out
          clear HC9
          by_cases c10 : ((rd_T121 l0 x5_1).f0) < ((rd_T121 l1 x5_1).f0)
          ·rw [if_pos c10] at H
           have c10b0 : decide (((rd_T121 l0 x5_1).f0) < ((rd_T121 l1 x5_1).f0)) = true := decide_eq_true c10
           clear c10
           (first | rw [c10b0] | (simp only [i64_w, i32_w]; rw [c10b0]) | skip)
           have H' := A_ H
           clear H
           go_wp2
           repeat (go_quiet (fail); try go_wp2)
           go_meet
           case rel => exact ⟨_, (decide (((rd_T121 l0 x5_1).f0) < ((rd_T121 l1 x5_1).f0))), Z17, H', ⟨by have := HK1.out; have := HJ2.out; first | omega | exact Nat.le_refl _⟩, Z24⟩
          ·rw [if_neg c10] at H
           have c10b0 : decide (((rd_T121 l0 x5_1).f0) < ((rd_T121 l1 x5_1).f0)) = false := decide_eq_false c10
           clear c10
           (first | rw [c10b0] | (simp only [i64_w, i32_w]; rw [c10b0]) | skip)
           by_cases c11 : ((rd_T121 l0 x5_1).f0) = ((rd_T121 l1 x5_1).f0)
           ·rw [if_pos c11] at H
            have c11b0 : (((rd_T121 l0 x5_1).f0) == ((rd_T121 l1 x5_1).f0)) = true := beq_iff_eq.mpr c11
            have c11b1 : (((rd_T121 l0 x5_1).f0) != ((rd_T121 l1 x5_1).f0)) = false := bne_eq_false_iff_eq.mpr c11
            clear c11
            have H' := A_ H
            clear H
            have p129 : 0 ≤ (x5_1 : Int) := of_decide_eq_true Z14
            have q129 : x5_1 < (l0.length : Int) := of_decide_eq_true Z14
            obtain ⟨ad129, e129, hx129_0, hx129_1⟩ := at_T121 HR0.out x5_1 p129 q129
            obtain rfl : ad127 = ad129 := (by injection e129)
            replace p129 := eq_true p129
            replace q129 := eq_true q129
            have p130 : 0 ≤ (x5_1 : Int) := of_decide_eq_true Z14
            have q130 : x5_1 < (l1.length : Int) := of_decide_eq_true Z14
            obtain ⟨ad130, e130, hx130_0, hx130_1⟩ := at_T121 HR1.out x5_1 p130 q130
            obtain rfl : ad128 = ad130 := (by injection e130)
            replace p130 := eq_true p130
            replace q130 := eq_true q130
            have p131 : 0 ≤ (x5_1 : Int) := of_decide_eq_true Z14
            have q131 : x5_1 < (l0.length : Int) := of_decide_eq_true Z14
            obtain ⟨ad131, e131, hx131_0, hx131_1⟩ := at_T121 HR0.out x5_1 p131 q131
            obtain rfl : ad127 = ad131 := (by injection e131)
            replace p131 := eq_true p131
            replace q131 := eq_true q131
            have p132 : 0 ≤ (x5_1 : Int) := of_decide_eq_true Z14
            have q132 : x5_1 < (l1.length : Int) := of_decide_eq_true Z14
            obtain ⟨ad132, e132, hx132_0, hx132_1⟩ := at_T121 HR1.out x5_1 p132 q132
            obtain rfl : ad128 = ad132 := (by injection e132)
            replace p132 := eq_true p132
            replace q132 := eq_true q132
            go_wp2
            repeat (go_quiet (fail); try go_wp2)
            go_meet
            case rel => exact ⟨_, (decide (((rd_T121 l0 x5_1).f1) < ((rd_T121 l1 x5_1).f1))), Z17, H', ⟨by have := HK1.out; have := HJ2.out; first | omega | exact Nat.le_refl _⟩, Z24⟩
           ·rw [if_neg c11] at H
            have c11b0 : (((rd_T121 l0 x5_1).f0) == ((rd_T121 l1 x5_1).f0)) = false := beq_eq_false_iff_ne.mpr c11
            have c11b1 : (((rd_T121 l0 x5_1).f0) != ((rd_T121 l1 x5_1).f0)) = true := bne_iff_ne.mpr c11
            have H' := A_ H
            clear H
            have p129 : 0 ≤ (x5_1 : Int) := of_decide_eq_true Z14
            have q129 : x5_1 < (l0.length : Int) := of_decide_eq_true Z14
            obtain ⟨ad129, e129, hx129_0, hx129_1⟩ := at_T121 HR0.out x5_1 p129 q129
            obtain rfl : ad127 = ad129 := (by injection e129)
            replace p129 := eq_true p129
            replace q129 := eq_true q129
            have p130 : 0 ≤ (x5_1 : Int) := of_decide_eq_true Z14
            have q130 : x5_1 < (l1.length : Int) := of_decide_eq_true Z14
            obtain ⟨ad130, e130, hx130_0, hx130_1⟩ := at_T121 HR1.out x5_1 p130 q130
            obtain rfl : ad128 = ad130 := (by injection e130)
            replace p130 := eq_true p130
            replace q130 := eq_true q130
            go_wp2
            repeat (go_quiet (fail); try go_wp2)
            go_meet
            case rel => exact ⟨_, (false), Z17, H', ⟨by have := HK1.out; have := HJ2.out; first | omega | exact Nat.le_refl _⟩, Z24⟩
         case rest =>
          clear HC9
          try clear c1
          try clear p1
          try clear q1
          try clear hx1
          try clear c2
          try clear p2
          try clear c4
          try clear c4b0
          try clear c5
          try clear c6
          try clear c6b0
          try clear c7
          try clear c7b0
          try clear c8
          try clear c8b0
          try clear c10
          try clear c10b0
          try clear c11
          try clear c11b0
          try clear c11b1
          try clear hx127_0
          try clear hx127_1
          try clear hx128_0
          try clear hx128_1
          try clear hx129_0
          try clear hx129_1
          try clear hx130_0
          try clear hx130_1
          try clear hx131_0
          try clear hx131_1
          try clear hx132_0
          try clear hx132_1
          try clear p127
          try clear p128
          try clear p129
          try clear p130
          try clear p131
          try clear p132
          try clear p2
          try clear q127
          try clear q128
          try clear q129
          try clear q130
          try clear q131
          try clear q132
          obtain ⟨kq, x18_8, rfl, HA, HJ8, ⟨mc8, rfl⟩⟩ := hcut
          cases kq with
          | zero => exact absurd HA.out (by simp [spec_comparePlaces.j2])
          | succ kj8 =>
           have H := HA.out
           clear HA
           simp only [spec_comparePlaces.j2] at H
           by_cases c12 : x18_8 = true
           ·subst c12
            have H1 : (some (-1)) = some r := by rw [if_pos rfl] at H; exact H
            clear H
            have H := H1
            clear H1
            obtain rfl := Option.some.inj H
            go_wp2
            repeat (go_quiet (fail); try go_wp2)
            go_ret
            exact ⟨Z17, Z24⟩
           ·replace c12 := Bool.eq_false_iff.mpr c12
            subst c12
            have H1 : (if 0 ≤ x5_1 then (if x5_1 < (l0.length : Int) then (if x5_1 < (l1.length : Int) then (if (!(((rd_T121 l0 x5_1).f0) == ((rd_T121 l1 x5_1).f0)) || (!(((rd_T121 l0 x5_1).f1) == ((rd_T121 l1 x5_1).f1)))) = true then (some 1) else (spec_comparePlaces.l0 kj8 l0 l1 (wrap64 (x5_1 + 1)))) else (none)) else (none)) else (none)) = some r := by rw [if_neg (show ¬ (false = true) by decide)] at H; exact H
            clear H
            have H := H1
            clear H1
            by_cases c13 : 0 ≤ x5_1
            ·rw [if_pos c13] at H
             have c13b0 : decide (0 ≤ x5_1) = true := decide_eq_true c13
             clear c13
             by_cases c14 : x5_1 < (l0.length : Int)
             ·rw [if_pos c14] at H
              have c14b0 : decide (x5_1 < (l0.length : Int)) = true := decide_eq_true c14
              clear c14
              by_cases c15 : x5_1 < (l1.length : Int)
              ·rw [if_pos c15] at H
               have c15b0 : decide (x5_1 < (l1.length : Int)) = true := decide_eq_true c15
               clear c15
               by_cases c16 : (!(((rd_T121 l0 x5_1).f0) == ((rd_T121 l1 x5_1).f0)) || (!(((rd_T121 l0 x5_1).f1) == ((rd_T121 l1 x5_1).f1)))) = true
               ·rw [if_pos c16] at H
                have c16b0 : (!(((rd_T121 l0 x5_1).f0) == ((rd_T121 l1 x5_1).f0)) || (!(((rd_T121 l0 x5_1).f1) == ((rd_T121 l1 x5_1).f1)))) = true := c16
                clear c16
                obtain rfl := Option.some.inj H
                have p133 : 0 ≤ (x5_1 : Int) := of_decide_eq_true Z14
                have q133 : x5_1 < (l0.length : Int) := of_decide_eq_true Z14
                obtain ⟨ad133, e133, hx133_0, hx133_1⟩ := at_T121 HR0.out x5_1 p133 q133
                obtain rfl : ad127 = ad133 := (by injection e133)
                replace p133 := eq_true p133
                replace q133 := eq_true q133
                have p134 : 0 ≤ (x5_1 : Int) := of_decide_eq_true Z14
                have q134 : x5_1 < (l1.length : Int) := of_decide_eq_true Z14
                obtain ⟨ad134, e134, hx134_0, hx134_1⟩ := at_T121 HR1.out x5_1 p134 q134
                obtain rfl : ad128 = ad134 := (by injection e134)
                replace p134 := eq_true p134
                replace q134 := eq_true q134
                go_wp2
                repeat (go_quiet (fail); try go_wp2)
                go_ret
                exact ⟨Z17, Z24⟩
               ·rw [if_neg c16] at H
                have c16b0 : (!(((rd_T121 l0 x5_1).f0) == ((rd_T121 l1 x5_1).f0)) || (!(((rd_T121 l0 x5_1).f1) == ((rd_T121 l1 x5_1).f1)))) = false := by simpa using c16
                clear c16
                have H' := A_ H
                clear H
                have p133 : 0 ≤ (x5_1 : Int) := of_decide_eq_true Z14
                have q133 : x5_1 < (l0.length : Int) := of_decide_eq_true Z14
                obtain ⟨ad133, e133, hx133_0, hx133_1⟩ := at_T121 HR0.out x5_1 p133 q133
                obtain rfl : ad127 = ad133 := (by injection e133)
                replace p133 := eq_true p133
                replace q133 := eq_true q133
                have p134 : 0 ≤ (x5_1 : Int) := of_decide_eq_true Z14
                have q134 : x5_1 < (l1.length : Int) := of_decide_eq_true Z14
                obtain ⟨ad134, e134, hx134_0, hx134_1⟩ := at_T121 HR1.out x5_1 p134 q134
                obtain rfl : ad128 = ad134 := (by injection e134)
                replace p134 := eq_true p134
                replace q134 := eq_true q134
                go_wp2
                repeat (go_quiet (fail); try go_wp2)
                go_roundg kj8
                case measure => have := HK1.out; have := HJ2.out; have := HJ8.out; omega
                case rel => exact ⟨(wrap64 (x5_1 + 1)), Z17, H', ⟨by have := HK1.out; have := HJ2.out; have := HJ8.out; omega⟩, Z24⟩
              ·rw [if_neg c15] at H
               exact absurd H (by simp)
             ·rw [if_neg c14] at H
              exact absurd H (by simp)
            ·rw [if_neg c13] at H
             exact absurd H (by simp)
        ·rw [if_neg c8] at H
         exact absurd H (by simp)
       ·rw [if_neg c7] at H
        exact absurd H (by simp)
      ·rw [if_neg c6] at H
       exact absurd H (by simp)
     ·replace c5 := Bool.eq_false_iff.mpr c5
      subst c5
      have H1 : (if (l0.length : Int) < (l1.length : Int) then (some (-1)) else (if (l0.length : Int) > (l1.length : Int) then (some 1) else (some 0))) = some r := by rw [if_neg (show ¬ (false = true) by decide)] at H; exact H
      clear H
      have H := H1
      clear H1
      by_cases c17 : (l0.length : Int) < (l1.length : Int)
      ·rw [if_pos c17] at H
       have c17b0 : decide ((l0.length : Int) < (l1.length : Int)) = true := decide_eq_true c17
       have c17b1 : decide (l0.length < l1.length) = true := decide_eq_true (Int.ofNat_lt.mp c17)
       clear c17
       obtain rfl := Option.some.inj H
       go_wp2
       repeat (go_quiet (fail); try go_wp2)
       go_ret
       exact ⟨Z17, Z24⟩
      ·rw [if_neg c17] at H
       have c17b0 : decide ((l0.length : Int) < (l1.length : Int)) = false := decide_eq_false c17
       have c17b1 : decide (l0.length < l1.length) = false := decide_eq_false (fun h => c17 (Int.ofNat_lt.mpr h))
       clear c17
       by_cases c18 : (l0.length : Int) > (l1.length : Int)
       ·rw [if_pos c18] at H
        have c18b0 : decide ((l1.length : Int) < (l0.length : Int)) = true := decide_eq_true c18
        have c18b1 : decide (l1.length < l0.length) = true := decide_eq_true (Int.ofNat_lt.mp c18)
        clear c18
        obtain rfl := Option.some.inj H
        go_wp2
        repeat (go_quiet (fail); try go_wp2)
        go_ret
        exact ⟨Z17, Z24⟩
       ·rw [if_neg c18] at H
        have c18b0 : decide ((l1.length : Int) < (l0.length : Int)) = false := decide_eq_false c18
        have c18b1 : decide (l1.length < l0.length) = false := decide_eq_false (fun h => c18 (Int.ofNat_lt.mpr h))
        clear c18
        obtain rfl := Option.some.inj H
        go_wp2
        repeat (go_quiet (fail); try go_wp2)
        go_ret
        exact ⟨Z17, Z24⟩
end Go.Proofs.Ytmphggpibaolcaa.PFnExactUpdateHas
