/- Walks of the functions that the law 'FnStorePut' reaches, part 7: for each a Lean function and the proof that Go's comes to just its answer (lines of the print, under own names; no condition). -/
import Derived.Test.YtheifobeaemegaaZFnStorePutQFnStorePutx0
import Derived.Test.YtheifobeaemegaaZFnStorePutQFnStorePutx2
import Derived.Test.YtheifobeaemegaaZFnStorePutQFnStorePutx6
namespace Go.Proofs.Ytheifobeaemegaa.PFnStorePut
open Go.RowKit Go.Proofs.YtheifobeaemegaaW.PrintWords Go.Proofs.YtheifobeaemegaaW.PrintLast Go.Proofs.YtheifobeaemegaaW.PrintMore
attribute [local go_sem] max2_int min2_int max_two min_two max_three min_three max_four min_four
set_option linter.unusedVariables false
set_option linter.unusedSimpArgs false
attribute [local go_sem high] eqA68
mutual
def spec_comparePlaces.l0 : Nat → List (S68) → List (S68) → Int → Option (Int)
 | 0, _, _, _ => none
 | k + 1, x0, x1, x5 => if x5 < (x0.length : Int) then (spec_comparePlaces.j1 k x0 x1 x5 (decide (x5 < (x1.length : Int)))) else (spec_comparePlaces.j1 k x0 x1 x5 false)
def spec_comparePlaces.j1 : Nat → List (S68) → List (S68) → Int → Bool → Option (Int)
 | 0, _, _, _, _ => none
 | k + 1, x0, x1, x5, x15 => if x15 = true then (if 0 ≤ x5 then (if x5 < (x0.length : Int) then (if x5 < (x1.length : Int) then (if ((rd_T68 x0 x5).f0) < ((rd_T68 x1 x5).f0) then (spec_comparePlaces.j2 k x0 x1 x5 (decide (((rd_T68 x0 x5).f0) < ((rd_T68 x1 x5).f0)))) else (if ((rd_T68 x0 x5).f0) = ((rd_T68 x1 x5).f0) then (spec_comparePlaces.j2 k x0 x1 x5 (decide (((rd_T68 x0 x5).f1) < ((rd_T68 x1 x5).f1)))) else (spec_comparePlaces.j2 k x0 x1 x5 false))) else (none)) else (none)) else (none)) else (if (x0.length : Int) < (x1.length : Int) then (some (-1)) else (if (x0.length : Int) > (x1.length : Int) then (some 1) else (some 0)))
def spec_comparePlaces.j2 : Nat → List (S68) → List (S68) → Int → Bool → Option (Int)
 | 0, _, _, _, _ => none
 | k + 1, x0, x1, x5, x18 => if x18 = true then (some (-1)) else (if 0 ≤ x5 then (if x5 < (x0.length : Int) then (if x5 < (x1.length : Int) then (if (!(((rd_T68 x0 x5).f0) == ((rd_T68 x1 x5).f0)) || (!(((rd_T68 x0 x5).f1) == ((rd_T68 x1 x5).f1)))) = true then (some 1) else (spec_comparePlaces.l0 k x0 x1 (wrap64 (x5 + 1)))) else (none)) else (none)) else (none))
end
def spec_comparePlaces.f (k : Nat) (l0 : List (S68)) (l1 : List (S68)) : Option (Int) := spec_comparePlaces.l0 k l0 l1 0
theorem spec_comparePlaces.mono_l : ∀ k, (∀ y0 y1 y2, LeO (spec_comparePlaces.l0 k y0 y1 y2) (spec_comparePlaces.l0 (k + 1) y0 y1 y2)) ∧ (∀ y0 y1 y2 y3, LeO (spec_comparePlaces.j1 k y0 y1 y2 y3) (spec_comparePlaces.j1 (k + 1) y0 y1 y2 y3)) ∧ (∀ y0 y1 y2 y3, LeO (spec_comparePlaces.j2 k y0 y1 y2 y3) (spec_comparePlaces.j2 (k + 1) y0 y1 y2 y3))
 | 0 => ⟨fun _ _ _ r h => by simp [spec_comparePlaces.l0] at h, fun _ _ _ _ r h => by simp [spec_comparePlaces.j1] at h, fun _ _ _ _ r h => by simp [spec_comparePlaces.j2] at h⟩
 | k + 1 => by
  obtain ⟨ih0, ih1, ih2⟩ := spec_comparePlaces.mono_l k
  refine ⟨?_, ?_, ?_⟩
  ·intro y0 y1 y2
   unfold spec_comparePlaces.l0
   repeat' first
   | (with_reducible exact ih0 _ _ _)
   | (with_reducible exact ih1 _ _ _ _)
   | (with_reducible exact ih2 _ _ _ _)
   | (with_reducible exact LeO.refl _)
   | (with_reducible exact LeO.none _)
   | (with_reducible refine LeO.ite ?_ ?_)
   | (with_reducible refine LeO.bind ?_ (fun _ => ?_))
   | exact ih0 _ _ _
   | exact ih1 _ _ _ _
   | exact ih2 _ _ _ _
   | exact LeO.none _
   | refine LeO.ite ?_ ?_
   | refine LeO.bind ?_ (fun _ => ?_)
  ·intro y0 y1 y2 y3
   unfold spec_comparePlaces.j1
   repeat' first
   | (with_reducible exact ih0 _ _ _)
   | (with_reducible exact ih1 _ _ _ _)
   | (with_reducible exact ih2 _ _ _ _)
   | (with_reducible exact LeO.refl _)
   | (with_reducible exact LeO.none _)
   | (with_reducible refine LeO.ite ?_ ?_)
   | (with_reducible refine LeO.bind ?_ (fun _ => ?_))
   | exact ih0 _ _ _
   | exact ih1 _ _ _ _
   | exact ih2 _ _ _ _
   | exact LeO.none _
   | refine LeO.ite ?_ ?_
   | refine LeO.bind ?_ (fun _ => ?_)
  ·intro y0 y1 y2 y3
   unfold spec_comparePlaces.j2
   repeat' first
   | (with_reducible exact ih0 _ _ _)
   | (with_reducible exact ih1 _ _ _ _)
   | (with_reducible exact ih2 _ _ _ _)
   | (with_reducible exact LeO.refl _)
   | (with_reducible exact LeO.none _)
   | (with_reducible refine LeO.ite ?_ ?_)
   | (with_reducible refine LeO.bind ?_ (fun _ => ?_))
   | exact ih0 _ _ _
   | exact ih1 _ _ _ _
   | exact ih2 _ _ _ _
   | exact LeO.none _
   | refine LeO.ite ?_ ?_
   | refine LeO.bind ?_ (fun _ => ?_)
theorem spec_comparePlaces.mono : ∀ a0 a1 k, LeO (spec_comparePlaces.f k a0 a1) (spec_comparePlaces.f (k + 1) a0 a1) := by
 intro a0 a1 k
 obtain ⟨ih0, ih1, ih2⟩ := spec_comparePlaces.mono_l k
 unfold spec_comparePlaces.f
 repeat' first
   | (with_reducible exact ih0 _ _ _)
   | (with_reducible exact ih1 _ _ _ _)
   | (with_reducible exact ih2 _ _ _ _)
   | (with_reducible exact LeO.refl _)
   | (with_reducible exact LeO.none _)
   | (with_reducible refine LeO.ite ?_ ?_)
   | (with_reducible refine LeO.bind ?_ (fun _ => ?_))
   | exact ih0 _ _ _
   | exact ih1 _ _ _ _
   | exact ih2 _ _ _ _
   | exact LeO.none _
   | refine LeO.ite ?_ ?_
   | refine LeO.bind ?_ (fun _ => ?_)
set_option maxHeartbeats 8000000 in
set_option maxRecDepth 100000 in
theorem spec_comparePlaces.calls (k : Nat) (A0 : Option Addr) (c0 : Nat) (l0 : List (S68)) (A1 : Option Addr) (c1 : Nat) (l1 : List (S68)) (r : Int) (w : World) (hr0 : Kd.C k68 w A0 l0.length l0) (hc0 : l0.length ≤ c0) (hr1 : Kd.C k68 w A1 l1.length l1) (hc1 : l1.length ≤ c1) (h : spec_comparePlaces.f k l0 l1 = some r) :
  Calls Try.prog 62 #[.slice A0 l0.length c0, .slice A1 l1.length c1] w fun e w' => e = .returned (.int .i64 r) ∧ Drawn0 w w' := by
 have hu68 := Try.underlying68
 have HR0 := A_ hr0
 have HC0 := A_ hc0
 clear hr0 hc0
 have HR1 := A_ hr1
 have HC1 := A_ hc1
 clear hr1 hc1
 have H : (spec_comparePlaces.l0 k l0 l1 0) = some r := h
 clear h
 have H' := A_ H
 clear H
 go_enter Try.func62, Try.ntmps62
 go_wp2
 repeat (go_quiet (fail); try go_wp2)
 go_loopg [5] k (fun kq v5 w' => ∃ (x5_1 : Int), v5 = .int .i64 x5_1 ∧ Aside0 (spec_comparePlaces.l0 kq l0 l1 x5_1 = some r) ∧ Aside0 (kq ≤ k) ∧ Drawn0 w w')
 case atStart => exact ⟨(0), Z21, H', ⟨Nat.le_refl _⟩, Z26⟩
 case round =>
  clear H'
  try clear c1
  try clear p2
  obtain ⟨x5_1, rfl, HA, HK1, ⟨m1, rfl⟩⟩ := hrel
  cases gk with
  | zero => exact absurd HA.out (by simp [spec_comparePlaces.l0])
  | succ k1 =>
   have H := HA.out
   clear HA
   simp only [spec_comparePlaces.l0] at H
   have HC3 := A_ H
   clear H
   go_upto_region 2 with (fail)
   repeat (go_quiet (fail); go_upto_region 2 with (fail))
   go_cut [15] (fun v15 wc => ∃ (kq : Nat) (x15_2 : Bool), v15 = .bool x15_2 ∧ Aside0 (spec_comparePlaces.j1 kq l0 l1 x5_1 x15_2 = some r) ∧ Aside0 (kq ≤ k1) ∧ Drawn0 w wc)
   case first =>
    have H := HC3.out
    clear HC3
    by_cases c4 : x5_1 < (l0.length : Int)
    ·rw [if_pos c4] at H
     have c4b0 : decide (x5_1 < (l0.length : Int)) = true := decide_eq_true c4
     clear c4
     (first | rw [c4b0] | (simp only [i64_w, i32_w]; rw [c4b0]) | skip)
     have H' := A_ H
     clear H
     go_wp2
     repeat (go_quiet (fail); try go_wp2)
     go_meet
     case rel => exact ⟨_, (decide (x5_1 < (l1.length : Int))), Z21, H', ⟨by have := HK1.out; first | omega | exact Nat.le_refl _⟩, Z26⟩
    ·rw [if_neg c4] at H
     have c4b0 : decide (x5_1 < (l0.length : Int)) = false := decide_eq_false c4
     clear c4
     (first | rw [c4b0] | (simp only [i64_w, i32_w]; rw [c4b0]) | skip)
     have H' := A_ H
     clear H
     go_wp2
     repeat (go_quiet (fail); try go_wp2)
     go_meet
     case rel => exact ⟨_, (false), Z21, H', ⟨by have := HK1.out; first | omega | exact Nat.le_refl _⟩, Z26⟩
   case rest =>
    clear HC3
    try clear c1
    try clear p2
    try clear c4
    try clear c4b0
    try clear p2
    obtain ⟨kq, x15_2, rfl, HA, HJ2, ⟨mc2, rfl⟩⟩ := hcut
    cases kq with
    | zero => exact absurd HA.out (by simp [spec_comparePlaces.j1])
    | succ kj2 =>
     have H := HA.out
     clear HA
     simp only [spec_comparePlaces.j1] at H
     by_cases c5 : x15_2 = true
     ·subst c5
      have H1 : (if 0 ≤ x5_1 then (if x5_1 < (l0.length : Int) then (if x5_1 < (l1.length : Int) then (if ((rd_T68 l0 x5_1).f0) < ((rd_T68 l1 x5_1).f0) then (spec_comparePlaces.j2 kj2 l0 l1 x5_1 (decide (((rd_T68 l0 x5_1).f0) < ((rd_T68 l1 x5_1).f0)))) else (if ((rd_T68 l0 x5_1).f0) = ((rd_T68 l1 x5_1).f0) then (spec_comparePlaces.j2 kj2 l0 l1 x5_1 (decide (((rd_T68 l0 x5_1).f1) < ((rd_T68 l1 x5_1).f1)))) else (spec_comparePlaces.j2 kj2 l0 l1 x5_1 false))) else (none)) else (none)) else (none)) = some r := by rw [if_pos rfl] at H; exact H
      clear H
      have H := H1
      clear H1
      by_cases c6 : 0 ≤ x5_1
      ·rw [if_pos c6] at H
       have c6b0 : decide (0 ≤ x5_1) = true := decide_eq_true c6
       clear c6
       by_cases c7 : x5_1 < (l0.length : Int)
       ·rw [if_pos c7] at H
        have c7b0 : decide (x5_1 < (l0.length : Int)) = true := decide_eq_true c7
        clear c7
        by_cases c8 : x5_1 < (l1.length : Int)
        ·rw [if_pos c8] at H
         have c8b0 : decide (x5_1 < (l1.length : Int)) = true := decide_eq_true c8
         clear c8
         have HC9 := A_ H
         clear H
         have p137 : 0 ≤ (x5_1 : Int) := of_decide_eq_true Z14
         have q137 : x5_1 < (l0.length : Int) := of_decide_eq_true Z14
         obtain ⟨ad137, e137, hx137_0, hx137_1⟩ := at_T68 HR0.out x5_1 p137 q137
         cases e137
         replace p137 := eq_true p137
         replace q137 := eq_true q137
         have p138 : 0 ≤ (x5_1 : Int) := of_decide_eq_true Z14
         have q138 : x5_1 < (l1.length : Int) := of_decide_eq_true Z14
         obtain ⟨ad138, e138, hx138_0, hx138_1⟩ := at_T68 HR1.out x5_1 p138 q138
         cases e138
         replace p138 := eq_true p138
         replace q138 := eq_true q138
         go_upto_if 18 with (fail)
         repeat (go_quiet (fail); go_upto_if 18 with (fail))
         go_cut [18] (fun v18 wc => ∃ (kq : Nat) (x18_8 : Bool), v18 = .bool x18_8 ∧ Aside0 (spec_comparePlaces.j2 kq l0 l1 x5_1 x18_8 = some r) ∧ Aside0 (kq ≤ kj2) ∧ Drawn0 w wc)
         case first =>
          have H := HC9.out
          clear HC9
          by_cases c10 : ((rd_T68 l0 x5_1).f0) < ((rd_T68 l1 x5_1).f0)
          ·rw [if_pos c10] at H
           have c10b0 : decide (((rd_T68 l0 x5_1).f0) < ((rd_T68 l1 x5_1).f0)) = true := decide_eq_true c10
           clear c10
           (first | rw [c10b0] | (simp only [i64_w, i32_w]; rw [c10b0]) | skip)
           have H' := A_ H
           clear H
           go_wp2
           repeat (go_quiet (fail); try go_wp2)
           go_meet
           case rel => exact ⟨_, (decide (((rd_T68 l0 x5_1).f0) < ((rd_T68 l1 x5_1).f0))), Z21, H', ⟨by have := HK1.out; have := HJ2.out; first | omega | exact Nat.le_refl _⟩, Z26⟩
          ·rw [if_neg c10] at H
           have c10b0 : decide (((rd_T68 l0 x5_1).f0) < ((rd_T68 l1 x5_1).f0)) = false := decide_eq_false c10
           clear c10
           (first | rw [c10b0] | (simp only [i64_w, i32_w]; rw [c10b0]) | skip)
           by_cases c11 : ((rd_T68 l0 x5_1).f0) = ((rd_T68 l1 x5_1).f0)
           ·rw [if_pos c11] at H
            have c11b0 : (((rd_T68 l0 x5_1).f0) == ((rd_T68 l1 x5_1).f0)) = true := beq_iff_eq.mpr c11
            have c11b1 : (((rd_T68 l0 x5_1).f0) != ((rd_T68 l1 x5_1).f0)) = false := bne_eq_false_iff_eq.mpr c11
            clear c11
            have H' := A_ H
            clear H
            have p139 : 0 ≤ (x5_1 : Int) := of_decide_eq_true Z14
            have q139 : x5_1 < (l0.length : Int) := of_decide_eq_true Z14
            obtain ⟨ad139, e139, hx139_0, hx139_1⟩ := at_T68 HR0.out x5_1 p139 q139
            obtain rfl : ad137 = ad139 := (by injection e139)
            replace p139 := eq_true p139
            replace q139 := eq_true q139
            have p140 : 0 ≤ (x5_1 : Int) := of_decide_eq_true Z14
            have q140 : x5_1 < (l1.length : Int) := of_decide_eq_true Z14
            obtain ⟨ad140, e140, hx140_0, hx140_1⟩ := at_T68 HR1.out x5_1 p140 q140
            obtain rfl : ad138 = ad140 := (by injection e140)
            replace p140 := eq_true p140
            replace q140 := eq_true q140
            have p141 : 0 ≤ (x5_1 : Int) := of_decide_eq_true Z14
            have q141 : x5_1 < (l0.length : Int) := of_decide_eq_true Z14
            obtain ⟨ad141, e141, hx141_0, hx141_1⟩ := at_T68 HR0.out x5_1 p141 q141
            obtain rfl : ad137 = ad141 := (by injection e141)
            replace p141 := eq_true p141
            replace q141 := eq_true q141
            have p142 : 0 ≤ (x5_1 : Int) := of_decide_eq_true Z14
            have q142 : x5_1 < (l1.length : Int) := of_decide_eq_true Z14
            obtain ⟨ad142, e142, hx142_0, hx142_1⟩ := at_T68 HR1.out x5_1 p142 q142
            obtain rfl : ad138 = ad142 := (by injection e142)
            replace p142 := eq_true p142
            replace q142 := eq_true q142
            go_wp2
            repeat (go_quiet (fail); try go_wp2)
            go_meet
            case rel => exact ⟨_, (decide (((rd_T68 l0 x5_1).f1) < ((rd_T68 l1 x5_1).f1))), Z21, H', ⟨by have := HK1.out; have := HJ2.out; first | omega | exact Nat.le_refl _⟩, Z26⟩
           ·rw [if_neg c11] at H
            have c11b0 : (((rd_T68 l0 x5_1).f0) == ((rd_T68 l1 x5_1).f0)) = false := beq_eq_false_iff_ne.mpr c11
            have c11b1 : (((rd_T68 l0 x5_1).f0) != ((rd_T68 l1 x5_1).f0)) = true := bne_iff_ne.mpr c11
            have H' := A_ H
            clear H
            have p139 : 0 ≤ (x5_1 : Int) := of_decide_eq_true Z14
            have q139 : x5_1 < (l0.length : Int) := of_decide_eq_true Z14
            obtain ⟨ad139, e139, hx139_0, hx139_1⟩ := at_T68 HR0.out x5_1 p139 q139
            obtain rfl : ad137 = ad139 := (by injection e139)
            replace p139 := eq_true p139
            replace q139 := eq_true q139
            have p140 : 0 ≤ (x5_1 : Int) := of_decide_eq_true Z14
            have q140 : x5_1 < (l1.length : Int) := of_decide_eq_true Z14
            obtain ⟨ad140, e140, hx140_0, hx140_1⟩ := at_T68 HR1.out x5_1 p140 q140
            obtain rfl : ad138 = ad140 := (by injection e140)
            replace p140 := eq_true p140
            replace q140 := eq_true q140
            go_wp2
            repeat (go_quiet (fail); try go_wp2)
            go_meet
            case rel => exact ⟨_, (false), Z21, H', ⟨by have := HK1.out; have := HJ2.out; first | omega | exact Nat.le_refl _⟩, Z26⟩
         case rest =>
          clear HC9
          try clear c1
          try clear p1
          try clear q1
          try clear hx1
          try clear c2
          try clear p2
          try clear c4
          try clear c4b0
          try clear c5
          try clear c6
          try clear c6b0
          try clear c7
          try clear c7b0
          try clear c8
          try clear c8b0
          try clear c10
          try clear c10b0
          try clear c11
          try clear c11b0
          try clear c11b1
          try clear hx137_0
          try clear hx137_1
          try clear hx138_0
          try clear hx138_1
          try clear hx139_0
          try clear hx139_1
          try clear hx140_0
          try clear hx140_1
          try clear hx141_0
          try clear hx141_1
          try clear hx142_0
          try clear hx142_1
          try clear p137
          try clear p138
          try clear p139
          try clear p140
          try clear p141
          try clear p142
          try clear p2
          try clear q137
          try clear q138
          try clear q139
          try clear q140
          try clear q141
          try clear q142
          obtain ⟨kq, x18_8, rfl, HA, HJ8, ⟨mc8, rfl⟩⟩ := hcut
          cases kq with
          | zero => exact absurd HA.out (by simp [spec_comparePlaces.j2])
          | succ kj8 =>
           have H := HA.out
           clear HA
           simp only [spec_comparePlaces.j2] at H
           by_cases c12 : x18_8 = true
           ·subst c12
            have H1 : (some (-1)) = some r := by rw [if_pos rfl] at H; exact H
            clear H
            have H := H1
            clear H1
            obtain rfl := Option.some.inj H
            go_wp2
            repeat (go_quiet (fail); try go_wp2)
            go_ret
            exact ⟨Z21, Z26⟩
           ·replace c12 := Bool.eq_false_iff.mpr c12
            subst c12
            have H1 : (if 0 ≤ x5_1 then (if x5_1 < (l0.length : Int) then (if x5_1 < (l1.length : Int) then (if (!(((rd_T68 l0 x5_1).f0) == ((rd_T68 l1 x5_1).f0)) || (!(((rd_T68 l0 x5_1).f1) == ((rd_T68 l1 x5_1).f1)))) = true then (some 1) else (spec_comparePlaces.l0 kj8 l0 l1 (wrap64 (x5_1 + 1)))) else (none)) else (none)) else (none)) = some r := by rw [if_neg (show ¬ (false = true) by decide)] at H; exact H
            clear H
            have H := H1
            clear H1
            by_cases c13 : 0 ≤ x5_1
            ·rw [if_pos c13] at H
             have c13b0 : decide (0 ≤ x5_1) = true := decide_eq_true c13
             clear c13
             by_cases c14 : x5_1 < (l0.length : Int)
             ·rw [if_pos c14] at H
              have c14b0 : decide (x5_1 < (l0.length : Int)) = true := decide_eq_true c14
              clear c14
              by_cases c15 : x5_1 < (l1.length : Int)
              ·rw [if_pos c15] at H
               have c15b0 : decide (x5_1 < (l1.length : Int)) = true := decide_eq_true c15
               clear c15
               by_cases c16 : (!(((rd_T68 l0 x5_1).f0) == ((rd_T68 l1 x5_1).f0)) || (!(((rd_T68 l0 x5_1).f1) == ((rd_T68 l1 x5_1).f1)))) = true
               ·rw [if_pos c16] at H
                have c16b0 : (!(((rd_T68 l0 x5_1).f0) == ((rd_T68 l1 x5_1).f0)) || (!(((rd_T68 l0 x5_1).f1) == ((rd_T68 l1 x5_1).f1)))) = true := c16
                clear c16
                obtain rfl := Option.some.inj H
                have p143 : 0 ≤ (x5_1 : Int) := of_decide_eq_true Z14
                have q143 : x5_1 < (l0.length : Int) := of_decide_eq_true Z14
                obtain ⟨ad143, e143, hx143_0, hx143_1⟩ := at_T68 HR0.out x5_1 p143 q143
                obtain rfl : ad137 = ad143 := (by injection e143)
                replace p143 := eq_true p143
                replace q143 := eq_true q143
                have p144 : 0 ≤ (x5_1 : Int) := of_decide_eq_true Z14
                have q144 : x5_1 < (l1.length : Int) := of_decide_eq_true Z14
                obtain ⟨ad144, e144, hx144_0, hx144_1⟩ := at_T68 HR1.out x5_1 p144 q144
                obtain rfl : ad138 = ad144 := (by injection e144)
                replace p144 := eq_true p144
                replace q144 := eq_true q144
                go_wp2
                repeat (go_quiet (fail); try go_wp2)
                go_ret
                exact ⟨Z21, Z26⟩
               ·rw [if_neg c16] at H
                have c16b0 : (!(((rd_T68 l0 x5_1).f0) == ((rd_T68 l1 x5_1).f0)) || (!(((rd_T68 l0 x5_1).f1) == ((rd_T68 l1 x5_1).f1)))) = false := by simpa using c16
                clear c16
                have H' := A_ H
                clear H
                have p143 : 0 ≤ (x5_1 : Int) := of_decide_eq_true Z14
                have q143 : x5_1 < (l0.length : Int) := of_decide_eq_true Z14
                obtain ⟨ad143, e143, hx143_0, hx143_1⟩ := at_T68 HR0.out x5_1 p143 q143
                obtain rfl : ad137 = ad143 := (by injection e143)
                replace p143 := eq_true p143
                replace q143 := eq_true q143
                have p144 : 0 ≤ (x5_1 : Int) := of_decide_eq_true Z14
                have q144 : x5_1 < (l1.length : Int) := of_decide_eq_true Z14
                obtain ⟨ad144, e144, hx144_0, hx144_1⟩ := at_T68 HR1.out x5_1 p144 q144
                obtain rfl : ad138 = ad144 := (by injection e144)
                replace p144 := eq_true p144
                replace q144 := eq_true q144
                go_wp2
                repeat (go_quiet (fail); try go_wp2)
                go_roundg kj8
                case measure => have := HK1.out; have := HJ2.out; have := HJ8.out; omega
                case rel => exact ⟨(wrap64 (x5_1 + 1)), Z21, H', ⟨by have := HK1.out; have := HJ2.out; have := HJ8.out; omega⟩, Z26⟩
              ·rw [if_neg c15] at H
               exact absurd H (by simp)
             ·rw [if_neg c14] at H
              exact absurd H (by simp)
            ·rw [if_neg c13] at H
             exact absurd H (by simp)
        ·rw [if_neg c8] at H
         exact absurd H (by simp)
       ·rw [if_neg c7] at H
        exact absurd H (by simp)
      ·rw [if_neg c6] at H
       exact absurd H (by simp)
     ·replace c5 := Bool.eq_false_iff.mpr c5
      subst c5
      have H1 : (if (l0.length : Int) < (l1.length : Int) then (some (-1)) else (if (l0.length : Int) > (l1.length : Int) then (some 1) else (some 0))) = some r := by rw [if_neg (show ¬ (false = true) by decide)] at H; exact H
      clear H
      have H := H1
      clear H1
      by_cases c17 : (l0.length : Int) < (l1.length : Int)
      ·rw [if_pos c17] at H
       have c17b0 : decide ((l0.length : Int) < (l1.length : Int)) = true := decide_eq_true c17
       have c17b1 : decide (l0.length < l1.length) = true := decide_eq_true (Int.ofNat_lt.mp c17)
       clear c17
       obtain rfl := Option.some.inj H
       go_wp2
       repeat (go_quiet (fail); try go_wp2)
       go_ret
       exact ⟨Z21, Z26⟩
      ·rw [if_neg c17] at H
       have c17b0 : decide ((l0.length : Int) < (l1.length : Int)) = false := decide_eq_false c17
       have c17b1 : decide (l0.length < l1.length) = false := decide_eq_false (fun h => c17 (Int.ofNat_lt.mpr h))
       clear c17
       by_cases c18 : (l0.length : Int) > (l1.length : Int)
       ·rw [if_pos c18] at H
        have c18b0 : decide ((l1.length : Int) < (l0.length : Int)) = true := decide_eq_true c18
        have c18b1 : decide (l1.length < l0.length) = true := decide_eq_true (Int.ofNat_lt.mp c18)
        clear c18
        obtain rfl := Option.some.inj H
        go_wp2
        repeat (go_quiet (fail); try go_wp2)
        go_ret
        exact ⟨Z21, Z26⟩
       ·rw [if_neg c18] at H
        have c18b0 : decide ((l1.length : Int) < (l0.length : Int)) = false := decide_eq_false c18
        have c18b1 : decide (l1.length < l0.length) = false := decide_eq_false (fun h => c18 (Int.ofNat_lt.mpr h))
        clear c18
        obtain rfl := Option.some.inj H
        go_wp2
        repeat (go_quiet (fail); try go_wp2)
        go_ret
        exact ⟨Z21, Z26⟩
def spec_sameStore.l0 : Nat → List (S41) → List (S41) → Int → Option (Bool)
 | 0, _, _, _ => none
 | k + 1, x0, x1, x5 => if x5 < (x0.length : Int) then (if 0 ≤ x5 then (if x5 < (x1.length : Int) then ((spec_comparePlaces.f k ((rd_T41 x0 x5).f0) ((rd_T41 x1 x5).f0)).bind fun t147 => (if t147 = 0 then ((spec_sameValues.f k ((rd_T41 x0 x5).f1) ((rd_T41 x1 x5).f1)).bind fun t150 => (if t150 = true then (spec_sameStore.l0 k x0 x1 (wrap64 (x5 + 1))) else (some false))) else (some false))) else (none)) else (none)) else (some true)
def spec_sameStore.f (k : Nat) (l0 : List (S41)) (l1 : List (S41)) : Option (Bool) := if (l0.length : Int) = (l1.length : Int) then (spec_sameStore.l0 k l0 l1 0) else (some false)
theorem spec_sameStore.mono_l : ∀ k, (∀ y0 y1 y2, LeO (spec_sameStore.l0 k y0 y1 y2) (spec_sameStore.l0 (k + 1) y0 y1 y2))
 | 0 => fun _ _ _ r h => by simp [spec_sameStore.l0] at h
 | k + 1 => by
  have ih0 := spec_sameStore.mono_l k
  ·intro y0 y1 y2
   unfold spec_sameStore.l0
   repeat' first
   | (with_reducible exact ih0 _ _ _)
   | (with_reducible exact spec_comparePlaces.mono _ _ _)
   | (with_reducible exact spec_sameValues.mono _ _ _)
   | (with_reducible exact LeO.refl _)
   | (with_reducible exact LeO.none _)
   | (with_reducible refine LeO.ite ?_ ?_)
   | (with_reducible refine LeO.bind ?_ (fun _ => ?_))
   | exact ih0 _ _ _
   | exact spec_comparePlaces.mono _ _ _
   | exact spec_sameValues.mono _ _ _
   | exact LeO.none _
   | refine LeO.ite ?_ ?_
   | refine LeO.bind ?_ (fun _ => ?_)
theorem spec_sameStore.mono : ∀ a0 a1 k, LeO (spec_sameStore.f k a0 a1) (spec_sameStore.f (k + 1) a0 a1) := by
 intro a0 a1 k
 have ih0 := spec_sameStore.mono_l k
 unfold spec_sameStore.f
 repeat' first
   | (with_reducible exact ih0 _ _ _)
   | (with_reducible exact spec_comparePlaces.mono _ _ _)
   | (with_reducible exact spec_sameValues.mono _ _ _)
   | (with_reducible exact LeO.refl _)
   | (with_reducible exact LeO.none _)
   | (with_reducible refine LeO.ite ?_ ?_)
   | (with_reducible refine LeO.bind ?_ (fun _ => ?_))
   | exact ih0 _ _ _
   | exact spec_comparePlaces.mono _ _ _
   | exact spec_sameValues.mono _ _ _
   | exact LeO.none _
   | refine LeO.ite ?_ ?_
   | refine LeO.bind ?_ (fun _ => ?_)
set_option maxHeartbeats 8000000 in
set_option maxRecDepth 100000 in
theorem spec_sameStore.calls (k : Nat) (A0 : Option Addr) (c0 : Nat) (l0 : List (S41)) (A1 : Option Addr) (c1 : Nat) (l1 : List (S41)) (r : Bool) (w : World) (hr0 : Kd.C k41 w A0 l0.length l0) (hc0 : l0.length ≤ c0) (hr1 : Kd.C k41 w A1 l1.length l1) (hc1 : l1.length ≤ c1) (h : spec_sameStore.f k l0 l1 = some r) :
  Calls Try.prog 54 #[.slice A0 l0.length c0, .slice A1 l1.length c1] w fun e w' => e = .returned (.bool r) ∧ Drawn0 w w' := by
 have HR0 := A_ hr0
 have HC0 := A_ hc0
 clear hr0 hc0
 have HR1 := A_ hr1
 have HC1 := A_ hc1
 clear hr1 hc1
 have H : (if (l0.length : Int) = (l1.length : Int) then (spec_sameStore.l0 k l0 l1 0) else (some false)) = some r := h
 clear h
 by_cases c3 : (l0.length : Int) = (l1.length : Int)
 ·rw [if_pos c3] at H
  have c3b0 : ((l0.length : Int) == (l1.length : Int)) = true := beq_iff_eq.mpr c3
  have c3b1 : ((l0.length : Int) != (l1.length : Int)) = false := bne_eq_false_iff_eq.mpr c3
  have c3b2 : (l0.length == l1.length) = true := by first | simpa using c3 | (simp at c3 ⊢; omega)
  clear c3
  have H' := A_ H
  clear H
  go_enter Try.func54, Try.ntmps54
  go_wp2
  repeat (go_quiet (fail); try go_wp2)
  go_loopg [5] k (fun kq v5 w' => ∃ (x5_1 : Int), v5 = .int .i64 x5_1 ∧ Aside0 (spec_sameStore.l0 kq l0 l1 x5_1 = some r) ∧ Aside0 (kq ≤ k) ∧ Drawn0 w w')
  case atStart => exact ⟨(0), Z21, H', ⟨Nat.le_refl _⟩, Z26⟩
  case round =>
   clear H'
   try clear c1
   try clear p2
   try clear c3
   try clear c3b0
   try clear c3b1
   try clear c3b2
   obtain ⟨x5_1, rfl, HA, HK1, ⟨m1, rfl⟩⟩ := hrel
   cases gk with
   | zero => exact absurd HA.out (by simp [spec_sameStore.l0])
   | succ k1 =>
    have H := HA.out
    clear HA
    simp only [spec_sameStore.l0] at H
    by_cases c4 : x5_1 < (l0.length : Int)
    ·rw [if_pos c4] at H
     have c4b0 : decide (x5_1 < (l0.length : Int)) = true := decide_eq_true c4
     clear c4
     by_cases c5 : 0 ≤ x5_1
     ·rw [if_pos c5] at H
      have c5b0 : decide (0 ≤ x5_1) = true := decide_eq_true c5
      clear c5
      by_cases c6 : x5_1 < (l1.length : Int)
      ·rw [if_pos c6] at H
       have c6b0 : decide (x5_1 < (l1.length : Int)) = true := decide_eq_true c6
       clear c6
       replace H := Option.bind_eq_some_iff.mp H
       obtain ⟨t147, A70, H⟩ := H
       replace H : (if t147 = 0 then ((spec_sameValues.f k1 ((rd_T41 l0 x5_1).f1) ((rd_T41 l1 x5_1).f1)).bind fun t150 => (if t150 = true then (spec_sameStore.l0 k1 l0 l1 (wrap64 (x5_1 + 1))) else (some false))) else (some false)) = some r := H
       have A7 := A_ A70
       clear A70
       by_cases c8 : t147 = 0
       ·rw [if_pos c8] at H
        have c8b0 : (t147 == 0) = true := beq_iff_eq.mpr c8
        have c8b1 : (t147 != 0) = false := bne_eq_false_iff_eq.mpr c8
        clear c8
        replace H := Option.bind_eq_some_iff.mp H
        obtain ⟨t150, A90, H⟩ := H
        replace H : (if t150 = true then (spec_sameStore.l0 k1 l0 l1 (wrap64 (x5_1 + 1))) else (some false)) = some r := H
        have A9 := A_ A90
        clear A90
        by_cases c10 : t150 = true
        ·subst c10
         have H1 : (spec_sameStore.l0 k1 l0 l1 (wrap64 (x5_1 + 1))) = some r := by rw [if_pos rfl] at H; exact H
         clear H
         have H := H1
         clear H1
         have H' := A_ H
         clear H
         have p145 : 0 ≤ (x5_1 : Int) := of_decide_eq_true Z14
         have q145 : x5_1 < (l0.length : Int) := of_decide_eq_true Z14
         obtain ⟨ad145, A145_0, c145_0, A145_1, c145_1, e145, hx145_0, hx145_1, hl145_0, hi145_0, hl145_1, hi145_1⟩ := at_T41 HR0.out x5_1 p145 q145
         cases e145
         have HR145_0 := A_ hi145_0
         have HC145_0 := A_ hl145_0
         clear hi145_0 hl145_0
         have HR145_1 := A_ hi145_1
         have HC145_1 := A_ hl145_1
         clear hi145_1 hl145_1
         replace p145 := eq_true p145
         replace q145 := eq_true q145
         have p146 : 0 ≤ (x5_1 : Int) := of_decide_eq_true Z14
         have q146 : x5_1 < (l1.length : Int) := of_decide_eq_true Z14
         obtain ⟨ad146, A146_0, c146_0, A146_1, c146_1, e146, hx146_0, hx146_1, hl146_0, hi146_0, hl146_1, hi146_1⟩ := at_T41 HR1.out x5_1 p146 q146
         cases e146
         have HR146_0 := A_ hi146_0
         have HC146_0 := A_ hl146_0
         clear hi146_0 hl146_0
         have HR146_1 := A_ hi146_1
         have HC146_1 := A_ hl146_1
         clear hi146_1 hl146_1
         replace p146 := eq_true p146
         replace q146 := eq_true q146
         go_wp2_with (first | (go_at_call 62; (with_reducible refine (spec_comparePlaces.calls k1 _ _ ((rd_T41 l0 x5_1).f0) _ _ ((rd_T41 l1 x5_1).f0) t147 _ ?side1 ?side2 ?side3 ?side4 A7.out).mono ?_); (case side1 => exact Z19 HR145_0.out); (case side2 => exact HC145_0.out); (case side3 => exact Z19 HR146_0.out); (case side4 => exact HC146_0.out); rintro e w' ⟨rfl, ⟨nd, rfl⟩⟩; (try first | exact ⟨rfl, _, World.drewN_drewN _ _ _⟩ | exact ⟨rfl, _, Eq.trans (World.drewN_drewN _ _ _) (congrArg (World.drewN _) (Nat.add_assoc _ _ _))⟩); have p148 : 0 ≤ (x5_1 : Int) := of_decide_eq_true Z14; have q148 : x5_1 < (l0.length : Int) := of_decide_eq_true Z14; obtain ⟨ad148, A148_0, c148_0, A148_1, c148_1, e148, hx148_0, hx148_1, hl148_0, hi148_0, hl148_1, hi148_1⟩ := at_T41 HR0.out x5_1 p148 q148; obtain rfl : ad145 = ad148 := (by injection e148); have HR148_0 := A_ hi148_0; have HC148_0 := A_ hl148_0; clear hi148_0 hl148_0; have HR148_1 := A_ hi148_1; have HC148_1 := A_ hl148_1; clear hi148_1 hl148_1; replace p148 := eq_true p148; replace q148 := eq_true q148; have ea_ := Option.some.inj (hx145_0.symm.trans hx148_0); injection ea_ with ea_ en_ ec_; subst ea_; subst ec_; clear en_; have ea_ := Option.some.inj (hx145_1.symm.trans hx148_1); injection ea_ with ea_ en_ ec_; subst ea_; subst ec_; clear en_; have p149 : 0 ≤ (x5_1 : Int) := of_decide_eq_true Z14; have q149 : x5_1 < (l1.length : Int) := of_decide_eq_true Z14; obtain ⟨ad149, A149_0, c149_0, A149_1, c149_1, e149, hx149_0, hx149_1, hl149_0, hi149_0, hl149_1, hi149_1⟩ := at_T41 HR1.out x5_1 p149 q149; obtain rfl : ad146 = ad149 := (by injection e149); have HR149_0 := A_ hi149_0; have HC149_0 := A_ hl149_0; clear hi149_0 hl149_0; have HR149_1 := A_ hi149_1; have HC149_1 := A_ hl149_1; clear hi149_1 hl149_1; replace p149 := eq_true p149; replace q149 := eq_true q149; have ea_ := Option.some.inj (hx146_0.symm.trans hx149_0); injection ea_ with ea_ en_ ec_; subst ea_; subst ec_; clear en_; have ea_ := Option.some.inj (hx146_1.symm.trans hx149_1); injection ea_ with ea_ en_ ec_; subst ea_; subst ec_; clear en_) | (go_at_call 48; (with_reducible refine (spec_sameValues.calls k1 _ _ ((rd_T41 l0 x5_1).f1) _ _ ((rd_T41 l1 x5_1).f1) true _ ?side1 ?side2 ?side3 ?side4 A9.out).mono ?_); (case side1 => exact Z19 HR148_1.out); (case side2 => exact HC148_1.out); (case side3 => exact Z19 HR149_1.out); (case side4 => exact HC149_1.out); rintro e w' ⟨rfl, ⟨nd, rfl⟩⟩; (try first | exact ⟨rfl, _, World.drewN_drewN _ _ _⟩ | exact ⟨rfl, _, Eq.trans (World.drewN_drewN _ _ _) (congrArg (World.drewN _) (Nat.add_assoc _ _ _))⟩)))
         repeat (go_quiet (first | (go_at_call 62; (with_reducible refine (spec_comparePlaces.calls k1 _ _ ((rd_T41 l0 x5_1).f0) _ _ ((rd_T41 l1 x5_1).f0) t147 _ ?side1 ?side2 ?side3 ?side4 A7.out).mono ?_); (case side1 => exact Z19 HR145_0.out); (case side2 => exact HC145_0.out); (case side3 => exact Z19 HR146_0.out); (case side4 => exact HC146_0.out); rintro e w' ⟨rfl, ⟨nd, rfl⟩⟩; (try first | exact ⟨rfl, _, World.drewN_drewN _ _ _⟩ | exact ⟨rfl, _, Eq.trans (World.drewN_drewN _ _ _) (congrArg (World.drewN _) (Nat.add_assoc _ _ _))⟩); have p148 : 0 ≤ (x5_1 : Int) := of_decide_eq_true Z14; have q148 : x5_1 < (l0.length : Int) := of_decide_eq_true Z14; obtain ⟨ad148, A148_0, c148_0, A148_1, c148_1, e148, hx148_0, hx148_1, hl148_0, hi148_0, hl148_1, hi148_1⟩ := at_T41 HR0.out x5_1 p148 q148; obtain rfl : ad145 = ad148 := (by injection e148); have HR148_0 := A_ hi148_0; have HC148_0 := A_ hl148_0; clear hi148_0 hl148_0; have HR148_1 := A_ hi148_1; have HC148_1 := A_ hl148_1; clear hi148_1 hl148_1; replace p148 := eq_true p148; replace q148 := eq_true q148; have ea_ := Option.some.inj (hx145_0.symm.trans hx148_0); injection ea_ with ea_ en_ ec_; subst ea_; subst ec_; clear en_; have ea_ := Option.some.inj (hx145_1.symm.trans hx148_1); injection ea_ with ea_ en_ ec_; subst ea_; subst ec_; clear en_; have p149 : 0 ≤ (x5_1 : Int) := of_decide_eq_true Z14; have q149 : x5_1 < (l1.length : Int) := of_decide_eq_true Z14; obtain ⟨ad149, A149_0, c149_0, A149_1, c149_1, e149, hx149_0, hx149_1, hl149_0, hi149_0, hl149_1, hi149_1⟩ := at_T41 HR1.out x5_1 p149 q149; obtain rfl : ad146 = ad149 := (by injection e149); have HR149_0 := A_ hi149_0; have HC149_0 := A_ hl149_0; clear hi149_0 hl149_0; have HR149_1 := A_ hi149_1; have HC149_1 := A_ hl149_1; clear hi149_1 hl149_1; replace p149 := eq_true p149; replace q149 := eq_true q149; have ea_ := Option.some.inj (hx146_0.symm.trans hx149_0); injection ea_ with ea_ en_ ec_; subst ea_; subst ec_; clear en_; have ea_ := Option.some.inj (hx146_1.symm.trans hx149_1); injection ea_ with ea_ en_ ec_; subst ea_; subst ec_; clear en_) | (go_at_call 48; (with_reducible refine (spec_sameValues.calls k1 _ _ ((rd_T41 l0 x5_1).f1) _ _ ((rd_T41 l1 x5_1).f1) true _ ?side1 ?side2 ?side3 ?side4 A9.out).mono ?_); (case side1 => exact Z19 HR148_1.out); (case side2 => exact HC148_1.out); (case side3 => exact Z19 HR149_1.out); (case side4 => exact HC149_1.out); rintro e w' ⟨rfl, ⟨nd, rfl⟩⟩; (try first | exact ⟨rfl, _, World.drewN_drewN _ _ _⟩ | exact ⟨rfl, _, Eq.trans (World.drewN_drewN _ _ _) (congrArg (World.drewN _) (Nat.add_assoc _ _ _))⟩))); try go_wp2_with (first | (go_at_call 62; (with_reducible refine (spec_comparePlaces.calls k1 _ _ ((rd_T41 l0 x5_1).f0) _ _ ((rd_T41 l1 x5_1).f0) t147 _ ?side1 ?side2 ?side3 ?side4 A7.out).mono ?_); (case side1 => exact Z19 HR145_0.out); (case side2 => exact HC145_0.out); (case side3 => exact Z19 HR146_0.out); (case side4 => exact HC146_0.out); rintro e w' ⟨rfl, ⟨nd, rfl⟩⟩; (try first | exact ⟨rfl, _, World.drewN_drewN _ _ _⟩ | exact ⟨rfl, _, Eq.trans (World.drewN_drewN _ _ _) (congrArg (World.drewN _) (Nat.add_assoc _ _ _))⟩); have p148 : 0 ≤ (x5_1 : Int) := of_decide_eq_true Z14; have q148 : x5_1 < (l0.length : Int) := of_decide_eq_true Z14; obtain ⟨ad148, A148_0, c148_0, A148_1, c148_1, e148, hx148_0, hx148_1, hl148_0, hi148_0, hl148_1, hi148_1⟩ := at_T41 HR0.out x5_1 p148 q148; obtain rfl : ad145 = ad148 := (by injection e148); have HR148_0 := A_ hi148_0; have HC148_0 := A_ hl148_0; clear hi148_0 hl148_0; have HR148_1 := A_ hi148_1; have HC148_1 := A_ hl148_1; clear hi148_1 hl148_1; replace p148 := eq_true p148; replace q148 := eq_true q148; have ea_ := Option.some.inj (hx145_0.symm.trans hx148_0); injection ea_ with ea_ en_ ec_; subst ea_; subst ec_; clear en_; have ea_ := Option.some.inj (hx145_1.symm.trans hx148_1); injection ea_ with ea_ en_ ec_; subst ea_; subst ec_; clear en_; have p149 : 0 ≤ (x5_1 : Int) := of_decide_eq_true Z14; have q149 : x5_1 < (l1.length : Int) := of_decide_eq_true Z14; obtain ⟨ad149, A149_0, c149_0, A149_1, c149_1, e149, hx149_0, hx149_1, hl149_0, hi149_0, hl149_1, hi149_1⟩ := at_T41 HR1.out x5_1 p149 q149; obtain rfl : ad146 = ad149 := (by injection e149); have HR149_0 := A_ hi149_0; have HC149_0 := A_ hl149_0; clear hi149_0 hl149_0; have HR149_1 := A_ hi149_1; have HC149_1 := A_ hl149_1; clear hi149_1 hl149_1; replace p149 := eq_true p149; replace q149 := eq_true q149; have ea_ := Option.some.inj (hx146_0.symm.trans hx149_0); injection ea_ with ea_ en_ ec_; subst ea_; subst ec_; clear en_; have ea_ := Option.some.inj (hx146_1.symm.trans hx149_1); injection ea_ with ea_ en_ ec_; subst ea_; subst ec_; clear en_) | (go_at_call 48; (with_reducible refine (spec_sameValues.calls k1 _ _ ((rd_T41 l0 x5_1).f1) _ _ ((rd_T41 l1 x5_1).f1) true _ ?side1 ?side2 ?side3 ?side4 A9.out).mono ?_); (case side1 => exact Z19 HR148_1.out); (case side2 => exact HC148_1.out); (case side3 => exact Z19 HR149_1.out); (case side4 => exact HC149_1.out); rintro e w' ⟨rfl, ⟨nd, rfl⟩⟩; (try first | exact ⟨rfl, _, World.drewN_drewN _ _ _⟩ | exact ⟨rfl, _, Eq.trans (World.drewN_drewN _ _ _) (congrArg (World.drewN _) (Nat.add_assoc _ _ _))⟩))))
         go_roundg k1
         case measure => have := HK1.out; omega
         case rel => exact ⟨(wrap64 (x5_1 + 1)), Z21, H', ⟨by have := HK1.out; omega⟩, Z26⟩
        ·replace c10 := Bool.eq_false_iff.mpr c10
         subst c10
         have H1 : (some false) = some r := by rw [if_neg (show ¬ (false = true) by decide)] at H; exact H
         clear H
         have H := H1
         clear H1
         obtain rfl := Option.some.inj H
         have p145 : 0 ≤ (x5_1 : Int) := of_decide_eq_true Z14
         have q145 : x5_1 < (l0.length : Int) := of_decide_eq_true Z14
         obtain ⟨ad145, A145_0, c145_0, A145_1, c145_1, e145, hx145_0, hx145_1, hl145_0, hi145_0, hl145_1, hi145_1⟩ := at_T41 HR0.out x5_1 p145 q145
         cases e145
         have HR145_0 := A_ hi145_0
         have HC145_0 := A_ hl145_0
         clear hi145_0 hl145_0
         have HR145_1 := A_ hi145_1
         have HC145_1 := A_ hl145_1
         clear hi145_1 hl145_1
         replace p145 := eq_true p145
         replace q145 := eq_true q145
         have p146 : 0 ≤ (x5_1 : Int) := of_decide_eq_true Z14
         have q146 : x5_1 < (l1.length : Int) := of_decide_eq_true Z14
         obtain ⟨ad146, A146_0, c146_0, A146_1, c146_1, e146, hx146_0, hx146_1, hl146_0, hi146_0, hl146_1, hi146_1⟩ := at_T41 HR1.out x5_1 p146 q146
         cases e146
         have HR146_0 := A_ hi146_0
         have HC146_0 := A_ hl146_0
         clear hi146_0 hl146_0
         have HR146_1 := A_ hi146_1
         have HC146_1 := A_ hl146_1
         clear hi146_1 hl146_1
         replace p146 := eq_true p146
         replace q146 := eq_true q146
         go_wp2_with (first | (go_at_call 62; (with_reducible refine (spec_comparePlaces.calls k1 _ _ ((rd_T41 l0 x5_1).f0) _ _ ((rd_T41 l1 x5_1).f0) t147 _ ?side1 ?side2 ?side3 ?side4 A7.out).mono ?_); (case side1 => exact Z19 HR145_0.out); (case side2 => exact HC145_0.out); (case side3 => exact Z19 HR146_0.out); (case side4 => exact HC146_0.out); rintro e w' ⟨rfl, ⟨nd, rfl⟩⟩; (try first | exact ⟨rfl, _, World.drewN_drewN _ _ _⟩ | exact ⟨rfl, _, Eq.trans (World.drewN_drewN _ _ _) (congrArg (World.drewN _) (Nat.add_assoc _ _ _))⟩); have p148 : 0 ≤ (x5_1 : Int) := of_decide_eq_true Z14; have q148 : x5_1 < (l0.length : Int) := of_decide_eq_true Z14; obtain ⟨ad148, A148_0, c148_0, A148_1, c148_1, e148, hx148_0, hx148_1, hl148_0, hi148_0, hl148_1, hi148_1⟩ := at_T41 HR0.out x5_1 p148 q148; obtain rfl : ad145 = ad148 := (by injection e148); have HR148_0 := A_ hi148_0; have HC148_0 := A_ hl148_0; clear hi148_0 hl148_0; have HR148_1 := A_ hi148_1; have HC148_1 := A_ hl148_1; clear hi148_1 hl148_1; replace p148 := eq_true p148; replace q148 := eq_true q148; have ea_ := Option.some.inj (hx145_0.symm.trans hx148_0); injection ea_ with ea_ en_ ec_; subst ea_; subst ec_; clear en_; have ea_ := Option.some.inj (hx145_1.symm.trans hx148_1); injection ea_ with ea_ en_ ec_; subst ea_; subst ec_; clear en_; have p149 : 0 ≤ (x5_1 : Int) := of_decide_eq_true Z14; have q149 : x5_1 < (l1.length : Int) := of_decide_eq_true Z14; obtain ⟨ad149, A149_0, c149_0, A149_1, c149_1, e149, hx149_0, hx149_1, hl149_0, hi149_0, hl149_1, hi149_1⟩ := at_T41 HR1.out x5_1 p149 q149; obtain rfl : ad146 = ad149 := (by injection e149); have HR149_0 := A_ hi149_0; have HC149_0 := A_ hl149_0; clear hi149_0 hl149_0; have HR149_1 := A_ hi149_1; have HC149_1 := A_ hl149_1; clear hi149_1 hl149_1; replace p149 := eq_true p149; replace q149 := eq_true q149; have ea_ := Option.some.inj (hx146_0.symm.trans hx149_0); injection ea_ with ea_ en_ ec_; subst ea_; subst ec_; clear en_; have ea_ := Option.some.inj (hx146_1.symm.trans hx149_1); injection ea_ with ea_ en_ ec_; subst ea_; subst ec_; clear en_) | (go_at_call 48; (with_reducible refine (spec_sameValues.calls k1 _ _ ((rd_T41 l0 x5_1).f1) _ _ ((rd_T41 l1 x5_1).f1) false _ ?side1 ?side2 ?side3 ?side4 A9.out).mono ?_); (case side1 => exact Z19 HR148_1.out); (case side2 => exact HC148_1.out); (case side3 => exact Z19 HR149_1.out); (case side4 => exact HC149_1.out); rintro e w' ⟨rfl, ⟨nd, rfl⟩⟩; (try first | exact ⟨rfl, _, World.drewN_drewN _ _ _⟩ | exact ⟨rfl, _, Eq.trans (World.drewN_drewN _ _ _) (congrArg (World.drewN _) (Nat.add_assoc _ _ _))⟩)))
         repeat (go_quiet (first | (go_at_call 62; (with_reducible refine (spec_comparePlaces.calls k1 _ _ ((rd_T41 l0 x5_1).f0) _ _ ((rd_T41 l1 x5_1).f0) t147 _ ?side1 ?side2 ?side3 ?side4 A7.out).mono ?_); (case side1 => exact Z19 HR145_0.out); (case side2 => exact HC145_0.out); (case side3 => exact Z19 HR146_0.out); (case side4 => exact HC146_0.out); rintro e w' ⟨rfl, ⟨nd, rfl⟩⟩; (try first | exact ⟨rfl, _, World.drewN_drewN _ _ _⟩ | exact ⟨rfl, _, Eq.trans (World.drewN_drewN _ _ _) (congrArg (World.drewN _) (Nat.add_assoc _ _ _))⟩); have p148 : 0 ≤ (x5_1 : Int) := of_decide_eq_true Z14; have q148 : x5_1 < (l0.length : Int) := of_decide_eq_true Z14; obtain ⟨ad148, A148_0, c148_0, A148_1, c148_1, e148, hx148_0, hx148_1, hl148_0, hi148_0, hl148_1, hi148_1⟩ := at_T41 HR0.out x5_1 p148 q148; obtain rfl : ad145 = ad148 := (by injection e148); have HR148_0 := A_ hi148_0; have HC148_0 := A_ hl148_0; clear hi148_0 hl148_0; have HR148_1 := A_ hi148_1; have HC148_1 := A_ hl148_1; clear hi148_1 hl148_1; replace p148 := eq_true p148; replace q148 := eq_true q148; have ea_ := Option.some.inj (hx145_0.symm.trans hx148_0); injection ea_ with ea_ en_ ec_; subst ea_; subst ec_; clear en_; have ea_ := Option.some.inj (hx145_1.symm.trans hx148_1); injection ea_ with ea_ en_ ec_; subst ea_; subst ec_; clear en_; have p149 : 0 ≤ (x5_1 : Int) := of_decide_eq_true Z14; have q149 : x5_1 < (l1.length : Int) := of_decide_eq_true Z14; obtain ⟨ad149, A149_0, c149_0, A149_1, c149_1, e149, hx149_0, hx149_1, hl149_0, hi149_0, hl149_1, hi149_1⟩ := at_T41 HR1.out x5_1 p149 q149; obtain rfl : ad146 = ad149 := (by injection e149); have HR149_0 := A_ hi149_0; have HC149_0 := A_ hl149_0; clear hi149_0 hl149_0; have HR149_1 := A_ hi149_1; have HC149_1 := A_ hl149_1; clear hi149_1 hl149_1; replace p149 := eq_true p149; replace q149 := eq_true q149; have ea_ := Option.some.inj (hx146_0.symm.trans hx149_0); injection ea_ with ea_ en_ ec_; subst ea_; subst ec_; clear en_; have ea_ := Option.some.inj (hx146_1.symm.trans hx149_1); injection ea_ with ea_ en_ ec_; subst ea_; subst ec_; clear en_) | (go_at_call 48; (with_reducible refine (spec_sameValues.calls k1 _ _ ((rd_T41 l0 x5_1).f1) _ _ ((rd_T41 l1 x5_1).f1) false _ ?side1 ?side2 ?side3 ?side4 A9.out).mono ?_); (case side1 => exact Z19 HR148_1.out); (case side2 => exact HC148_1.out); (case side3 => exact Z19 HR149_1.out); (case side4 => exact HC149_1.out); rintro e w' ⟨rfl, ⟨nd, rfl⟩⟩; (try first | exact ⟨rfl, _, World.drewN_drewN _ _ _⟩ | exact ⟨rfl, _, Eq.trans (World.drewN_drewN _ _ _) (congrArg (World.drewN _) (Nat.add_assoc _ _ _))⟩))); try go_wp2_with (first | (go_at_call 62; (with_reducible refine (spec_comparePlaces.calls k1 _ _ ((rd_T41 l0 x5_1).f0) _ _ ((rd_T41 l1 x5_1).f0) t147 _ ?side1 ?side2 ?side3 ?side4 A7.out).mono ?_); (case side1 => exact Z19 HR145_0.out); (case side2 => exact HC145_0.out); (case side3 => exact Z19 HR146_0.out); (case side4 => exact HC146_0.out); rintro e w' ⟨rfl, ⟨nd, rfl⟩⟩; (try first | exact ⟨rfl, _, World.drewN_drewN _ _ _⟩ | exact ⟨rfl, _, Eq.trans (World.drewN_drewN _ _ _) (congrArg (World.drewN _) (Nat.add_assoc _ _ _))⟩); have p148 : 0 ≤ (x5_1 : Int) := of_decide_eq_true Z14; have q148 : x5_1 < (l0.length : Int) := of_decide_eq_true Z14; obtain ⟨ad148, A148_0, c148_0, A148_1, c148_1, e148, hx148_0, hx148_1, hl148_0, hi148_0, hl148_1, hi148_1⟩ := at_T41 HR0.out x5_1 p148 q148; obtain rfl : ad145 = ad148 := (by injection e148); have HR148_0 := A_ hi148_0; have HC148_0 := A_ hl148_0; clear hi148_0 hl148_0; have HR148_1 := A_ hi148_1; have HC148_1 := A_ hl148_1; clear hi148_1 hl148_1; replace p148 := eq_true p148; replace q148 := eq_true q148; have ea_ := Option.some.inj (hx145_0.symm.trans hx148_0); injection ea_ with ea_ en_ ec_; subst ea_; subst ec_; clear en_; have ea_ := Option.some.inj (hx145_1.symm.trans hx148_1); injection ea_ with ea_ en_ ec_; subst ea_; subst ec_; clear en_; have p149 : 0 ≤ (x5_1 : Int) := of_decide_eq_true Z14; have q149 : x5_1 < (l1.length : Int) := of_decide_eq_true Z14; obtain ⟨ad149, A149_0, c149_0, A149_1, c149_1, e149, hx149_0, hx149_1, hl149_0, hi149_0, hl149_1, hi149_1⟩ := at_T41 HR1.out x5_1 p149 q149; obtain rfl : ad146 = ad149 := (by injection e149); have HR149_0 := A_ hi149_0; have HC149_0 := A_ hl149_0; clear hi149_0 hl149_0; have HR149_1 := A_ hi149_1; have HC149_1 := A_ hl149_1; clear hi149_1 hl149_1; replace p149 := eq_true p149; replace q149 := eq_true q149; have ea_ := Option.some.inj (hx146_0.symm.trans hx149_0); injection ea_ with ea_ en_ ec_; subst ea_; subst ec_; clear en_; have ea_ := Option.some.inj (hx146_1.symm.trans hx149_1); injection ea_ with ea_ en_ ec_; subst ea_; subst ec_; clear en_) | (go_at_call 48; (with_reducible refine (spec_sameValues.calls k1 _ _ ((rd_T41 l0 x5_1).f1) _ _ ((rd_T41 l1 x5_1).f1) false _ ?side1 ?side2 ?side3 ?side4 A9.out).mono ?_); (case side1 => exact Z19 HR148_1.out); (case side2 => exact HC148_1.out); (case side3 => exact Z19 HR149_1.out); (case side4 => exact HC149_1.out); rintro e w' ⟨rfl, ⟨nd, rfl⟩⟩; (try first | exact ⟨rfl, _, World.drewN_drewN _ _ _⟩ | exact ⟨rfl, _, Eq.trans (World.drewN_drewN _ _ _) (congrArg (World.drewN _) (Nat.add_assoc _ _ _))⟩))))
         go_ret
         exact ⟨Z21, Z26⟩
       ·rw [if_neg c8] at H
        have c8b0 : (t147 == 0) = false := beq_eq_false_iff_ne.mpr c8
        have c8b1 : (t147 != 0) = true := bne_iff_ne.mpr c8
        obtain rfl := Option.some.inj H
        have p145 : 0 ≤ (x5_1 : Int) := of_decide_eq_true Z14
        have q145 : x5_1 < (l0.length : Int) := of_decide_eq_true Z14
        obtain ⟨ad145, A145_0, c145_0, A145_1, c145_1, e145, hx145_0, hx145_1, hl145_0, hi145_0, hl145_1, hi145_1⟩ := at_T41 HR0.out x5_1 p145 q145
        cases e145
        have HR145_0 := A_ hi145_0
        have HC145_0 := A_ hl145_0
        clear hi145_0 hl145_0
        have HR145_1 := A_ hi145_1
        have HC145_1 := A_ hl145_1
        clear hi145_1 hl145_1
        replace p145 := eq_true p145
        replace q145 := eq_true q145
        have p146 : 0 ≤ (x5_1 : Int) := of_decide_eq_true Z14
        have q146 : x5_1 < (l1.length : Int) := of_decide_eq_true Z14
        obtain ⟨ad146, A146_0, c146_0, A146_1, c146_1, e146, hx146_0, hx146_1, hl146_0, hi146_0, hl146_1, hi146_1⟩ := at_T41 HR1.out x5_1 p146 q146
        cases e146
        have HR146_0 := A_ hi146_0
        have HC146_0 := A_ hl146_0
        clear hi146_0 hl146_0
        have HR146_1 := A_ hi146_1
        have HC146_1 := A_ hl146_1
        clear hi146_1 hl146_1
        replace p146 := eq_true p146
        replace q146 := eq_true q146
        go_wp2_with (first | (go_at_call 62; (with_reducible refine (spec_comparePlaces.calls k1 _ _ ((rd_T41 l0 x5_1).f0) _ _ ((rd_T41 l1 x5_1).f0) t147 _ ?side1 ?side2 ?side3 ?side4 A7.out).mono ?_); (case side1 => exact Z19 HR145_0.out); (case side2 => exact HC145_0.out); (case side3 => exact Z19 HR146_0.out); (case side4 => exact HC146_0.out); rintro e w' ⟨rfl, ⟨nd, rfl⟩⟩; (try first | exact ⟨rfl, _, World.drewN_drewN _ _ _⟩ | exact ⟨rfl, _, Eq.trans (World.drewN_drewN _ _ _) (congrArg (World.drewN _) (Nat.add_assoc _ _ _))⟩)))
        repeat (go_quiet (first | (go_at_call 62; (with_reducible refine (spec_comparePlaces.calls k1 _ _ ((rd_T41 l0 x5_1).f0) _ _ ((rd_T41 l1 x5_1).f0) t147 _ ?side1 ?side2 ?side3 ?side4 A7.out).mono ?_); (case side1 => exact Z19 HR145_0.out); (case side2 => exact HC145_0.out); (case side3 => exact Z19 HR146_0.out); (case side4 => exact HC146_0.out); rintro e w' ⟨rfl, ⟨nd, rfl⟩⟩; (try first | exact ⟨rfl, _, World.drewN_drewN _ _ _⟩ | exact ⟨rfl, _, Eq.trans (World.drewN_drewN _ _ _) (congrArg (World.drewN _) (Nat.add_assoc _ _ _))⟩))); try go_wp2_with (first | (go_at_call 62; (with_reducible refine (spec_comparePlaces.calls k1 _ _ ((rd_T41 l0 x5_1).f0) _ _ ((rd_T41 l1 x5_1).f0) t147 _ ?side1 ?side2 ?side3 ?side4 A7.out).mono ?_); (case side1 => exact Z19 HR145_0.out); (case side2 => exact HC145_0.out); (case side3 => exact Z19 HR146_0.out); (case side4 => exact HC146_0.out); rintro e w' ⟨rfl, ⟨nd, rfl⟩⟩; (try first | exact ⟨rfl, _, World.drewN_drewN _ _ _⟩ | exact ⟨rfl, _, Eq.trans (World.drewN_drewN _ _ _) (congrArg (World.drewN _) (Nat.add_assoc _ _ _))⟩))))
        go_ret
        exact ⟨Z21, Z26⟩
      ·rw [if_neg c6] at H
       exact absurd H (by simp)
     ·rw [if_neg c5] at H
      exact absurd H (by simp)
    ·rw [if_neg c4] at H
     have c4b0 : decide (x5_1 < (l0.length : Int)) = false := decide_eq_false c4
     clear c4
     obtain rfl := Option.some.inj H
     go_wp2
     repeat (go_quiet (fail); try go_wp2)
     go_ret
     exact ⟨Z21, Z26⟩
 ·rw [if_neg c3] at H
  have c3b0 : ((l0.length : Int) == (l1.length : Int)) = false := beq_eq_false_iff_ne.mpr c3
  have c3b1 : ((l0.length : Int) != (l1.length : Int)) = true := bne_iff_ne.mpr c3
  have c3b2 : (l0.length == l1.length) = false := by first | simpa using c3 | (simp at c3 ⊢; omega)
  obtain rfl := Option.some.inj H
  go_enter Try.func54, Try.ntmps54
  go_wp2
  repeat (go_quiet (fail); try go_wp2)
  go_ret
  exact ⟨Z21, Z26⟩
def spec_SameStore.f (k : Nat) (l0 : List (S41)) (l1 : List (S41)) : Option (Bool) := (spec_sameStore.f k l0 l1).bind fun t151 => (some t151)
theorem spec_SameStore.mono : ∀ a0 a1 k, LeO (spec_SameStore.f k a0 a1) (spec_SameStore.f (k + 1) a0 a1) := by
 intro a0 a1 k
 unfold spec_SameStore.f
 repeat' first
   | (with_reducible exact spec_sameStore.mono _ _ _)
   | (with_reducible exact LeO.refl _)
   | (with_reducible exact LeO.none _)
   | (with_reducible refine LeO.ite ?_ ?_)
   | (with_reducible refine LeO.bind ?_ (fun _ => ?_))
   | exact spec_sameStore.mono _ _ _
   | exact LeO.none _
   | refine LeO.ite ?_ ?_
   | refine LeO.bind ?_ (fun _ => ?_)
set_option maxHeartbeats 8000000 in
set_option maxRecDepth 100000 in
theorem spec_SameStore.calls (k : Nat) (A0 : Option Addr) (c0 : Nat) (l0 : List (S41)) (A1 : Option Addr) (c1 : Nat) (l1 : List (S41)) (r : Bool) (w : World) (hr0 : Kd.C k41 w A0 l0.length l0) (hc0 : l0.length ≤ c0) (hr1 : Kd.C k41 w A1 l1.length l1) (hc1 : l1.length ≤ c1) (h : spec_SameStore.f k l0 l1 = some r) :
  Calls Try.prog 23 #[.slice A0 l0.length c0, .slice A1 l1.length c1] w fun e w' => e = .returned (.bool r) ∧ Drawn0 w w' := by
 have HR0 := A_ hr0
 have HC0 := A_ hc0
 clear hr0 hc0
 have HR1 := A_ hr1
 have HC1 := A_ hc1
 clear hr1 hc1
 have H : ((spec_sameStore.f k l0 l1).bind fun t151 => (some t151)) = some r := h
 clear h
 replace H := Option.bind_eq_some_iff.mp H
 obtain ⟨t151, A30, H⟩ := H
 replace H : (some t151) = some r := H
 have A3 := A_ A30
 clear A30
 obtain rfl := Option.some.inj H
 go_enter Try.func23, Try.ntmps23
 go_wp2_with (first | ((with_reducible refine gate_callee (f := 54) rfl ?_); refine goesL_ (some 7) rfl rfl Try.func54 (by kernel_rfl) rfl #[.slice A0 l0.length c0, .slice A1 l1.length c1] rfl Z3 ?_; (with_reducible refine (spec_sameStore.calls k _ _ l0 _ _ l1 t151 _ ?side1 ?side2 ?side3 ?side4 A3.out).mono ?_); (case side1 => exact Z19 HR0.out); (case side2 => exact HC0.out); (case side3 => exact Z19 HR1.out); (case side4 => exact HC1.out); rintro e w' ⟨rfl, ⟨nd, rfl⟩⟩; refine ⟨_, rfl, ?_⟩))
 go_ret
 exact ⟨Z21, Z26⟩
def impl_placeCopy.f (l0 : List (S68)) : Option ((List (S68))) := if ([] : List (S68)).length + l0.length < 8796093022208 then (some (([] : List (S68)) ++ l0)) else (none)
set_option maxHeartbeats 8000000 in
set_option maxRecDepth 100000 in
theorem impl_placeCopy.calls (A0 : Option Addr) (c0 : Nat) (l0 : List (S68)) (r : List (S68)) (w : World) (hr0 : Kd.C k68 w A0 l0.length l0) (hc0 : l0.length ≤ c0) (h : impl_placeCopy.f l0 = some r) :
  Calls Try.prog 67 #[.slice A0 l0.length c0] w fun e w' => ∃ v0_ : Value, e = .returned (v0_) ∧ Kd.R k68 68 w' w.heap.size (fun _ => True) v0_ r ∧ Below w.heap.size w w' := by
 have HR0 := A_ hr0
 have HC0 := A_ hc0
 clear hr0 hc0
 have HB := A_ (Below.refl w.heap.size w)
 have H : (if ([] : List (S68)).length + l0.length < 8796093022208 then (some (([] : List (S68)) ++ l0)) else (none)) = some r := h
 clear h
 by_cases c2 : ([] : List (S68)).length + l0.length < 8796093022208
 ·rw [if_pos c2] at H
  have LMc2 := A_ c2
  clear c2
  obtain ⟨y152, hy152⟩ : ∃ y_ : List (S68), y_ = (([] : List (S68)) ++ l0) := ⟨_, rfl⟩
  replace H : (some y152) = some r := by first | (rw [hy152]; with_reducible exact H) | (have H2_ := (Option.bind_some _ _).symm.trans H; rw [hy152]; with_reducible exact H2_) | (have H2_ := (Option.bind_some _ _).symm.trans H; with_reducible exact H2_) | with_reducible exact H | (rw [hy152]; exact H) | exact H
  have Ny152 := A_ hy152
  clear hy152
  obtain rfl := Option.some.inj H
  go_enter Try.func67, Try.ntmps67
  go_wp2_with (first | ((with_reducible refine gate_builtin (b := .append) (xs := #[.const (.slice none 0 0), .tmp 3]) rfl ?_); at_builtin; refine Kd.R_append_rows k68 (w0 := w) w.heap.size rfl (.const (.slice none 0 0)) (.tmp 3) 39 68 (.agg #[(.int .i64 0), (.int .i64 0)]) 16 rfl Try.underlying39 info68 rfl (by decide) (by omega) (.slice none 0 0) ([] : List (S68)) l0 _ _ _ (fun _ => True) (fun _ => False) rfl rfl ?aO ?aR (fun _ _ h => h) (fun _ h => h.elim) ?aF ?aB ?aS ?aL ?_; (case aR => exact Z19 HR0.out); (case aB => exact Z1); (case aF => exact (fun _ _ => trivial)); (case aO => exact ((Kd.R_nil _ _ _ _ (fun _ => True)))); (case aS => exact (below_size Z1)); (case aL => have := LMc2.out; omega); intro v153 w3 ho hb hg hat; rw [← Ny152.out] at ho; have n0_ := A_ (hb); have n1_ := A_ (ho); clear HB; have HB := n0_; have HO154 := n1_; clear n0_ n1_; clear ho hb hg hat))
  go_ret
  exact ⟨_, Z16, Z13 HO154.out, Z1⟩
 ·rw [if_neg c2] at H
  exact absurd H (by simp)
end Go.Proofs.Ytheifobeaemegaa.PFnStorePut
