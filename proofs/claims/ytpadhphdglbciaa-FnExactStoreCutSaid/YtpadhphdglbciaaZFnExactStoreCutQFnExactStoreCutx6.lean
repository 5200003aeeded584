/- Walks of the functions that the law 'FnExactStoreCut' reaches, part 6: for each a Lean function and the proof that Go's comes to just its answer (lines of the print, under own names; no condition). -/
import Derived.Test.YtpadhphdglbciaaZFnExactStoreCutQFnExactStoreCutx0
import Derived.Test.YtpadhphdglbciaaZFnExactStoreCutQFnExactStoreCutx1
namespace Go.Proofs.Ytpadhphdglbciaa.PFnExactStoreCut
open Go.RowKit Go.Proofs.YtpadhphdglbciaaW.PrintWords Go.Proofs.YtpadhphdglbciaaW.PrintLast Go.Proofs.YtpadhphdglbciaaW.PrintMore
attribute [local go_sem] max2_int min2_int max_two min_two max_three min_three max_four min_four
set_option linter.unusedVariables false
set_option linter.unusedSimpArgs false
attribute [local go_sem high] eqA92
mutual
def spec_comparePlaces.l0 : Nat → List (S92) → List (S92) → Int → Option (Int)
 | 0, _, _, _ => none
 | k + 1, x0, x1, x5 => if x5 < (x0.length : Int) then (spec_comparePlaces.j1 k x0 x1 x5 (decide (x5 < (x1.length : Int)))) else (spec_comparePlaces.j1 k x0 x1 x5 false)
def spec_comparePlaces.j1 : Nat → List (S92) → List (S92) → Int → Bool → Option (Int)
 | 0, _, _, _, _ => none
 | k + 1, x0, x1, x5, x15 => if x15 = true then (if 0 ≤ x5 then (if x5 < (x0.length : Int) then (if x5 < (x1.length : Int) then (if ((rd_T92 x0 x5).f0) < ((rd_T92 x1 x5).f0) then (spec_comparePlaces.j2 k x0 x1 x5 (decide (((rd_T92 x0 x5).f0) < ((rd_T92 x1 x5).f0)))) else (if ((rd_T92 x0 x5).f0) = ((rd_T92 x1 x5).f0) then (spec_comparePlaces.j2 k x0 x1 x5 (decide (((rd_T92 x0 x5).f1) < ((rd_T92 x1 x5).f1)))) else (spec_comparePlaces.j2 k x0 x1 x5 false))) else (none)) else (none)) else (none)) else (if (x0.length : Int) < (x1.length : Int) then (some (-1)) else (if (x0.length : Int) > (x1.length : Int) then (some 1) else (some 0)))
def spec_comparePlaces.j2 : Nat → List (S92) → List (S92) → Int → Bool → Option (Int)
 | 0, _, _, _, _ => none
 | k + 1, x0, x1, x5, x18 => if x18 = true then (some (-1)) else (if 0 ≤ x5 then (if x5 < (x0.length : Int) then (if x5 < (x1.length : Int) then (if (!(((rd_T92 x0 x5).f0) == ((rd_T92 x1 x5).f0)) || (!(((rd_T92 x0 x5).f1) == ((rd_T92 x1 x5).f1)))) = true then (some 1) else (spec_comparePlaces.l0 k x0 x1 (wrap64 (x5 + 1)))) else (none)) else (none)) else (none))
end
def spec_comparePlaces.f (k : Nat) (l0 : List (S92)) (l1 : List (S92)) : Option (Int) := spec_comparePlaces.l0 k l0 l1 0
theorem spec_comparePlaces.mono_l : ∀ k, (∀ y0 y1 y2, LeO (spec_comparePlaces.l0 k y0 y1 y2) (spec_comparePlaces.l0 (k + 1) y0 y1 y2)) ∧ (∀ y0 y1 y2 y3, LeO (spec_comparePlaces.j1 k y0 y1 y2 y3) (spec_comparePlaces.j1 (k + 1) y0 y1 y2 y3)) ∧ (∀ y0 y1 y2 y3, LeO (spec_comparePlaces.j2 k y0 y1 y2 y3) (spec_comparePlaces.j2 (k + 1) y0 y1 y2 y3))
 | 0 => ⟨fun _ _ _ r h => by simp [spec_comparePlaces.l0] at h, fun _ _ _ _ r h => by simp [spec_comparePlaces.j1] at h, fun _ _ _ _ r h => by simp [spec_comparePlaces.j2] at h⟩
 | k + 1 => by
  obtain ⟨ih0, ih1, ih2⟩ := spec_comparePlaces.mono_l k
  refine ⟨?_, ?_, ?_⟩
  ·intro y0 y1 y2
   unfold spec_comparePlaces.l0
   repeat' first
   | (with_reducible exact ih0 _ _ _)
   | (with_reducible exact ih1 _ _ _ _)
   | (with_reducible exact ih2 _ _ _ _)
   | (with_reducible exact LeO.refl _)
   | (with_reducible exact LeO.none _)
   | (with_reducible refine LeO.ite ?_ ?_)
   | (with_reducible refine LeO.bind ?_ (fun _ => ?_))
   | exact ih0 _ _ _
   | exact ih1 _ _ _ _
   | exact ih2 _ _ _ _
   | exact LeO.none _
   | refine LeO.ite ?_ ?_
   | refine LeO.bind ?_ (fun _ => ?_)
  ·intro y0 y1 y2 y3
   unfold spec_comparePlaces.j1
   repeat' first
   | (with_reducible exact ih0 _ _ _)
   | (with_reducible exact ih1 _ _ _ _)
   | (with_reducible exact ih2 _ _ _ _)
   | (with_reducible exact LeO.refl _)
   | (with_reducible exact LeO.none _)
   | (with_reducible refine LeO.ite ?_ ?_)
   | (with_reducible refine LeO.bind ?_ (fun _ => ?_))
   | exact ih0 _ _ _
   | exact ih1 _ _ _ _
   | exact ih2 _ _ _ _
   | exact LeO.none _
   | refine LeO.ite ?_ ?_
   | refine LeO.bind ?_ (fun _ => ?_)
  ·intro y0 y1 y2 y3
   unfold spec_comparePlaces.j2
   repeat' first
   | (with_reducible exact ih0 _ _ _)
   | (with_reducible exact ih1 _ _ _ _)
   | (with_reducible exact ih2 _ _ _ _)
   | (with_reducible exact LeO.refl _)
   | (with_reducible exact LeO.none _)
   | (with_reducible refine LeO.ite ?_ ?_)
   | (with_reducible refine LeO.bind ?_ (fun _ => ?_))
   | exact ih0 _ _ _
   | exact ih1 _ _ _ _
   | exact ih2 _ _ _ _
   | exact LeO.none _
   | refine LeO.ite ?_ ?_
   | refine LeO.bind ?_ (fun _ => ?_)
theorem spec_comparePlaces.mono : ∀ a0 a1 k, LeO (spec_comparePlaces.f k a0 a1) (spec_comparePlaces.f (k + 1) a0 a1) := by
 intro a0 a1 k
 obtain ⟨ih0, ih1, ih2⟩ := spec_comparePlaces.mono_l k
 unfold spec_comparePlaces.f
 repeat' first
   | (with_reducible exact ih0 _ _ _)
   | (with_reducible exact ih1 _ _ _ _)
   | (with_reducible exact ih2 _ _ _ _)
   | (with_reducible exact LeO.refl _)
   | (with_reducible exact LeO.none _)
   | (with_reducible refine LeO.ite ?_ ?_)
   | (with_reducible refine LeO.bind ?_ (fun _ => ?_))
   | exact ih0 _ _ _
   | exact ih1 _ _ _ _
   | exact ih2 _ _ _ _
   | exact LeO.none _
   | refine LeO.ite ?_ ?_
   | refine LeO.bind ?_ (fun _ => ?_)
set_option maxHeartbeats 8000000 in
set_option maxRecDepth 100000 in
theorem spec_comparePlaces.calls (k : Nat) (A0 : Option Addr) (c0 : Nat) (l0 : List (S92)) (A1 : Option Addr) (c1 : Nat) (l1 : List (S92)) (r : Int) (w : World) (hr0 : Kd.C k92 w A0 l0.length l0) (hc0 : l0.length ≤ c0) (hr1 : Kd.C k92 w A1 l1.length l1) (hc1 : l1.length ≤ c1) (h : spec_comparePlaces.f k l0 l1 = some r) :
  Calls Try.prog 90 #[.slice A0 l0.length c0, .slice A1 l1.length c1] w fun e w' => e = .returned (.int .i64 r) ∧ Drawn0 w w' := by
 have hu92 := Try.underlying92
 have HR0 := A_ hr0
 have HC0 := A_ hc0
 clear hr0 hc0
 have HR1 := A_ hr1
 have HC1 := A_ hc1
 clear hr1 hc1
 have H : (spec_comparePlaces.l0 k l0 l1 0) = some r := h
 clear h
 have H' := A_ H
 clear H
 go_enter Try.func90, Try.ntmps90
 go_wp2
 repeat (go_quiet (fail); try go_wp2)
 go_loopg [5] k (fun kq v5 w' => ∃ (x5_1 : Int), v5 = .int .i64 x5_1 ∧ Aside0 (spec_comparePlaces.l0 kq l0 l1 x5_1 = some r) ∧ Aside0 (kq ≤ k) ∧ Drawn0 w w')
 case atStart => exact ⟨(0), Z18, H', ⟨Nat.le_refl _⟩, Z22⟩
 case round =>
  clear H'
  try clear c1
  try clear p2
  obtain ⟨x5_1, rfl, HA, HK1, ⟨m1, rfl⟩⟩ := hrel
  cases gk with
  | zero => exact absurd HA.out (by simp [spec_comparePlaces.l0])
  | succ k1 =>
   have H := HA.out
   clear HA
   simp only [spec_comparePlaces.l0] at H
   have HC3 := A_ H
   clear H
   go_upto_region 2 with (fail)
   repeat (go_quiet (fail); go_upto_region 2 with (fail))
   go_cut [15] (fun v15 wc => ∃ (kq : Nat) (x15_2 : Bool), v15 = .bool x15_2 ∧ Aside0 (spec_comparePlaces.j1 kq l0 l1 x5_1 x15_2 = some r) ∧ Aside0 (kq ≤ k1) ∧ Drawn0 w wc)
   case first =>
    have H := HC3.out
    clear HC3
    by_cases c4 : x5_1 < (l0.length : Int)
    ·rw [if_pos c4] at H
     have c4b0 : decide (x5_1 < (l0.length : Int)) = true := decide_eq_true c4
     clear c4
     (first | rw [c4b0] | (simp only [i64_w, i32_w]; rw [c4b0]) | skip)
     have H' := A_ H
     clear H
     go_wp2
     repeat (go_quiet (fail); try go_wp2)
     go_meet
     case rel => exact ⟨_, (decide (x5_1 < (l1.length : Int))), Z18, H', ⟨by have := HK1.out; first | omega | exact Nat.le_refl _⟩, Z22⟩
    ·rw [if_neg c4] at H
     have c4b0 : decide (x5_1 < (l0.length : Int)) = false := decide_eq_false c4
     clear c4
     (first | rw [c4b0] | (simp only [i64_w, i32_w]; rw [c4b0]) | skip)
     have H' := A_ H
     clear H
     go_wp2
     repeat (go_quiet (fail); try go_wp2)
     go_meet
     case rel => exact ⟨_, (false), Z18, H', ⟨by have := HK1.out; first | omega | exact Nat.le_refl _⟩, Z22⟩
   case rest =>
    clear HC3
    try clear c1
    try clear p2
    try clear c4
    try clear c4b0
    try clear p2
    obtain ⟨kq, x15_2, rfl, HA, HJ2, ⟨mc2, rfl⟩⟩ := hcut
    cases kq with
    | zero => exact absurd HA.out (by simp [spec_comparePlaces.j1])
    | succ kj2 =>
     have H := HA.out
     clear HA
     simp only [spec_comparePlaces.j1] at H
     by_cases c5 : x15_2 = true
     ·subst c5
      have H1 : (if 0 ≤ x5_1 then (if x5_1 < (l0.length : Int) then (if x5_1 < (l1.length : Int) then (if ((rd_T92 l0 x5_1).f0) < ((rd_T92 l1 x5_1).f0) then (spec_comparePlaces.j2 kj2 l0 l1 x5_1 (decide (((rd_T92 l0 x5_1).f0) < ((rd_T92 l1 x5_1).f0)))) else (if ((rd_T92 l0 x5_1).f0) = ((rd_T92 l1 x5_1).f0) then (spec_comparePlaces.j2 kj2 l0 l1 x5_1 (decide (((rd_T92 l0 x5_1).f1) < ((rd_T92 l1 x5_1).f1)))) else (spec_comparePlaces.j2 kj2 l0 l1 x5_1 false))) else (none)) else (none)) else (none)) = some r := by rw [if_pos rfl] at H; exact H
      clear H
      have H := H1
      clear H1
      by_cases c6 : 0 ≤ x5_1
      ·rw [if_pos c6] at H
       have c6b0 : decide (0 ≤ x5_1) = true := decide_eq_true c6
       clear c6
       by_cases c7 : x5_1 < (l0.length : Int)
       ·rw [if_pos c7] at H
        have c7b0 : decide (x5_1 < (l0.length : Int)) = true := decide_eq_true c7
        clear c7
        by_cases c8 : x5_1 < (l1.length : Int)
        ·rw [if_pos c8] at H
         have c8b0 : decide (x5_1 < (l1.length : Int)) = true := decide_eq_true c8
         clear c8
         have HC9 := A_ H
         clear H
         have p187 : 0 ≤ (x5_1 : Int) := of_decide_eq_true Z12
         have q187 : x5_1 < (l0.length : Int) := of_decide_eq_true Z12
         obtain ⟨ad187, e187, hx187_0, hx187_1⟩ := at_T92 HR0.out x5_1 p187 q187
         cases e187
         replace p187 := eq_true p187
         replace q187 := eq_true q187
         have p188 : 0 ≤ (x5_1 : Int) := of_decide_eq_true Z12
         have q188 : x5_1 < (l1.length : Int) := of_decide_eq_true Z12
         obtain ⟨ad188, e188, hx188_0, hx188_1⟩ := at_T92 HR1.out x5_1 p188 q188
         cases e188
         replace p188 := eq_true p188
         replace q188 := eq_true q188
         go_upto_if 18 with (fail)
         repeat (go_quiet (fail); go_upto_if 18 with (fail))
         go_cut [18] (fun v18 wc => ∃ (kq : Nat) (x18_8 : Bool), v18 = .bool x18_8 ∧ Aside0 (spec_comparePlaces.j2 kq l0 l1 x5_1 x18_8 = some r) ∧ Aside0 (kq ≤ kj2) ∧ Drawn0 w wc)
         case first =>
          have H := HC9.out
          clear HC9
          by_cases c10 : ((rd_T92 l0 x5_1).f0) < ((rd_T92 l1 x5_1).f0)
          ·rw [if_pos c10] at H
           have c10b0 : decide (((rd_T92 l0 x5_1).f0) < ((rd_T92 l1 x5_1).f0)) = true := decide_eq_true c10
           clear c10
           (first | rw [c10b0] | (simp only [i64_w, i32_w]; rw [c10b0]) | skip)
           have H' := A_ H
           clear H
           go_wp2
           repeat (go_quiet (fail); try go_wp2)
           go_meet
           case rel => exact ⟨_, (decide (((rd_T92 l0 x5_1).f0) < ((rd_T92 l1 x5_1).f0))), Z18, H', ⟨by have := HK1.out; have := HJ2.out; first | omega | exact Nat.le_refl _⟩, Z22⟩
          ·rw [if_neg c10] at H
           have c10b0 : decide (((rd_T92 l0 x5_1).f0) < ((rd_T92 l1 x5_1).f0)) = false := decide_eq_false c10
           clear c10
           (first | rw [c10b0] | (simp only [i64_w, i32_w]; rw [c10b0]) | skip)
           by_cases c11 : ((rd_T92 l0 x5_1).f0) = ((rd_T92 l1 x5_1).f0)
           ·rw [if_pos c11] at H
            have c11b0 : (((rd_T92 l0 x5_1).f0) == ((rd_T92 l1 x5_1).f0)) = true := beq_iff_eq.mpr c11
            have c11b1 : (((rd_T92 l0 x5_1).f0) != ((rd_T92 l1 x5_1).f0)) = false := bne_eq_false_iff_eq.mpr c11
            clear c11
            have H' := A_ H
            clear H
            have p189 : 0 ≤ (x5_1 : Int) := of_decide_eq_true Z12
            have q189 : x5_1 < (l0.length : Int) := of_decide_eq_true Z12
            obtain ⟨ad189, e189, hx189_0, hx189_1⟩ := at_T92 HR0.out x5_1 p189 q189
            obtain rfl : ad187 = ad189 := (by injection e189)
            replace p189 := eq_true p189
            replace q189 := eq_true q189
            have p190 : 0 ≤ (x5_1 : Int) := of_decide_eq_true Z12
            have q190 : x5_1 < (l1.length : Int) := of_decide_eq_true Z12
            obtain ⟨ad190, e190, hx190_0, hx190_1⟩ := at_T92 HR1.out x5_1 p190 q190
            obtain rfl : ad188 = ad190 := (by injection e190)
            replace p190 := eq_true p190
            replace q190 := eq_true q190
            have p191 : 0 ≤ (x5_1 : Int) := of_decide_eq_true Z12
            have q191 : x5_1 < (l0.length : Int) := of_decide_eq_true Z12
            obtain ⟨ad191, e191, hx191_0, hx191_1⟩ := at_T92 HR0.out x5_1 p191 q191
            obtain rfl : ad187 = ad191 := (by injection e191)
            replace p191 := eq_true p191
            replace q191 := eq_true q191
            have p192 : 0 ≤ (x5_1 : Int) := of_decide_eq_true Z12
            have q192 : x5_1 < (l1.length : Int) := of_decide_eq_true Z12
            obtain ⟨ad192, e192, hx192_0, hx192_1⟩ := at_T92 HR1.out x5_1 p192 q192
            obtain rfl : ad188 = ad192 := (by injection e192)
            replace p192 := eq_true p192
            replace q192 := eq_true q192
            go_wp2
            repeat (go_quiet (fail); try go_wp2)
            go_meet
            case rel => exact ⟨_, (decide (((rd_T92 l0 x5_1).f1) < ((rd_T92 l1 x5_1).f1))), Z18, H', ⟨by have := HK1.out; have := HJ2.out; first | omega | exact Nat.le_refl _⟩, Z22⟩
           ·rw [if_neg c11] at H
            have c11b0 : (((rd_T92 l0 x5_1).f0) == ((rd_T92 l1 x5_1).f0)) = false := beq_eq_false_iff_ne.mpr c11
            have c11b1 : (((rd_T92 l0 x5_1).f0) != ((rd_T92 l1 x5_1).f0)) = true := bne_iff_ne.mpr c11
            have H' := A_ H
            clear H
            have p189 : 0 ≤ (x5_1 : Int) := of_decide_eq_true Z12
            have q189 : x5_1 < (l0.length : Int) := of_decide_eq_true Z12
            obtain ⟨ad189, e189, hx189_0, hx189_1⟩ := at_T92 HR0.out x5_1 p189 q189
            obtain rfl : ad187 = ad189 := (by injection e189)
            replace p189 := eq_true p189
            replace q189 := eq_true q189
            have p190 : 0 ≤ (x5_1 : Int) := of_decide_eq_true Z12
            have q190 : x5_1 < (l1.length : Int) := of_decide_eq_true Z12
            obtain ⟨ad190, e190, hx190_0, hx190_1⟩ := at_T92 HR1.out x5_1 p190 q190
            obtain rfl : ad188 = ad190 := (by injection e190)
            replace p190 := eq_true p190
            replace q190 := eq_true q190
            go_wp2
            repeat (go_quiet (fail); try go_wp2)
            go_meet
            case rel => exact ⟨_, (false), Z18, H', ⟨by have := HK1.out; have := HJ2.out; first | omega | exact Nat.le_refl _⟩, Z22⟩
         case rest =>
          clear HC9
          try clear c1
          try clear p1
          try clear q1
          try clear hx1
          try clear c2
          try clear p2
          try clear c4
          try clear c4b0
          try clear c5
          try clear c6
          try clear c6b0
          try clear c7
          try clear c7b0
          try clear c8
          try clear c8b0
          try clear c9
          try clear c10
          try clear c10b0
          try clear c11
          try clear c11b0
          try clear c11b1
          try clear hx187_0
          try clear hx187_1
          try clear hx188_0
          try clear hx188_1
          try clear hx189_0
          try clear hx189_1
          try clear hx190_0
          try clear hx190_1
          try clear hx191_0
          try clear hx191_1
          try clear hx192_0
          try clear hx192_1
          try clear p187
          try clear p188
          try clear p189
          try clear p190
          try clear p191
          try clear p192
          try clear p2
          try clear q187
          try clear q188
          try clear q189
          try clear q190
          try clear q191
          try clear q192
          obtain ⟨kq, x18_8, rfl, HA, HJ8, ⟨mc8, rfl⟩⟩ := hcut
          cases kq with
          | zero => exact absurd HA.out (by simp [spec_comparePlaces.j2])
          | succ kj8 =>
           have H := HA.out
           clear HA
           simp only [spec_comparePlaces.j2] at H
           by_cases c12 : x18_8 = true
           ·subst c12
            have H1 : (some (-1)) = some r := by rw [if_pos rfl] at H; exact H
            clear H
            have H := H1
            clear H1
            obtain rfl := Option.some.inj H
            go_wp2
            repeat (go_quiet (fail); try go_wp2)
            go_ret
            exact ⟨Z18, Z22⟩
           ·replace c12 := Bool.eq_false_iff.mpr c12
            subst c12
            have H1 : (if 0 ≤ x5_1 then (if x5_1 < (l0.length : Int) then (if x5_1 < (l1.length : Int) then (if (!(((rd_T92 l0 x5_1).f0) == ((rd_T92 l1 x5_1).f0)) || (!(((rd_T92 l0 x5_1).f1) == ((rd_T92 l1 x5_1).f1)))) = true then (some 1) else (spec_comparePlaces.l0 kj8 l0 l1 (wrap64 (x5_1 + 1)))) else (none)) else (none)) else (none)) = some r := by rw [if_neg (show ¬ (false = true) by decide)] at H; exact H
            clear H
            have H := H1
            clear H1
            by_cases c13 : 0 ≤ x5_1
            ·rw [if_pos c13] at H
             have c13b0 : decide (0 ≤ x5_1) = true := decide_eq_true c13
             clear c13
             by_cases c14 : x5_1 < (l0.length : Int)
             ·rw [if_pos c14] at H
              have c14b0 : decide (x5_1 < (l0.length : Int)) = true := decide_eq_true c14
              clear c14
              by_cases c15 : x5_1 < (l1.length : Int)
              ·rw [if_pos c15] at H
               have c15b0 : decide (x5_1 < (l1.length : Int)) = true := decide_eq_true c15
               clear c15
               by_cases c16 : (!(((rd_T92 l0 x5_1).f0) == ((rd_T92 l1 x5_1).f0)) || (!(((rd_T92 l0 x5_1).f1) == ((rd_T92 l1 x5_1).f1)))) = true
               ·rw [if_pos c16] at H
                have c16b0 : (!(((rd_T92 l0 x5_1).f0) == ((rd_T92 l1 x5_1).f0)) || (!(((rd_T92 l0 x5_1).f1) == ((rd_T92 l1 x5_1).f1)))) = true := c16
                clear c16
                obtain rfl := Option.some.inj H
                have p193 : 0 ≤ (x5_1 : Int) := of_decide_eq_true Z12
                have q193 : x5_1 < (l0.length : Int) := of_decide_eq_true Z12
                obtain ⟨ad193, e193, hx193_0, hx193_1⟩ := at_T92 HR0.out x5_1 p193 q193
                obtain rfl : ad187 = ad193 := (by injection e193)
                replace p193 := eq_true p193
                replace q193 := eq_true q193
                have p194 : 0 ≤ (x5_1 : Int) := of_decide_eq_true Z12
                have q194 : x5_1 < (l1.length : Int) := of_decide_eq_true Z12
                obtain ⟨ad194, e194, hx194_0, hx194_1⟩ := at_T92 HR1.out x5_1 p194 q194
                obtain rfl : ad188 = ad194 := (by injection e194)
                replace p194 := eq_true p194
                replace q194 := eq_true q194
                go_wp2
                repeat (go_quiet (fail); try go_wp2)
                go_ret
                exact ⟨Z18, Z22⟩
               ·rw [if_neg c16] at H
                have c16b0 : (!(((rd_T92 l0 x5_1).f0) == ((rd_T92 l1 x5_1).f0)) || (!(((rd_T92 l0 x5_1).f1) == ((rd_T92 l1 x5_1).f1)))) = false := by simpa using c16
                clear c16
                have H' := A_ H
                clear H
                have p193 : 0 ≤ (x5_1 : Int) := of_decide_eq_true Z12
                have q193 : x5_1 < (l0.length : Int) := of_decide_eq_true Z12
                obtain ⟨ad193, e193, hx193_0, hx193_1⟩ := at_T92 HR0.out x5_1 p193 q193
                obtain rfl : ad187 = ad193 := (by injection e193)
                replace p193 := eq_true p193
                replace q193 := eq_true q193
                have p194 : 0 ≤ (x5_1 : Int) := of_decide_eq_true Z12
                have q194 : x5_1 < (l1.length : Int) := of_decide_eq_true Z12
                obtain ⟨ad194, e194, hx194_0, hx194_1⟩ := at_T92 HR1.out x5_1 p194 q194
                obtain rfl : ad188 = ad194 := (by injection e194)
                replace p194 := eq_true p194
                replace q194 := eq_true q194
                go_wp2
                repeat (go_quiet (fail); try go_wp2)
                go_roundg kj8
                case measure => have := HK1.out; have := HJ2.out; have := HJ8.out; omega
                case rel => exact ⟨(wrap64 (x5_1 + 1)), Z18, H', ⟨by have := HK1.out; have := HJ2.out; have := HJ8.out; omega⟩, Z22⟩
              ·rw [if_neg c15] at H
               exact absurd H (by simp)
             ·rw [if_neg c14] at H
              exact absurd H (by simp)
            ·rw [if_neg c13] at H
             exact absurd H (by simp)
        ·rw [if_neg c8] at H
         exact absurd H (by simp)
       ·rw [if_neg c7] at H
        exact absurd H (by simp)
      ·rw [if_neg c6] at H
       exact absurd H (by simp)
     ·replace c5 := Bool.eq_false_iff.mpr c5
      subst c5
      have H1 : (if (l0.length : Int) < (l1.length : Int) then (some (-1)) else (if (l0.length : Int) > (l1.length : Int) then (some 1) else (some 0))) = some r := by rw [if_neg (show ¬ (false = true) by decide)] at H; exact H
      clear H
      have H := H1
      clear H1
      by_cases c17 : (l0.length : Int) < (l1.length : Int)
      ·rw [if_pos c17] at H
       have c17b0 : decide ((l0.length : Int) < (l1.length : Int)) = true := decide_eq_true c17
       have c17b1 : decide (l0.length < l1.length) = true := decide_eq_true (Int.ofNat_lt.mp c17)
       clear c17
       obtain rfl := Option.some.inj H
       go_wp2
       repeat (go_quiet (fail); try go_wp2)
       go_ret
       exact ⟨Z18, Z22⟩
      ·rw [if_neg c17] at H
       have c17b0 : decide ((l0.length : Int) < (l1.length : Int)) = false := decide_eq_false c17
       have c17b1 : decide (l0.length < l1.length) = false := decide_eq_false (fun h => c17 (Int.ofNat_lt.mpr h))
       clear c17
       by_cases c18 : (l0.length : Int) > (l1.length : Int)
       ·rw [if_pos c18] at H
        have c18b0 : decide ((l1.length : Int) < (l0.length : Int)) = true := decide_eq_true c18
        have c18b1 : decide (l1.length < l0.length) = true := decide_eq_true (Int.ofNat_lt.mp c18)
        clear c18
        obtain rfl := Option.some.inj H
        go_wp2
        repeat (go_quiet (fail); try go_wp2)
        go_ret
        exact ⟨Z18, Z22⟩
       ·rw [if_neg c18] at H
        have c18b0 : decide ((l1.length : Int) < (l0.length : Int)) = false := decide_eq_false c18
        have c18b1 : decide (l1.length < l0.length) = false := decide_eq_false (fun h => c18 (Int.ofNat_lt.mpr h))
        clear c18
        obtain rfl := Option.some.inj H
        go_wp2
        repeat (go_quiet (fail); try go_wp2)
        go_ret
        exact ⟨Z18, Z22⟩
end Go.Proofs.Ytpadhphdglbciaa.PFnExactStoreCut
