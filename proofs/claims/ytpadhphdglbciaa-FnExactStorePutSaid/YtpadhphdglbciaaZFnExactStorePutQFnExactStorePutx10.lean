/- Walks of the functions that the law 'FnExactStorePut' reaches, part 10: for each a Lean function and the proof that Go's comes to just its answer (lines of the print, under own names; no condition). -/
import Derived.Test.YtpadhphdglbciaaZFnExactStorePutQFnExactStorePutx0
import Derived.Test.YtpadhphdglbciaaZFnExactStorePutQFnExactStorePutx5
import Derived.Test.YtpadhphdglbciaaZFnExactStorePutQFnExactStorePutx6
import Derived.Test.YtpadhphdglbciaaZFnExactStorePutQFnExactStorePutx8
import Derived.Test.YtpadhphdglbciaaZFnExactStorePutQFnExactStorePutx9
namespace Go.Proofs.Ytpadhphdglbciaa.PFnExactStorePut
open Go.RowKit Go.Proofs.YtpadhphdglbciaaW.PrintWords Go.Proofs.YtpadhphdglbciaaW.PrintLast Go.Proofs.YtpadhphdglbciaaW.PrintMore
attribute [local go_sem] max2_int min2_int max_two min_two max_three min_three max_four min_four
set_option linter.unusedVariables false
set_option linter.unusedSimpArgs false
def spec_StorePut.j0 : Nat → List (S89) → List (S92) → List (S99) → Bool → Option ((List (S89)) × Bool)
 | 0, _, _, _, _ => none
 | k + 1, x0, x1, x2, x26 => if x26 = true then (some (([] : List (S89)), false)) else ((spec_put.f k x0 x1 x2).bind fun t286 => (if (t286.length : Int) > 200 then (some (([] : List (S89)), false)) else (some (t286, true))))
def spec_StorePut.f (k : Nat) (l0 : List (S89)) (l1 : List (S92)) (l2 : List (S99)) : Option ((List (S89)) × Bool) := (spec_validStore.f k l0).bind fun t283 => (if t283 = true then ((spec_validPlace.f k l1).bind fun t284 => (if t284 = true then (if (l2.length : Int) > 3 then (spec_StorePut.j0 k l0 l1 l2 true) else ((spec_validValues.f k l2).bind fun t285 => (spec_StorePut.j0 k l0 l1 l2 (!t285)))) else (spec_StorePut.j0 k l0 l1 l2 true))) else (spec_StorePut.j0 k l0 l1 l2 true))
theorem spec_StorePut.mono_l : ∀ k, (∀ y0 y1 y2 y3, LeO (spec_StorePut.j0 k y0 y1 y2 y3) (spec_StorePut.j0 (k + 1) y0 y1 y2 y3))
 | 0 => fun _ _ _ _ r h => by simp [spec_StorePut.j0] at h
 | k + 1 => by
  have ih0 := spec_StorePut.mono_l k
  ·intro y0 y1 y2 y3
   unfold spec_StorePut.j0
   repeat' first
   | (with_reducible exact ih0 _ _ _ _)
   | (with_reducible exact spec_put.mono _ _ _ _)
   | (with_reducible exact spec_validPlace.mono _ _)
   | (with_reducible exact spec_validStore.mono _ _)
   | (with_reducible exact spec_validValues.mono _ _)
   | (with_reducible exact LeO.refl _)
   | (with_reducible exact LeO.none _)
   | (with_reducible refine LeO.ite ?_ ?_)
   | (with_reducible refine LeO.bind ?_ (fun _ => ?_))
   | exact ih0 _ _ _ _
   | exact spec_put.mono _ _ _ _
   | exact spec_validPlace.mono _ _
   | exact spec_validStore.mono _ _
   | exact spec_validValues.mono _ _
   | exact LeO.none _
   | refine LeO.ite ?_ ?_
   | refine LeO.bind ?_ (fun _ => ?_)
theorem spec_StorePut.mono : ∀ a0 a1 a2 k, LeO (spec_StorePut.f k a0 a1 a2) (spec_StorePut.f (k + 1) a0 a1 a2) := by
 intro a0 a1 a2 k
 have ih0 := spec_StorePut.mono_l k
 unfold spec_StorePut.f
 repeat' first
   | (with_reducible exact ih0 _ _ _ _)
   | (with_reducible exact spec_put.mono _ _ _ _)
   | (with_reducible exact spec_validPlace.mono _ _)
   | (with_reducible exact spec_validStore.mono _ _)
   | (with_reducible exact spec_validValues.mono _ _)
   | (with_reducible exact LeO.refl _)
   | (with_reducible exact LeO.none _)
   | (with_reducible refine LeO.ite ?_ ?_)
   | (with_reducible refine LeO.bind ?_ (fun _ => ?_))
   | exact ih0 _ _ _ _
   | exact spec_put.mono _ _ _ _
   | exact spec_validPlace.mono _ _
   | exact spec_validStore.mono _ _
   | exact spec_validValues.mono _ _
   | exact LeO.none _
   | refine LeO.ite ?_ ?_
   | refine LeO.bind ?_ (fun _ => ?_)
set_option maxHeartbeats 8000000 in
set_option maxRecDepth 100000 in
theorem spec_StorePut.calls (k : Nat) (A0 : Option Addr) (c0 : Nat) (l0 : List (S89)) (A1 : Option Addr) (c1 : Nat) (l1 : List (S92)) (A2 : Option Addr) (c2 : Nat) (l2 : List (S99)) (r1 : List (S89)) (r2 : Bool) (w : World) (hr0 : Kd.C k89 w A0 l0.length l0) (hc0 : l0.length ≤ c0) (hr1 : Kd.C k92 w A1 l1.length l1) (hc1 : l1.length ≤ c1) (hr2 : Kd.C k99 w A2 l2.length l2) (hc2 : l2.length ≤ c2) (h : spec_StorePut.f k l0 l1 l2 = some (r1, r2)) :
  Calls Try.prog 35 #[.slice A0 l0.length c0, .slice A1 l1.length c1, .slice A2 l2.length c2] w fun e w' => ∃ v0_ : Value, e = .returned (.tuple #[v0_, .bool r2]) ∧ Kd.N k89 89 w' w.heap.size (fun k_ => (w.heap.size ≤ k_)) v0_ r1 ∧ Below w.heap.size w w' := by
 have hu89 := Try.underlying89
 have HR0 := A_ hr0
 have HC0 := A_ hc0
 clear hr0 hc0
 have HR1 := A_ hr1
 have HC1 := A_ hc1
 clear hr1 hc1
 have HR2 := A_ hr2
 have HC2 := A_ hc2
 clear hr2 hc2
 have HB := A_ (Below.refl w.heap.size w)
 have H : ((spec_validStore.f k l0).bind fun t283 => (if t283 = true then ((spec_validPlace.f k l1).bind fun t284 => (if t284 = true then (if (l2.length : Int) > 3 then (spec_StorePut.j0 k l0 l1 l2 true) else ((spec_validValues.f k l2).bind fun t285 => (spec_StorePut.j0 k l0 l1 l2 (!t285)))) else (spec_StorePut.j0 k l0 l1 l2 true))) else (spec_StorePut.j0 k l0 l1 l2 true))) = some (r1, r2) := h
 clear h
 have HC4 := A_ H
 clear H
 go_enter Try.func35, Try.ntmps35
 go_upto_region 1 with (fail)
 go_cut [26] (fun v26 wc => ∃ (kq : Nat) (x26_3 : Bool), v26 = .bool x26_3 ∧ Aside0 (spec_StorePut.j0 kq l0 l1 l2 x26_3 = some (r1, r2)) ∧ Aside0 (kq ≤ k) ∧ Aside0 (Below w.heap.size w wc))
 case first =>
  have H := HC4.out
  clear HC4
  replace H := Option.bind_eq_some_iff.mp H
  obtain ⟨t283, A50, H⟩ := H
  replace H : (if t283 = true then ((spec_validPlace.f k l1).bind fun t284 => (if t284 = true then (if (l2.length : Int) > 3 then (spec_StorePut.j0 k l0 l1 l2 true) else ((spec_validValues.f k l2).bind fun t285 => (spec_StorePut.j0 k l0 l1 l2 (!t285)))) else (spec_StorePut.j0 k l0 l1 l2 true))) else (spec_StorePut.j0 k l0 l1 l2 true)) = some (r1, r2) := H
  have A5 := A_ A50
  clear A50
  by_cases c6 : t283 = true
  ·subst c6
   have H1 : ((spec_validPlace.f k l1).bind fun t284 => (if t284 = true then (if (l2.length : Int) > 3 then (spec_StorePut.j0 k l0 l1 l2 true) else ((spec_validValues.f k l2).bind fun t285 => (spec_StorePut.j0 k l0 l1 l2 (!t285)))) else (spec_StorePut.j0 k l0 l1 l2 true))) = some (r1, r2) := by rw [if_pos rfl] at H; exact H
   clear H
   have H := H1
   clear H1
   replace H := Option.bind_eq_some_iff.mp H
   obtain ⟨t284, A70, H⟩ := H
   replace H : (if t284 = true then (if (l2.length : Int) > 3 then (spec_StorePut.j0 k l0 l1 l2 true) else ((spec_validValues.f k l2).bind fun t285 => (spec_StorePut.j0 k l0 l1 l2 (!t285)))) else (spec_StorePut.j0 k l0 l1 l2 true)) = some (r1, r2) := H
   have A7 := A_ A70
   clear A70
   by_cases c8 : t284 = true
   ·subst c8
    have H1 : (if (l2.length : Int) > 3 then (spec_StorePut.j0 k l0 l1 l2 true) else ((spec_validValues.f k l2).bind fun t285 => (spec_StorePut.j0 k l0 l1 l2 (!t285)))) = some (r1, r2) := by rw [if_pos rfl] at H; exact H
    clear H
    have H := H1
    clear H1
    by_cases c9 : (l2.length : Int) > 3
    ·rw [if_pos c9] at H
     have c9b0 : decide (3 < (l2.length : Int)) = true := decide_eq_true c9
     have c9b1 : decide (3 < l2.length) = true := decide_eq_true (by omega)
     clear c9
     (first | rw [c9b0] | (simp only [i64_w, i32_w]; rw [c9b0]) | skip)
     have H' := A_ H
     clear H
     go_wp2_with (first | ((with_reducible refine gate_callee (f := 59) rfl ?_); refine goesL_ (some 10) rfl rfl Try.func59 (by kernel_rfl) rfl #[.slice A0 l0.length c0] rfl Z5 ?_; (with_reducible refine (spec_validStore.calls k _ _ l0 true _ ?side1 ?side2 A5.out).mono ?_); (case side1 => exact Z3 HR0.out); (case side2 => exact HC0.out); rintro e w10 ⟨rfl, hb⟩; refine ⟨_, rfl, ?_⟩; have n0_ := A_ (below_step Z0 hb); clear HB; have HB := n0_; clear n0_; (try clear hb); (try clear hb2); (try clear hk); (try clear hi)) | (go_at_call 49; (with_reducible refine (spec_validPlace.calls k _ _ l1 true _ ?side1 ?side2 A7.out).mono ?_); (case side1 => exact Z3 HR1.out); (case side2 => exact HC1.out); rintro e w11 ⟨rfl, hb⟩; have n0_ := A_ (below_step Z0 hb); clear HB; have HB := n0_; clear n0_; (try clear hb); (try clear hb2); (try clear hk); (try clear hi)))
     go_meet
     case rel => exact ⟨_, (true), Z17, H', ⟨by first | omega | exact Nat.le_refl _⟩, ⟨Z0⟩⟩
    ·rw [if_neg c9] at H
     have c9b0 : decide (3 < (l2.length : Int)) = false := decide_eq_false c9
     have c9b1 : decide (3 < l2.length) = false := decide_eq_false (by omega)
     clear c9
     (first | rw [c9b0] | (simp only [i64_w, i32_w]; rw [c9b0]) | skip)
     replace H := Option.bind_eq_some_iff.mp H
     obtain ⟨t285, A120, H⟩ := H
     replace H : (spec_StorePut.j0 k l0 l1 l2 (!t285)) = some (r1, r2) := H
     have A12 := A_ A120
     clear A120
     have H' := A_ H
     clear H
     go_wp2_with (first | ((with_reducible refine gate_callee (f := 59) rfl ?_); refine goesL_ (some 10) rfl rfl Try.func59 (by kernel_rfl) rfl #[.slice A0 l0.length c0] rfl Z5 ?_; (with_reducible refine (spec_validStore.calls k _ _ l0 true _ ?side1 ?side2 A5.out).mono ?_); (case side1 => exact Z3 HR0.out); (case side2 => exact HC0.out); rintro e w13 ⟨rfl, hb⟩; refine ⟨_, rfl, ?_⟩; have n0_ := A_ (below_step Z0 hb); clear HB; have HB := n0_; clear n0_; (try clear hb); (try clear hb2); (try clear hk); (try clear hi)) | (go_at_call 49; (with_reducible refine (spec_validPlace.calls k _ _ l1 true _ ?side1 ?side2 A7.out).mono ?_); (case side1 => exact Z3 HR1.out); (case side2 => exact HC1.out); rintro e w14 ⟨rfl, hb⟩; have n0_ := A_ (below_step Z0 hb); clear HB; have HB := n0_; clear n0_; (try clear hb); (try clear hb2); (try clear hk); (try clear hi)) | (go_at_call 75; (with_reducible refine (spec_validValues.calls k _ _ l2 t285 _ ?side1 ?side2 A12.out).mono ?_); (case side1 => exact Z3 HR2.out); (case side2 => exact HC2.out); rintro e w15 ⟨rfl, hb⟩; have n0_ := A_ (below_step Z0 hb); clear HB; have HB := n0_; clear n0_; (try clear hb); (try clear hb2); (try clear hk); (try clear hi)))
     go_meet
     case rel => exact ⟨_, (!t285), Z17, H', ⟨by first | omega | exact Nat.le_refl _⟩, ⟨Z0⟩⟩
   ·replace c8 := Bool.eq_false_iff.mpr c8
    subst c8
    have H1 : (spec_StorePut.j0 k l0 l1 l2 true) = some (r1, r2) := by rw [if_neg (show ¬ (false = true) by decide)] at H; exact H
    clear H
    have H := H1
    clear H1
    have H' := A_ H
    clear H
    go_wp2_with (first | ((with_reducible refine gate_callee (f := 59) rfl ?_); refine goesL_ (some 10) rfl rfl Try.func59 (by kernel_rfl) rfl #[.slice A0 l0.length c0] rfl Z5 ?_; (with_reducible refine (spec_validStore.calls k _ _ l0 true _ ?side1 ?side2 A5.out).mono ?_); (case side1 => exact Z3 HR0.out); (case side2 => exact HC0.out); rintro e w16 ⟨rfl, hb⟩; refine ⟨_, rfl, ?_⟩; have n0_ := A_ (below_step Z0 hb); clear HB; have HB := n0_; clear n0_; (try clear hb); (try clear hb2); (try clear hk); (try clear hi)) | (go_at_call 49; (with_reducible refine (spec_validPlace.calls k _ _ l1 false _ ?side1 ?side2 A7.out).mono ?_); (case side1 => exact Z3 HR1.out); (case side2 => exact HC1.out); rintro e w17 ⟨rfl, hb⟩; have n0_ := A_ (below_step Z0 hb); clear HB; have HB := n0_; clear n0_; (try clear hb); (try clear hb2); (try clear hk); (try clear hi)))
    go_meet
    case rel => exact ⟨_, (true), Z17, H', ⟨by first | omega | exact Nat.le_refl _⟩, ⟨Z0⟩⟩
  ·replace c6 := Bool.eq_false_iff.mpr c6
   subst c6
   have H1 : (spec_StorePut.j0 k l0 l1 l2 true) = some (r1, r2) := by rw [if_neg (show ¬ (false = true) by decide)] at H; exact H
   clear H
   have H := H1
   clear H1
   have H' := A_ H
   clear H
   go_wp2_with (first | ((with_reducible refine gate_callee (f := 59) rfl ?_); refine goesL_ (some 10) rfl rfl Try.func59 (by kernel_rfl) rfl #[.slice A0 l0.length c0] rfl Z5 ?_; (with_reducible refine (spec_validStore.calls k _ _ l0 false _ ?side1 ?side2 A5.out).mono ?_); (case side1 => exact Z3 HR0.out); (case side2 => exact HC0.out); rintro e w18 ⟨rfl, hb⟩; refine ⟨_, rfl, ?_⟩; have n0_ := A_ (below_step Z0 hb); clear HB; have HB := n0_; clear n0_; (try clear hb); (try clear hb2); (try clear hk); (try clear hi)))
   go_meet
   case rel => exact ⟨_, (true), Z17, H', ⟨by first | omega | exact Nat.le_refl _⟩, ⟨Z0⟩⟩
 case rest =>
  clear HC4
  try clear c1
  try clear c2
  try clear p2
  try clear c3
  try clear c5
  try clear c6
  try clear c8
  try clear c9
  try clear c9b0
  try clear c9b1
  obtain ⟨kq, x26_3, rfl, HA, HJ3, HB⟩ := hcut
  cases kq with
  | zero => exact absurd HA.out (by simp [spec_StorePut.j0])
  | succ kj3 =>
   have H := HA.out
   clear HA
   simp only [spec_StorePut.j0] at H
   by_cases c19 : x26_3 = true
   ·subst c19
    have H1 : (some (([] : List (S89)), false)) = some (r1, r2) := by rw [if_pos rfl] at H; exact H
    clear H
    have H := H1
    clear H1
    simp only [Option.some.injEq, Prod.mk.injEq] at H
    obtain ⟨rfl, rfl⟩ := H
    go_wp2
    go_ret2
    exact ⟨_, Z14, Z46, Z0⟩
   ·replace c19 := Bool.eq_false_iff.mpr c19
    subst c19
    have H1 : ((spec_put.f kj3 l0 l1 l2).bind fun t286 => (if (t286.length : Int) > 200 then (some (([] : List (S89)), false)) else (some (t286, true)))) = some (r1, r2) := by rw [if_neg (show ¬ (false = true) by decide)] at H; exact H
    clear H
    have H := H1
    clear H1
    replace H := Option.bind_eq_some_iff.mp H
    obtain ⟨t286, A200, H⟩ := H
    replace H : (if (t286.length : Int) > 200 then (some (([] : List (S89)), false)) else (some (t286, true))) = some (r1, r2) := H
    have A20 := A_ A200
    clear A200
    by_cases c21 : (t286.length : Int) > 200
    ·rw [if_pos c21] at H
     have c21b0 : decide (200 < (t286.length : Int)) = true := decide_eq_true c21
     have c21b1 : decide (200 < t286.length) = true := decide_eq_true (by omega)
     clear c21
     simp only [Option.some.injEq, Prod.mk.injEq] at H
     obtain ⟨rfl, rfl⟩ := H
     go_wp2_with (first | ((with_reducible refine gate_callee (f := 76) rfl ?_); refine goesL_ (some 31) rfl rfl Try.func76 (by kernel_rfl) rfl #[.slice A0 l0.length c0, .agg #[.slice A1 l1.length c1, .slice A2 l2.length c2]] rfl Z5 ?_; (with_reducible refine (spec_put.calls kj3 _ _ l0 _ _ l1 _ _ l2 t286 _ ?side1 ?side2 ?side3 ?side4 ?side5 ?side6 A20.out).mono ?_); (case side1 => exact Z3 HR0.out); (case side2 => exact HC0.out); (case side3 => exact Z3 HR1.out); (case side4 => exact HC1.out); (case side5 => exact Z3 HR2.out); (case side6 => exact HC2.out); rintro e w22 ⟨v287, rfl, ho0, hb⟩; refine ⟨_, rfl, ?_⟩; have n0_ := A_ (Kd.N_lower (Kd.N_mono (ok' := fun k_ => (w.heap.size ≤ k_)) ho0 (fun k_ hk_ => (Nat.le_trans (below_size Z0) hk_))) (below_size Z0)); have n1_ := A_ (below_step Z0 hb); clear HB; have HO288 := n0_; have HB := n1_; clear n0_ n1_; (try clear hb); (try clear hb2); (try clear hk); (try clear hi); (try clear ho0); obtain ⟨Ao23, co23, eo23⟩ := Kd.N_slice HO288.out; subst eo23))
     go_ret2
     exact ⟨_, Z14, Z46, Z0⟩
    ·rw [if_neg c21] at H
     have c21b0 : decide (200 < (t286.length : Int)) = false := decide_eq_false c21
     have c21b1 : decide (200 < t286.length) = false := decide_eq_false (by omega)
     clear c21
     simp only [Option.some.injEq, Prod.mk.injEq] at H
     obtain ⟨rfl, rfl⟩ := H
     go_wp2_with (first | ((with_reducible refine gate_callee (f := 76) rfl ?_); refine goesL_ (some 31) rfl rfl Try.func76 (by kernel_rfl) rfl #[.slice A0 l0.length c0, .agg #[.slice A1 l1.length c1, .slice A2 l2.length c2]] rfl Z5 ?_; (with_reducible refine (spec_put.calls kj3 _ _ l0 _ _ l1 _ _ l2 t286 _ ?side1 ?side2 ?side3 ?side4 ?side5 ?side6 A20.out).mono ?_); (case side1 => exact Z3 HR0.out); (case side2 => exact HC0.out); (case side3 => exact Z3 HR1.out); (case side4 => exact HC1.out); (case side5 => exact Z3 HR2.out); (case side6 => exact HC2.out); rintro e w24 ⟨v287, rfl, ho0, hb⟩; refine ⟨_, rfl, ?_⟩; have n0_ := A_ (Kd.N_lower (Kd.N_mono (ok' := fun k_ => (w.heap.size ≤ k_)) ho0 (fun k_ hk_ => (Nat.le_trans (below_size Z0) hk_))) (below_size Z0)); have n1_ := A_ (below_step Z0 hb); clear HB; have HO288 := n0_; have HB := n1_; clear n0_ n1_; (try clear hb); (try clear hb2); (try clear hk); (try clear hi); (try clear ho0); obtain ⟨Ao25, co25, eo25⟩ := Kd.N_slice HO288.out; subst eo25))
     go_ret2
     exact ⟨_, Z14, Z18 HO288.out, Z0⟩
def impl_within.f (a0 : Int) (a1 : Int) (a2 : Int) : Option (Bool) := if a0 ≥ a1 then (some (decide (a0 ≤ a2))) else (some false)
set_option maxHeartbeats 8000000 in
set_option maxRecDepth 100000 in
theorem impl_within.calls (a0 : Int) (a1 : Int) (a2 : Int) (r : Bool) (w : World) (h : impl_within.f a0 a1 a2 = some r) :
  Calls Try.prog 52 #[.int .i64 a0, .int .i64 a1, .int .i64 a2] w fun e w' => e = .returned (.bool r) ∧ Drawn0 w w' := by
 have H : (if a0 ≥ a1 then (some (decide (a0 ≤ a2))) else (some false)) = some r := h
 clear h
 by_cases c4 : a0 ≥ a1
 ·rw [if_pos c4] at H
  have c4b0 : decide (a1 ≤ a0) = true := decide_eq_true c4
  clear c4
  obtain rfl := Option.some.inj H
  go_enter Try.func52, Try.ntmps52
  go_wp2
  go_ret
  exact ⟨Z17, Z23⟩
 ·rw [if_neg c4] at H
  have c4b0 : decide (a1 ≤ a0) = false := decide_eq_false c4
  clear c4
  obtain rfl := Option.some.inj H
  go_enter Try.func52, Try.ntmps52
  go_wp2
  go_ret
  exact ⟨Z17, Z23⟩
def impl_PlaceOk.l0 : Nat → List (S92) → List (S92) → Int → Int → Option (Bool)
 | 0, _, _, _, _ => none
 | k + 1, x0, x5, x6, x7 => if x7 < x6 then (if 0 ≤ x7 then (if x7 < (x5.length : Int) then ((impl_within.f ((rd_T92 x5 x7).f0) 0 3).bind fun t291 => (if t291 = true then ((impl_within.f ((rd_T92 x5 x7).f1) 0 103).bind fun t292 => (if t292 = true then (impl_PlaceOk.l0 k x0 x5 x6 (wrap64 (x7 + 1))) else (some false))) else (some false))) else (none)) else (none)) else (some (decide ((x0.length : Int) ≤ 20)))
def impl_PlaceOk.f (k : Nat) (l0 : List (S92)) : Option (Bool) := impl_PlaceOk.l0 k l0 l0 (l0.length : Int) 0
theorem impl_PlaceOk.mono_l : ∀ k, (∀ y0 y1 y2 y3, LeO (impl_PlaceOk.l0 k y0 y1 y2 y3) (impl_PlaceOk.l0 (k + 1) y0 y1 y2 y3))
 | 0 => fun _ _ _ _ r h => by simp [impl_PlaceOk.l0] at h
 | k + 1 => by
  have ih0 := impl_PlaceOk.mono_l k
  ·intro y0 y1 y2 y3
   unfold impl_PlaceOk.l0
   repeat' first
   | (with_reducible exact ih0 _ _ _ _)
   | (with_reducible exact LeO.refl _)
   | (with_reducible exact LeO.none _)
   | (with_reducible refine LeO.ite ?_ ?_)
   | (with_reducible refine LeO.bind ?_ (fun _ => ?_))
   | exact ih0 _ _ _ _
   | exact LeO.none _
   | refine LeO.ite ?_ ?_
   | refine LeO.bind ?_ (fun _ => ?_)
theorem impl_PlaceOk.mono : ∀ a0 k, LeO (impl_PlaceOk.f k a0) (impl_PlaceOk.f (k + 1) a0) := by
 intro a0 k
 have ih0 := impl_PlaceOk.mono_l k
 unfold impl_PlaceOk.f
 repeat' first
   | (with_reducible exact ih0 _ _ _ _)
   | (with_reducible exact LeO.refl _)
   | (with_reducible exact LeO.none _)
   | (with_reducible refine LeO.ite ?_ ?_)
   | (with_reducible refine LeO.bind ?_ (fun _ => ?_))
   | exact ih0 _ _ _ _
   | exact LeO.none _
   | refine LeO.ite ?_ ?_
   | refine LeO.bind ?_ (fun _ => ?_)
set_option maxHeartbeats 8000000 in
set_option maxRecDepth 100000 in
theorem impl_PlaceOk.calls (k : Nat) (A0 : Option Addr) (c0 : Nat) (l0 : List (S92)) (r : Bool) (w : World) (hr0 : Kd.C k92 w A0 l0.length l0) (hc0 : l0.length ≤ c0) (h : impl_PlaceOk.f k l0 = some r) :
  Calls Try.prog 53 #[.slice A0 l0.length c0] w fun e w' => e = .returned (.bool r) ∧ Below w.heap.size w w' := by
 have hu92 := Try.underlying92
 have HR0 := A_ hr0
 have HC0 := A_ hc0
 clear hr0 hc0
 have HB := A_ (Below.refl w.heap.size w)
 have H : (impl_PlaceOk.l0 k l0 l0 (l0.length : Int) 0) = some r := h
 clear h
 have H' := A_ H
 clear H
 go_enter Try.func53, Try.ntmps53
 go_wp2
 go_loopg [7] k (fun kq v7 w' => ∃ (x7_1 : Int), v7 = .int .i64 x7_1 ∧ Aside0 (impl_PlaceOk.l0 kq l0 l0 (l0.length : Int) x7_1 = some r) ∧ Aside0 (kq ≤ k) ∧ Aside0 (Below w.heap.size w w'))
 case atStart => exact ⟨(0), Z17, H', ⟨Nat.le_refl _⟩, ⟨Z0⟩⟩
 case round =>
  clear H'
  obtain ⟨x7_1, rfl, HA, HK1, HB⟩ := hrel
  cases gk with
  | zero => exact absurd HA.out (by simp [impl_PlaceOk.l0])
  | succ k1 =>
   have H := HA.out
   clear HA
   simp only [impl_PlaceOk.l0] at H
   by_cases c2 : x7_1 < (l0.length : Int)
   ·rw [if_pos c2] at H
    have c2b0 : decide (x7_1 < (l0.length : Int)) = true := decide_eq_true c2
    clear c2
    by_cases c3 : 0 ≤ x7_1
    ·rw [if_pos c3] at H
     have c3b0 : decide (0 ≤ x7_1) = true := decide_eq_true c3
     clear c3
     by_cases c4 : x7_1 < (l0.length : Int)
     ·rw [if_pos c4] at H
      have c4b0 : decide (x7_1 < (l0.length : Int)) = true := decide_eq_true c4
      clear c4
      replace H := Option.bind_eq_some_iff.mp H
      obtain ⟨t291, A50, H⟩ := H
      replace H : (if t291 = true then ((impl_within.f ((rd_T92 l0 x7_1).f1) 0 103).bind fun t292 => (if t292 = true then (impl_PlaceOk.l0 k1 l0 l0 (l0.length : Int) (wrap64 (x7_1 + 1))) else (some false))) else (some false)) = some r := H
      have A5 := A_ A50
      clear A50
      by_cases c6 : t291 = true
      ·subst c6
       have H1 : ((impl_within.f ((rd_T92 l0 x7_1).f1) 0 103).bind fun t292 => (if t292 = true then (impl_PlaceOk.l0 k1 l0 l0 (l0.length : Int) (wrap64 (x7_1 + 1))) else (some false))) = some r := by rw [if_pos rfl] at H; exact H
       clear H
       have H := H1
       clear H1
       replace H := Option.bind_eq_some_iff.mp H
       obtain ⟨t292, A70, H⟩ := H
       replace H : (if t292 = true then (impl_PlaceOk.l0 k1 l0 l0 (l0.length : Int) (wrap64 (x7_1 + 1))) else (some false)) = some r := H
       have A7 := A_ A70
       clear A70
       by_cases c8 : t292 = true
       ·subst c8
        have H1 : (impl_PlaceOk.l0 k1 l0 l0 (l0.length : Int) (wrap64 (x7_1 + 1))) = some r := by rw [if_pos rfl] at H; exact H
        clear H
        have H := H1
        clear H1
        have H' := A_ H
        clear H
        have p289 : 0 ≤ (x7_1 : Int) := of_decide_eq_true Z13
        have q289 : x7_1 < (l0.length : Int) := of_decide_eq_true Z13
        obtain ⟨ad289, e289, hx289_0, hx289_1⟩ := at_T92 HR0.out x7_1 p289 q289
        cases e289
        replace hx289_0 := ZC HB.out hx289_0
        replace hx289_1 := ZC HB.out hx289_1
        replace p289 := eq_true p289
        replace q289 := eq_true q289
        go_wp2_with (first | ((with_reducible refine gate_dst (N := 4) rfl ?_); refine box_event ?hg (N := 4) ?hd (cs := #[.int .i64 0, .int .i64 0]) (t := 92) ?hr ?_; (case hd => rfl); (case hg => rfl); (case hr => exact Z20); intro gb290 hg w9 hbox hb; have n0_ := A_ (below_step Z0 hb); have n1_ := A_ (hbox); have n2_ := A_ ((by rw [hg]; exact (below_size Z0) : w.heap.size ≤ gb290)); have n3_ := A_ ((by rw [hg]; exact (below_size Z0) : w.heap.size ≤ gb290)); clear HB; have HB := n0_; have BK290 := n1_; have GW290 := n2_; have GE290 := n3_; clear n0_ n1_ n2_ n3_; clear hb hbox hg; have hcz10_0 : w9.cell? ⟨gb290, 0, none⟩ = some (.int .i64 0) := (blk_cell BK290.out 0).trans rfl; have hcz10_1 : w9.cell? ⟨gb290, 1, none⟩ = some (.int .i64 0) := (blk_cell BK290.out 1).trans rfl; have hfz10_0 := blk_frozen BK290.out 0; have hfz10_1 := blk_frozen BK290.out 1) | ((with_reducible refine gate_callee (f := 52) rfl ?_); refine goesL_ (some 13) rfl rfl Try.func52 (by kernel_rfl) rfl #[.int .i64 ((rd_T92 l0 x7_1).f0), .int .i64 0, .int .i64 3] rfl Z5 ?_; (with_reducible refine (impl_within.calls ((rd_T92 l0 x7_1).f0) 0 3 true _ A5.out).mono ?_); rintro e w' ⟨rfl, ⟨nd, rfl⟩⟩; refine ⟨_, rfl, ?_⟩) | (go_at_call 52; (with_reducible refine (impl_within.calls ((rd_T92 l0 x7_1).f1) 0 103 true _ A7.out).mono ?_); rintro e w' ⟨rfl, ⟨nd, rfl⟩⟩))
        go_roundg k1
        case measure => have := HK1.out; omega
        case rel => exact ⟨(wrap64 (x7_1 + 1)), Z17, H', ⟨by have := HK1.out; omega⟩, ⟨Z2 GE290.out⟩⟩
       ·replace c8 := Bool.eq_false_iff.mpr c8
        subst c8
        have H1 : (some false) = some r := by rw [if_neg (show ¬ (false = true) by decide)] at H; exact H
        clear H
        have H := H1
        clear H1
        obtain rfl := Option.some.inj H
        have p289 : 0 ≤ (x7_1 : Int) := of_decide_eq_true Z13
        have q289 : x7_1 < (l0.length : Int) := of_decide_eq_true Z13
        obtain ⟨ad289, e289, hx289_0, hx289_1⟩ := at_T92 HR0.out x7_1 p289 q289
        cases e289
        replace hx289_0 := ZC HB.out hx289_0
        replace hx289_1 := ZC HB.out hx289_1
        replace p289 := eq_true p289
        replace q289 := eq_true q289
        go_wp2_with (first | ((with_reducible refine gate_dst (N := 4) rfl ?_); refine box_event ?hg (N := 4) ?hd (cs := #[.int .i64 0, .int .i64 0]) (t := 92) ?hr ?_; (case hd => rfl); (case hg => rfl); (case hr => exact Z20); intro gb290 hg w11 hbox hb; have n0_ := A_ (below_step Z0 hb); have n1_ := A_ (hbox); have n2_ := A_ ((by rw [hg]; exact (below_size Z0) : w.heap.size ≤ gb290)); have n3_ := A_ ((by rw [hg]; exact (below_size Z0) : w.heap.size ≤ gb290)); clear HB; have HB := n0_; have BK290 := n1_; have GW290 := n2_; have GE290 := n3_; clear n0_ n1_ n2_ n3_; clear hb hbox hg; have hcz12_0 : w11.cell? ⟨gb290, 0, none⟩ = some (.int .i64 0) := (blk_cell BK290.out 0).trans rfl; have hcz12_1 : w11.cell? ⟨gb290, 1, none⟩ = some (.int .i64 0) := (blk_cell BK290.out 1).trans rfl; have hfz12_0 := blk_frozen BK290.out 0; have hfz12_1 := blk_frozen BK290.out 1) | ((with_reducible refine gate_callee (f := 52) rfl ?_); refine goesL_ (some 13) rfl rfl Try.func52 (by kernel_rfl) rfl #[.int .i64 ((rd_T92 l0 x7_1).f0), .int .i64 0, .int .i64 3] rfl Z5 ?_; (with_reducible refine (impl_within.calls ((rd_T92 l0 x7_1).f0) 0 3 true _ A5.out).mono ?_); rintro e w' ⟨rfl, ⟨nd, rfl⟩⟩; refine ⟨_, rfl, ?_⟩) | (go_at_call 52; (with_reducible refine (impl_within.calls ((rd_T92 l0 x7_1).f1) 0 103 false _ A7.out).mono ?_); rintro e w' ⟨rfl, ⟨nd, rfl⟩⟩))
        go_ret
        exact ⟨Z14, Z2 GE290.out⟩
      ·replace c6 := Bool.eq_false_iff.mpr c6
       subst c6
       have H1 : (some false) = some r := by rw [if_neg (show ¬ (false = true) by decide)] at H; exact H
       clear H
       have H := H1
       clear H1
       obtain rfl := Option.some.inj H
       have p289 : 0 ≤ (x7_1 : Int) := of_decide_eq_true Z13
       have q289 : x7_1 < (l0.length : Int) := of_decide_eq_true Z13
       obtain ⟨ad289, e289, hx289_0, hx289_1⟩ := at_T92 HR0.out x7_1 p289 q289
       cases e289
       replace hx289_0 := ZC HB.out hx289_0
       replace hx289_1 := ZC HB.out hx289_1
       replace p289 := eq_true p289
       replace q289 := eq_true q289
       go_wp2_with (first | ((with_reducible refine gate_dst (N := 4) rfl ?_); refine box_event ?hg (N := 4) ?hd (cs := #[.int .i64 0, .int .i64 0]) (t := 92) ?hr ?_; (case hd => rfl); (case hg => rfl); (case hr => exact Z20); intro gb290 hg w13 hbox hb; have n0_ := A_ (below_step Z0 hb); have n1_ := A_ (hbox); have n2_ := A_ ((by rw [hg]; exact (below_size Z0) : w.heap.size ≤ gb290)); have n3_ := A_ ((by rw [hg]; exact (below_size Z0) : w.heap.size ≤ gb290)); clear HB; have HB := n0_; have BK290 := n1_; have GW290 := n2_; have GE290 := n3_; clear n0_ n1_ n2_ n3_; clear hb hbox hg; have hcz14_0 : w13.cell? ⟨gb290, 0, none⟩ = some (.int .i64 0) := (blk_cell BK290.out 0).trans rfl; have hcz14_1 : w13.cell? ⟨gb290, 1, none⟩ = some (.int .i64 0) := (blk_cell BK290.out 1).trans rfl; have hfz14_0 := blk_frozen BK290.out 0; have hfz14_1 := blk_frozen BK290.out 1) | ((with_reducible refine gate_callee (f := 52) rfl ?_); refine goesL_ (some 13) rfl rfl Try.func52 (by kernel_rfl) rfl #[.int .i64 ((rd_T92 l0 x7_1).f0), .int .i64 0, .int .i64 3] rfl Z5 ?_; (with_reducible refine (impl_within.calls ((rd_T92 l0 x7_1).f0) 0 3 false _ A5.out).mono ?_); rintro e w' ⟨rfl, ⟨nd, rfl⟩⟩; refine ⟨_, rfl, ?_⟩))
       go_ret
       exact ⟨Z14, Z2 GE290.out⟩
     ·exact Z45
    ·rw [if_neg c3] at H
     exact absurd H (by simp)
   ·rw [if_neg c2] at H
    have c2b0 : decide (x7_1 < (l0.length : Int)) = false := decide_eq_false c2
    clear c2
    obtain rfl := Option.some.inj H
    go_wp2
    go_ret
    exact ⟨Z14, Z0⟩
end Go.Proofs.Ytpadhphdglbciaa.PFnExactStorePut
