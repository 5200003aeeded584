/- Walks of the functions that the law 'FnStorePut' reaches, part 14: for each a Lean function and the proof that Go's comes to just its answer (lines of the print, under own names; no condition). -/
import Derived.Test.YtheifobeaemegaaZFnStorePutQFnStorePutx0
import Derived.Test.YtheifobeaemegaaZFnStorePutQFnStorePutx5
import Derived.Test.YtheifobeaemegaaZFnStorePutQFnStorePutx6
import Derived.Test.YtheifobeaemegaaZFnStorePutQFnStorePutx7
import Derived.Test.YtheifobeaemegaaZFnStorePutQFnStorePutx8
import Derived.Test.YtheifobeaemegaaZFnStorePutQFnStorePutx9
import Derived.Test.YtheifobeaemegaaZFnStorePutQFnStorePutx11
import Derived.Test.YtheifobeaemegaaZFnStorePutQFnStorePutx12
import Derived.Test.YtheifobeaemegaaZFnStorePutQFnStorePutx13
namespace Go.Proofs.Ytheifobeaemegaa.PFnStorePut
open Go.RowKit Go.Proofs.YtheifobeaemegaaW.PrintWords Go.Proofs.YtheifobeaemegaaW.PrintLast Go.Proofs.YtheifobeaemegaaW.PrintMore
attribute [local go_sem] max2_int min2_int max_two min_two max_three min_three max_four min_four
set_option linter.unusedVariables false
set_option linter.unusedSimpArgs false
def spec_StorePut.j0 : Nat → List (S41) → List (S68) → List (S28) → Bool → Option ((List (S41)) × Bool)
 | 0, _, _, _, _ => none
 | k + 1, x0, x1, x2, x26 => if x26 = true then (some (([] : List (S41)), false)) else ((spec_put.f k x0 x1 x2).bind fun t480 => (if (t480.length : Int) > 200 then (some (([] : List (S41)), false)) else (some (t480, true))))
def spec_StorePut.f (k : Nat) (l0 : List (S41)) (l1 : List (S68)) (l2 : List (S28)) : Option ((List (S41)) × Bool) := (spec_validStore.f k l0).bind fun t477 => (if t477 = true then ((spec_validPlace.f k l1).bind fun t478 => (if t478 = true then (if (l2.length : Int) > 3 then (spec_StorePut.j0 k l0 l1 l2 true) else ((spec_validValues.f k l2).bind fun t479 => (spec_StorePut.j0 k l0 l1 l2 (!t479)))) else (spec_StorePut.j0 k l0 l1 l2 true))) else (spec_StorePut.j0 k l0 l1 l2 true))
theorem spec_StorePut.mono_l : ∀ k, (∀ y0 y1 y2 y3, LeO (spec_StorePut.j0 k y0 y1 y2 y3) (spec_StorePut.j0 (k + 1) y0 y1 y2 y3))
 | 0 => fun _ _ _ _ r h => by simp [spec_StorePut.j0] at h
 | k + 1 => by
  have ih0 := spec_StorePut.mono_l k
  ·intro y0 y1 y2 y3
   unfold spec_StorePut.j0
   repeat' first
   | (with_reducible exact ih0 _ _ _ _)
   | (with_reducible exact spec_put.mono _ _ _ _)
   | (with_reducible exact spec_validPlace.mono _ _)
   | (with_reducible exact spec_validStore.mono _ _)
   | (with_reducible exact spec_validValues.mono _ _)
   | (with_reducible exact LeO.refl _)
   | (with_reducible exact LeO.none _)
   | (with_reducible refine LeO.ite ?_ ?_)
   | (with_reducible refine LeO.bind ?_ (fun _ => ?_))
   | exact ih0 _ _ _ _
   | exact spec_put.mono _ _ _ _
   | exact spec_validPlace.mono _ _
   | exact spec_validStore.mono _ _
   | exact spec_validValues.mono _ _
   | exact LeO.none _
   | refine LeO.ite ?_ ?_
   | refine LeO.bind ?_ (fun _ => ?_)
theorem spec_StorePut.mono : ∀ a0 a1 a2 k, LeO (spec_StorePut.f k a0 a1 a2) (spec_StorePut.f (k + 1) a0 a1 a2) := by
 intro a0 a1 a2 k
 have ih0 := spec_StorePut.mono_l k
 unfold spec_StorePut.f
 repeat' first
   | (with_reducible exact ih0 _ _ _ _)
   | (with_reducible exact spec_put.mono _ _ _ _)
   | (with_reducible exact spec_validPlace.mono _ _)
   | (with_reducible exact spec_validStore.mono _ _)
   | (with_reducible exact spec_validValues.mono _ _)
   | (with_reducible exact LeO.refl _)
   | (with_reducible exact LeO.none _)
   | (with_reducible refine LeO.ite ?_ ?_)
   | (with_reducible refine LeO.bind ?_ (fun _ => ?_))
   | exact ih0 _ _ _ _
   | exact spec_put.mono _ _ _ _
   | exact spec_validPlace.mono _ _
   | exact spec_validStore.mono _ _
   | exact spec_validValues.mono _ _
   | exact LeO.none _
   | refine LeO.ite ?_ ?_
   | refine LeO.bind ?_ (fun _ => ?_)
set_option maxHeartbeats 8000000 in
set_option maxRecDepth 100000 in
theorem spec_StorePut.calls (k : Nat) (A0 : Option Addr) (c0 : Nat) (l0 : List (S41)) (A1 : Option Addr) (c1 : Nat) (l1 : List (S68)) (A2 : Option Addr) (c2 : Nat) (l2 : List (S28)) (r1 : List (S41)) (r2 : Bool) (w : World) (hr0 : Kd.C k41 w A0 l0.length l0) (hc0 : l0.length ≤ c0) (hr1 : Kd.C k68 w A1 l1.length l1) (hc1 : l1.length ≤ c1) (hr2 : Kd.C k28 w A2 l2.length l2) (hc2 : l2.length ≤ c2) (h : spec_StorePut.f k l0 l1 l2 = some (r1, r2)) :
  Calls Try.prog 30 #[.slice A0 l0.length c0, .slice A1 l1.length c1, .slice A2 l2.length c2] w fun e w' => ∃ v0_ : Value, e = .returned (.tuple #[v0_, .bool r2]) ∧ Kd.N k41 41 w' w.heap.size (fun k_ => (w.heap.size ≤ k_)) v0_ r1 ∧ Below w.heap.size w w' := by
 have hu41 := Try.underlying41
 have HR0 := A_ hr0
 have HC0 := A_ hc0
 clear hr0 hc0
 have HR1 := A_ hr1
 have HC1 := A_ hc1
 clear hr1 hc1
 have HR2 := A_ hr2
 have HC2 := A_ hc2
 clear hr2 hc2
 have HB := A_ (Below.refl w.heap.size w)
 have H : ((spec_validStore.f k l0).bind fun t477 => (if t477 = true then ((spec_validPlace.f k l1).bind fun t478 => (if t478 = true then (if (l2.length : Int) > 3 then (spec_StorePut.j0 k l0 l1 l2 true) else ((spec_validValues.f k l2).bind fun t479 => (spec_StorePut.j0 k l0 l1 l2 (!t479)))) else (spec_StorePut.j0 k l0 l1 l2 true))) else (spec_StorePut.j0 k l0 l1 l2 true))) = some (r1, r2) := h
 clear h
 have HC4 := A_ H
 clear H
 go_enter Try.func30, Try.ntmps30
 go_upto_region 1 with (fail)
 go_cut [26] (fun v26 wc => ∃ (kq : Nat) (x26_3 : Bool), v26 = .bool x26_3 ∧ Aside0 (spec_StorePut.j0 kq l0 l1 l2 x26_3 = some (r1, r2)) ∧ Aside0 (kq ≤ k) ∧ Aside0 (Below w.heap.size w wc))
 case first =>
  have H := HC4.out
  clear HC4
  replace H := Option.bind_eq_some_iff.mp H
  obtain ⟨t477, A50, H⟩ := H
  replace H : (if t477 = true then ((spec_validPlace.f k l1).bind fun t478 => (if t478 = true then (if (l2.length : Int) > 3 then (spec_StorePut.j0 k l0 l1 l2 true) else ((spec_validValues.f k l2).bind fun t479 => (spec_StorePut.j0 k l0 l1 l2 (!t479)))) else (spec_StorePut.j0 k l0 l1 l2 true))) else (spec_StorePut.j0 k l0 l1 l2 true)) = some (r1, r2) := H
  have A5 := A_ A50
  clear A50
  by_cases c6 : t477 = true
  ·subst c6
   have H1 : ((spec_validPlace.f k l1).bind fun t478 => (if t478 = true then (if (l2.length : Int) > 3 then (spec_StorePut.j0 k l0 l1 l2 true) else ((spec_validValues.f k l2).bind fun t479 => (spec_StorePut.j0 k l0 l1 l2 (!t479)))) else (spec_StorePut.j0 k l0 l1 l2 true))) = some (r1, r2) := by rw [if_pos rfl] at H; exact H
   clear H
   have H := H1
   clear H1
   replace H := Option.bind_eq_some_iff.mp H
   obtain ⟨t478, A70, H⟩ := H
   replace H : (if t478 = true then (if (l2.length : Int) > 3 then (spec_StorePut.j0 k l0 l1 l2 true) else ((spec_validValues.f k l2).bind fun t479 => (spec_StorePut.j0 k l0 l1 l2 (!t479)))) else (spec_StorePut.j0 k l0 l1 l2 true)) = some (r1, r2) := H
   have A7 := A_ A70
   clear A70
   by_cases c8 : t478 = true
   ·subst c8
    have H1 : (if (l2.length : Int) > 3 then (spec_StorePut.j0 k l0 l1 l2 true) else ((spec_validValues.f k l2).bind fun t479 => (spec_StorePut.j0 k l0 l1 l2 (!t479)))) = some (r1, r2) := by rw [if_pos rfl] at H; exact H
    clear H
    have H := H1
    clear H1
    by_cases c9 : (l2.length : Int) > 3
    ·rw [if_pos c9] at H
     have c9b0 : decide (3 < (l2.length : Int)) = true := decide_eq_true c9
     have c9b1 : decide (3 < l2.length) = true := decide_eq_true (by omega)
     clear c9
     (first | rw [c9b0] | (simp only [i64_w, i32_w]; rw [c9b0]) | skip)
     have H' := A_ H
     clear H
     go_wp2_with (first | ((with_reducible refine gate_callee (f := 45) rfl ?_); refine goesL_ (some 10) rfl rfl Try.func45 (by kernel_rfl) rfl #[.slice A0 l0.length c0] rfl Z3 ?_; (with_reducible refine (spec_validStore.calls k _ _ l0 true _ ?side1 ?side2 A5.out).mono ?_); (case side1 => exact Z5 HR0.out); (case side2 => exact HC0.out); rintro e w10 ⟨rfl, hb⟩; refine ⟨_, rfl, ?_⟩; have n0_ := A_ (below_step Z1 hb); clear HB; have HB := n0_; clear n0_; (try clear hb); (try clear hb2); (try clear hk); (try clear hi)) | (go_at_call 51; (with_reducible refine (spec_validPlace.calls k _ _ l1 true _ ?side1 ?side2 A7.out).mono ?_); (case side1 => exact Z5 HR1.out); (case side2 => exact HC1.out); rintro e w11 ⟨rfl, hb⟩; have n0_ := A_ (below_step Z1 hb); clear HB; have HB := n0_; clear n0_; (try clear hb); (try clear hb2); (try clear hk); (try clear hi)))
     go_meet
     case rel => exact ⟨_, (true), Z21, H', ⟨Z50⟩, ⟨Z1⟩⟩
    ·rw [if_neg c9] at H
     have c9b0 : decide (3 < (l2.length : Int)) = false := decide_eq_false c9
     have c9b1 : decide (3 < l2.length) = false := decide_eq_false (by omega)
     clear c9
     (first | rw [c9b0] | (simp only [i64_w, i32_w]; rw [c9b0]) | skip)
     replace H := Option.bind_eq_some_iff.mp H
     obtain ⟨t479, A120, H⟩ := H
     replace H : (spec_StorePut.j0 k l0 l1 l2 (!t479)) = some (r1, r2) := H
     have A12 := A_ A120
     clear A120
     have H' := A_ H
     clear H
     go_wp2_with (first | ((with_reducible refine gate_callee (f := 45) rfl ?_); refine goesL_ (some 10) rfl rfl Try.func45 (by kernel_rfl) rfl #[.slice A0 l0.length c0] rfl Z3 ?_; (with_reducible refine (spec_validStore.calls k _ _ l0 true _ ?side1 ?side2 A5.out).mono ?_); (case side1 => exact Z5 HR0.out); (case side2 => exact HC0.out); rintro e w13 ⟨rfl, hb⟩; refine ⟨_, rfl, ?_⟩; have n0_ := A_ (below_step Z1 hb); clear HB; have HB := n0_; clear n0_; (try clear hb); (try clear hb2); (try clear hk); (try clear hi)) | (go_at_call 51; (with_reducible refine (spec_validPlace.calls k _ _ l1 true _ ?side1 ?side2 A7.out).mono ?_); (case side1 => exact Z5 HR1.out); (case side2 => exact HC1.out); rintro e w14 ⟨rfl, hb⟩; have n0_ := A_ (below_step Z1 hb); clear HB; have HB := n0_; clear n0_; (try clear hb); (try clear hb2); (try clear hk); (try clear hi)) | (go_at_call 60; (with_reducible refine (spec_validValues.calls k _ _ l2 t479 _ ?side1 ?side2 A12.out).mono ?_); (case side1 => exact Z5 HR2.out); (case side2 => exact HC2.out); rintro e w15 ⟨rfl, hb⟩; have n0_ := A_ (below_step Z1 hb); clear HB; have HB := n0_; clear n0_; (try clear hb); (try clear hb2); (try clear hk); (try clear hi)))
     go_meet
     case rel => exact ⟨_, (!t479), Z21, H', ⟨Z50⟩, ⟨Z1⟩⟩
   ·replace c8 := Bool.eq_false_iff.mpr c8
    subst c8
    have H1 : (spec_StorePut.j0 k l0 l1 l2 true) = some (r1, r2) := by rw [if_neg (show ¬ (false = true) by decide)] at H; exact H
    clear H
    have H := H1
    clear H1
    have H' := A_ H
    clear H
    go_wp2_with (first | ((with_reducible refine gate_callee (f := 45) rfl ?_); refine goesL_ (some 10) rfl rfl Try.func45 (by kernel_rfl) rfl #[.slice A0 l0.length c0] rfl Z3 ?_; (with_reducible refine (spec_validStore.calls k _ _ l0 true _ ?side1 ?side2 A5.out).mono ?_); (case side1 => exact Z5 HR0.out); (case side2 => exact HC0.out); rintro e w16 ⟨rfl, hb⟩; refine ⟨_, rfl, ?_⟩; have n0_ := A_ (below_step Z1 hb); clear HB; have HB := n0_; clear n0_; (try clear hb); (try clear hb2); (try clear hk); (try clear hi)) | (go_at_call 51; (with_reducible refine (spec_validPlace.calls k _ _ l1 false _ ?side1 ?side2 A7.out).mono ?_); (case side1 => exact Z5 HR1.out); (case side2 => exact HC1.out); rintro e w17 ⟨rfl, hb⟩; have n0_ := A_ (below_step Z1 hb); clear HB; have HB := n0_; clear n0_; (try clear hb); (try clear hb2); (try clear hk); (try clear hi)))
    go_meet
    case rel => exact ⟨_, (true), Z21, H', ⟨Z50⟩, ⟨Z1⟩⟩
  ·replace c6 := Bool.eq_false_iff.mpr c6
   subst c6
   have H1 : (spec_StorePut.j0 k l0 l1 l2 true) = some (r1, r2) := by rw [if_neg (show ¬ (false = true) by decide)] at H; exact H
   clear H
   have H := H1
   clear H1
   have H' := A_ H
   clear H
   go_wp2_with (first | ((with_reducible refine gate_callee (f := 45) rfl ?_); refine goesL_ (some 10) rfl rfl Try.func45 (by kernel_rfl) rfl #[.slice A0 l0.length c0] rfl Z3 ?_; (with_reducible refine (spec_validStore.calls k _ _ l0 false _ ?side1 ?side2 A5.out).mono ?_); (case side1 => exact Z5 HR0.out); (case side2 => exact HC0.out); rintro e w18 ⟨rfl, hb⟩; refine ⟨_, rfl, ?_⟩; have n0_ := A_ (below_step Z1 hb); clear HB; have HB := n0_; clear n0_; (try clear hb); (try clear hb2); (try clear hk); (try clear hi)))
   go_meet
   case rel => exact ⟨_, (true), Z21, H', ⟨Z50⟩, ⟨Z1⟩⟩
 case rest =>
  clear HC4
  try clear c1
  try clear c2
  try clear p2
  try clear c3
  try clear c4
  try clear c6
  try clear c8
  try clear c9
  try clear c9b0
  try clear c9b1
  obtain ⟨kq, x26_3, rfl, HA, HJ3, HB⟩ := hcut
  cases kq with
  | zero => exact absurd HA.out (by simp [spec_StorePut.j0])
  | succ kj3 =>
   have H := HA.out
   clear HA
   simp only [spec_StorePut.j0] at H
   by_cases c19 : x26_3 = true
   ·subst c19
    have H1 : (some (([] : List (S41)), false)) = some (r1, r2) := by rw [if_pos rfl] at H; exact H
    clear H
    have H := H1
    clear H1
    simp only [Option.some.injEq, Prod.mk.injEq] at H
    obtain ⟨rfl, rfl⟩ := H
    go_wp2
    go_ret2
    exact ⟨_, Z16, Z46, Z1⟩
   ·replace c19 := Bool.eq_false_iff.mpr c19
    subst c19
    have H1 : ((spec_put.f kj3 l0 l1 l2).bind fun t480 => (if (t480.length : Int) > 200 then (some (([] : List (S41)), false)) else (some (t480, true)))) = some (r1, r2) := by rw [if_neg (show ¬ (false = true) by decide)] at H; exact H
    clear H
    have H := H1
    clear H1
    replace H := Option.bind_eq_some_iff.mp H
    obtain ⟨t480, A200, H⟩ := H
    replace H : (if (t480.length : Int) > 200 then (some (([] : List (S41)), false)) else (some (t480, true))) = some (r1, r2) := H
    have A20 := A_ A200
    clear A200
    by_cases c21 : (t480.length : Int) > 200
    ·rw [if_pos c21] at H
     have c21b0 : decide (200 < (t480.length : Int)) = true := decide_eq_true c21
     have c21b1 : decide (200 < t480.length) = true := decide_eq_true (by omega)
     clear c21
     simp only [Option.some.injEq, Prod.mk.injEq] at H
     obtain ⟨rfl, rfl⟩ := H
     go_wp2_with (first | ((with_reducible refine gate_callee (f := 61) rfl ?_); refine goesL_ (some 31) rfl rfl Try.func61 (by kernel_rfl) rfl #[.slice A0 l0.length c0, .agg #[.slice A1 l1.length c1, .slice A2 l2.length c2]] rfl Z3 ?_; (with_reducible refine (spec_put.calls kj3 _ _ l0 _ _ l1 _ _ l2 t480 _ ?side1 ?side2 ?side3 ?side4 ?side5 ?side6 A20.out).mono ?_); (case side1 => exact Z5 HR0.out); (case side2 => exact HC0.out); (case side3 => exact Z5 HR1.out); (case side4 => exact HC1.out); (case side5 => exact Z5 HR2.out); (case side6 => exact HC2.out); rintro e w22 ⟨v481, rfl, ho0, hb⟩; refine ⟨_, rfl, ?_⟩; have n0_ := A_ (Kd.N_lower (Kd.N_mono (ok' := fun k_ => (w.heap.size ≤ k_)) ho0 (fun k_ hk_ => (Nat.le_trans (below_size Z1) hk_))) (below_size Z1)); have n1_ := A_ (below_step Z1 hb); clear HB; have HO482 := n0_; have HB := n1_; clear n0_ n1_; (try clear hb); (try clear hb2); (try clear hk); (try clear hi); (try clear ho0); obtain ⟨Ao23, co23, eo23⟩ := Kd.N_slice HO482.out; subst eo23))
     go_ret2
     exact ⟨_, Z16, Z46, Z1⟩
    ·rw [if_neg c21] at H
     have c21b0 : decide (200 < (t480.length : Int)) = false := decide_eq_false c21
     have c21b1 : decide (200 < t480.length) = false := decide_eq_false (by omega)
     clear c21
     simp only [Option.some.injEq, Prod.mk.injEq] at H
     obtain ⟨rfl, rfl⟩ := H
     go_wp2_with (first | ((with_reducible refine gate_callee (f := 61) rfl ?_); refine goesL_ (some 31) rfl rfl Try.func61 (by kernel_rfl) rfl #[.slice A0 l0.length c0, .agg #[.slice A1 l1.length c1, .slice A2 l2.length c2]] rfl Z3 ?_; (with_reducible refine (spec_put.calls kj3 _ _ l0 _ _ l1 _ _ l2 t480 _ ?side1 ?side2 ?side3 ?side4 ?side5 ?side6 A20.out).mono ?_); (case side1 => exact Z5 HR0.out); (case side2 => exact HC0.out); (case side3 => exact Z5 HR1.out); (case side4 => exact HC1.out); (case side5 => exact Z5 HR2.out); (case side6 => exact HC2.out); rintro e w24 ⟨v481, rfl, ho0, hb⟩; refine ⟨_, rfl, ?_⟩; have n0_ := A_ (Kd.N_lower (Kd.N_mono (ok' := fun k_ => (w.heap.size ≤ k_)) ho0 (fun k_ hk_ => (Nat.le_trans (below_size Z1) hk_))) (below_size Z1)); have n1_ := A_ (below_step Z1 hb); clear HB; have HO482 := n0_; have HB := n1_; clear n0_ n1_; (try clear hb); (try clear hb2); (try clear hk); (try clear hi); (try clear ho0); obtain ⟨Ao25, co25, eo25⟩ := Kd.N_slice HO482.out; subst eo25))
     go_ret2
     exact ⟨_, Z16, Z18 HO482.out, Z1⟩
def spec_Lacking.l0 : Nat → List (S41) → List (S68) → List (S41) → Int → Option ((List (S41)))
 | 0, _, _, _, _ => none
 | k + 1, x0, x1, x5, x6 => if x6 < (x0.length : Int) then (if 0 ≤ x6 then ((spec_comparePlaces.f k ((rd_T41 x0 x6).f0) x1).bind fun t487 => (if t487 = 0 then (spec_Lacking.l0 k x0 x1 x5 (wrap64 (x6 + 1))) else ((spec_copyCell.f ((rd_T41 x0 x6).f0) ((rd_T41 x0 x6).f1)).bind fun bt489 => (if x5.length < 2932031007402 then (spec_Lacking.l0 k x0 x1 (x5 ++ [(⟨bt489.1, bt489.2⟩ : S41)]) (wrap64 (x6 + 1))) else (none))))) else (none)) else (some x5)
def spec_Lacking.f (k : Nat) (l0 : List (S41)) (l1 : List (S68)) : Option ((List (S41))) := spec_Lacking.l0 k l0 l1 (([] : List (S41))) 0
theorem spec_Lacking.mono_l : ∀ k, (∀ y0 y1 y2 y3, LeO (spec_Lacking.l0 k y0 y1 y2 y3) (spec_Lacking.l0 (k + 1) y0 y1 y2 y3))
 | 0 => fun _ _ _ _ r h => by simp [spec_Lacking.l0] at h
 | k + 1 => by
  have ih0 := spec_Lacking.mono_l k
  ·intro y0 y1 y2 y3
   unfold spec_Lacking.l0
   repeat' first
   | (with_reducible exact ih0 _ _ _ _)
   | (with_reducible exact spec_comparePlaces.mono _ _ _)
   | (with_reducible exact LeO.refl _)
   | (with_reducible exact LeO.none _)
   | (with_reducible refine LeO.ite ?_ ?_)
   | (with_reducible refine LeO.bind ?_ (fun _ => ?_))
   | exact ih0 _ _ _ _
   | exact spec_comparePlaces.mono _ _ _
   | exact LeO.none _
   | refine LeO.ite ?_ ?_
   | refine LeO.bind ?_ (fun _ => ?_)
theorem spec_Lacking.mono : ∀ a0 a1 k, LeO (spec_Lacking.f k a0 a1) (spec_Lacking.f (k + 1) a0 a1) := by
 intro a0 a1 k
 have ih0 := spec_Lacking.mono_l k
 unfold spec_Lacking.f
 repeat' first
   | (with_reducible exact ih0 _ _ _ _)
   | (with_reducible exact spec_comparePlaces.mono _ _ _)
   | (with_reducible exact LeO.refl _)
   | (with_reducible exact LeO.none _)
   | (with_reducible refine LeO.ite ?_ ?_)
   | (with_reducible refine LeO.bind ?_ (fun _ => ?_))
   | exact ih0 _ _ _ _
   | exact spec_comparePlaces.mono _ _ _
   | exact LeO.none _
   | refine LeO.ite ?_ ?_
   | refine LeO.bind ?_ (fun _ => ?_)
set_option maxHeartbeats 8000000 in
set_option maxRecDepth 100000 in
theorem spec_Lacking.calls (k : Nat) (A0 : Option Addr) (c0 : Nat) (l0 : List (S41)) (A1 : Option Addr) (c1 : Nat) (l1 : List (S68)) (r : List (S41)) (w : World) (hr0 : Kd.C k41 w A0 l0.length l0) (hc0 : l0.length ≤ c0) (hr1 : Kd.C k68 w A1 l1.length l1) (hc1 : l1.length ≤ c1) (h : spec_Lacking.f k l0 l1 = some r) :
  Calls Try.prog 31 #[.slice A0 l0.length c0, .slice A1 l1.length c1] w fun e w' => ∃ v0_ : Value, e = .returned (v0_) ∧ Kd.S k41 41 w' w.heap.size (fun _ => True) v0_ r ∧ Below w.heap.size w w' := by
 have hu41 := Try.underlying41
 have HR0 := A_ hr0
 have HC0 := A_ hc0
 clear hr0 hc0
 have HR1 := A_ hr1
 have HC1 := A_ hc1
 clear hr1 hc1
 have HB := A_ (Below.refl w.heap.size w)
 have H : (spec_Lacking.l0 k l0 l1 (([] : List (S41))) 0) = some r := h
 clear h
 obtain ⟨y483, hy483⟩ : ∃ y_ : List (S41), y_ = (([] : List (S41))) := ⟨_, rfl⟩
 replace H : (spec_Lacking.l0 k l0 l1 y483 0) = some r := by first | (rw [hy483]; with_reducible exact H) | (have H2_ := (Option.bind_some _ _).symm.trans H; rw [hy483]; with_reducible exact H2_) | (have H2_ := (Option.bind_some _ _).symm.trans H; with_reducible exact H2_) | with_reducible exact H | (rw [hy483]; exact H) | exact H
 have Ny483 := A_ hy483
 clear hy483
 have H' := A_ H
 clear H
 go_enter Try.func31, Try.ntmps31
 go_wp2_with (first | ((with_reducible refine gate_dst (N := 7) rfl ?_); refine Kd.S_lit k41 _ 41 ?hg (N := 7) ?hd (xs := ([] : List (S41))) (inner := []) (ok := fun _ => True) (okp := fun _ => True) ?hr ?hp (fun _ hk => hk) trivial (Below.refl _ _) (Nat.le_refl _) (by simp) ?_; (case hd => rfl); (case hg => rfl); (case hr => exact Z28); (case hp => exact (Reps.none _ _)); intro v484 w3 ho4 hb hg_ hnew_; clear hg_ hnew_; (first | rw [← Ny483.out] at ho4 | (simp only [Int.reduceToNat] at ho4; rw [← Ny483.out] at ho4)); have n0_ := A_ (Kd.S_lower ho4 (below_size Z1)); have n1_ := A_ (below_step Z1 hb); clear HB; have HO485 := n0_; have HB := n1_; clear n0_ n1_; clear hb ho4))
 go_loopg [5, 6] k (fun kq v5 v6 w' => ∃ (x5_1 : List (S41)) (x6_1 : Int), v6 = .int .i64 x6_1 ∧ Aside0 (spec_Lacking.l0 kq l0 l1 x5_1 x6_1 = some r) ∧ Aside0 (kq ≤ k) ∧ Aside0 (Kd.S k41 41 w' w.heap.size (fun _ => True) v5 x5_1) ∧ Aside0 (Below w.heap.size w w'))
 case atStart => exact ⟨(y483), (0), Z21, H', ⟨Nat.le_refl _⟩, ⟨Z29 HO485.out⟩, ⟨Z1⟩⟩
 case round =>
  clear H'
  try clear c1
  try clear p2
  try clear c3
  obtain ⟨x5_1, x6_1, rfl, HA, HK1, HO_5, HB⟩ := hrel
  cases gk with
  | zero => exact absurd HA.out (by simp [spec_Lacking.l0])
  | succ k1 =>
   have H := HA.out
   clear HA
   simp only [spec_Lacking.l0] at H
   by_cases c5 : x6_1 < (l0.length : Int)
   ·rw [if_pos c5] at H
    have c5b0 : decide (x6_1 < (l0.length : Int)) = true := decide_eq_true c5
    clear c5
    by_cases c6 : 0 ≤ x6_1
    ·rw [if_pos c6] at H
     have c6b0 : decide (0 ≤ x6_1) = true := decide_eq_true c6
     clear c6
     replace H := Option.bind_eq_some_iff.mp H
     obtain ⟨t487, A70, H⟩ := H
     replace H : (if t487 = 0 then (spec_Lacking.l0 k1 l0 l1 x5_1 (wrap64 (x6_1 + 1))) else ((spec_copyCell.f ((rd_T41 l0 x6_1).f0) ((rd_T41 l0 x6_1).f1)).bind fun bt489 => (if x5_1.length < 2932031007402 then (spec_Lacking.l0 k1 l0 l1 (x5_1 ++ [(⟨bt489.1, bt489.2⟩ : S41)]) (wrap64 (x6_1 + 1))) else (none)))) = some r := H
     have A7 := A_ A70
     clear A70
     by_cases c8 : t487 = 0
     ·rw [if_pos c8] at H
      have c8b0 : (t487 == 0) = true := beq_iff_eq.mpr c8
      have c8b1 : (t487 != 0) = false := bne_eq_false_iff_eq.mpr c8
      clear c8
      have H' := A_ H
      clear H
      have p486 : 0 ≤ (x6_1 : Int) := of_decide_eq_true Z14
      have q486 : x6_1 < (l0.length : Int) := of_decide_eq_true Z14
      obtain ⟨ad486, A486_0, c486_0, A486_1, c486_1, e486, hx486_0, hx486_1, hl486_0, hi486_0, hl486_1, hi486_1⟩ := at_T41 HR0.out x6_1 p486 q486
      cases e486
      replace hx486_0 := ZC HB.out hx486_0
      replace hx486_1 := ZC HB.out hx486_1
      have HR486_0 := A_ hi486_0
      have HC486_0 := A_ hl486_0
      clear hi486_0 hl486_0
      have HR486_1 := A_ hi486_1
      have HC486_1 := A_ hl486_1
      clear hi486_1 hl486_1
      replace p486 := eq_true p486
      replace q486 := eq_true q486
      go_wp2_with (first | ((with_reducible refine gate_callee (f := 62) rfl ?_); refine goesL_ (some 20) rfl rfl Try.func62 (by kernel_rfl) rfl #[.slice A486_0 ((rd_T41 l0 x6_1).f0).length c486_0, .slice A1 l1.length c1] rfl Z3 ?_; (with_reducible refine (spec_comparePlaces.calls k1 _ _ ((rd_T41 l0 x6_1).f0) _ _ l1 t487 _ ?side1 ?side2 ?side3 ?side4 A7.out).mono ?_); (case side1 => exact Z5 HR486_0.out); (case side2 => exact HC486_0.out); (case side3 => exact Z5 HR1.out); (case side4 => exact HC1.out); rintro e w' ⟨rfl, ⟨nd, rfl⟩⟩; refine ⟨_, rfl, ?_⟩))
      go_roundg k1
      case measure => have := HK1.out; omega
      case rel => exact ⟨(x5_1), (wrap64 (x6_1 + 1)), Z21, H', ⟨by have := HK1.out; omega⟩, ⟨Z29 HO_5.out⟩, ⟨Z1⟩⟩
     ·rw [if_neg c8] at H
      have c8b0 : (t487 == 0) = false := beq_eq_false_iff_ne.mpr c8
      have c8b1 : (t487 != 0) = true := bne_iff_ne.mpr c8
      replace H := Option.bind_eq_some_iff.mp H
      obtain ⟨⟨t489, t492⟩, A90, H⟩ := H
      replace H : (if x5_1.length < 2932031007402 then (spec_Lacking.l0 k1 l0 l1 (x5_1 ++ [(⟨t489, t492⟩ : S41)]) (wrap64 (x6_1 + 1))) else (none)) = some r := H
      have A9 := A_ A90
      clear A90
      by_cases c10 : x5_1.length < 2932031007402
      ·rw [if_pos c10] at H
       have LMc10 := A_ c10
       clear c10
       obtain ⟨y495, hy495⟩ : ∃ y_ : List (S41), y_ = (x5_1 ++ [(⟨t489, t492⟩ : S41)]) := ⟨_, rfl⟩
       replace H : (spec_Lacking.l0 k1 l0 l1 y495 (wrap64 (x6_1 + 1))) = some r := by first | (rw [hy495]; with_reducible exact H) | (have H2_ := (Option.bind_some _ _).symm.trans H; rw [hy495]; with_reducible exact H2_) | (have H2_ := (Option.bind_some _ _).symm.trans H; with_reducible exact H2_) | with_reducible exact H | (rw [hy495]; exact H) | exact H
       have Ny495 := A_ hy495
       clear hy495
       have H' := A_ H
       clear H
       have p486 : 0 ≤ (x6_1 : Int) := of_decide_eq_true Z14
       have q486 : x6_1 < (l0.length : Int) := of_decide_eq_true Z14
       obtain ⟨ad486, A486_0, c486_0, A486_1, c486_1, e486, hx486_0, hx486_1, hl486_0, hi486_0, hl486_1, hi486_1⟩ := at_T41 HR0.out x6_1 p486 q486
       cases e486
       replace hx486_0 := ZC HB.out hx486_0
       replace hx486_1 := ZC HB.out hx486_1
       have HR486_0 := A_ hi486_0
       have HC486_0 := A_ hl486_0
       clear hi486_0 hl486_0
       have HR486_1 := A_ hi486_1
       have HC486_1 := A_ hl486_1
       clear hi486_1 hl486_1
       replace p486 := eq_true p486
       replace q486 := eq_true q486
       go_wp2_with (first | ((with_reducible refine gate_callee (f := 62) rfl ?_); refine goesL_ (some 20) rfl rfl Try.func62 (by kernel_rfl) rfl #[.slice A486_0 ((rd_T41 l0 x6_1).f0).length c486_0, .slice A1 l1.length c1] rfl Z3 ?_; (with_reducible refine (spec_comparePlaces.calls k1 _ _ ((rd_T41 l0 x6_1).f0) _ _ l1 t487 _ ?side1 ?side2 ?side3 ?side4 A7.out).mono ?_); (case side1 => exact Z5 HR486_0.out); (case side2 => exact HC486_0.out); (case side3 => exact Z5 HR1.out); (case side4 => exact HC1.out); rintro e w' ⟨rfl, ⟨nd, rfl⟩⟩; refine ⟨_, rfl, ?_⟩; have p488 : 0 ≤ (x6_1 : Int) := of_decide_eq_true Z14; have q488 : x6_1 < (l0.length : Int) := of_decide_eq_true Z14; obtain ⟨ad488, A488_0, c488_0, A488_1, c488_1, e488, hx488_0, hx488_1, hl488_0, hi488_0, hl488_1, hi488_1⟩ := at_T41 HR0.out x6_1 p488 q488; obtain rfl : ad486 = ad488 := (by injection e488); replace hx488_0 := ZC HB.out hx488_0; replace hx488_1 := ZC HB.out hx488_1; have HR488_0 := A_ hi488_0; have HC488_0 := A_ hl488_0; clear hi488_0 hl488_0; have HR488_1 := A_ hi488_1; have HC488_1 := A_ hl488_1; clear hi488_1 hl488_1; replace p488 := eq_true p488; replace q488 := eq_true q488; have ea_ := Option.some.inj (hx486_0.symm.trans hx488_0); injection ea_ with ea_ en_ ec_; subst ea_; subst ec_; clear en_; have ea_ := Option.some.inj (hx486_1.symm.trans hx488_1); injection ea_ with ea_ en_ ec_; subst ea_; subst ec_; clear en_) | ((with_reducible refine gate_callee (f := 53) rfl ?_); refine goesL_ (some 27) rfl rfl Try.func53 (by kernel_rfl) rfl #[.agg #[.slice A486_0 ((rd_T41 l0 x6_1).f0).length c486_0, .slice A486_1 ((rd_T41 l0 x6_1).f1).length c486_1]] rfl Z3 ?_; (with_reducible refine (spec_copyCell.calls _ _ ((rd_T41 l0 x6_1).f0) _ _ ((rd_T41 l0 x6_1).f1) t489 t492 _ ?side1 ?side2 ?side3 ?side4 A9.out).mono ?_); (case side1 => repeat (first | exact (Kd.C_below HR488_0.out Z1) | (with_reducible refine Kd.C_alloc ?_ _) | (with_reducible refine Kd.C_drewN ?_ _) | (with_reducible refine Kd.C_drew ?_))); (case side2 => exact HC488_0.out); (case side3 => repeat (first | exact (Kd.C_below HR488_1.out Z1) | (with_reducible refine Kd.C_alloc ?_ _) | (with_reducible refine Kd.C_drewN ?_ _) | (with_reducible refine Kd.C_drew ?_))); (case side4 => exact HC488_1.out); rintro e w11 ⟨v490, v493, rfl, ho0, ho1, hb⟩; refine ⟨_, rfl, ?_⟩; have n0_ := A_ (Kd.S_mono (Kd.S_told (Kd.S_told (Kd.S_old (Z29 HO_5.out) hb) (Kd.R_base ho0)) (Kd.R_base ho1)) (fun _ h_ => h_.1)); have n1_ := A_ (Kd.R_lower ho0 (below_size Z1)); have n2_ := A_ (Kd.R_lower ho1 (below_size Z1)); have n3_ := A_ (below_step Z1 hb); clear HO_5; clear HB; have HO_5 := n0_; have HO491 := n1_; have HO494 := n2_; have HB := n3_; clear n0_ n1_ n2_ n3_; (try clear hb); (try clear hb2); (try clear hk); (try clear hi); (try clear ho0); (try clear ho1); obtain ⟨Ao13, co13, eo13⟩ := Kd.R_slice HO491.out; subst eo13; obtain ⟨Ao14, co14, eo14⟩ := Kd.R_slice HO494.out; subst eo14) | ((with_reducible refine gate_builtin (b := .append) (xs := #[.tmp 22, .tmp 28]) rfl ?_); at_builtin; refine Kd.S_append k41 (w0 := w) w.heap.size rfl (.tmp 22) (.tmp 28) 33 41 (.agg #[(.slice none 0 0), (.slice none 0 0)]) 48 rfl Try.underlying33 info41 rfl (by decide) (by omega) u5 x5_1 (⟨t489, t492⟩ : S41) [.slice Ao13 t489.length co13, .slice Ao14 t492.length co14] (fun _ => True) (fun k_ => some k_ = (.slice Ao13 t489.length co13 : Value).ownBlock ∨ some k_ = (.slice Ao14 t492.length co14 : Value).ownBlock) rfl rfl ?aP (fun k_ hk_ => hk_.elim (fun h_ => ((Kd.R_mono (ok' := fun k_ => ((fun _ => True)) k_ ∧ some k_ ≠ (u5 : Value).ownBlock) (Kd.R_apart' (HO491.out) (Kd.S_typed HO_5.out) (by decide)) (fun k_ hk => ⟨trivial, hk.2⟩))).1 k_ h_.symm) (fun h_ => ((Kd.R_mono (ok' := fun k_ => ((fun _ => True)) k_ ∧ some k_ ≠ (u5 : Value).ownBlock) (Kd.R_apart' (HO494.out) (Kd.S_typed HO_5.out) (by decide)) (fun k_ hk => ⟨trivial, hk.2⟩))).1 k_ h_.symm)) ?aF ?aO ?aB ?aS ?aL ?_; (case aP => exact k41_mkM _ _ _ (⟨t489, t492⟩ : S41) (Kd.R_mono (Kd.R_tight rfl (Kd.R_mono (ok' := fun k_ => ((fun _ => True)) k_ ∧ some k_ ≠ (u5 : Value).ownBlock) (Kd.R_apart' (HO491.out) (Kd.S_typed HO_5.out) (by decide)) (fun k_ hk => ⟨trivial, hk.2⟩))) (fun _ h_ => Or.inl h_)) (Kd.R_mono (Kd.R_tight rfl (Kd.R_mono (ok' := fun k_ => ((fun _ => True)) k_ ∧ some k_ ≠ (u5 : Value).ownBlock) (Kd.R_apart' (HO494.out) (Kd.S_typed HO_5.out) (by decide)) (fun k_ hk => ⟨trivial, hk.2⟩))) (fun _ h_ => Or.inr (h_)))); (case aB => exact Z1); (case aF => exact (fun _ _ => trivial)); (case aO => exact (by (with_reducible repeat (first | apply Kd.S_alloc | apply Kd.S_drewN | apply Kd.S_drew)); exact Kd.S_mono HO_5.out (fun k_ hk => ⟨trivial, fun e_ => e_.elim (fun h_ => hk.1.2 h_) (fun h_ => hk.2 h_)⟩))); (case aS => exact (below_size Z1)); (case aL => have := LMc10.out; omega); intro v496 w12 ho hb hg hat; rw [← Ny495.out] at ho; have n0_ := A_ (hb); have n1_ := A_ (ho); clear HB; clear HO_5; clear HO491; clear HO494; have HB := n0_; have HO497 := n1_; clear n0_ n1_; clear ho hb hg hat))
       go_roundg k1
       case measure => have := HK1.out; omega
       case rel => exact ⟨(y495), (wrap64 (x6_1 + 1)), Z21, H', ⟨by have := HK1.out; omega⟩, ⟨Z29 HO497.out⟩, ⟨Z1⟩⟩
      ·rw [if_neg c10] at H
       exact absurd H (by simp)
    ·rw [if_neg c6] at H
     exact absurd H (by simp)
   ·rw [if_neg c5] at H
    have c5b0 : decide (x6_1 < (l0.length : Int)) = false := decide_eq_false c5
    clear c5
    obtain rfl := Option.some.inj H
    go_wp2
    go_ret
    exact ⟨_, Z16, Z29 HO_5.out, Z1⟩
mutual
def laws_FnStorePut.j0 : Nat → List (S41) → List (S68) → List (S28) → List (S41) → Bool → Bool → Option (Bool)
 | 0, _, _, _, _, _, _ => none
 | k + 1, x3, x4, x5, x6, x7, x10 => if x10 = true then (laws_FnStorePut.j1 k x3 x4 x5 x6 x10 (!x7)) else (laws_FnStorePut.j1 k x3 x4 x5 x6 x10 true)
def laws_FnStorePut.j1 : Nat → List (S41) → List (S68) → List (S28) → List (S41) → Bool → Bool → Option (Bool)
 | 0, _, _, _, _, _, _ => none
 | k + 1, x3, x4, x5, x6, x10, x49 => if x49 = true then (some x10) else ((impl_StoreGet.f k x6 x4).bind fun bt516 => ((impl_StoreOk.f k x6).bind fun t520 => (if t520 = true then (if bt516.2 = true then ((spec_SameVals.f k bt516.1 x5).bind fun t521 => (if t521 = true then ((spec_Lacking.f k x6 x4).bind fun t522 => ((spec_Lacking.f k x3 x4).bind fun t525 => ((spec_SameStore.f k t522 t525).bind fun t528 => (some t528)))) else (some false))) else (some false)) else (some false))))
end
def laws_FnStorePut.f (k : Nat) (l0 : List Int) : Option (Bool) := if (l0.length : Int) > 1048576 then (some true) else ((spec_DrawStorePut.f k l0).bind fun bt498 => ((impl_StorePut.f k bt498.1 bt498.2.1 bt498.2.2).bind fun bt507 => ((spec_StorePut.f k bt498.1 bt498.2.1 bt498.2.2).bind fun bt511 => ((spec_SameStore.f k bt507.1 bt511.1).bind fun t515 => (if t515 = true then (laws_FnStorePut.j0 k bt498.1 bt498.2.1 bt498.2.2 bt507.1 bt507.2 (bt507.2 == bt511.2)) else (laws_FnStorePut.j0 k bt498.1 bt498.2.1 bt498.2.2 bt507.1 bt507.2 false))))))
theorem laws_FnStorePut.mono_l : ∀ k, (∀ y0 y1 y2 y3 y4 y5, LeO (laws_FnStorePut.j0 k y0 y1 y2 y3 y4 y5) (laws_FnStorePut.j0 (k + 1) y0 y1 y2 y3 y4 y5)) ∧ (∀ y0 y1 y2 y3 y4 y5, LeO (laws_FnStorePut.j1 k y0 y1 y2 y3 y4 y5) (laws_FnStorePut.j1 (k + 1) y0 y1 y2 y3 y4 y5))
 | 0 => ⟨fun _ _ _ _ _ _ r h => by simp [laws_FnStorePut.j0] at h, fun _ _ _ _ _ _ r h => by simp [laws_FnStorePut.j1] at h⟩
 | k + 1 => by
  obtain ⟨ih0, ih1⟩ := laws_FnStorePut.mono_l k
  refine ⟨?_, ?_⟩
  ·intro y0 y1 y2 y3 y4 y5
   unfold laws_FnStorePut.j0
   repeat' first
   | (with_reducible exact ih0 _ _ _ _ _ _)
   | (with_reducible exact ih1 _ _ _ _ _ _)
   | (with_reducible exact impl_StoreGet.mono _ _ _)
   | (with_reducible exact impl_StoreOk.mono _ _)
   | (with_reducible exact impl_StorePut.mono _ _ _ _)
   | (with_reducible exact spec_DrawStorePut.mono _ _)
   | (with_reducible exact spec_Lacking.mono _ _ _)
   | (with_reducible exact spec_SameStore.mono _ _ _)
   | (with_reducible exact spec_SameVals.mono _ _ _)
   | (with_reducible exact spec_StorePut.mono _ _ _ _)
   | (with_reducible exact LeO.refl _)
   | (with_reducible exact LeO.none _)
   | (with_reducible refine LeO.ite ?_ ?_)
   | (with_reducible refine LeO.bind ?_ (fun _ => ?_))
   | exact ih0 _ _ _ _ _ _
   | exact ih1 _ _ _ _ _ _
   | exact impl_StoreGet.mono _ _ _
   | exact impl_StoreOk.mono _ _
   | exact impl_StorePut.mono _ _ _ _
   | exact spec_DrawStorePut.mono _ _
   | exact spec_Lacking.mono _ _ _
   | exact spec_SameStore.mono _ _ _
   | exact spec_SameVals.mono _ _ _
   | exact spec_StorePut.mono _ _ _ _
   | exact LeO.none _
   | refine LeO.ite ?_ ?_
   | refine LeO.bind ?_ (fun _ => ?_)
  ·intro y0 y1 y2 y3 y4 y5
   unfold laws_FnStorePut.j1
   repeat' first
   | (with_reducible exact ih0 _ _ _ _ _ _)
   | (with_reducible exact ih1 _ _ _ _ _ _)
   | (with_reducible exact impl_StoreGet.mono _ _ _)
   | (with_reducible exact impl_StoreOk.mono _ _)
   | (with_reducible exact impl_StorePut.mono _ _ _ _)
   | (with_reducible exact spec_DrawStorePut.mono _ _)
   | (with_reducible exact spec_Lacking.mono _ _ _)
   | (with_reducible exact spec_SameStore.mono _ _ _)
   | (with_reducible exact spec_SameVals.mono _ _ _)
   | (with_reducible exact spec_StorePut.mono _ _ _ _)
   | (with_reducible exact LeO.refl _)
   | (with_reducible exact LeO.none _)
   | (with_reducible refine LeO.ite ?_ ?_)
   | (with_reducible refine LeO.bind ?_ (fun _ => ?_))
   | exact ih0 _ _ _ _ _ _
   | exact ih1 _ _ _ _ _ _
   | exact impl_StoreGet.mono _ _ _
   | exact impl_StoreOk.mono _ _
   | exact impl_StorePut.mono _ _ _ _
   | exact spec_DrawStorePut.mono _ _
   | exact spec_Lacking.mono _ _ _
   | exact spec_SameStore.mono _ _ _
   | exact spec_SameVals.mono _ _ _
   | exact spec_StorePut.mono _ _ _ _
   | exact LeO.none _
   | refine LeO.ite ?_ ?_
   | refine LeO.bind ?_ (fun _ => ?_)
theorem laws_FnStorePut.mono : ∀ a0 k, LeO (laws_FnStorePut.f k a0) (laws_FnStorePut.f (k + 1) a0) := by
 intro a0 k
 obtain ⟨ih0, ih1⟩ := laws_FnStorePut.mono_l k
 unfold laws_FnStorePut.f
 repeat' first
   | (with_reducible exact ih0 _ _ _ _ _ _)
   | (with_reducible exact ih1 _ _ _ _ _ _)
   | (with_reducible exact impl_StoreGet.mono _ _ _)
   | (with_reducible exact impl_StoreOk.mono _ _)
   | (with_reducible exact impl_StorePut.mono _ _ _ _)
   | (with_reducible exact spec_DrawStorePut.mono _ _)
   | (with_reducible exact spec_Lacking.mono _ _ _)
   | (with_reducible exact spec_SameStore.mono _ _ _)
   | (with_reducible exact spec_SameVals.mono _ _ _)
   | (with_reducible exact spec_StorePut.mono _ _ _ _)
   | (with_reducible exact LeO.refl _)
   | (with_reducible exact LeO.none _)
   | (with_reducible refine LeO.ite ?_ ?_)
   | (with_reducible refine LeO.bind ?_ (fun _ => ?_))
   | exact ih0 _ _ _ _ _ _
   | exact ih1 _ _ _ _ _ _
   | exact impl_StoreGet.mono _ _ _
   | exact impl_StoreOk.mono _ _
   | exact impl_StorePut.mono _ _ _ _
   | exact spec_DrawStorePut.mono _ _
   | exact spec_Lacking.mono _ _ _
   | exact spec_SameStore.mono _ _ _
   | exact spec_SameVals.mono _ _ _
   | exact spec_StorePut.mono _ _ _ _
   | exact LeO.none _
   | refine LeO.ite ?_ ?_
   | refine LeO.bind ?_ (fun _ => ?_)
set_option maxHeartbeats 8000000 in
set_option maxRecDepth 100000 in
theorem laws_FnStorePut.calls (k : Nat) (A0 : Option Addr) (c0 : Nat) (l0 : List Int) (r : Bool) (w : World) (hr0 : Kd.C (Kd.int .u8) w A0 l0.length l0) (hc0 : l0.length ≤ c0) (h : laws_FnStorePut.f k l0 = some r) :
  Calls Try.prog 8 #[.slice A0 l0.length c0] w fun e w' => e = .returned (.bool r) ∧ Below w.heap.size w w' := by
 have HR0 := A_ hr0
 have HC0 := A_ hc0
 clear hr0 hc0
 have HB := A_ (Below.refl w.heap.size w)
 have H : (if (l0.length : Int) > 1048576 then (some true) else ((spec_DrawStorePut.f k l0).bind fun bt498 => ((impl_StorePut.f k bt498.1 bt498.2.1 bt498.2.2).bind fun bt507 => ((spec_StorePut.f k bt498.1 bt498.2.1 bt498.2.2).bind fun bt511 => ((spec_SameStore.f k bt507.1 bt511.1).bind fun t515 => (if t515 = true then (laws_FnStorePut.j0 k bt498.1 bt498.2.1 bt498.2.2 bt507.1 bt507.2 (bt507.2 == bt511.2)) else (laws_FnStorePut.j0 k bt498.1 bt498.2.1 bt498.2.2 bt507.1 bt507.2 false))))))) = some r := h
 clear h
 by_cases c2 : (l0.length : Int) > 1048576
 ·rw [if_pos c2] at H
  have c2b0 : decide (1048576 < (l0.length : Int)) = true := decide_eq_true c2
  have c2b1 : decide (1048576 < l0.length) = true := decide_eq_true (by omega)
  clear c2
  obtain rfl := Option.some.inj H
  go_enter Try.func8, Try.ntmps8
  go_wp2
  go_ret
  exact ⟨Z16, Z1⟩
 ·rw [if_neg c2] at H
  have c2b0 : decide (1048576 < (l0.length : Int)) = false := decide_eq_false c2
  have c2b1 : decide (1048576 < l0.length) = false := decide_eq_false (by omega)
  clear c2
  replace H := Option.bind_eq_some_iff.mp H
  obtain ⟨⟨t498, t501, t504⟩, A30, H⟩ := H
  replace H : ((impl_StorePut.f k t498 t501 t504).bind fun bt507 => ((spec_StorePut.f k t498 t501 t504).bind fun bt511 => ((spec_SameStore.f k bt507.1 bt511.1).bind fun t515 => (if t515 = true then (laws_FnStorePut.j0 k t498 t501 t504 bt507.1 bt507.2 (bt507.2 == bt511.2)) else (laws_FnStorePut.j0 k t498 t501 t504 bt507.1 bt507.2 false))))) = some r := H
  have A3 := A_ A30
  clear A30
  replace H := Option.bind_eq_some_iff.mp H
  obtain ⟨⟨t507, t508⟩, A40, H⟩ := H
  replace H : ((spec_StorePut.f k t498 t501 t504).bind fun bt511 => ((spec_SameStore.f k t507 bt511.1).bind fun t515 => (if t515 = true then (laws_FnStorePut.j0 k t498 t501 t504 t507 t508 (t508 == bt511.2)) else (laws_FnStorePut.j0 k t498 t501 t504 t507 t508 false)))) = some r := H
  have A4 := A_ A40
  clear A40
  replace H := Option.bind_eq_some_iff.mp H
  obtain ⟨⟨t511, t514⟩, A50, H⟩ := H
  replace H : ((spec_SameStore.f k t507 t511).bind fun t515 => (if t515 = true then (laws_FnStorePut.j0 k t498 t501 t504 t507 t508 (t508 == t514)) else (laws_FnStorePut.j0 k t498 t501 t504 t507 t508 false))) = some r := H
  have A5 := A_ A50
  clear A50
  have HC6 := A_ H
  clear H
  go_enter Try.func8, Try.ntmps8
  go_upto_region 6 with (first | ((with_reducible refine gate_callee (f := 29) rfl ?_); refine goesL_ (some 18) rfl rfl Try.func29 (by kernel_rfl) rfl #[.slice A0 l0.length c0] rfl Z3 ?_; (with_reducible refine (spec_DrawStorePut.calls k _ _ l0 t498 t501 t504 _ ?side1 ?side2 A3.out).mono ?_); (case side1 => exact Z19 HR0.out); (case side2 => exact HC0.out); rintro e w7 ⟨v499, v502, v505, rfl, ho0, ho1, ho2, hb⟩; refine ⟨_, rfl, ?_⟩; have n0_ := A_ (Kd.N_lower (Kd.N_mono (ok' := fun k_ => some k_ ≠ (v502 : Value).ownBlock ∧ some k_ ≠ (v505 : Value).ownBlock) ho0 (fun k_ hk_ => ⟨hk_.2.1, hk_.2.2⟩)) (below_size Z1)); have n1_ := A_ (Kd.R_lower (Kd.R_mono (ok' := fun k_ => True) ho1 (fun _ hk_ => trivial)) (below_size Z1)); have n2_ := A_ (Kd.R_lower (Kd.R_mono (ok' := fun k_ => True) ho2 (fun _ hk_ => trivial)) (below_size Z1)); have n3_ := A_ (below_step Z1 hb); clear HB; have HO500 := n0_; have HO503 := n1_; have HO506 := n2_; have HB := n3_; clear n0_ n1_ n2_ n3_; (try clear hb); (try clear hb2); (try clear hk); (try clear hi); (try clear ho0); (try clear ho1); (try clear ho2); obtain ⟨Ao8, co8, eo8⟩ := Kd.N_slice HO500.out; subst eo8; obtain ⟨Ao9, co9, eo9⟩ := Kd.R_slice HO503.out; subst eo9; obtain ⟨Ao10, co10, eo10⟩ := Kd.R_slice HO506.out; subst eo10) | ((with_reducible refine gate_callee (f := 28) rfl ?_); refine goesL_ (some 26) rfl rfl Try.func28 (by kernel_rfl) rfl #[.slice Ao8 t498.length co8, .slice Ao9 t501.length co9, .slice Ao10 t504.length co10] rfl Z3 ?_; (with_reducible refine (impl_StorePut.calls k _ _ t498 _ _ t501 _ _ t504 t507 t508 _ ?side1 ?side2 ?side3 ?side4 ?side5 ?side6 A4.out).mono ?_); (case side1 => exact Z25 HO500.out); (case side2 => exact (Kd.N_reads' HO500.out).2.1); (case side3 => exact Z24 HO503.out); (case side4 => exact (Kd.R_reads' HO503.out).2.1); (case side5 => exact Z24 HO506.out); (case side6 => exact (Kd.R_reads' HO506.out).2.1); rintro e w11 ⟨v509, rfl, ho0, hb⟩; refine ⟨_, rfl, ?_⟩; have n0_ := A_ (Kd.N_elder' (Z18 HO500.out) Z49 hb); have n1_ := A_ (Kd.R_below (Z13 HO503.out) hb); have n2_ := A_ (Kd.R_below (Z13 HO506.out) hb); have n3_ := A_ (Kd.N_lower (Kd.N_mono (ok' := fun k_ => some k_ ≠ (.slice Ao8 t498.length co8 : Value).ownBlock ∧ some k_ ≠ (.slice Ao9 t501.length co9 : Value).ownBlock ∧ some k_ ≠ (.slice Ao10 t504.length co10 : Value).ownBlock) (Kd.S_N (Kd.S_bound ho0)) (fun k_ hk_ => ⟨(Kd.fresh' (Kd.N_lt (Z18 HO500.out)) k_ hk_.2.1), (Kd.fresh' (Kd.R_lt (Z13 HO503.out)) k_ hk_.2.1), (Kd.fresh' (Kd.R_lt (Z13 HO506.out)) k_ hk_.2.1)⟩)) (below_size Z1)); have n4_ := A_ (below_step Z1 hb); clear HO500; clear HO503; clear HO506; clear HB; have HO500 := n0_; have HO503 := n1_; have HO506 := n2_; have HO510 := n3_; have HB := n4_; clear n0_ n1_ n2_ n3_ n4_; (try clear hb); (try clear hb2); (try clear hk); (try clear hi); (try clear ho0)) | ((with_reducible refine gate_callee (f := 30) rfl ?_); refine goesL_ (some 33) rfl rfl Try.func30 (by kernel_rfl) rfl #[.slice Ao8 t498.length co8, .slice Ao9 t501.length co9, .slice Ao10 t504.length co10] rfl Z3 ?_; (with_reducible refine (spec_StorePut.calls k _ _ t498 _ _ t501 _ _ t504 t511 t514 _ ?side1 ?side2 ?side3 ?side4 ?side5 ?side6 A5.out).mono ?_); (case side1 => exact Z25 HO500.out); (case side2 => exact (Kd.N_reads' HO500.out).2.1); (case side3 => exact Z24 HO503.out); (case side4 => exact (Kd.R_reads' HO503.out).2.1); (case side5 => exact Z24 HO506.out); (case side6 => exact (Kd.R_reads' HO506.out).2.1); rintro e w12 ⟨v512, rfl, ho0, hb⟩; refine ⟨_, rfl, ?_⟩; have n0_ := A_ (Kd.N_elder' (Z18 HO500.out) Z49 hb); have n1_ := A_ (Kd.R_below (Z13 HO503.out) hb); have n2_ := A_ (Kd.R_below (Z13 HO506.out) hb); have n3_ := A_ (Kd.N_elder' (Z18 HO510.out) Z49 hb); have n4_ := A_ (Kd.N_lower (Kd.N_mono (ok' := fun k_ => some k_ ≠ (.slice Ao8 t498.length co8 : Value).ownBlock ∧ some k_ ≠ (.slice Ao9 t501.length co9 : Value).ownBlock ∧ some k_ ≠ (.slice Ao10 t504.length co10 : Value).ownBlock ∧ some k_ ≠ (v509 : Value).ownBlock) ho0 (fun k_ hk_ => ⟨(Kd.fresh' (Kd.N_lt (Z18 HO500.out)) k_ hk_), (Kd.fresh' (Kd.R_lt (Z13 HO503.out)) k_ hk_), (Kd.fresh' (Kd.R_lt (Z13 HO506.out)) k_ hk_), (Kd.fresh' (Kd.N_lt (Z18 HO510.out)) k_ hk_)⟩)) (below_size Z1)); have n5_ := A_ (below_step Z1 hb); clear HO500; clear HO503; clear HO506; clear HO510; clear HB; have HO500 := n0_; have HO503 := n1_; have HO506 := n2_; have HO510 := n3_; have HO513 := n4_; have HB := n5_; clear n0_ n1_ n2_ n3_ n4_ n5_; (try clear hb); (try clear hb2); (try clear hk); (try clear hi); (try clear ho0)))
  (try simp only [Act.put, List.setIfInBounds_toArray, List.set_cons_zero, List.set_cons_succ])
  go_cut [10] (fun v10 wc => ∃ (kq : Nat) (x10_5 : Bool), v10 = .bool x10_5 ∧ Aside0 (laws_FnStorePut.j0 kq t498 t501 t504 t507 t508 x10_5 = some r) ∧ Aside0 (kq ≤ k) ∧ Aside0 (Kd.N k41 41 wc w.heap.size (fun k_ => some k_ ≠ ((.slice Ao9 t501.length co9) : Value).ownBlock ∧ some k_ ≠ ((.slice Ao10 t504.length co10) : Value).ownBlock ∧ some k_ ≠ (v509 : Value).ownBlock) (.slice Ao8 t498.length co8) t498) ∧ Aside0 (Kd.R k68 68 wc w.heap.size (fun _ => True) (.slice Ao9 t501.length co9) t501) ∧ Aside0 (Kd.R k28 28 wc w.heap.size (fun _ => True) (.slice Ao10 t504.length co10) t504) ∧ Aside0 (Kd.N k41 41 wc w.heap.size (fun k_ => some k_ ≠ ((.slice Ao8 t498.length co8) : Value).ownBlock ∧ some k_ ≠ ((.slice Ao9 t501.length co9) : Value).ownBlock ∧ some k_ ≠ ((.slice Ao10 t504.length co10) : Value).ownBlock) v509 t507) ∧ Aside0 (Below w.heap.size w wc))
  case first =>
   have H := HC6.out
   clear HC6
   replace H := Option.bind_eq_some_iff.mp H
   obtain ⟨t515, A130, H⟩ := H
   replace H : (if t515 = true then (laws_FnStorePut.j0 k t498 t501 t504 t507 t508 (t508 == t514)) else (laws_FnStorePut.j0 k t498 t501 t504 t507 t508 false)) = some r := H
   have A13 := A_ A130
   clear A130
   by_cases c14 : t515 = true
   ·subst c14
    have H1 : (laws_FnStorePut.j0 k t498 t501 t504 t507 t508 (t508 == t514)) = some r := by rw [if_pos rfl] at H; exact H
    clear H
    have H := H1
    clear H1
    have H' := A_ H
    clear H
    obtain ⟨Ao15, co15, eo15⟩ := Kd.N_slice HO510.out
    subst eo15
    obtain ⟨Ao16, co16, eo16⟩ := Kd.N_slice HO513.out
    subst eo16
    go_wp2_with (first | ((with_reducible refine gate_callee (f := 23) rfl ?_); refine goesL_ (some 38) rfl rfl Try.func23 (by kernel_rfl) rfl #[.slice Ao15 t507.length co15, .slice Ao16 t511.length co16] rfl Z3 ?_; (with_reducible refine (spec_SameStore.calls k _ _ t507 _ _ t511 true _ ?side1 ?side2 ?side3 ?side4 A13.out).mono ?_); (case side1 => exact Z25 HO510.out); (case side2 => exact (Kd.N_reads' HO510.out).2.1); (case side3 => exact Z25 HO513.out); (case side4 => exact (Kd.N_reads' HO513.out).2.1); rintro e w' ⟨rfl, ⟨nd, rfl⟩⟩; refine ⟨_, rfl, ?_⟩))
    go_meet
    case rel => exact ⟨_, ((t508 == t514)), Z21, H', ⟨Z50⟩, ⟨by (with_reducible repeat (first | apply Kd.N_alloc | apply Kd.N_drewN | apply Kd.N_drew)); exact Kd.N_mono HO500.out (fun _ hk => ⟨hk.1.1.1, ⟨hk.1.1.2, hk.1.2⟩⟩)⟩, ⟨Z13 HO503.out⟩, ⟨Z13 HO506.out⟩, ⟨by (with_reducible repeat (first | apply Kd.N_alloc | apply Kd.N_drewN | apply Kd.N_drew)); exact Kd.N_mono HO510.out (fun _ hk => ⟨hk.1.1, ⟨hk.1.2.1, hk.1.2.2⟩⟩)⟩, ⟨Z1⟩⟩
   ·replace c14 := Bool.eq_false_iff.mpr c14
    subst c14
    have H1 : (laws_FnStorePut.j0 k t498 t501 t504 t507 t508 false) = some r := by rw [if_neg (show ¬ (false = true) by decide)] at H; exact H
    clear H
    have H := H1
    clear H1
    have H' := A_ H
    clear H
    obtain ⟨Ao17, co17, eo17⟩ := Kd.N_slice HO510.out
    subst eo17
    obtain ⟨Ao18, co18, eo18⟩ := Kd.N_slice HO513.out
    subst eo18
    go_wp2_with (first | ((with_reducible refine gate_callee (f := 23) rfl ?_); refine goesL_ (some 38) rfl rfl Try.func23 (by kernel_rfl) rfl #[.slice Ao17 t507.length co17, .slice Ao18 t511.length co18] rfl Z3 ?_; (with_reducible refine (spec_SameStore.calls k _ _ t507 _ _ t511 false _ ?side1 ?side2 ?side3 ?side4 A13.out).mono ?_); (case side1 => exact Z25 HO510.out); (case side2 => exact (Kd.N_reads' HO510.out).2.1); (case side3 => exact Z25 HO513.out); (case side4 => exact (Kd.N_reads' HO513.out).2.1); rintro e w' ⟨rfl, ⟨nd, rfl⟩⟩; refine ⟨_, rfl, ?_⟩))
    go_meet
    case rel => exact ⟨_, (false), Z21, H', ⟨Z50⟩, ⟨by (with_reducible repeat (first | apply Kd.N_alloc | apply Kd.N_drewN | apply Kd.N_drew)); exact Kd.N_mono HO500.out (fun _ hk => ⟨hk.1.1.1, ⟨hk.1.1.2, hk.1.2⟩⟩)⟩, ⟨Z13 HO503.out⟩, ⟨Z13 HO506.out⟩, ⟨by (with_reducible repeat (first | apply Kd.N_alloc | apply Kd.N_drewN | apply Kd.N_drew)); exact Kd.N_mono HO510.out (fun _ hk => ⟨hk.1.1, ⟨hk.1.2.1, hk.1.2.2⟩⟩)⟩, ⟨Z1⟩⟩
  case rest =>
   clear HC6
   try clear c1
   try clear c2
   try clear c2b0
   try clear c2b1
   try clear p2
   try clear c3
   try clear c8
   try clear c14
   obtain ⟨kq, x10_5, rfl, HA, HJ5, HO_3, HO_4, HO_5, HO_6, HB⟩ := hcut
   cases kq with
   | zero => exact absurd HA.out (by simp [laws_FnStorePut.j0])
   | succ kj5 =>
    have H := HA.out
    clear HA
    simp only [laws_FnStorePut.j0] at H
    have HC19 := A_ H
    clear H
    go_upto_region 7 with (fail)
    go_cut [49] (fun v49 wc => ∃ (kq : Nat) (x49_18 : Bool), v49 = .bool x49_18 ∧ Aside0 (laws_FnStorePut.j1 kq t498 t501 t504 t507 x10_5 x49_18 = some r) ∧ Aside0 (kq ≤ kj5) ∧ Aside0 (Kd.N k41 41 wc w.heap.size (fun k_ => some k_ ≠ ((.slice Ao9 t501.length co9) : Value).ownBlock ∧ some k_ ≠ ((.slice Ao10 t504.length co10) : Value).ownBlock ∧ some k_ ≠ (v509 : Value).ownBlock) (.slice Ao8 t498.length co8) t498) ∧ Aside0 (Kd.R k68 68 wc w.heap.size (fun _ => True) (.slice Ao9 t501.length co9) t501) ∧ Aside0 (Kd.R k28 28 wc w.heap.size (fun _ => True) (.slice Ao10 t504.length co10) t504) ∧ Aside0 (Kd.N k41 41 wc w.heap.size (fun k_ => some k_ ≠ ((.slice Ao8 t498.length co8) : Value).ownBlock ∧ some k_ ≠ ((.slice Ao9 t501.length co9) : Value).ownBlock ∧ some k_ ≠ ((.slice Ao10 t504.length co10) : Value).ownBlock) v509 t507) ∧ Aside0 (Below w.heap.size w wc))
    case first =>
     have H := HC19.out
     clear HC19
     by_cases c20 : x10_5 = true
     ·subst c20
      have H1 : (laws_FnStorePut.j1 kj5 t498 t501 t504 t507 true (!t508)) = some r := by rw [if_pos rfl] at H; exact H
      clear H
      have H := H1
      clear H1
      have H' := A_ H
      clear H
      go_wp2
      go_meet
      case rel => exact ⟨_, (!t508), Z21, H', ⟨by have := HJ5.out; first | omega | exact Nat.le_refl _⟩, ⟨Z18 HO_3.out⟩, ⟨Z13 HO_4.out⟩, ⟨Z13 HO_5.out⟩, ⟨Z18 HO_6.out⟩, ⟨Z1⟩⟩
     ·replace c20 := Bool.eq_false_iff.mpr c20
      subst c20
      have H1 : (laws_FnStorePut.j1 kj5 t498 t501 t504 t507 false true) = some r := by rw [if_neg (show ¬ (false = true) by decide)] at H; exact H
      clear H
      have H := H1
      clear H1
      have H' := A_ H
      clear H
      go_wp2
      go_meet
      case rel => exact ⟨_, (true), Z21, H', ⟨by have := HJ5.out; first | omega | exact Nat.le_refl _⟩, ⟨Z18 HO_3.out⟩, ⟨Z13 HO_4.out⟩, ⟨Z13 HO_5.out⟩, ⟨Z18 HO_6.out⟩, ⟨Z1⟩⟩
    case rest =>
     clear HC19
     try clear c1
     try clear c2
     try clear c2b0
     try clear c2b1
     try clear p2
     try clear c3
     try clear c8
     try clear c14
     try clear c20
     try clear p2
     obtain ⟨kq, x49_18, rfl, HA, HJ18, HO_3, HO_4, HO_5, HO_6, HB⟩ := hcut
     cases kq with
     | zero => exact absurd HA.out (by simp [laws_FnStorePut.j1])
     | succ kj18 =>
      have H := HA.out
      clear HA
      simp only [laws_FnStorePut.j1] at H
      by_cases c21 : x49_18 = true
      ·subst c21
       have H1 : (some x10_5) = some r := by rw [if_pos rfl] at H; exact H
       clear H
       have H := H1
       clear H1
       obtain rfl := Option.some.inj H
       go_wp2
       go_ret
       exact ⟨Z16, Z1⟩
      ·replace c21 := Bool.eq_false_iff.mpr c21
       subst c21
       have H1 : ((impl_StoreGet.f kj18 t507 t501).bind fun bt516 => ((impl_StoreOk.f kj18 t507).bind fun t520 => (if t520 = true then (if bt516.2 = true then ((spec_SameVals.f kj18 bt516.1 t504).bind fun t521 => (if t521 = true then ((spec_Lacking.f kj18 t507 t501).bind fun t522 => ((spec_Lacking.f kj18 t498 t501).bind fun t525 => ((spec_SameStore.f kj18 t522 t525).bind fun t528 => (some t528)))) else (some false))) else (some false)) else (some false)))) = some r := by rw [if_neg (show ¬ (false = true) by decide)] at H; exact H
       clear H
       have H := H1
       clear H1
       replace H := Option.bind_eq_some_iff.mp H
       obtain ⟨⟨t516, t517⟩, A220, H⟩ := H
       replace H : ((impl_StoreOk.f kj18 t507).bind fun t520 => (if t520 = true then (if t517 = true then ((spec_SameVals.f kj18 t516 t504).bind fun t521 => (if t521 = true then ((spec_Lacking.f kj18 t507 t501).bind fun t522 => ((spec_Lacking.f kj18 t498 t501).bind fun t525 => ((spec_SameStore.f kj18 t522 t525).bind fun t528 => (some t528)))) else (some false))) else (some false)) else (some false))) = some r := H
       have A22 := A_ A220
       clear A220
       replace H := Option.bind_eq_some_iff.mp H
       obtain ⟨t520, A230, H⟩ := H
       replace H : (if t520 = true then (if t517 = true then ((spec_SameVals.f kj18 t516 t504).bind fun t521 => (if t521 = true then ((spec_Lacking.f kj18 t507 t501).bind fun t522 => ((spec_Lacking.f kj18 t498 t501).bind fun t525 => ((spec_SameStore.f kj18 t522 t525).bind fun t528 => (some t528)))) else (some false))) else (some false)) else (some false)) = some r := H
       have A23 := A_ A230
       clear A230
       by_cases c24 : t520 = true
       ·subst c24
        have H1 : (if t517 = true then ((spec_SameVals.f kj18 t516 t504).bind fun t521 => (if t521 = true then ((spec_Lacking.f kj18 t507 t501).bind fun t522 => ((spec_Lacking.f kj18 t498 t501).bind fun t525 => ((spec_SameStore.f kj18 t522 t525).bind fun t528 => (some t528)))) else (some false))) else (some false)) = some r := by rw [if_pos rfl] at H; exact H
        clear H
        have H := H1
        clear H1
        by_cases c25 : t517 = true
        ·subst c25
         have H1 : ((spec_SameVals.f kj18 t516 t504).bind fun t521 => (if t521 = true then ((spec_Lacking.f kj18 t507 t501).bind fun t522 => ((spec_Lacking.f kj18 t498 t501).bind fun t525 => ((spec_SameStore.f kj18 t522 t525).bind fun t528 => (some t528)))) else (some false))) = some r := by rw [if_pos rfl] at H; exact H
         clear H
         have H := H1
         clear H1
         replace H := Option.bind_eq_some_iff.mp H
         obtain ⟨t521, A260, H⟩ := H
         replace H : (if t521 = true then ((spec_Lacking.f kj18 t507 t501).bind fun t522 => ((spec_Lacking.f kj18 t498 t501).bind fun t525 => ((spec_SameStore.f kj18 t522 t525).bind fun t528 => (some t528)))) else (some false)) = some r := H
         have A26 := A_ A260
         clear A260
         by_cases c27 : t521 = true
         ·subst c27
          have H1 : ((spec_Lacking.f kj18 t507 t501).bind fun t522 => ((spec_Lacking.f kj18 t498 t501).bind fun t525 => ((spec_SameStore.f kj18 t522 t525).bind fun t528 => (some t528)))) = some r := by rw [if_pos rfl] at H; exact H
          clear H
          have H := H1
          clear H1
          replace H := Option.bind_eq_some_iff.mp H
          obtain ⟨t522, A280, H⟩ := H
          replace H : ((spec_Lacking.f kj18 t498 t501).bind fun t525 => ((spec_SameStore.f kj18 t522 t525).bind fun t528 => (some t528))) = some r := H
          have A28 := A_ A280
          clear A280
          replace H := Option.bind_eq_some_iff.mp H
          obtain ⟨t525, A290, H⟩ := H
          replace H : ((spec_SameStore.f kj18 t522 t525).bind fun t528 => (some t528)) = some r := H
          have A29 := A_ A290
          clear A290
          replace H := Option.bind_eq_some_iff.mp H
          obtain ⟨t528, A300, H⟩ := H
          replace H : (some t528) = some r := H
          have A30 := A_ A300
          clear A300
          obtain rfl := Option.some.inj H
          obtain ⟨Ao31, co31, eo31⟩ := Kd.N_slice HO_6.out
          subst eo31
          go_wp2_with (first | ((with_reducible refine gate_callee (f := 18) rfl ?_); refine goesL_ (some 54) rfl rfl Try.func18 (by kernel_rfl) rfl #[.slice Ao31 t507.length co31, .slice Ao9 t501.length co9] rfl Z3 ?_; (with_reducible refine (impl_StoreGet.calls kj18 _ _ t507 _ _ t501 t516 true _ ?side1 ?side2 ?side3 ?side4 A22.out).mono ?_); (case side1 => exact Z25 HO_6.out); (case side2 => exact (Kd.N_reads' HO_6.out).2.1); (case side3 => exact Z24 HO_4.out); (case side4 => exact (Kd.R_reads' HO_4.out).2.1); rintro e w32 ⟨v518, rfl, ho0, hb⟩; refine ⟨_, rfl, ?_⟩; have n0_ := A_ (Kd.N_elder' (Z18 HO_3.out) (Kd.R_base ho0) hb); have n1_ := A_ (Kd.R_below (Z13 HO_4.out) hb); have n2_ := A_ (Kd.R_elder' (Z13 HO_5.out) (Kd.R_base ho0) hb); have n3_ := A_ (Kd.N_elder' (Z18 HO_6.out) (Kd.R_base ho0) hb); have n4_ := A_ (Kd.R_lower (Kd.R_new' ho0 (Kd.R_lt (Z13 HO_5.out))) (below_size Z1)); have n5_ := A_ (below_step Z1 hb); clear HO_3; clear HO_4; clear HO_5; clear HO_6; clear HB; have HO_3 := n0_; have HO_4 := n1_; have HO_5 := n2_; have HO_6 := n3_; have HO519 := n4_; have HB := n5_; clear n0_ n1_ n2_ n3_ n4_ n5_; (try clear hb); (try clear hb2); (try clear hk); (try clear hi); (try clear ho0)) | ((with_reducible refine gate_callee (f := 16) rfl ?_); refine goesL_ (some 58) rfl rfl Try.func16 (by kernel_rfl) rfl #[.slice Ao31 t507.length co31] rfl Z3 ?_; (with_reducible refine (impl_StoreOk.calls kj18 _ _ t507 true _ ?side1 ?side2 A23.out).mono ?_); (case side1 => exact Z25 HO_6.out); (case side2 => exact (Kd.N_reads' HO_6.out).2.1); rintro e w33 ⟨rfl, hb⟩; refine ⟨_, rfl, ?_⟩; have n0_ := A_ (Kd.N_below (Z18 HO_3.out) hb); have n1_ := A_ (Kd.R_below (Z13 HO_4.out) hb); have n2_ := A_ (Kd.R_below (Z13 HO_5.out) hb); have n3_ := A_ (Kd.N_below (Z18 HO_6.out) hb); have n4_ := A_ (Kd.R_below (Z13 HO519.out) hb); have n5_ := A_ (below_step Z1 hb); clear HO_3; clear HO_4; clear HO_5; clear HO_6; clear HO519; clear HB; have HO_3 := n0_; have HO_4 := n1_; have HO_5 := n2_; have HO_6 := n3_; have HO519 := n4_; have HB := n5_; clear n0_ n1_ n2_ n3_ n4_ n5_; (try clear hb); (try clear hb2); (try clear hk); (try clear hi); obtain ⟨Ao34, co34, eo34⟩ := Kd.R_slice HO519.out; subst eo34) | (go_at_call 19; (with_reducible refine (spec_SameVals.calls kj18 _ _ t516 _ _ t504 true _ ?side1 ?side2 ?side3 ?side4 A26.out).mono ?_); (case side1 => exact Z24 HO519.out); (case side2 => exact (Kd.R_reads' HO519.out).2.1); (case side3 => exact Z24 HO_5.out); (case side4 => exact (Kd.R_reads' HO_5.out).2.1); rintro e w' ⟨rfl, ⟨nd, rfl⟩⟩) | (go_at_call 31; (with_reducible refine (spec_Lacking.calls kj18 _ _ t507 _ _ t501 t522 _ ?side1 ?side2 ?side3 ?side4 A28.out).mono ?_); (case side1 => exact Z25 HO_6.out); (case side2 => exact (Kd.N_reads' HO_6.out).2.1); (case side3 => exact Z24 HO_4.out); (case side4 => exact (Kd.R_reads' HO_4.out).2.1); rintro e w35 ⟨v523, rfl, ho0, hb⟩; have n0_ := A_ (Kd.N_elder' (Z18 HO_3.out) Z49 hb); have n1_ := A_ (Kd.R_below (Z13 HO_4.out) hb); have n2_ := A_ (Kd.R_below (Z13 HO_5.out) hb); have n3_ := A_ (Kd.N_elder' (Z18 HO_6.out) Z49 hb); have n4_ := A_ (Kd.R_below (Z13 HO519.out) hb); have n5_ := A_ (Kd.N_lower (Kd.N_mono (ok' := fun k_ => some k_ ≠ (.slice Ao8 t498.length co8 : Value).ownBlock ∧ some k_ ≠ (.slice Ao9 t501.length co9 : Value).ownBlock ∧ some k_ ≠ (.slice Ao10 t504.length co10 : Value).ownBlock ∧ some k_ ≠ (.slice Ao31 t507.length co31 : Value).ownBlock ∧ some k_ ≠ (.slice Ao34 t516.length co34 : Value).ownBlock) (Kd.S_N (Kd.S_bound ho0)) (fun k_ hk_ => ⟨(Kd.fresh' (Kd.N_lt (Z18 HO_3.out)) k_ hk_.2.1), (Kd.fresh' (Kd.R_lt (Z13 HO_4.out)) k_ hk_.2.1), (Kd.fresh' (Kd.R_lt (Z13 HO_5.out)) k_ hk_.2.1), (Kd.fresh' (Kd.N_lt (Z18 HO_6.out)) k_ hk_.2.1), (Kd.fresh' (Kd.R_lt (Z13 HO519.out)) k_ hk_.2.1)⟩)) (below_size Z1)); have n6_ := A_ (below_step Z1 hb); clear HO_3; clear HO_4; clear HO_5; clear HO_6; clear HO519; clear HB; have HO_3 := n0_; have HO_4 := n1_; have HO_5 := n2_; have HO_6 := n3_; have HO519 := n4_; have HO524 := n5_; have HB := n6_; clear n0_ n1_ n2_ n3_ n4_ n5_ n6_; (try clear hb); (try clear hb2); (try clear hk); (try clear hi); (try clear ho0)) | (go_at_call 31; (with_reducible refine (spec_Lacking.calls kj18 _ _ t498 _ _ t501 t525 _ ?side1 ?side2 ?side3 ?side4 A29.out).mono ?_); (case side1 => exact Z25 HO_3.out); (case side2 => exact (Kd.N_reads' HO_3.out).2.1); (case side3 => exact Z24 HO_4.out); (case side4 => exact (Kd.R_reads' HO_4.out).2.1); rintro e w36 ⟨v526, rfl, ho0, hb⟩; have n0_ := A_ (Kd.N_elder' (Z18 HO_3.out) Z49 hb); have n1_ := A_ (Kd.R_below (Z13 HO_4.out) hb); have n2_ := A_ (Kd.R_below (Z13 HO_5.out) hb); have n3_ := A_ (Kd.N_elder' (Z18 HO_6.out) Z49 hb); have n4_ := A_ (Kd.R_below (Z13 HO519.out) hb); have n5_ := A_ (Kd.N_elder' (Z18 HO524.out) Z49 hb); have n6_ := A_ (Kd.N_lower (Kd.N_mono (ok' := fun k_ => some k_ ≠ (.slice Ao8 t498.length co8 : Value).ownBlock ∧ some k_ ≠ (.slice Ao9 t501.length co9 : Value).ownBlock ∧ some k_ ≠ (.slice Ao10 t504.length co10 : Value).ownBlock ∧ some k_ ≠ (.slice Ao31 t507.length co31 : Value).ownBlock ∧ some k_ ≠ (.slice Ao34 t516.length co34 : Value).ownBlock ∧ some k_ ≠ (v523 : Value).ownBlock) (Kd.S_N (Kd.S_bound ho0)) (fun k_ hk_ => ⟨(Kd.fresh' (Kd.N_lt (Z18 HO_3.out)) k_ hk_.2.1), (Kd.fresh' (Kd.R_lt (Z13 HO_4.out)) k_ hk_.2.1), (Kd.fresh' (Kd.R_lt (Z13 HO_5.out)) k_ hk_.2.1), (Kd.fresh' (Kd.N_lt (Z18 HO_6.out)) k_ hk_.2.1), (Kd.fresh' (Kd.R_lt (Z13 HO519.out)) k_ hk_.2.1), (Kd.fresh' (Kd.N_lt (Z18 HO524.out)) k_ hk_.2.1)⟩)) (below_size Z1)); have n7_ := A_ (below_step Z1 hb); clear HO_3; clear HO_4; clear HO_5; clear HO_6; clear HO519; clear HO524; clear HB; have HO_3 := n0_; have HO_4 := n1_; have HO_5 := n2_; have HO_6 := n3_; have HO519 := n4_; have HO524 := n5_; have HO527 := n6_; have HB := n7_; clear n0_ n1_ n2_ n3_ n4_ n5_ n6_ n7_; (try clear hb); (try clear hb2); (try clear hk); (try clear hi); (try clear ho0); obtain ⟨Ao37, co37, eo37⟩ := Kd.N_slice HO524.out; subst eo37; obtain ⟨Ao38, co38, eo38⟩ := Kd.N_slice HO527.out; subst eo38) | (go_at_call 23; (with_reducible refine (spec_SameStore.calls kj18 _ _ t522 _ _ t525 t528 _ ?side1 ?side2 ?side3 ?side4 A30.out).mono ?_); (case side1 => exact Z25 HO524.out); (case side2 => exact (Kd.N_reads' HO524.out).2.1); (case side3 => exact Z25 HO527.out); (case side4 => exact (Kd.N_reads' HO527.out).2.1); rintro e w' ⟨rfl, ⟨nd, rfl⟩⟩))
          go_ret
          exact ⟨Z16, Z1⟩
         ·replace c27 := Bool.eq_false_iff.mpr c27
          subst c27
          have H1 : (some false) = some r := by rw [if_neg (show ¬ (false = true) by decide)] at H; exact H
          clear H
          have H := H1
          clear H1
          obtain rfl := Option.some.inj H
          obtain ⟨Ao39, co39, eo39⟩ := Kd.N_slice HO_6.out
          subst eo39
          go_wp2_with (first | ((with_reducible refine gate_callee (f := 18) rfl ?_); refine goesL_ (some 54) rfl rfl Try.func18 (by kernel_rfl) rfl #[.slice Ao39 t507.length co39, .slice Ao9 t501.length co9] rfl Z3 ?_; (with_reducible refine (impl_StoreGet.calls kj18 _ _ t507 _ _ t501 t516 true _ ?side1 ?side2 ?side3 ?side4 A22.out).mono ?_); (case side1 => exact Z25 HO_6.out); (case side2 => exact (Kd.N_reads' HO_6.out).2.1); (case side3 => exact Z24 HO_4.out); (case side4 => exact (Kd.R_reads' HO_4.out).2.1); rintro e w40 ⟨v518, rfl, ho0, hb⟩; refine ⟨_, rfl, ?_⟩; have n0_ := A_ (Kd.N_elder' (Z18 HO_3.out) (Kd.R_base ho0) hb); have n1_ := A_ (Kd.R_below (Z13 HO_4.out) hb); have n2_ := A_ (Kd.R_elder' (Z13 HO_5.out) (Kd.R_base ho0) hb); have n3_ := A_ (Kd.N_elder' (Z18 HO_6.out) (Kd.R_base ho0) hb); have n4_ := A_ (Kd.R_lower (Kd.R_new' ho0 (Kd.R_lt (Z13 HO_5.out))) (below_size Z1)); have n5_ := A_ (below_step Z1 hb); clear HO_3; clear HO_4; clear HO_5; clear HO_6; clear HB; have HO_3 := n0_; have HO_4 := n1_; have HO_5 := n2_; have HO_6 := n3_; have HO519 := n4_; have HB := n5_; clear n0_ n1_ n2_ n3_ n4_ n5_; (try clear hb); (try clear hb2); (try clear hk); (try clear hi); (try clear ho0)) | ((with_reducible refine gate_callee (f := 16) rfl ?_); refine goesL_ (some 58) rfl rfl Try.func16 (by kernel_rfl) rfl #[.slice Ao39 t507.length co39] rfl Z3 ?_; (with_reducible refine (impl_StoreOk.calls kj18 _ _ t507 true _ ?side1 ?side2 A23.out).mono ?_); (case side1 => exact Z25 HO_6.out); (case side2 => exact (Kd.N_reads' HO_6.out).2.1); rintro e w41 ⟨rfl, hb⟩; refine ⟨_, rfl, ?_⟩; have n0_ := A_ (Kd.N_below (Z18 HO_3.out) hb); have n1_ := A_ (Kd.R_below (Z13 HO_4.out) hb); have n2_ := A_ (Kd.R_below (Z13 HO_5.out) hb); have n3_ := A_ (Kd.N_below (Z18 HO_6.out) hb); have n4_ := A_ (Kd.R_below (Z13 HO519.out) hb); have n5_ := A_ (below_step Z1 hb); clear HO_3; clear HO_4; clear HO_5; clear HO_6; clear HO519; clear HB; have HO_3 := n0_; have HO_4 := n1_; have HO_5 := n2_; have HO_6 := n3_; have HO519 := n4_; have HB := n5_; clear n0_ n1_ n2_ n3_ n4_ n5_; (try clear hb); (try clear hb2); (try clear hk); (try clear hi); obtain ⟨Ao42, co42, eo42⟩ := Kd.R_slice HO519.out; subst eo42) | (go_at_call 19; (with_reducible refine (spec_SameVals.calls kj18 _ _ t516 _ _ t504 false _ ?side1 ?side2 ?side3 ?side4 A26.out).mono ?_); (case side1 => exact Z24 HO519.out); (case side2 => exact (Kd.R_reads' HO519.out).2.1); (case side3 => exact Z24 HO_5.out); (case side4 => exact (Kd.R_reads' HO_5.out).2.1); rintro e w' ⟨rfl, ⟨nd, rfl⟩⟩))
          go_ret
          exact ⟨Z16, Z1⟩
        ·replace c25 := Bool.eq_false_iff.mpr c25
         subst c25
         have H1 : (some false) = some r := by rw [if_neg (show ¬ (false = true) by decide)] at H; exact H
         clear H
         have H := H1
         clear H1
         obtain rfl := Option.some.inj H
         obtain ⟨Ao43, co43, eo43⟩ := Kd.N_slice HO_6.out
         subst eo43
         go_wp2_with (first | ((with_reducible refine gate_callee (f := 18) rfl ?_); refine goesL_ (some 54) rfl rfl Try.func18 (by kernel_rfl) rfl #[.slice Ao43 t507.length co43, .slice Ao9 t501.length co9] rfl Z3 ?_; (with_reducible refine (impl_StoreGet.calls kj18 _ _ t507 _ _ t501 t516 false _ ?side1 ?side2 ?side3 ?side4 A22.out).mono ?_); (case side1 => exact Z25 HO_6.out); (case side2 => exact (Kd.N_reads' HO_6.out).2.1); (case side3 => exact Z24 HO_4.out); (case side4 => exact (Kd.R_reads' HO_4.out).2.1); rintro e w44 ⟨v518, rfl, ho0, hb⟩; refine ⟨_, rfl, ?_⟩; have n0_ := A_ (Kd.N_elder' (Z18 HO_3.out) (Kd.R_base ho0) hb); have n1_ := A_ (Kd.R_below (Z13 HO_4.out) hb); have n2_ := A_ (Kd.R_elder' (Z13 HO_5.out) (Kd.R_base ho0) hb); have n3_ := A_ (Kd.N_elder' (Z18 HO_6.out) (Kd.R_base ho0) hb); have n4_ := A_ (Kd.R_lower (Kd.R_new' ho0 (Kd.R_lt (Z13 HO_5.out))) (below_size Z1)); have n5_ := A_ (below_step Z1 hb); clear HO_3; clear HO_4; clear HO_5; clear HO_6; clear HB; have HO_3 := n0_; have HO_4 := n1_; have HO_5 := n2_; have HO_6 := n3_; have HO519 := n4_; have HB := n5_; clear n0_ n1_ n2_ n3_ n4_ n5_; (try clear hb); (try clear hb2); (try clear hk); (try clear hi); (try clear ho0)) | ((with_reducible refine gate_callee (f := 16) rfl ?_); refine goesL_ (some 58) rfl rfl Try.func16 (by kernel_rfl) rfl #[.slice Ao43 t507.length co43] rfl Z3 ?_; (with_reducible refine (impl_StoreOk.calls kj18 _ _ t507 true _ ?side1 ?side2 A23.out).mono ?_); (case side1 => exact Z25 HO_6.out); (case side2 => exact (Kd.N_reads' HO_6.out).2.1); rintro e w45 ⟨rfl, hb⟩; refine ⟨_, rfl, ?_⟩; have n0_ := A_ (Kd.N_below (Z18 HO_3.out) hb); have n1_ := A_ (Kd.R_below (Z13 HO_4.out) hb); have n2_ := A_ (Kd.R_below (Z13 HO_5.out) hb); have n3_ := A_ (Kd.N_below (Z18 HO_6.out) hb); have n4_ := A_ (Kd.R_below (Z13 HO519.out) hb); have n5_ := A_ (below_step Z1 hb); clear HO_3; clear HO_4; clear HO_5; clear HO_6; clear HO519; clear HB; have HO_3 := n0_; have HO_4 := n1_; have HO_5 := n2_; have HO_6 := n3_; have HO519 := n4_; have HB := n5_; clear n0_ n1_ n2_ n3_ n4_ n5_; (try clear hb); (try clear hb2); (try clear hk); (try clear hi)))
         go_ret
         exact ⟨Z16, Z1⟩
       ·replace c24 := Bool.eq_false_iff.mpr c24
        subst c24
        have H1 : (some false) = some r := by rw [if_neg (show ¬ (false = true) by decide)] at H; exact H
        clear H
        have H := H1
        clear H1
        obtain rfl := Option.some.inj H
        obtain ⟨Ao46, co46, eo46⟩ := Kd.N_slice HO_6.out
        subst eo46
        go_wp2_with (first | ((with_reducible refine gate_callee (f := 18) rfl ?_); refine goesL_ (some 54) rfl rfl Try.func18 (by kernel_rfl) rfl #[.slice Ao46 t507.length co46, .slice Ao9 t501.length co9] rfl Z3 ?_; (with_reducible refine (impl_StoreGet.calls kj18 _ _ t507 _ _ t501 t516 t517 _ ?side1 ?side2 ?side3 ?side4 A22.out).mono ?_); (case side1 => exact Z25 HO_6.out); (case side2 => exact (Kd.N_reads' HO_6.out).2.1); (case side3 => exact Z24 HO_4.out); (case side4 => exact (Kd.R_reads' HO_4.out).2.1); rintro e w47 ⟨v518, rfl, ho0, hb⟩; refine ⟨_, rfl, ?_⟩; have n0_ := A_ (Kd.N_elder' (Z18 HO_3.out) (Kd.R_base ho0) hb); have n1_ := A_ (Kd.R_below (Z13 HO_4.out) hb); have n2_ := A_ (Kd.R_elder' (Z13 HO_5.out) (Kd.R_base ho0) hb); have n3_ := A_ (Kd.N_elder' (Z18 HO_6.out) (Kd.R_base ho0) hb); have n4_ := A_ (Kd.R_lower (Kd.R_new' ho0 (Kd.R_lt (Z13 HO_5.out))) (below_size Z1)); have n5_ := A_ (below_step Z1 hb); clear HO_3; clear HO_4; clear HO_5; clear HO_6; clear HB; have HO_3 := n0_; have HO_4 := n1_; have HO_5 := n2_; have HO_6 := n3_; have HO519 := n4_; have HB := n5_; clear n0_ n1_ n2_ n3_ n4_ n5_; (try clear hb); (try clear hb2); (try clear hk); (try clear hi); (try clear ho0)) | ((with_reducible refine gate_callee (f := 16) rfl ?_); refine goesL_ (some 58) rfl rfl Try.func16 (by kernel_rfl) rfl #[.slice Ao46 t507.length co46] rfl Z3 ?_; (with_reducible refine (impl_StoreOk.calls kj18 _ _ t507 false _ ?side1 ?side2 A23.out).mono ?_); (case side1 => exact Z25 HO_6.out); (case side2 => exact (Kd.N_reads' HO_6.out).2.1); rintro e w48 ⟨rfl, hb⟩; refine ⟨_, rfl, ?_⟩; have n0_ := A_ (Kd.N_below (Z18 HO_3.out) hb); have n1_ := A_ (Kd.R_below (Z13 HO_4.out) hb); have n2_ := A_ (Kd.R_below (Z13 HO_5.out) hb); have n3_ := A_ (Kd.N_below (Z18 HO_6.out) hb); have n4_ := A_ (Kd.R_below (Z13 HO519.out) hb); have n5_ := A_ (below_step Z1 hb); clear HO_3; clear HO_4; clear HO_5; clear HO_6; clear HO519; clear HB; have HO_3 := n0_; have HO_4 := n1_; have HO_5 := n2_; have HO_6 := n3_; have HO519 := n4_; have HB := n5_; clear n0_ n1_ n2_ n3_ n4_ n5_; (try clear hb); (try clear hb2); (try clear hk); (try clear hi)))
        go_ret
        exact ⟨Z16, Z1⟩
def laws_FnStorePut.Pure : Prop := ∀ (l0 : List Int), l0.length ≤ maxLen → l0.length * 1 ≤ 140737488351232 → (∀ x ∈ l0, (Lit.int .u8 x).wf = true) → ∃ k, laws_FnStorePut.f k l0 = some true
theorem laws_FnStorePut.walk (P : laws_FnStorePut.Pure) (a0 : Option Addr) (len0 cap0 : Nat) (z0 : List Int) (w : World) (w0 : (a0 = none ∧ len0 = 0 ∧ cap0 = 0 ∧ z0 = []) ∨ ∃ x, a0 = some x ∧ len0 ≤ cap0 ∧ cap0 ≤ maxLen ∧ z0.length = cap0 ∧ (∀ i, i < z0.length → w.cell? (x.add i) = some (.int .u8 (z0.getD i 0))) ∧ ∀ n ∈ z0, (Lit.int .u8 n).wf = true) (y0 : len0 * 1 ≤ 140737488351232) :
  Calls Try.prog 8 #[.slice a0 len0 cap0] w fun e w' => e = .returned (.bool true) ∧ Below w.heap.size w w' := by
 obtain ⟨l0, rfl, hr0, hm0, hw0, hc0⟩ := ReadsInt.ofRowC w0
 obtain ⟨k, h⟩ := P l0 hm0 y0 hw0
 refine (laws_FnStorePut.calls k _ _ l0 true w (Kd.C_of_reads (d := (0 : Int)) (h1 := fun _ => rfl) hr0) hc0 h).mono ?_
 rintro e w' ⟨rfl, hd⟩
 exact ⟨rfl, hd⟩
end Go.Proofs.Ytheifobeaemegaa.PFnStorePut
