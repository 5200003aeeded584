/- Walks of the functions that the law 'FnStoreGet' reaches, part 14: for each a Lean function and the proof that Go's comes to just its answer (lines of the print, under own names; no condition). -/
import Derived.Test.YtheifobeaemegaaZFnStoreGetQFnStoreGetx0
import Derived.Test.YtheifobeaemegaaZFnStoreGetQFnStoreGetx3
import Derived.Test.YtheifobeaemegaaZFnStoreGetQFnStoreGetx5
import Derived.Test.YtheifobeaemegaaZFnStoreGetQFnStoreGetx6
import Derived.Test.YtheifobeaemegaaZFnStoreGetQFnStoreGetx7
import Derived.Test.YtheifobeaemegaaZFnStoreGetQFnStoreGetx11
import Derived.Test.YtheifobeaemegaaZFnStoreGetQFnStoreGetx13
namespace Go.Proofs.Ytheifobeaemegaa.PFnStoreGet
open Go.RowKit Go.Proofs.YtheifobeaemegaaW.PrintWords Go.Proofs.YtheifobeaemegaaW.PrintLast Go.Proofs.YtheifobeaemegaaW.PrintMore
attribute [local go_sem] max2_int min2_int max_two min_two max_three min_three max_four min_four
set_option linter.unusedVariables false
set_option linter.unusedSimpArgs false
def impl_StorePut.j0 : Nat → List (S41) → List (S68) → List (S28) → Bool → Option ((List (S41)) × Bool)
 | 0, _, _, _, _ => none
 | k + 1, x0, x1, x2, x26 => if x26 = true then (some (([] : List (S41)), false)) else ((impl_storeSet.f k x0 x1 x2).bind fun t456 => (if (t456.length : Int) > 200 then (some (([] : List (S41)), false)) else (some (t456, true))))
def impl_StorePut.f (k : Nat) (l0 : List (S41)) (l1 : List (S68)) (l2 : List (S28)) : Option ((List (S41)) × Bool) := (impl_StoreOk.f k l0).bind fun t453 => (if t453 = true then ((impl_PlaceOk.f k l1).bind fun t454 => (if t454 = true then (if (l2.length : Int) > 3 then (impl_StorePut.j0 k l0 l1 l2 true) else ((impl_valsOk.f k l2).bind fun t455 => (impl_StorePut.j0 k l0 l1 l2 (!t455)))) else (impl_StorePut.j0 k l0 l1 l2 true))) else (impl_StorePut.j0 k l0 l1 l2 true))
theorem impl_StorePut.mono_l : ∀ k, (∀ y0 y1 y2 y3, LeO (impl_StorePut.j0 k y0 y1 y2 y3) (impl_StorePut.j0 (k + 1) y0 y1 y2 y3))
 | 0 => fun _ _ _ _ r h => by simp [impl_StorePut.j0] at h
 | k + 1 => by
  have ih0 := impl_StorePut.mono_l k
  ·intro y0 y1 y2 y3
   unfold impl_StorePut.j0
   repeat' first
   | (with_reducible exact ih0 _ _ _ _)
   | (with_reducible exact impl_PlaceOk.mono _ _)
   | (with_reducible exact impl_StoreOk.mono _ _)
   | (with_reducible exact impl_storeSet.mono _ _ _ _)
   | (with_reducible exact impl_valsOk.mono _ _)
   | (with_reducible exact LeO.refl _)
   | (with_reducible exact LeO.none _)
   | (with_reducible refine LeO.ite ?_ ?_)
   | (with_reducible refine LeO.bind ?_ (fun _ => ?_))
   | exact ih0 _ _ _ _
   | exact impl_PlaceOk.mono _ _
   | exact impl_StoreOk.mono _ _
   | exact impl_storeSet.mono _ _ _ _
   | exact impl_valsOk.mono _ _
   | exact LeO.none _
   | refine LeO.ite ?_ ?_
   | refine LeO.bind ?_ (fun _ => ?_)
theorem impl_StorePut.mono : ∀ a0 a1 a2 k, LeO (impl_StorePut.f k a0 a1 a2) (impl_StorePut.f (k + 1) a0 a1 a2) := by
 intro a0 a1 a2 k
 have ih0 := impl_StorePut.mono_l k
 unfold impl_StorePut.f
 repeat' first
   | (with_reducible exact ih0 _ _ _ _)
   | (with_reducible exact impl_PlaceOk.mono _ _)
   | (with_reducible exact impl_StoreOk.mono _ _)
   | (with_reducible exact impl_storeSet.mono _ _ _ _)
   | (with_reducible exact impl_valsOk.mono _ _)
   | (with_reducible exact LeO.refl _)
   | (with_reducible exact LeO.none _)
   | (with_reducible refine LeO.ite ?_ ?_)
   | (with_reducible refine LeO.bind ?_ (fun _ => ?_))
   | exact ih0 _ _ _ _
   | exact impl_PlaceOk.mono _ _
   | exact impl_StoreOk.mono _ _
   | exact impl_storeSet.mono _ _ _ _
   | exact impl_valsOk.mono _ _
   | exact LeO.none _
   | refine LeO.ite ?_ ?_
   | refine LeO.bind ?_ (fun _ => ?_)
set_option maxHeartbeats 8000000 in
set_option maxRecDepth 100000 in
theorem impl_StorePut.calls (k : Nat) (A0 : Option Addr) (c0 : Nat) (l0 : List (S41)) (A1 : Option Addr) (c1 : Nat) (l1 : List (S68)) (A2 : Option Addr) (c2 : Nat) (l2 : List (S28)) (r1 : List (S41)) (r2 : Bool) (w : World) (hr0 : Kd.C k41 w A0 l0.length l0) (hc0 : l0.length ≤ c0) (hr1 : Kd.C k68 w A1 l1.length l1) (hc1 : l1.length ≤ c1) (hr2 : Kd.C k28 w A2 l2.length l2) (hc2 : l2.length ≤ c2) (h : impl_StorePut.f k l0 l1 l2 = some (r1, r2)) :
  Calls Try.prog 28 #[.slice A0 l0.length c0, .slice A1 l1.length c1, .slice A2 l2.length c2] w fun e w' => ∃ v0_ : Value, e = .returned (.tuple #[v0_, .bool r2]) ∧ Kd.S k41 41 w' w.heap.size (fun _ => True) v0_ r1 ∧ Below w.heap.size w w' := by
 have HR0 := A_ hr0
 have HC0 := A_ hc0
 clear hr0 hc0
 have HR1 := A_ hr1
 have HC1 := A_ hc1
 clear hr1 hc1
 have HR2 := A_ hr2
 have HC2 := A_ hc2
 clear hr2 hc2
 have HB := A_ (Below.refl w.heap.size w)
 have H : ((impl_StoreOk.f k l0).bind fun t453 => (if t453 = true then ((impl_PlaceOk.f k l1).bind fun t454 => (if t454 = true then (if (l2.length : Int) > 3 then (impl_StorePut.j0 k l0 l1 l2 true) else ((impl_valsOk.f k l2).bind fun t455 => (impl_StorePut.j0 k l0 l1 l2 (!t455)))) else (impl_StorePut.j0 k l0 l1 l2 true))) else (impl_StorePut.j0 k l0 l1 l2 true))) = some (r1, r2) := h
 clear h
 have HC4 := A_ H
 clear H
 go_enter Try.func28, Try.ntmps28
 go_upto_region 1 with (fail)
 go_cut [26] (fun v26 wc => ∃ (kq : Nat) (x26_3 : Bool), v26 = .bool x26_3 ∧ Aside0 (impl_StorePut.j0 kq l0 l1 l2 x26_3 = some (r1, r2)) ∧ Aside0 (kq ≤ k) ∧ Aside0 (Below w.heap.size w wc))
 case first =>
  have H := HC4.out
  clear HC4
  replace H := Option.bind_eq_some_iff.mp H
  obtain ⟨t453, A50, H⟩ := H
  replace H : (if t453 = true then ((impl_PlaceOk.f k l1).bind fun t454 => (if t454 = true then (if (l2.length : Int) > 3 then (impl_StorePut.j0 k l0 l1 l2 true) else ((impl_valsOk.f k l2).bind fun t455 => (impl_StorePut.j0 k l0 l1 l2 (!t455)))) else (impl_StorePut.j0 k l0 l1 l2 true))) else (impl_StorePut.j0 k l0 l1 l2 true)) = some (r1, r2) := H
  have A5 := A_ A50
  clear A50
  by_cases c6 : t453 = true
  ·subst c6
   have H1 : ((impl_PlaceOk.f k l1).bind fun t454 => (if t454 = true then (if (l2.length : Int) > 3 then (impl_StorePut.j0 k l0 l1 l2 true) else ((impl_valsOk.f k l2).bind fun t455 => (impl_StorePut.j0 k l0 l1 l2 (!t455)))) else (impl_StorePut.j0 k l0 l1 l2 true))) = some (r1, r2) := by rw [if_pos rfl] at H; exact H
   clear H
   have H := H1
   clear H1
   replace H := Option.bind_eq_some_iff.mp H
   obtain ⟨t454, A70, H⟩ := H
   replace H : (if t454 = true then (if (l2.length : Int) > 3 then (impl_StorePut.j0 k l0 l1 l2 true) else ((impl_valsOk.f k l2).bind fun t455 => (impl_StorePut.j0 k l0 l1 l2 (!t455)))) else (impl_StorePut.j0 k l0 l1 l2 true)) = some (r1, r2) := H
   have A7 := A_ A70
   clear A70
   by_cases c8 : t454 = true
   ·subst c8
    have H1 : (if (l2.length : Int) > 3 then (impl_StorePut.j0 k l0 l1 l2 true) else ((impl_valsOk.f k l2).bind fun t455 => (impl_StorePut.j0 k l0 l1 l2 (!t455)))) = some (r1, r2) := by rw [if_pos rfl] at H; exact H
    clear H
    have H := H1
    clear H1
    by_cases c9 : (l2.length : Int) > 3
    ·rw [if_pos c9] at H
     have c9b0 : decide (3 < (l2.length : Int)) = true := decide_eq_true c9
     have c9b1 : decide (3 < l2.length) = true := decide_eq_true (by omega)
     clear c9
     (first | rw [c9b0] | (simp only [i64_w, i32_w]; rw [c9b0]) | skip)
     have H' := A_ H
     clear H
     go_wp2_with (first | ((with_reducible refine gate_callee (f := 16) rfl ?_); refine goesL_ (some 10) rfl rfl Try.func16 (by kernel_rfl) rfl #[.slice A0 l0.length c0] rfl Z3 ?_; (with_reducible refine (impl_StoreOk.calls k _ _ l0 true _ ?side1 ?side2 A5.out).mono ?_); (case side1 => exact Z5 HR0.out); (case side2 => exact HC0.out); rintro e w10 ⟨rfl, hb⟩; refine ⟨_, rfl, ?_⟩; have n0_ := A_ (below_step Z1 hb); clear HB; have HB := n0_; clear n0_; (try clear hb); (try clear hb2); (try clear hk); (try clear hi)) | (go_at_call 24; (with_reducible refine (impl_PlaceOk.calls k _ _ l1 true _ ?side1 ?side2 A7.out).mono ?_); (case side1 => exact Z5 HR1.out); (case side2 => exact HC1.out); rintro e w11 ⟨rfl, hb⟩; have n0_ := A_ (below_step Z1 hb); clear HB; have HB := n0_; clear n0_; (try clear hb); (try clear hb2); (try clear hk); (try clear hi)))
     go_meet
     case rel => exact ⟨_, (true), Z20, H', ⟨by first | omega | exact Nat.le_refl _⟩, ⟨Z1⟩⟩
    ·rw [if_neg c9] at H
     have c9b0 : decide (3 < (l2.length : Int)) = false := decide_eq_false c9
     have c9b1 : decide (3 < l2.length) = false := decide_eq_false (by omega)
     clear c9
     (first | rw [c9b0] | (simp only [i64_w, i32_w]; rw [c9b0]) | skip)
     replace H := Option.bind_eq_some_iff.mp H
     obtain ⟨t455, A120, H⟩ := H
     replace H : (impl_StorePut.j0 k l0 l1 l2 (!t455)) = some (r1, r2) := H
     have A12 := A_ A120
     clear A120
     have H' := A_ H
     clear H
     go_wp2_with (first | ((with_reducible refine gate_callee (f := 16) rfl ?_); refine goesL_ (some 10) rfl rfl Try.func16 (by kernel_rfl) rfl #[.slice A0 l0.length c0] rfl Z3 ?_; (with_reducible refine (impl_StoreOk.calls k _ _ l0 true _ ?side1 ?side2 A5.out).mono ?_); (case side1 => exact Z5 HR0.out); (case side2 => exact HC0.out); rintro e w13 ⟨rfl, hb⟩; refine ⟨_, rfl, ?_⟩; have n0_ := A_ (below_step Z1 hb); clear HB; have HB := n0_; clear n0_; (try clear hb); (try clear hb2); (try clear hk); (try clear hi)) | (go_at_call 24; (with_reducible refine (impl_PlaceOk.calls k _ _ l1 true _ ?side1 ?side2 A7.out).mono ?_); (case side1 => exact Z5 HR1.out); (case side2 => exact HC1.out); rintro e w14 ⟨rfl, hb⟩; have n0_ := A_ (below_step Z1 hb); clear HB; have HB := n0_; clear n0_; (try clear hb); (try clear hb2); (try clear hk); (try clear hi)) | (go_at_call 43; (with_reducible refine (impl_valsOk.calls k _ _ l2 t455 _ ?side1 ?side2 A12.out).mono ?_); (case side1 => exact Z5 HR2.out); (case side2 => exact HC2.out); rintro e w15 ⟨rfl, hb⟩; have n0_ := A_ (below_step Z1 hb); clear HB; have HB := n0_; clear n0_; (try clear hb); (try clear hb2); (try clear hk); (try clear hi)))
     go_meet
     case rel => exact ⟨_, (!t455), Z20, H', ⟨by first | omega | exact Nat.le_refl _⟩, ⟨Z1⟩⟩
   ·replace c8 := Bool.eq_false_iff.mpr c8
    subst c8
    have H1 : (impl_StorePut.j0 k l0 l1 l2 true) = some (r1, r2) := by rw [if_neg (show ¬ (false = true) by decide)] at H; exact H
    clear H
    have H := H1
    clear H1
    have H' := A_ H
    clear H
    go_wp2_with (first | ((with_reducible refine gate_callee (f := 16) rfl ?_); refine goesL_ (some 10) rfl rfl Try.func16 (by kernel_rfl) rfl #[.slice A0 l0.length c0] rfl Z3 ?_; (with_reducible refine (impl_StoreOk.calls k _ _ l0 true _ ?side1 ?side2 A5.out).mono ?_); (case side1 => exact Z5 HR0.out); (case side2 => exact HC0.out); rintro e w16 ⟨rfl, hb⟩; refine ⟨_, rfl, ?_⟩; have n0_ := A_ (below_step Z1 hb); clear HB; have HB := n0_; clear n0_; (try clear hb); (try clear hb2); (try clear hk); (try clear hi)) | (go_at_call 24; (with_reducible refine (impl_PlaceOk.calls k _ _ l1 false _ ?side1 ?side2 A7.out).mono ?_); (case side1 => exact Z5 HR1.out); (case side2 => exact HC1.out); rintro e w17 ⟨rfl, hb⟩; have n0_ := A_ (below_step Z1 hb); clear HB; have HB := n0_; clear n0_; (try clear hb); (try clear hb2); (try clear hk); (try clear hi)))
    go_meet
    case rel => exact ⟨_, (true), Z20, H', ⟨by first | omega | exact Nat.le_refl _⟩, ⟨Z1⟩⟩
  ·replace c6 := Bool.eq_false_iff.mpr c6
   subst c6
   have H1 : (impl_StorePut.j0 k l0 l1 l2 true) = some (r1, r2) := by rw [if_neg (show ¬ (false = true) by decide)] at H; exact H
   clear H
   have H := H1
   clear H1
   have H' := A_ H
   clear H
   go_wp2_with (first | ((with_reducible refine gate_callee (f := 16) rfl ?_); refine goesL_ (some 10) rfl rfl Try.func16 (by kernel_rfl) rfl #[.slice A0 l0.length c0] rfl Z3 ?_; (with_reducible refine (impl_StoreOk.calls k _ _ l0 false _ ?side1 ?side2 A5.out).mono ?_); (case side1 => exact Z5 HR0.out); (case side2 => exact HC0.out); rintro e w18 ⟨rfl, hb⟩; refine ⟨_, rfl, ?_⟩; have n0_ := A_ (below_step Z1 hb); clear HB; have HB := n0_; clear n0_; (try clear hb); (try clear hb2); (try clear hk); (try clear hi)))
   go_meet
   case rel => exact ⟨_, (true), Z20, H', ⟨by first | omega | exact Nat.le_refl _⟩, ⟨Z1⟩⟩
 case rest =>
  clear HC4
  try clear c1
  try clear c2
  try clear p2
  try clear c6
  try clear c8
  try clear c9
  try clear c9b0
  try clear c9b1
  try clear c16
  obtain ⟨kq, x26_3, rfl, HA, HJ3, HB⟩ := hcut
  cases kq with
  | zero => exact absurd HA.out (by simp [impl_StorePut.j0])
  | succ kj3 =>
   have H := HA.out
   clear HA
   simp only [impl_StorePut.j0] at H
   by_cases c19 : x26_3 = true
   ·subst c19
    have H1 : (some (([] : List (S41)), false)) = some (r1, r2) := by rw [if_pos rfl] at H; exact H
    clear H
    have H := H1
    clear H1
    simp only [Option.some.injEq, Prod.mk.injEq] at H
    obtain ⟨rfl, rfl⟩ := H
    go_wp2
    go_ret2
    exact ⟨_, Z17, by first | exact Kd.S_nil _ _ _ _ _ | exact Kd.N_nil _ _ _ _ _ | exact Kd.V_nil _ _ _ _ _ | exact Kd.Q_nil _ _ _ _ _ | exact Kd.R_nil _ _ _ _ _, Z1⟩
   ·replace c19 := Bool.eq_false_iff.mpr c19
    subst c19
    have H1 : ((impl_storeSet.f kj3 l0 l1 l2).bind fun t456 => (if (t456.length : Int) > 200 then (some (([] : List (S41)), false)) else (some (t456, true)))) = some (r1, r2) := by rw [if_neg (show ¬ (false = true) by decide)] at H; exact H
    clear H
    have H := H1
    clear H1
    replace H := Option.bind_eq_some_iff.mp H
    obtain ⟨t456, A200, H⟩ := H
    replace H : (if (t456.length : Int) > 200 then (some (([] : List (S41)), false)) else (some (t456, true))) = some (r1, r2) := H
    have A20 := A_ A200
    clear A200
    by_cases c21 : (t456.length : Int) > 200
    ·rw [if_pos c21] at H
     have c21b0 : decide (200 < (t456.length : Int)) = true := decide_eq_true c21
     have c21b1 : decide (200 < t456.length) = true := decide_eq_true (by omega)
     clear c21
     simp only [Option.some.injEq, Prod.mk.injEq] at H
     obtain ⟨rfl, rfl⟩ := H
     go_wp2_with (first | ((with_reducible refine gate_callee (f := 57) rfl ?_); refine goesL_ (some 30) rfl rfl Try.func57 (by kernel_rfl) rfl #[.slice A0 l0.length c0, .slice A1 l1.length c1, .slice A2 l2.length c2] rfl Z3 ?_; (with_reducible refine (impl_storeSet.calls kj3 _ _ l0 _ _ l1 _ _ l2 t456 _ ?side1 ?side2 ?side3 ?side4 ?side5 ?side6 A20.out).mono ?_); (case side1 => exact Z5 HR0.out); (case side2 => exact HC0.out); (case side3 => exact Z5 HR1.out); (case side4 => exact HC1.out); (case side5 => exact Z5 HR2.out); (case side6 => exact HC2.out); rintro e w22 ⟨v457, rfl, ho0, hb⟩; refine ⟨_, rfl, ?_⟩; have n0_ := A_ (Kd.S_lower ho0 (below_size Z1)); have n1_ := A_ (below_step Z1 hb); clear HB; have HO458 := n0_; have HB := n1_; clear n0_ n1_; (try clear hb); (try clear hb2); (try clear hk); (try clear hi); (try clear ho0); obtain ⟨Ao23, co23, eo23⟩ := Kd.S_slice HO458.out; subst eo23))
     go_ret2
     exact ⟨_, Z17, by first | exact Kd.S_nil _ _ _ _ _ | exact Kd.N_nil _ _ _ _ _ | exact Kd.V_nil _ _ _ _ _ | exact Kd.Q_nil _ _ _ _ _ | exact Kd.R_nil _ _ _ _ _, Z1⟩
    ·rw [if_neg c21] at H
     have c21b0 : decide (200 < (t456.length : Int)) = false := decide_eq_false c21
     have c21b1 : decide (200 < t456.length) = false := decide_eq_false (by omega)
     clear c21
     simp only [Option.some.injEq, Prod.mk.injEq] at H
     obtain ⟨rfl, rfl⟩ := H
     go_wp2_with (first | ((with_reducible refine gate_callee (f := 57) rfl ?_); refine goesL_ (some 30) rfl rfl Try.func57 (by kernel_rfl) rfl #[.slice A0 l0.length c0, .slice A1 l1.length c1, .slice A2 l2.length c2] rfl Z3 ?_; (with_reducible refine (impl_storeSet.calls kj3 _ _ l0 _ _ l1 _ _ l2 t456 _ ?side1 ?side2 ?side3 ?side4 ?side5 ?side6 A20.out).mono ?_); (case side1 => exact Z5 HR0.out); (case side2 => exact HC0.out); (case side3 => exact Z5 HR1.out); (case side4 => exact HC1.out); (case side5 => exact Z5 HR2.out); (case side6 => exact HC2.out); rintro e w24 ⟨v457, rfl, ho0, hb⟩; refine ⟨_, rfl, ?_⟩; have n0_ := A_ (Kd.S_lower ho0 (below_size Z1)); have n1_ := A_ (below_step Z1 hb); clear HB; have HO458 := n0_; have HB := n1_; clear n0_ n1_; (try clear hb); (try clear hb2); (try clear hk); (try clear hi); (try clear ho0); obtain ⟨Ao25, co25, eo25⟩ := Kd.S_slice HO458.out; subst eo25))
     go_ret2
     exact ⟨_, Z17, Z30 HO458.out, Z1⟩
mutual
def laws_FnStoreGet.j0 : Nat → List (S41) → List (S68) → List (S28) → Bool → Bool → Option (Bool)
 | 0, _, _, _, _, _ => none
 | k + 1, x3, x4, x5, x6, x9 => if x9 = true then (laws_FnStoreGet.j1 k x3 x4 x5 x9 (!x6)) else (laws_FnStoreGet.j1 k x3 x4 x5 x9 true)
def laws_FnStoreGet.j1 : Nat → List (S41) → List (S68) → List (S28) → Bool → Bool → Option (Bool)
 | 0, _, _, _, _, _ => none
 | k + 1, x3, x4, x5, x9, x45 => if x45 = true then (some x9) else ((impl_StorePut.f k x3 x4 x5).bind fun bt474 => (if bt474.2 = true then ((spec_SameStore.f k bt474.1 x3).bind fun t478 => (some t478)) else (some false)))
end
def laws_FnStoreGet.f (k : Nat) (l0 : List Int) : Option (Bool) := if (l0.length : Int) > 1048576 then (some true) else ((spec_DrawStoreGet.f k l0).bind fun bt459 => ((impl_StoreGet.f k bt459.1 bt459.2).bind fun bt465 => ((spec_StoreGet.f k bt459.1 bt459.2).bind fun bt469 => ((spec_SameVals.f k bt465.1 bt469.1).bind fun t473 => (if t473 = true then (laws_FnStoreGet.j0 k bt459.1 bt459.2 bt465.1 bt465.2 (bt465.2 == bt469.2)) else (laws_FnStoreGet.j0 k bt459.1 bt459.2 bt465.1 bt465.2 false))))))
theorem laws_FnStoreGet.mono_l : ∀ k, (∀ y0 y1 y2 y3 y4, LeO (laws_FnStoreGet.j0 k y0 y1 y2 y3 y4) (laws_FnStoreGet.j0 (k + 1) y0 y1 y2 y3 y4)) ∧ (∀ y0 y1 y2 y3 y4, LeO (laws_FnStoreGet.j1 k y0 y1 y2 y3 y4) (laws_FnStoreGet.j1 (k + 1) y0 y1 y2 y3 y4))
 | 0 => ⟨fun _ _ _ _ _ r h => by simp [laws_FnStoreGet.j0] at h, fun _ _ _ _ _ r h => by simp [laws_FnStoreGet.j1] at h⟩
 | k + 1 => by
  obtain ⟨ih0, ih1⟩ := laws_FnStoreGet.mono_l k
  refine ⟨?_, ?_⟩
  ·intro y0 y1 y2 y3 y4
   unfold laws_FnStoreGet.j0
   repeat' first
   | (with_reducible exact ih0 _ _ _ _ _)
   | (with_reducible exact ih1 _ _ _ _ _)
   | (with_reducible exact impl_StoreGet.mono _ _ _)
   | (with_reducible exact impl_StorePut.mono _ _ _ _)
   | (with_reducible exact spec_DrawStoreGet.mono _ _)
   | (with_reducible exact spec_SameStore.mono _ _ _)
   | (with_reducible exact spec_SameVals.mono _ _ _)
   | (with_reducible exact spec_StoreGet.mono _ _ _)
   | (with_reducible exact LeO.refl _)
   | (with_reducible exact LeO.none _)
   | (with_reducible refine LeO.ite ?_ ?_)
   | (with_reducible refine LeO.bind ?_ (fun _ => ?_))
   | exact ih0 _ _ _ _ _
   | exact ih1 _ _ _ _ _
   | exact impl_StoreGet.mono _ _ _
   | exact impl_StorePut.mono _ _ _ _
   | exact spec_DrawStoreGet.mono _ _
   | exact spec_SameStore.mono _ _ _
   | exact spec_SameVals.mono _ _ _
   | exact spec_StoreGet.mono _ _ _
   | exact LeO.none _
   | refine LeO.ite ?_ ?_
   | refine LeO.bind ?_ (fun _ => ?_)
  ·intro y0 y1 y2 y3 y4
   unfold laws_FnStoreGet.j1
   repeat' first
   | (with_reducible exact ih0 _ _ _ _ _)
   | (with_reducible exact ih1 _ _ _ _ _)
   | (with_reducible exact impl_StoreGet.mono _ _ _)
   | (with_reducible exact impl_StorePut.mono _ _ _ _)
   | (with_reducible exact spec_DrawStoreGet.mono _ _)
   | (with_reducible exact spec_SameStore.mono _ _ _)
   | (with_reducible exact spec_SameVals.mono _ _ _)
   | (with_reducible exact spec_StoreGet.mono _ _ _)
   | (with_reducible exact LeO.refl _)
   | (with_reducible exact LeO.none _)
   | (with_reducible refine LeO.ite ?_ ?_)
   | (with_reducible refine LeO.bind ?_ (fun _ => ?_))
   | exact ih0 _ _ _ _ _
   | exact ih1 _ _ _ _ _
   | exact impl_StoreGet.mono _ _ _
   | exact impl_StorePut.mono _ _ _ _
   | exact spec_DrawStoreGet.mono _ _
   | exact spec_SameStore.mono _ _ _
   | exact spec_SameVals.mono _ _ _
   | exact spec_StoreGet.mono _ _ _
   | exact LeO.none _
   | refine LeO.ite ?_ ?_
   | refine LeO.bind ?_ (fun _ => ?_)
theorem laws_FnStoreGet.mono : ∀ a0 k, LeO (laws_FnStoreGet.f k a0) (laws_FnStoreGet.f (k + 1) a0) := by
 intro a0 k
 obtain ⟨ih0, ih1⟩ := laws_FnStoreGet.mono_l k
 unfold laws_FnStoreGet.f
 repeat' first
   | (with_reducible exact ih0 _ _ _ _ _)
   | (with_reducible exact ih1 _ _ _ _ _)
   | (with_reducible exact impl_StoreGet.mono _ _ _)
   | (with_reducible exact impl_StorePut.mono _ _ _ _)
   | (with_reducible exact spec_DrawStoreGet.mono _ _)
   | (with_reducible exact spec_SameStore.mono _ _ _)
   | (with_reducible exact spec_SameVals.mono _ _ _)
   | (with_reducible exact spec_StoreGet.mono _ _ _)
   | (with_reducible exact LeO.refl _)
   | (with_reducible exact LeO.none _)
   | (with_reducible refine LeO.ite ?_ ?_)
   | (with_reducible refine LeO.bind ?_ (fun _ => ?_))
   | exact ih0 _ _ _ _ _
   | exact ih1 _ _ _ _ _
   | exact impl_StoreGet.mono _ _ _
   | exact impl_StorePut.mono _ _ _ _
   | exact spec_DrawStoreGet.mono _ _
   | exact spec_SameStore.mono _ _ _
   | exact spec_SameVals.mono _ _ _
   | exact spec_StoreGet.mono _ _ _
   | exact LeO.none _
   | refine LeO.ite ?_ ?_
   | refine LeO.bind ?_ (fun _ => ?_)
set_option maxHeartbeats 8000000 in
set_option maxRecDepth 100000 in
theorem laws_FnStoreGet.calls (k : Nat) (A0 : Option Addr) (c0 : Nat) (l0 : List Int) (r : Bool) (w : World) (hr0 : Kd.C (Kd.int .u8) w A0 l0.length l0) (hc0 : l0.length ≤ c0) (h : laws_FnStoreGet.f k l0 = some r) :
  Calls Try.prog 7 #[.slice A0 l0.length c0] w fun e w' => e = .returned (.bool r) ∧ Below w.heap.size w w' := by
 have HR0 := A_ hr0
 have HC0 := A_ hc0
 clear hr0 hc0
 have HB := A_ (Below.refl w.heap.size w)
 have H : (if (l0.length : Int) > 1048576 then (some true) else ((spec_DrawStoreGet.f k l0).bind fun bt459 => ((impl_StoreGet.f k bt459.1 bt459.2).bind fun bt465 => ((spec_StoreGet.f k bt459.1 bt459.2).bind fun bt469 => ((spec_SameVals.f k bt465.1 bt469.1).bind fun t473 => (if t473 = true then (laws_FnStoreGet.j0 k bt459.1 bt459.2 bt465.1 bt465.2 (bt465.2 == bt469.2)) else (laws_FnStoreGet.j0 k bt459.1 bt459.2 bt465.1 bt465.2 false))))))) = some r := h
 clear h
 by_cases c2 : (l0.length : Int) > 1048576
 ·rw [if_pos c2] at H
  have c2b0 : decide (1048576 < (l0.length : Int)) = true := decide_eq_true c2
  have c2b1 : decide (1048576 < l0.length) = true := decide_eq_true (by omega)
  clear c2
  obtain rfl := Option.some.inj H
  go_enter Try.func7, Try.ntmps7
  go_wp2
  go_ret
  exact ⟨Z17, Z1⟩
 ·rw [if_neg c2] at H
  have c2b0 : decide (1048576 < (l0.length : Int)) = false := decide_eq_false c2
  have c2b1 : decide (1048576 < l0.length) = false := decide_eq_false (by omega)
  clear c2
  replace H := Option.bind_eq_some_iff.mp H
  obtain ⟨⟨t459, t462⟩, A30, H⟩ := H
  replace H : ((impl_StoreGet.f k t459 t462).bind fun bt465 => ((spec_StoreGet.f k t459 t462).bind fun bt469 => ((spec_SameVals.f k bt465.1 bt469.1).bind fun t473 => (if t473 = true then (laws_FnStoreGet.j0 k t459 t462 bt465.1 bt465.2 (bt465.2 == bt469.2)) else (laws_FnStoreGet.j0 k t459 t462 bt465.1 bt465.2 false))))) = some r := H
  have A3 := A_ A30
  clear A30
  replace H := Option.bind_eq_some_iff.mp H
  obtain ⟨⟨t465, t466⟩, A40, H⟩ := H
  replace H : ((spec_StoreGet.f k t459 t462).bind fun bt469 => ((spec_SameVals.f k t465 bt469.1).bind fun t473 => (if t473 = true then (laws_FnStoreGet.j0 k t459 t462 t465 t466 (t466 == bt469.2)) else (laws_FnStoreGet.j0 k t459 t462 t465 t466 false)))) = some r := H
  have A4 := A_ A40
  clear A40
  replace H := Option.bind_eq_some_iff.mp H
  obtain ⟨⟨t469, t470⟩, A50, H⟩ := H
  replace H : ((spec_SameVals.f k t465 t469).bind fun t473 => (if t473 = true then (laws_FnStoreGet.j0 k t459 t462 t465 t466 (t466 == t470)) else (laws_FnStoreGet.j0 k t459 t462 t465 t466 false))) = some r := H
  have A5 := A_ A50
  clear A50
  have HC6 := A_ H
  clear H
  go_enter Try.func7, Try.ntmps7
  go_upto_region 6 with (first | ((with_reducible refine gate_callee (f := 26) rfl ?_); refine goesL_ (some 17) rfl rfl Try.func26 (by kernel_rfl) rfl #[.slice A0 l0.length c0] rfl Z3 ?_; (with_reducible refine (spec_DrawStoreGet.calls k _ _ l0 t459 t462 _ ?side1 ?side2 A3.out).mono ?_); (case side1 => exact Z18 HR0.out); (case side2 => exact HC0.out); rintro e w7 ⟨v460, v463, rfl, ho0, ho1, hb⟩; refine ⟨_, rfl, ?_⟩; have n0_ := A_ (Kd.N_lower (Kd.N_mono (ok' := fun k_ => some k_ ≠ (v463 : Value).ownBlock) ho0 (fun k_ hk_ => hk_.2)) (below_size Z1)); have n1_ := A_ (Kd.R_lower (Kd.R_mono (ok' := fun k_ => True) ho1 (fun _ hk_ => trivial)) (below_size Z1)); have n2_ := A_ (below_step Z1 hb); clear HB; have HO461 := n0_; have HO464 := n1_; have HB := n2_; clear n0_ n1_ n2_; (try clear hb); (try clear hb2); (try clear hk); (try clear hi); (try clear ho0); (try clear ho1); obtain ⟨Ao8, co8, eo8⟩ := Kd.N_slice HO461.out; subst eo8; obtain ⟨Ao9, co9, eo9⟩ := Kd.R_slice HO464.out; subst eo9) | ((with_reducible refine gate_callee (f := 18) rfl ?_); refine goesL_ (some 23) rfl rfl Try.func18 (by kernel_rfl) rfl #[.slice Ao8 t459.length co8, .slice Ao9 t462.length co9] rfl Z3 ?_; (with_reducible refine (impl_StoreGet.calls k _ _ t459 _ _ t462 t465 t466 _ ?side1 ?side2 ?side3 ?side4 A4.out).mono ?_); (case side1 => exact Z33 HO461.out); (case side2 => exact (Kd.N_reads' HO461.out).2.1); (case side3 => exact Z25 HO464.out); (case side4 => exact (Kd.R_reads' HO464.out).2.1); rintro e w10 ⟨v467, rfl, ho0, hb⟩; refine ⟨_, rfl, ?_⟩; have n0_ := A_ (Kd.N_elder' (Z23 HO461.out) (Kd.R_base ho0) hb); have n1_ := A_ (Kd.R_below (Z13 HO464.out) hb); have n2_ := A_ (Kd.R_lower ho0 (below_size Z1)); have n3_ := A_ (below_step Z1 hb); clear HO461; clear HO464; clear HB; have HO461 := n0_; have HO464 := n1_; have HO468 := n2_; have HB := n3_; clear n0_ n1_ n2_ n3_; (try clear hb); (try clear hb2); (try clear hk); (try clear hi); (try clear ho0)) | ((with_reducible refine gate_callee (f := 27) rfl ?_); refine goesL_ (some 29) rfl rfl Try.func27 (by kernel_rfl) rfl #[.slice Ao8 t459.length co8, .slice Ao9 t462.length co9] rfl Z3 ?_; (with_reducible refine (spec_StoreGet.calls k _ _ t459 _ _ t462 t469 t470 _ ?side1 ?side2 ?side3 ?side4 A5.out).mono ?_); (case side1 => exact Z33 HO461.out); (case side2 => exact (Kd.N_reads' HO461.out).2.1); (case side3 => exact Z25 HO464.out); (case side4 => exact (Kd.R_reads' HO464.out).2.1); rintro e w11 ⟨v471, rfl, ho0, hb⟩; refine ⟨_, rfl, ?_⟩; have n0_ := A_ (Kd.N_elder' (Z23 HO461.out) (Kd.R_base ho0) hb); have n1_ := A_ (Kd.R_below (Z13 HO464.out) hb); have n2_ := A_ (Kd.R_elder' (Z13 HO468.out) (Kd.R_base ho0) hb); have n3_ := A_ (Kd.R_lower (Kd.R_new' ho0 (Kd.R_lt (Z13 HO468.out))) (below_size Z1)); have n4_ := A_ (below_step Z1 hb); clear HO461; clear HO464; clear HO468; clear HB; have HO461 := n0_; have HO464 := n1_; have HO468 := n2_; have HO472 := n3_; have HB := n4_; clear n0_ n1_ n2_ n3_ n4_; (try clear hb); (try clear hb2); (try clear hk); (try clear hi); (try clear ho0)))
  (try simp only [Act.put, List.setIfInBounds_toArray, List.set_cons_zero, List.set_cons_succ])
  go_cut [9] (fun v9 wc => ∃ (kq : Nat) (x9_5 : Bool), v9 = .bool x9_5 ∧ Aside0 (laws_FnStoreGet.j0 kq t459 t462 t465 t466 x9_5 = some r) ∧ Aside0 (kq ≤ k) ∧ Aside0 (Kd.N k41 41 wc w.heap.size (fun k_ => some k_ ≠ ((.slice Ao9 t462.length co9) : Value).ownBlock ∧ some k_ ≠ (v467 : Value).ownBlock) (.slice Ao8 t459.length co8) t459) ∧ Aside0 (Kd.R k68 68 wc w.heap.size (fun _ => True) (.slice Ao9 t462.length co9) t462) ∧ Aside0 (Kd.R k28 28 wc w.heap.size (fun _ => True) v467 t465) ∧ Aside0 (Below w.heap.size w wc))
  case first =>
   have H := HC6.out
   clear HC6
   replace H := Option.bind_eq_some_iff.mp H
   obtain ⟨t473, A120, H⟩ := H
   replace H : (if t473 = true then (laws_FnStoreGet.j0 k t459 t462 t465 t466 (t466 == t470)) else (laws_FnStoreGet.j0 k t459 t462 t465 t466 false)) = some r := H
   have A12 := A_ A120
   clear A120
   by_cases c13 : t473 = true
   ·subst c13
    have H1 : (laws_FnStoreGet.j0 k t459 t462 t465 t466 (t466 == t470)) = some r := by rw [if_pos rfl] at H; exact H
    clear H
    have H := H1
    clear H1
    have H' := A_ H
    clear H
    obtain ⟨Ao14, co14, eo14⟩ := Kd.R_slice HO468.out
    subst eo14
    obtain ⟨Ao15, co15, eo15⟩ := Kd.R_slice HO472.out
    subst eo15
    go_wp2_with (first | ((with_reducible refine gate_callee (f := 19) rfl ?_); refine goesL_ (some 34) rfl rfl Try.func19 (by kernel_rfl) rfl #[.slice Ao14 t465.length co14, .slice Ao15 t469.length co15] rfl Z3 ?_; (with_reducible refine (spec_SameVals.calls k _ _ t465 _ _ t469 true _ ?side1 ?side2 ?side3 ?side4 A12.out).mono ?_); (case side1 => exact Z25 HO468.out); (case side2 => exact (Kd.R_reads' HO468.out).2.1); (case side3 => exact Z25 HO472.out); (case side4 => exact (Kd.R_reads' HO472.out).2.1); rintro e w' ⟨rfl, ⟨nd, rfl⟩⟩; refine ⟨_, rfl, ?_⟩))
    go_meet
    case rel => exact ⟨_, ((t466 == t470)), Z20, H', ⟨by first | omega | exact Nat.le_refl _⟩, ⟨Z46 HO461.out⟩, ⟨Z13 HO464.out⟩, ⟨by (with_reducible repeat (first | apply Kd.R_alloc | apply Kd.R_drewN | apply Kd.R_drew)); exact Kd.R_mono HO468.out (fun _ hk => trivial)⟩, ⟨Z1⟩⟩
   ·replace c13 := Bool.eq_false_iff.mpr c13
    subst c13
    have H1 : (laws_FnStoreGet.j0 k t459 t462 t465 t466 false) = some r := by rw [if_neg (show ¬ (false = true) by decide)] at H; exact H
    clear H
    have H := H1
    clear H1
    have H' := A_ H
    clear H
    obtain ⟨Ao16, co16, eo16⟩ := Kd.R_slice HO468.out
    subst eo16
    obtain ⟨Ao17, co17, eo17⟩ := Kd.R_slice HO472.out
    subst eo17
    go_wp2_with (first | ((with_reducible refine gate_callee (f := 19) rfl ?_); refine goesL_ (some 34) rfl rfl Try.func19 (by kernel_rfl) rfl #[.slice Ao16 t465.length co16, .slice Ao17 t469.length co17] rfl Z3 ?_; (with_reducible refine (spec_SameVals.calls k _ _ t465 _ _ t469 false _ ?side1 ?side2 ?side3 ?side4 A12.out).mono ?_); (case side1 => exact Z25 HO468.out); (case side2 => exact (Kd.R_reads' HO468.out).2.1); (case side3 => exact Z25 HO472.out); (case side4 => exact (Kd.R_reads' HO472.out).2.1); rintro e w' ⟨rfl, ⟨nd, rfl⟩⟩; refine ⟨_, rfl, ?_⟩))
    go_meet
    case rel => exact ⟨_, (false), Z20, H', ⟨by first | omega | exact Nat.le_refl _⟩, ⟨Z46 HO461.out⟩, ⟨Z13 HO464.out⟩, ⟨by (with_reducible repeat (first | apply Kd.R_alloc | apply Kd.R_drewN | apply Kd.R_drew)); exact Kd.R_mono HO468.out (fun _ hk => trivial)⟩, ⟨Z1⟩⟩
  case rest =>
   clear HC6
   try clear c1
   try clear c2
   try clear c2b0
   try clear c2b1
   try clear p2
   try clear c7
   try clear c13
   obtain ⟨kq, x9_5, rfl, HA, HJ5, HO_3, HO_4, HO_5, HB⟩ := hcut
   cases kq with
   | zero => exact absurd HA.out (by simp [laws_FnStoreGet.j0])
   | succ kj5 =>
    have H := HA.out
    clear HA
    simp only [laws_FnStoreGet.j0] at H
    have HC18 := A_ H
    clear H
    go_upto_region 7 with (fail)
    go_cut [45] (fun v45 wc => ∃ (kq : Nat) (x45_17 : Bool), v45 = .bool x45_17 ∧ Aside0 (laws_FnStoreGet.j1 kq t459 t462 t465 x9_5 x45_17 = some r) ∧ Aside0 (kq ≤ kj5) ∧ Aside0 (Kd.N k41 41 wc w.heap.size (fun k_ => some k_ ≠ ((.slice Ao9 t462.length co9) : Value).ownBlock ∧ some k_ ≠ (v467 : Value).ownBlock) (.slice Ao8 t459.length co8) t459) ∧ Aside0 (Kd.R k68 68 wc w.heap.size (fun _ => True) (.slice Ao9 t462.length co9) t462) ∧ Aside0 (Kd.R k28 28 wc w.heap.size (fun _ => True) v467 t465) ∧ Aside0 (Below w.heap.size w wc))
    case first =>
     have H := HC18.out
     clear HC18
     by_cases c19 : x9_5 = true
     ·subst c19
      have H1 : (laws_FnStoreGet.j1 kj5 t459 t462 t465 true (!t466)) = some r := by rw [if_pos rfl] at H; exact H
      clear H
      have H := H1
      clear H1
      have H' := A_ H
      clear H
      go_wp2
      go_meet
      case rel => exact ⟨_, (!t466), Z20, H', ⟨by have := HJ5.out; first | omega | exact Nat.le_refl _⟩, ⟨Z23 HO_3.out⟩, ⟨Z13 HO_4.out⟩, ⟨Z13 HO_5.out⟩, ⟨Z1⟩⟩
     ·replace c19 := Bool.eq_false_iff.mpr c19
      subst c19
      have H1 : (laws_FnStoreGet.j1 kj5 t459 t462 t465 false true) = some r := by rw [if_neg (show ¬ (false = true) by decide)] at H; exact H
      clear H
      have H := H1
      clear H1
      have H' := A_ H
      clear H
      go_wp2
      go_meet
      case rel => exact ⟨_, (true), Z20, H', ⟨by have := HJ5.out; first | omega | exact Nat.le_refl _⟩, ⟨Z23 HO_3.out⟩, ⟨Z13 HO_4.out⟩, ⟨Z13 HO_5.out⟩, ⟨Z1⟩⟩
    case rest =>
     clear HC18
     try clear c1
     try clear c2
     try clear c2b0
     try clear c2b1
     try clear p2
     try clear c7
     try clear c13
     try clear c18
     try clear c19
     try clear p2
     obtain ⟨kq, x45_17, rfl, HA, HJ17, HO_3, HO_4, HO_5, HB⟩ := hcut
     cases kq with
     | zero => exact absurd HA.out (by simp [laws_FnStoreGet.j1])
     | succ kj17 =>
      have H := HA.out
      clear HA
      simp only [laws_FnStoreGet.j1] at H
      by_cases c20 : x45_17 = true
      ·subst c20
       have H1 : (some x9_5) = some r := by rw [if_pos rfl] at H; exact H
       clear H
       have H := H1
       clear H1
       obtain rfl := Option.some.inj H
       go_wp2
       go_ret
       exact ⟨Z17, Z1⟩
      ·replace c20 := Bool.eq_false_iff.mpr c20
       subst c20
       have H1 : ((impl_StorePut.f kj17 t459 t462 t465).bind fun bt474 => (if bt474.2 = true then ((spec_SameStore.f kj17 bt474.1 t459).bind fun t478 => (some t478)) else (some false))) = some r := by rw [if_neg (show ¬ (false = true) by decide)] at H; exact H
       clear H
       have H := H1
       clear H1
       replace H := Option.bind_eq_some_iff.mp H
       obtain ⟨⟨t474, t475⟩, A210, H⟩ := H
       replace H : (if t475 = true then ((spec_SameStore.f kj17 t474 t459).bind fun t478 => (some t478)) else (some false)) = some r := H
       have A21 := A_ A210
       clear A210
       by_cases c22 : t475 = true
       ·subst c22
        have H1 : ((spec_SameStore.f kj17 t474 t459).bind fun t478 => (some t478)) = some r := by rw [if_pos rfl] at H; exact H
        clear H
        have H := H1
        clear H1
        replace H := Option.bind_eq_some_iff.mp H
        obtain ⟨t478, A230, H⟩ := H
        replace H : (some t478) = some r := H
        have A23 := A_ A230
        clear A230
        obtain rfl := Option.some.inj H
        obtain ⟨Ao24, co24, eo24⟩ := Kd.R_slice HO_5.out
        subst eo24
        go_wp2_with (first | ((with_reducible refine gate_callee (f := 28) rfl ?_); refine goesL_ (some 51) rfl rfl Try.func28 (by kernel_rfl) rfl #[.slice Ao8 t459.length co8, .slice Ao9 t462.length co9, .slice Ao24 t465.length co24] rfl Z3 ?_; (with_reducible refine (impl_StorePut.calls kj17 _ _ t459 _ _ t462 _ _ t465 t474 true _ ?side1 ?side2 ?side3 ?side4 ?side5 ?side6 A21.out).mono ?_); (case side1 => exact Z33 HO_3.out); (case side2 => exact (Kd.N_reads' HO_3.out).2.1); (case side3 => exact Z25 HO_4.out); (case side4 => exact (Kd.R_reads' HO_4.out).2.1); (case side5 => exact Z25 HO_5.out); (case side6 => exact (Kd.R_reads' HO_5.out).2.1); rintro e w25 ⟨v476, rfl, ho0, hb⟩; refine ⟨_, rfl, ?_⟩; have n0_ := A_ (Kd.N_elder' (Z23 HO_3.out) (by first | exact Kd.N_base ho0 | exact Kd.S_base ho0) hb); have n1_ := A_ (Kd.R_below (Z13 HO_4.out) hb); have n2_ := A_ (Kd.R_below (Z13 HO_5.out) hb); have n3_ := A_ (Kd.N_lower (Kd.N_mono (ok' := fun k_ => some k_ ≠ (.slice Ao8 t459.length co8 : Value).ownBlock ∧ some k_ ≠ (.slice Ao9 t462.length co9 : Value).ownBlock ∧ some k_ ≠ (.slice Ao24 t465.length co24 : Value).ownBlock) (Kd.S_N (Kd.S_bound ho0)) (fun k_ hk_ => ⟨(Kd.fresh' (Kd.N_lt (Z23 HO_3.out)) k_ hk_.2.1), (Kd.fresh' (Kd.R_lt (Z13 HO_4.out)) k_ hk_.2.1), (Kd.fresh' (Kd.R_lt (Z13 HO_5.out)) k_ hk_.2.1)⟩)) (below_size Z1)); have n4_ := A_ (below_step Z1 hb); clear HO_3; clear HO_4; clear HO_5; clear HB; have HO_3 := n0_; have HO_4 := n1_; have HO_5 := n2_; have HO477 := n3_; have HB := n4_; clear n0_ n1_ n2_ n3_ n4_; (try clear hb); (try clear hb2); (try clear hk); (try clear hi); (try clear ho0); obtain ⟨Ao26, co26, eo26⟩ := Kd.N_slice HO477.out; subst eo26) | (go_at_call 23; (with_reducible refine (spec_SameStore.calls kj17 _ _ t474 _ _ t459 t478 _ ?side1 ?side2 ?side3 ?side4 A23.out).mono ?_); (case side1 => exact Z33 HO477.out); (case side2 => exact (Kd.N_reads' HO477.out).2.1); (case side3 => exact Z33 HO_3.out); (case side4 => exact (Kd.N_reads' HO_3.out).2.1); rintro e w' ⟨rfl, ⟨nd, rfl⟩⟩))
        go_ret
        exact ⟨Z17, Z1⟩
       ·replace c22 := Bool.eq_false_iff.mpr c22
        subst c22
        have H1 : (some false) = some r := by rw [if_neg (show ¬ (false = true) by decide)] at H; exact H
        clear H
        have H := H1
        clear H1
        obtain rfl := Option.some.inj H
        obtain ⟨Ao27, co27, eo27⟩ := Kd.R_slice HO_5.out
        subst eo27
        go_wp2_with (first | ((with_reducible refine gate_callee (f := 28) rfl ?_); refine goesL_ (some 51) rfl rfl Try.func28 (by kernel_rfl) rfl #[.slice Ao8 t459.length co8, .slice Ao9 t462.length co9, .slice Ao27 t465.length co27] rfl Z3 ?_; (with_reducible refine (impl_StorePut.calls kj17 _ _ t459 _ _ t462 _ _ t465 t474 false _ ?side1 ?side2 ?side3 ?side4 ?side5 ?side6 A21.out).mono ?_); (case side1 => exact Z33 HO_3.out); (case side2 => exact (Kd.N_reads' HO_3.out).2.1); (case side3 => exact Z25 HO_4.out); (case side4 => exact (Kd.R_reads' HO_4.out).2.1); (case side5 => exact Z25 HO_5.out); (case side6 => exact (Kd.R_reads' HO_5.out).2.1); rintro e w28 ⟨v476, rfl, ho0, hb⟩; refine ⟨_, rfl, ?_⟩; have n0_ := A_ (Kd.N_elder' (Z23 HO_3.out) (by first | exact Kd.N_base ho0 | exact Kd.S_base ho0) hb); have n1_ := A_ (Kd.R_below (Z13 HO_4.out) hb); have n2_ := A_ (Kd.R_below (Z13 HO_5.out) hb); have n3_ := A_ (Kd.N_lower (Kd.N_mono (ok' := fun k_ => some k_ ≠ (.slice Ao8 t459.length co8 : Value).ownBlock ∧ some k_ ≠ (.slice Ao9 t462.length co9 : Value).ownBlock ∧ some k_ ≠ (.slice Ao27 t465.length co27 : Value).ownBlock) (Kd.S_N (Kd.S_bound ho0)) (fun k_ hk_ => ⟨(Kd.fresh' (Kd.N_lt (Z23 HO_3.out)) k_ hk_.2.1), (Kd.fresh' (Kd.R_lt (Z13 HO_4.out)) k_ hk_.2.1), (Kd.fresh' (Kd.R_lt (Z13 HO_5.out)) k_ hk_.2.1)⟩)) (below_size Z1)); have n4_ := A_ (below_step Z1 hb); clear HO_3; clear HO_4; clear HO_5; clear HB; have HO_3 := n0_; have HO_4 := n1_; have HO_5 := n2_; have HO477 := n3_; have HB := n4_; clear n0_ n1_ n2_ n3_ n4_; (try clear hb); (try clear hb2); (try clear hk); (try clear hi); (try clear ho0)))
        go_ret
        exact ⟨Z17, Z1⟩
def laws_FnStoreGet.Pure : Prop := ∀ (l0 : List Int), l0.length ≤ maxLen → l0.length * 1 ≤ 140737488351232 → (∀ x ∈ l0, (Lit.int .u8 x).wf = true) → ∃ k, laws_FnStoreGet.f k l0 = some true
theorem laws_FnStoreGet.walk (P : laws_FnStoreGet.Pure) (a0 : Option Addr) (len0 cap0 : Nat) (z0 : List Int) (w : World) (w0 : (a0 = none ∧ len0 = 0 ∧ cap0 = 0 ∧ z0 = []) ∨ ∃ x, a0 = some x ∧ len0 ≤ cap0 ∧ cap0 ≤ maxLen ∧ z0.length = cap0 ∧ (∀ i, i < z0.length → w.cell? (x.add i) = some (.int .u8 (z0.getD i 0))) ∧ ∀ n ∈ z0, (Lit.int .u8 n).wf = true) (y0 : len0 * 1 ≤ 140737488351232) :
  Calls Try.prog 7 #[.slice a0 len0 cap0] w fun e w' => e = .returned (.bool true) ∧ Below w.heap.size w w' := by
 obtain ⟨l0, rfl, hr0, hm0, hw0, hc0⟩ := ReadsInt.ofRowC w0
 obtain ⟨k, h⟩ := P l0 hm0 y0 hw0
 refine (laws_FnStoreGet.calls k _ _ l0 true w (Kd.C_of_reads (d := (0 : Int)) (h1 := fun _ => rfl) hr0) hc0 h).mono ?_
 rintro e w' ⟨rfl, hd⟩
 exact ⟨rfl, hd⟩
end Go.Proofs.Ytheifobeaemegaa.PFnStoreGet
