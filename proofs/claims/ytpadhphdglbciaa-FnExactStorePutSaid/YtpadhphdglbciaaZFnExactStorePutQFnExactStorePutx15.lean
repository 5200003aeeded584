/- Walks of the functions that the law 'FnExactStorePut' reaches, part 15: for each a Lean function and the proof that Go's comes to just its answer (lines of the print, under own names; no condition). -/
import Derived.Test.YtpadhphdglbciaaZFnExactStorePutMFnExactStorePut
import Derived.Test.YtpadhphdglbciaaZFnExactStorePutQFnExactStorePutx0
import Derived.Test.YtpadhphdglbciaaZFnExactStorePutQFnExactStorePutx2
import Derived.Test.YtpadhphdglbciaaZFnExactStorePutQFnExactStorePutx3
import Derived.Test.YtpadhphdglbciaaZFnExactStorePutQFnExactStorePutx4
import Derived.Test.YtpadhphdglbciaaZFnExactStorePutQFnExactStorePutx5
import Derived.Test.YtpadhphdglbciaaZFnExactStorePutQFnExactStorePutx10
import Derived.Test.YtpadhphdglbciaaZFnExactStorePutQFnExactStorePutx14
namespace Go.Proofs.Ytpadhphdglbciaa.PFnExactStorePut
open Go.RowKit Go.Proofs.YtpadhphdglbciaaW.PrintWords Go.Proofs.YtpadhphdglbciaaW.PrintLast Go.Proofs.YtpadhphdglbciaaW.PrintMore
attribute [local go_sem] max2_int min2_int max_two min_two max_three min_three max_four min_four
set_option linter.unusedVariables false
set_option linter.unusedSimpArgs false
mutual
def laws_FnExactStorePut.j0 : Nat → List (S84) → List (S94) → List (S105) → List (S89) → Bool → List (S89) → List (S92) → List (S99) → List (S89) → Bool → Bool → Option (Bool)
 | 0, _, _, _, _, _, _, _, _, _, _, _ => none
 | k + 1, x0, x1, x2, x8, x9, x10, x11, x12, x13, x14, x66 => if x66 = true then (some false) else ((laws_toCellS.f k x0).bind fun t401 => ((laws_eqCellS.f k x10 t401).bind fun t404 => (if t404 = true then ((laws_toSlotS.f k x1).bind fun t405 => ((laws_eqSlotS.f k x11 t405).bind fun t408 => (if t408 = true then ((laws_toValueS.f k x2).bind fun t409 => ((laws_eqValueS.f k x12 t409).bind fun t412 => (if t412 = true then ((laws_markCellS.f k x10 1).bind fun bt413 => ((laws_markSlotS.f k x11 bt413.1).bind fun bt415 => ((laws_markValueS.f k x12 bt415.1).bind fun bt417 => (if bt417.1 < 0 then (laws_FnExactStorePut.j1 k x0 x1 x2 x8 x9 x13 true) else ((laws_eqCellS.f k x13 x8).bind fun t419 => (if t419 = true then (laws_FnExactStorePut.j1 k x0 x1 x2 x8 x9 x13 (x14 != x9)) else (laws_FnExactStorePut.j1 k x0 x1 x2 x8 x9 x13 true))))))) else (some false)))) else (some false)))) else (some false))))
def laws_FnExactStorePut.j1 : Nat → List (S84) → List (S94) → List (S105) → List (S89) → Bool → List (S89) → Bool → Option (Bool)
 | 0, _, _, _, _, _, _, _ => none
 | k + 1, x0, x1, x2, x8, x9, x13, x103 => if x103 = true then (some false) else ((laws_markCellS.f k x13 1).bind fun bt420 => ((laws_heldCellS.f k bt420.2 1).bind fun t422 => (if t422 < 0 then (some false) else (if t422 = bt420.1 then ((laws_toCellS.f k x0).bind fun t423 => ((laws_toSlotS.f k x1).bind fun t426 => ((laws_toValueS.f k x2).bind fun t429 => ((impl_StorePut.f k t423 t426 t429).bind fun bt432 => ((laws_eqCellS.f k bt432.1 x8).bind fun t436 => (if t436 = true then (laws_FnExactStorePut.j2 k bt420.2 bt420.1 (bt432.2 != x9)) else (laws_FnExactStorePut.j2 k bt420.2 bt420.1 true))))))) else (some false)))))
def laws_FnExactStorePut.j2 : Nat → List (S89) → Int → Bool → Option (Bool)
 | 0, _, _, _ => none
 | k + 1, x13, x16, x133 => if x133 = true then (some false) else ((laws_heldCellS.f k x13 1).bind fun t437 => (if t437 < 0 then (some false) else (if t437 = x16 then (some true) else (some false))))
end
def laws_FnExactStorePut.f (k : Nat) (l0 : List (S84)) (l1 : List (S94)) (l2 : List (S105)) : Option (Bool) := (laws_szCellS.f k l0 1048576).bind fun t371 => (if t371 < 0 then (some true) else ((laws_szSlotS.f l1 t371).bind fun t372 => (if t372 < 0 then (some true) else ((laws_szValueS.f k l2 t372).bind fun t373 => (if t373 < 0 then (some true) else ((laws_toCellS.f k l0).bind fun t374 => ((laws_toSlotS.f k l1).bind fun t377 => ((laws_toValueS.f k l2).bind fun t380 => ((spec_StorePut.f k t374 t377 t380).bind fun bt383 => ((laws_toCellS.f k l0).bind fun t387 => ((laws_toSlotS.f k l1).bind fun t390 => ((laws_toValueS.f k l2).bind fun t393 => ((impl_StorePut.f k t387 t390 t393).bind fun bt396 => ((laws_eqCellS.f k bt396.1 bt383.1).bind fun t400 => (if t400 = true then (laws_FnExactStorePut.j0 k l0 l1 l2 bt383.1 bt383.2 t387 t390 t393 bt396.1 bt396.2 (bt396.2 != bt383.2)) else (laws_FnExactStorePut.j0 k l0 l1 l2 bt383.1 bt383.2 t387 t390 t393 bt396.1 bt396.2 true))))))))))))))))
theorem laws_FnExactStorePut.mono_l : ∀ k, (∀ y0 y1 y2 y3 y4 y5 y6 y7 y8 y9 y10, LeO (laws_FnExactStorePut.j0 k y0 y1 y2 y3 y4 y5 y6 y7 y8 y9 y10) (laws_FnExactStorePut.j0 (k + 1) y0 y1 y2 y3 y4 y5 y6 y7 y8 y9 y10)) ∧ (∀ y0 y1 y2 y3 y4 y5 y6, LeO (laws_FnExactStorePut.j1 k y0 y1 y2 y3 y4 y5 y6) (laws_FnExactStorePut.j1 (k + 1) y0 y1 y2 y3 y4 y5 y6)) ∧ (∀ y0 y1 y2, LeO (laws_FnExactStorePut.j2 k y0 y1 y2) (laws_FnExactStorePut.j2 (k + 1) y0 y1 y2))
 | 0 => ⟨fun _ _ _ _ _ _ _ _ _ _ _ r h => by simp [laws_FnExactStorePut.j0] at h, fun _ _ _ _ _ _ _ r h => by simp [laws_FnExactStorePut.j1] at h, fun _ _ _ r h => by simp [laws_FnExactStorePut.j2] at h⟩
 | k + 1 => by
  obtain ⟨ih0, ih1, ih2⟩ := laws_FnExactStorePut.mono_l k
  refine ⟨?_, ?_, ?_⟩
  ·intro y0 y1 y2 y3 y4 y5 y6 y7 y8 y9 y10
   unfold laws_FnExactStorePut.j0
   repeat' first
   | (with_reducible exact ih0 _ _ _ _ _ _ _ _ _ _ _)
   | (with_reducible exact ih1 _ _ _ _ _ _ _)
   | (with_reducible exact ih2 _ _ _)
   | (with_reducible exact impl_StorePut.mono _ _ _ _)
   | (with_reducible exact laws_eqCellS.mono _ _ _)
   | (with_reducible exact laws_eqSlotS.mono _ _ _)
   | (with_reducible exact laws_eqValueS.mono _ _ _)
   | (with_reducible exact laws_heldCellS.mono _ _ _)
   | (with_reducible exact laws_markCellS.mono _ _ _)
   | (with_reducible exact laws_markSlotS.mono _ _ _)
   | (with_reducible exact laws_markValueS.mono _ _ _)
   | (with_reducible exact laws_szCellS.mono _ _ _)
   | (with_reducible exact laws_szValueS.mono _ _ _)
   | (with_reducible exact laws_toCellS.mono _ _)
   | (with_reducible exact laws_toSlotS.mono _ _)
   | (with_reducible exact laws_toValueS.mono _ _)
   | (with_reducible exact spec_StorePut.mono _ _ _ _)
   | (with_reducible exact LeO.refl _)
   | (with_reducible exact LeO.none _)
   | (with_reducible refine LeO.ite ?_ ?_)
   | (with_reducible refine LeO.bind ?_ (fun _ => ?_))
   | exact ih0 _ _ _ _ _ _ _ _ _ _ _
   | exact ih1 _ _ _ _ _ _ _
   | exact ih2 _ _ _
   | exact impl_StorePut.mono _ _ _ _
   | exact laws_eqCellS.mono _ _ _
   | exact laws_eqSlotS.mono _ _ _
   | exact laws_eqValueS.mono _ _ _
   | exact laws_heldCellS.mono _ _ _
   | exact laws_markCellS.mono _ _ _
   | exact laws_markSlotS.mono _ _ _
   | exact laws_markValueS.mono _ _ _
   | exact laws_szCellS.mono _ _ _
   | exact laws_szValueS.mono _ _ _
   | exact laws_toCellS.mono _ _
   | exact laws_toSlotS.mono _ _
   | exact laws_toValueS.mono _ _
   | exact spec_StorePut.mono _ _ _ _
   | exact LeO.none _
   | refine LeO.ite ?_ ?_
   | refine LeO.bind ?_ (fun _ => ?_)
  ·intro y0 y1 y2 y3 y4 y5 y6
   unfold laws_FnExactStorePut.j1
   repeat' first
   | (with_reducible exact ih0 _ _ _ _ _ _ _ _ _ _ _)
   | (with_reducible exact ih1 _ _ _ _ _ _ _)
   | (with_reducible exact ih2 _ _ _)
   | (with_reducible exact impl_StorePut.mono _ _ _ _)
   | (with_reducible exact laws_eqCellS.mono _ _ _)
   | (with_reducible exact laws_eqSlotS.mono _ _ _)
   | (with_reducible exact laws_eqValueS.mono _ _ _)
   | (with_reducible exact laws_heldCellS.mono _ _ _)
   | (with_reducible exact laws_markCellS.mono _ _ _)
   | (with_reducible exact laws_markSlotS.mono _ _ _)
   | (with_reducible exact laws_markValueS.mono _ _ _)
   | (with_reducible exact laws_szCellS.mono _ _ _)
   | (with_reducible exact laws_szValueS.mono _ _ _)
   | (with_reducible exact laws_toCellS.mono _ _)
   | (with_reducible exact laws_toSlotS.mono _ _)
   | (with_reducible exact laws_toValueS.mono _ _)
   | (with_reducible exact spec_StorePut.mono _ _ _ _)
   | (with_reducible exact LeO.refl _)
   | (with_reducible exact LeO.none _)
   | (with_reducible refine LeO.ite ?_ ?_)
   | (with_reducible refine LeO.bind ?_ (fun _ => ?_))
   | exact ih0 _ _ _ _ _ _ _ _ _ _ _
   | exact ih1 _ _ _ _ _ _ _
   | exact ih2 _ _ _
   | exact impl_StorePut.mono _ _ _ _
   | exact laws_eqCellS.mono _ _ _
   | exact laws_eqSlotS.mono _ _ _
   | exact laws_eqValueS.mono _ _ _
   | exact laws_heldCellS.mono _ _ _
   | exact laws_markCellS.mono _ _ _
   | exact laws_markSlotS.mono _ _ _
   | exact laws_markValueS.mono _ _ _
   | exact laws_szCellS.mono _ _ _
   | exact laws_szValueS.mono _ _ _
   | exact laws_toCellS.mono _ _
   | exact laws_toSlotS.mono _ _
   | exact laws_toValueS.mono _ _
   | exact spec_StorePut.mono _ _ _ _
   | exact LeO.none _
   | refine LeO.ite ?_ ?_
   | refine LeO.bind ?_ (fun _ => ?_)
  ·intro y0 y1 y2
   unfold laws_FnExactStorePut.j2
   repeat' first
   | (with_reducible exact ih0 _ _ _ _ _ _ _ _ _ _ _)
   | (with_reducible exact ih1 _ _ _ _ _ _ _)
   | (with_reducible exact ih2 _ _ _)
   | (with_reducible exact impl_StorePut.mono _ _ _ _)
   | (with_reducible exact laws_eqCellS.mono _ _ _)
   | (with_reducible exact laws_eqSlotS.mono _ _ _)
   | (with_reducible exact laws_eqValueS.mono _ _ _)
   | (with_reducible exact laws_heldCellS.mono _ _ _)
   | (with_reducible exact laws_markCellS.mono _ _ _)
   | (with_reducible exact laws_markSlotS.mono _ _ _)
   | (with_reducible exact laws_markValueS.mono _ _ _)
   | (with_reducible exact laws_szCellS.mono _ _ _)
   | (with_reducible exact laws_szValueS.mono _ _ _)
   | (with_reducible exact laws_toCellS.mono _ _)
   | (with_reducible exact laws_toSlotS.mono _ _)
   | (with_reducible exact laws_toValueS.mono _ _)
   | (with_reducible exact spec_StorePut.mono _ _ _ _)
   | (with_reducible exact LeO.refl _)
   | (with_reducible exact LeO.none _)
   | (with_reducible refine LeO.ite ?_ ?_)
   | (with_reducible refine LeO.bind ?_ (fun _ => ?_))
   | exact ih0 _ _ _ _ _ _ _ _ _ _ _
   | exact ih1 _ _ _ _ _ _ _
   | exact ih2 _ _ _
   | exact impl_StorePut.mono _ _ _ _
   | exact laws_eqCellS.mono _ _ _
   | exact laws_eqSlotS.mono _ _ _
   | exact laws_eqValueS.mono _ _ _
   | exact laws_heldCellS.mono _ _ _
   | exact laws_markCellS.mono _ _ _
   | exact laws_markSlotS.mono _ _ _
   | exact laws_markValueS.mono _ _ _
   | exact laws_szCellS.mono _ _ _
   | exact laws_szValueS.mono _ _ _
   | exact laws_toCellS.mono _ _
   | exact laws_toSlotS.mono _ _
   | exact laws_toValueS.mono _ _
   | exact spec_StorePut.mono _ _ _ _
   | exact LeO.none _
   | refine LeO.ite ?_ ?_
   | refine LeO.bind ?_ (fun _ => ?_)
theorem laws_FnExactStorePut.mono : ∀ a0 a1 a2 k, LeO (laws_FnExactStorePut.f k a0 a1 a2) (laws_FnExactStorePut.f (k + 1) a0 a1 a2) := by
 intro a0 a1 a2 k
 obtain ⟨ih0, ih1, ih2⟩ := laws_FnExactStorePut.mono_l k
 unfold laws_FnExactStorePut.f
 repeat' first
   | (with_reducible exact ih0 _ _ _ _ _ _ _ _ _ _ _)
   | (with_reducible exact ih1 _ _ _ _ _ _ _)
   | (with_reducible exact ih2 _ _ _)
   | (with_reducible exact impl_StorePut.mono _ _ _ _)
   | (with_reducible exact laws_eqCellS.mono _ _ _)
   | (with_reducible exact laws_eqSlotS.mono _ _ _)
   | (with_reducible exact laws_eqValueS.mono _ _ _)
   | (with_reducible exact laws_heldCellS.mono _ _ _)
   | (with_reducible exact laws_markCellS.mono _ _ _)
   | (with_reducible exact laws_markSlotS.mono _ _ _)
   | (with_reducible exact laws_markValueS.mono _ _ _)
   | (with_reducible exact laws_szCellS.mono _ _ _)
   | (with_reducible exact laws_szValueS.mono _ _ _)
   | (with_reducible exact laws_toCellS.mono _ _)
   | (with_reducible exact laws_toSlotS.mono _ _)
   | (with_reducible exact laws_toValueS.mono _ _)
   | (with_reducible exact spec_StorePut.mono _ _ _ _)
   | (with_reducible exact LeO.refl _)
   | (with_reducible exact LeO.none _)
   | (with_reducible refine LeO.ite ?_ ?_)
   | (with_reducible refine LeO.bind ?_ (fun _ => ?_))
   | exact ih0 _ _ _ _ _ _ _ _ _ _ _
   | exact ih1 _ _ _ _ _ _ _
   | exact ih2 _ _ _
   | exact impl_StorePut.mono _ _ _ _
   | exact laws_eqCellS.mono _ _ _
   | exact laws_eqSlotS.mono _ _ _
   | exact laws_eqValueS.mono _ _ _
   | exact laws_heldCellS.mono _ _ _
   | exact laws_markCellS.mono _ _ _
   | exact laws_markSlotS.mono _ _ _
   | exact laws_markValueS.mono _ _ _
   | exact laws_szCellS.mono _ _ _
   | exact laws_szValueS.mono _ _ _
   | exact laws_toCellS.mono _ _
   | exact laws_toSlotS.mono _ _
   | exact laws_toValueS.mono _ _
   | exact spec_StorePut.mono _ _ _ _
   | exact LeO.none _
   | refine LeO.ite ?_ ?_
   | refine LeO.bind ?_ (fun _ => ?_)
set_option maxHeartbeats 8000000 in
set_option maxRecDepth 100000 in
theorem laws_FnExactStorePut.calls (k : Nat) (A0 : Option Addr) (c0 : Nat) (l0 : List (S84)) (A1 : Option Addr) (c1 : Nat) (l1 : List (S94)) (A2 : Option Addr) (c2 : Nat) (l2 : List (S105)) (r : Bool) (w : World) (hr0 : Kd.C k84 w A0 l0.length l0) (hc0 : l0.length ≤ c0) (hr1 : Kd.C k94 w A1 l1.length l1) (hc1 : l1.length ≤ c1) (hr2 : Kd.C k105 w A2 l2.length l2) (hc2 : l2.length ≤ c2) (h : laws_FnExactStorePut.f k l0 l1 l2 = some r) :
  Calls Try.prog 6 #[.slice A0 l0.length c0, .slice A1 l1.length c1, .slice A2 l2.length c2] w fun e w' => e = .returned (.bool r) ∧ Below w.heap.size w w' := by
 have HR0 := A_ hr0
 have HC0 := A_ hc0
 clear hr0 hc0
 have HR1 := A_ hr1
 have HC1 := A_ hc1
 clear hr1 hc1
 have HR2 := A_ hr2
 have HC2 := A_ hc2
 clear hr2 hc2
 have HB := A_ (Below.refl w.heap.size w)
 have HS := A_ (Nat.le_refl w.heap.size)
 have HE := A_ (Nat.le_refl w.heap.size)
 have H : ((laws_szCellS.f k l0 1048576).bind fun t371 => (if t371 < 0 then (some true) else ((laws_szSlotS.f l1 t371).bind fun t372 => (if t372 < 0 then (some true) else ((laws_szValueS.f k l2 t372).bind fun t373 => (if t373 < 0 then (some true) else ((laws_toCellS.f k l0).bind fun t374 => ((laws_toSlotS.f k l1).bind fun t377 => ((laws_toValueS.f k l2).bind fun t380 => ((spec_StorePut.f k t374 t377 t380).bind fun bt383 => ((laws_toCellS.f k l0).bind fun t387 => ((laws_toSlotS.f k l1).bind fun t390 => ((laws_toValueS.f k l2).bind fun t393 => ((impl_StorePut.f k t387 t390 t393).bind fun bt396 => ((laws_eqCellS.f k bt396.1 bt383.1).bind fun t400 => (if t400 = true then (laws_FnExactStorePut.j0 k l0 l1 l2 bt383.1 bt383.2 t387 t390 t393 bt396.1 bt396.2 (bt396.2 != bt383.2)) else (laws_FnExactStorePut.j0 k l0 l1 l2 bt383.1 bt383.2 t387 t390 t393 bt396.1 bt396.2 true))))))))))))))))) = some r := h
 clear h
 replace H := Option.bind_eq_some_iff.mp H
 obtain ⟨t371, A40, H⟩ := H
 replace H : (if t371 < 0 then (some true) else ((laws_szSlotS.f l1 t371).bind fun t372 => (if t372 < 0 then (some true) else ((laws_szValueS.f k l2 t372).bind fun t373 => (if t373 < 0 then (some true) else ((laws_toCellS.f k l0).bind fun t374 => ((laws_toSlotS.f k l1).bind fun t377 => ((laws_toValueS.f k l2).bind fun t380 => ((spec_StorePut.f k t374 t377 t380).bind fun bt383 => ((laws_toCellS.f k l0).bind fun t387 => ((laws_toSlotS.f k l1).bind fun t390 => ((laws_toValueS.f k l2).bind fun t393 => ((impl_StorePut.f k t387 t390 t393).bind fun bt396 => ((laws_eqCellS.f k bt396.1 bt383.1).bind fun t400 => (if t400 = true then (laws_FnExactStorePut.j0 k l0 l1 l2 bt383.1 bt383.2 t387 t390 t393 bt396.1 bt396.2 (bt396.2 != bt383.2)) else (laws_FnExactStorePut.j0 k l0 l1 l2 bt383.1 bt383.2 t387 t390 t393 bt396.1 bt396.2 true)))))))))))))))) = some r := H
 have A4 := A_ A40
 clear A40
 by_cases c5 : t371 < 0
 ·rw [if_pos c5] at H
  have c5b0 : decide (t371 < 0) = true := decide_eq_true c5
  clear c5
  obtain rfl := Option.some.inj H
  go_enter Try.func6, Try.ntmps6
  go_wp2_with (first | ((with_reducible refine gate_callee (f := 18) rfl ?_); refine goesL_ (some 22) rfl rfl Try.func18 (by kernel_rfl) rfl #[.slice A0 l0.length c0, .int .i64 1048576] rfl Z5 ?_; (with_reducible refine (laws_szCellS.calls k _ _ l0 1048576 t371 _ ?side1 ?side2 A4.out).mono ?_); (case side1 => exact Z24 HR0.out); (case side2 => exact HC0.out); rintro e w6 ⟨rfl, hb⟩; refine ⟨_, rfl, ?_⟩; have n0_ := A_ (below_step Z0 hb); have ne_ := A_ (sz_below Z16 hb); clear HE; have HE := ne_; clear ne_; clear HB; have HB := n0_; clear n0_; (try clear hb); (try clear hb2); (try clear hk); (try clear hi)))
  go_ret
  exact ⟨Z14, Z0⟩
 ·rw [if_neg c5] at H
  have c5b0 : decide (t371 < 0) = false := decide_eq_false c5
  clear c5
  replace H := Option.bind_eq_some_iff.mp H
  obtain ⟨t372, A70, H⟩ := H
  replace H : (if t372 < 0 then (some true) else ((laws_szValueS.f k l2 t372).bind fun t373 => (if t373 < 0 then (some true) else ((laws_toCellS.f k l0).bind fun t374 => ((laws_toSlotS.f k l1).bind fun t377 => ((laws_toValueS.f k l2).bind fun t380 => ((spec_StorePut.f k t374 t377 t380).bind fun bt383 => ((laws_toCellS.f k l0).bind fun t387 => ((laws_toSlotS.f k l1).bind fun t390 => ((laws_toValueS.f k l2).bind fun t393 => ((impl_StorePut.f k t387 t390 t393).bind fun bt396 => ((laws_eqCellS.f k bt396.1 bt383.1).bind fun t400 => (if t400 = true then (laws_FnExactStorePut.j0 k l0 l1 l2 bt383.1 bt383.2 t387 t390 t393 bt396.1 bt396.2 (bt396.2 != bt383.2)) else (laws_FnExactStorePut.j0 k l0 l1 l2 bt383.1 bt383.2 t387 t390 t393 bt396.1 bt396.2 true)))))))))))))) = some r := H
  have A7 := A_ A70
  clear A70
  by_cases c8 : t372 < 0
  ·rw [if_pos c8] at H
   have c8b0 : decide (t372 < 0) = true := decide_eq_true c8
   clear c8
   obtain rfl := Option.some.inj H
   go_enter Try.func6, Try.ntmps6
   go_wp2_with (first | ((with_reducible refine gate_callee (f := 18) rfl ?_); refine goesL_ (some 22) rfl rfl Try.func18 (by kernel_rfl) rfl #[.slice A0 l0.length c0, .int .i64 1048576] rfl Z5 ?_; (with_reducible refine (laws_szCellS.calls k _ _ l0 1048576 t371 _ ?side1 ?side2 A4.out).mono ?_); (case side1 => exact Z24 HR0.out); (case side2 => exact HC0.out); rintro e w9 ⟨rfl, hb⟩; refine ⟨_, rfl, ?_⟩; have n0_ := A_ (below_step Z0 hb); have ne_ := A_ (sz_below Z16 hb); clear HE; have HE := ne_; clear ne_; clear HB; have HB := n0_; clear n0_; (try clear hb); (try clear hb2); (try clear hk); (try clear hi)) | ((with_reducible refine gate_callee (f := 19) rfl ?_); refine goesL_ (some 27) rfl rfl Try.func19 (by kernel_rfl) rfl #[.slice A1 l1.length c1, .int .i64 t371] rfl Z5 ?_; (with_reducible refine (laws_szSlotS.calls _ _ l1 t371 t372 _ ?side1 ?side2 A7.out).mono ?_); (case side1 => exact Z3 HR1.out); (case side2 => exact HC1.out); rintro e w' ⟨rfl, ⟨nd, rfl⟩⟩; refine ⟨_, rfl, ?_⟩))
   go_ret
   exact ⟨Z14, Z0⟩
  ·rw [if_neg c8] at H
   have c8b0 : decide (t372 < 0) = false := decide_eq_false c8
   clear c8
   replace H := Option.bind_eq_some_iff.mp H
   obtain ⟨t373, A100, H⟩ := H
   replace H : (if t373 < 0 then (some true) else ((laws_toCellS.f k l0).bind fun t374 => ((laws_toSlotS.f k l1).bind fun t377 => ((laws_toValueS.f k l2).bind fun t380 => ((spec_StorePut.f k t374 t377 t380).bind fun bt383 => ((laws_toCellS.f k l0).bind fun t387 => ((laws_toSlotS.f k l1).bind fun t390 => ((laws_toValueS.f k l2).bind fun t393 => ((impl_StorePut.f k t387 t390 t393).bind fun bt396 => ((laws_eqCellS.f k bt396.1 bt383.1).bind fun t400 => (if t400 = true then (laws_FnExactStorePut.j0 k l0 l1 l2 bt383.1 bt383.2 t387 t390 t393 bt396.1 bt396.2 (bt396.2 != bt383.2)) else (laws_FnExactStorePut.j0 k l0 l1 l2 bt383.1 bt383.2 t387 t390 t393 bt396.1 bt396.2 true)))))))))))) = some r := H
   have A10 := A_ A100
   clear A100
   by_cases c11 : t373 < 0
   ·rw [if_pos c11] at H
    have c11b0 : decide (t373 < 0) = true := decide_eq_true c11
    clear c11
    obtain rfl := Option.some.inj H
    go_enter Try.func6, Try.ntmps6
    go_wp2_with (first | ((with_reducible refine gate_callee (f := 18) rfl ?_); refine goesL_ (some 22) rfl rfl Try.func18 (by kernel_rfl) rfl #[.slice A0 l0.length c0, .int .i64 1048576] rfl Z5 ?_; (with_reducible refine (laws_szCellS.calls k _ _ l0 1048576 t371 _ ?side1 ?side2 A4.out).mono ?_); (case side1 => exact Z24 HR0.out); (case side2 => exact HC0.out); rintro e w12 ⟨rfl, hb⟩; refine ⟨_, rfl, ?_⟩; have n0_ := A_ (below_step Z0 hb); have ne_ := A_ (sz_below Z16 hb); clear HE; have HE := ne_; clear ne_; clear HB; have HB := n0_; clear n0_; (try clear hb); (try clear hb2); (try clear hk); (try clear hi)) | ((with_reducible refine gate_callee (f := 19) rfl ?_); refine goesL_ (some 27) rfl rfl Try.func19 (by kernel_rfl) rfl #[.slice A1 l1.length c1, .int .i64 t371] rfl Z5 ?_; (with_reducible refine (laws_szSlotS.calls _ _ l1 t371 t372 _ ?side1 ?side2 A7.out).mono ?_); (case side1 => exact Z3 HR1.out); (case side2 => exact HC1.out); rintro e w' ⟨rfl, ⟨nd, rfl⟩⟩; refine ⟨_, rfl, ?_⟩) | ((with_reducible refine gate_callee (f := 34) rfl ?_); refine goesL_ (some 32) rfl rfl Try.func34 (by kernel_rfl) rfl #[.slice A2 l2.length c2, .int .i64 t372] rfl Z5 ?_; (with_reducible refine (laws_szValueS.calls k _ _ l2 t372 t373 _ ?side1 ?side2 A10.out).mono ?_); (case side1 => exact Z41 HR2.out); (case side2 => exact HC2.out); rintro e w13 ⟨rfl, hb⟩; refine ⟨_, rfl, ?_⟩; have n0_ := A_ (below_step Z0 hb); have ne_ := A_ (sz_below Z16 hb); clear HE; have HE := ne_; clear ne_; clear HB; have HB := n0_; clear n0_; (try clear hb); (try clear hb2); (try clear hk); (try clear hi)))
    go_ret
    exact ⟨Z14, Z0⟩
   ·rw [if_neg c11] at H
    have c11b0 : decide (t373 < 0) = false := decide_eq_false c11
    clear c11
    replace H := Option.bind_eq_some_iff.mp H
    obtain ⟨t374, A140, H⟩ := H
    replace H : ((laws_toSlotS.f k l1).bind fun t377 => ((laws_toValueS.f k l2).bind fun t380 => ((spec_StorePut.f k t374 t377 t380).bind fun bt383 => ((laws_toCellS.f k l0).bind fun t387 => ((laws_toSlotS.f k l1).bind fun t390 => ((laws_toValueS.f k l2).bind fun t393 => ((impl_StorePut.f k t387 t390 t393).bind fun bt396 => ((laws_eqCellS.f k bt396.1 bt383.1).bind fun t400 => (if t400 = true then (laws_FnExactStorePut.j0 k l0 l1 l2 bt383.1 bt383.2 t387 t390 t393 bt396.1 bt396.2 (bt396.2 != bt383.2)) else (laws_FnExactStorePut.j0 k l0 l1 l2 bt383.1 bt383.2 t387 t390 t393 bt396.1 bt396.2 true)))))))))) = some r := H
    have A14 := A_ A140
    clear A140
    replace H := Option.bind_eq_some_iff.mp H
    obtain ⟨t377, A150, H⟩ := H
    replace H : ((laws_toValueS.f k l2).bind fun t380 => ((spec_StorePut.f k t374 t377 t380).bind fun bt383 => ((laws_toCellS.f k l0).bind fun t387 => ((laws_toSlotS.f k l1).bind fun t390 => ((laws_toValueS.f k l2).bind fun t393 => ((impl_StorePut.f k t387 t390 t393).bind fun bt396 => ((laws_eqCellS.f k bt396.1 bt383.1).bind fun t400 => (if t400 = true then (laws_FnExactStorePut.j0 k l0 l1 l2 bt383.1 bt383.2 t387 t390 t393 bt396.1 bt396.2 (bt396.2 != bt383.2)) else (laws_FnExactStorePut.j0 k l0 l1 l2 bt383.1 bt383.2 t387 t390 t393 bt396.1 bt396.2 true))))))))) = some r := H
    have A15 := A_ A150
    clear A150
    replace H := Option.bind_eq_some_iff.mp H
    obtain ⟨t380, A160, H⟩ := H
    replace H : ((spec_StorePut.f k t374 t377 t380).bind fun bt383 => ((laws_toCellS.f k l0).bind fun t387 => ((laws_toSlotS.f k l1).bind fun t390 => ((laws_toValueS.f k l2).bind fun t393 => ((impl_StorePut.f k t387 t390 t393).bind fun bt396 => ((laws_eqCellS.f k bt396.1 bt383.1).bind fun t400 => (if t400 = true then (laws_FnExactStorePut.j0 k l0 l1 l2 bt383.1 bt383.2 t387 t390 t393 bt396.1 bt396.2 (bt396.2 != bt383.2)) else (laws_FnExactStorePut.j0 k l0 l1 l2 bt383.1 bt383.2 t387 t390 t393 bt396.1 bt396.2 true)))))))) = some r := H
    have A16 := A_ A160
    clear A160
    replace H := Option.bind_eq_some_iff.mp H
    obtain ⟨⟨t383, t386⟩, A170, H⟩ := H
    replace H : ((laws_toCellS.f k l0).bind fun t387 => ((laws_toSlotS.f k l1).bind fun t390 => ((laws_toValueS.f k l2).bind fun t393 => ((impl_StorePut.f k t387 t390 t393).bind fun bt396 => ((laws_eqCellS.f k bt396.1 t383).bind fun t400 => (if t400 = true then (laws_FnExactStorePut.j0 k l0 l1 l2 t383 t386 t387 t390 t393 bt396.1 bt396.2 (bt396.2 != t386)) else (laws_FnExactStorePut.j0 k l0 l1 l2 t383 t386 t387 t390 t393 bt396.1 bt396.2 true))))))) = some r := H
    have A17 := A_ A170
    clear A170
    replace H := Option.bind_eq_some_iff.mp H
    obtain ⟨t387, A180, H⟩ := H
    replace H : ((laws_toSlotS.f k l1).bind fun t390 => ((laws_toValueS.f k l2).bind fun t393 => ((impl_StorePut.f k t387 t390 t393).bind fun bt396 => ((laws_eqCellS.f k bt396.1 t383).bind fun t400 => (if t400 = true then (laws_FnExactStorePut.j0 k l0 l1 l2 t383 t386 t387 t390 t393 bt396.1 bt396.2 (bt396.2 != t386)) else (laws_FnExactStorePut.j0 k l0 l1 l2 t383 t386 t387 t390 t393 bt396.1 bt396.2 true)))))) = some r := H
    have A18 := A_ A180
    clear A180
    replace H := Option.bind_eq_some_iff.mp H
    obtain ⟨t390, A190, H⟩ := H
    replace H : ((laws_toValueS.f k l2).bind fun t393 => ((impl_StorePut.f k t387 t390 t393).bind fun bt396 => ((laws_eqCellS.f k bt396.1 t383).bind fun t400 => (if t400 = true then (laws_FnExactStorePut.j0 k l0 l1 l2 t383 t386 t387 t390 t393 bt396.1 bt396.2 (bt396.2 != t386)) else (laws_FnExactStorePut.j0 k l0 l1 l2 t383 t386 t387 t390 t393 bt396.1 bt396.2 true))))) = some r := H
    have A19 := A_ A190
    clear A190
    replace H := Option.bind_eq_some_iff.mp H
    obtain ⟨t393, A200, H⟩ := H
    replace H : ((impl_StorePut.f k t387 t390 t393).bind fun bt396 => ((laws_eqCellS.f k bt396.1 t383).bind fun t400 => (if t400 = true then (laws_FnExactStorePut.j0 k l0 l1 l2 t383 t386 t387 t390 t393 bt396.1 bt396.2 (bt396.2 != t386)) else (laws_FnExactStorePut.j0 k l0 l1 l2 t383 t386 t387 t390 t393 bt396.1 bt396.2 true)))) = some r := H
    have A20 := A_ A200
    clear A200
    replace H := Option.bind_eq_some_iff.mp H
    obtain ⟨⟨t396, t397⟩, A210, H⟩ := H
    replace H : ((laws_eqCellS.f k t396 t383).bind fun t400 => (if t400 = true then (laws_FnExactStorePut.j0 k l0 l1 l2 t383 t386 t387 t390 t393 t396 t397 (t397 != t386)) else (laws_FnExactStorePut.j0 k l0 l1 l2 t383 t386 t387 t390 t393 t396 t397 true))) = some r := H
    have A21 := A_ A210
    clear A210
    have HC22 := A_ H
    clear H
    go_enter Try.func6, Try.ntmps6
    go_upto_region 16 with (first | ((with_reducible refine gate_callee (f := 18) rfl ?_); refine goesL_ (some 22) rfl rfl Try.func18 (by kernel_rfl) rfl #[.slice A0 l0.length c0, .int .i64 1048576] rfl Z5 ?_; (with_reducible refine (laws_szCellS.calls k _ _ l0 1048576 t371 _ ?side1 ?side2 A4.out).mono ?_); (case side1 => exact Z24 HR0.out); (case side2 => exact HC0.out); rintro e w23 ⟨rfl, hb⟩; refine ⟨_, rfl, ?_⟩; have n0_ := A_ (below_step Z0 hb); have ne_ := A_ (sz_below Z16 hb); clear HE; have HE := ne_; clear ne_; clear HB; have HB := n0_; clear n0_; (try clear hb); (try clear hb2); (try clear hk); (try clear hi)) | ((with_reducible refine gate_callee (f := 19) rfl ?_); refine goesL_ (some 27) rfl rfl Try.func19 (by kernel_rfl) rfl #[.slice A1 l1.length c1, .int .i64 t371] rfl Z5 ?_; (with_reducible refine (laws_szSlotS.calls _ _ l1 t371 t372 _ ?side1 ?side2 A7.out).mono ?_); (case side1 => exact Z3 HR1.out); (case side2 => exact HC1.out); rintro e w' ⟨rfl, ⟨nd, rfl⟩⟩; refine ⟨_, rfl, ?_⟩) | ((with_reducible refine gate_callee (f := 34) rfl ?_); refine goesL_ (some 32) rfl rfl Try.func34 (by kernel_rfl) rfl #[.slice A2 l2.length c2, .int .i64 t372] rfl Z5 ?_; (with_reducible refine (laws_szValueS.calls k _ _ l2 t372 t373 _ ?side1 ?side2 A10.out).mono ?_); (case side1 => exact Z41 HR2.out); (case side2 => exact HC2.out); rintro e w24 ⟨rfl, hb⟩; refine ⟨_, rfl, ?_⟩; have n0_ := A_ (below_step Z0 hb); have ne_ := A_ (sz_below Z16 hb); clear HE; have HE := ne_; clear ne_; clear HB; have HB := n0_; clear n0_; (try clear hb); (try clear hb2); (try clear hk); (try clear hi)) | ((with_reducible refine gate_callee (f := 21) rfl ?_); refine goesL_ (some 37) rfl rfl Try.func21 (by kernel_rfl) rfl #[.slice A0 l0.length c0] rfl Z5 ?_; (with_reducible refine (laws_toCellS.calls k _ _ l0 t374 _ ?side1 ?side2 A14.out).mono ?_); (case side1 => exact Z3 HR0.out); (case side2 => exact HC0.out); rintro e w25 ⟨v375, rfl, ho0, hb⟩; refine ⟨_, rfl, ?_⟩; obtain ⟨wa376, wb376, nw_, ns1_, ns2_, ns3_⟩ := Kd.S_win ho0 (below_size Z0) Z16 hb.size; have n0_ := A_ (nw_); have nS_ := A_ (And.intro HS.out (And.intro ns1_ ns2_)); have ne_ := A_ (ns3_); clear nw_ ns1_ ns2_ ns3_; have n1_ := A_ (below_step Z0 hb); clear HS; have HS := nS_; clear nS_; clear HE; have HE := ne_; clear ne_; clear HB; have HO376 := n0_; have HB := n1_; clear n0_ n1_; (try clear hb); (try clear hb2); (try clear hk); (try clear hi); (try clear ho0)) | ((with_reducible refine gate_callee (f := 22) rfl ?_); refine goesL_ (some 39) rfl rfl Try.func22 (by kernel_rfl) rfl #[.slice A1 l1.length c1] rfl Z5 ?_; (with_reducible refine (laws_toSlotS.calls k _ _ l1 t377 _ ?side1 ?side2 A15.out).mono ?_); (case side1 => exact Z3 HR1.out); (case side2 => exact HC1.out); rintro e w26 ⟨v378, rfl, ho0, hb⟩; refine ⟨_, rfl, ?_⟩; obtain ⟨wa379, wb379, nw_, ns1_, ns2_, ns3_⟩ := Kd.R_win ho0 (below_size Z0) Z16 hb.size; have n1_ := A_ (nw_); have nS_ := A_ (And.intro HS.out (And.intro ns1_ ns2_)); have ne_ := A_ (ns3_); clear nw_ ns1_ ns2_ ns3_; have n0_ := A_ (Kd.S_below (Z11 HO376.out) hb); have n2_ := A_ (below_step Z0 hb); clear HS; have HS := nS_; clear nS_; clear HE; have HE := ne_; clear ne_; clear HO376; clear HB; have HO376 := n0_; have HO379 := n1_; have HB := n2_; clear n0_ n1_ n2_; (try clear hb); (try clear hb2); (try clear hk); (try clear hi); (try clear ho0)) | ((with_reducible refine gate_callee (f := 36) rfl ?_); refine goesL_ (some 41) rfl rfl Try.func36 (by kernel_rfl) rfl #[.slice A2 l2.length c2] rfl Z5 ?_; (with_reducible refine (laws_toValueS.calls k _ _ l2 t380 _ ?side1 ?side2 A16.out).mono ?_); (case side1 => exact Z3 HR2.out); (case side2 => exact HC2.out); rintro e w27 ⟨v381, rfl, ho0, hb⟩; refine ⟨_, rfl, ?_⟩; obtain ⟨wa382, wb382, nw_, ns1_, ns2_, ns3_⟩ := Kd.R_win ho0 (below_size Z0) Z16 hb.size; have n2_ := A_ (nw_); have nS_ := A_ (And.intro HS.out (And.intro ns1_ ns2_)); have ne_ := A_ (ns3_); clear nw_ ns1_ ns2_ ns3_; have n0_ := A_ (Kd.S_below (Z11 HO376.out) hb); have n1_ := A_ (Kd.R_below (Z6 HO379.out) hb); have n3_ := A_ (below_step Z0 hb); clear HS; have HS := nS_; clear nS_; clear HE; have HE := ne_; clear ne_; clear HO376; clear HO379; clear HB; have HO376 := n0_; have HO379 := n1_; have HO382 := n2_; have HB := n3_; clear n0_ n1_ n2_ n3_; (try clear hb); (try clear hb2); (try clear hk); (try clear hi); (try clear ho0); obtain ⟨Ao28, co28, eo28⟩ := Kd.S_slice HO376.out; subst eo28; obtain ⟨Ao29, co29, eo29⟩ := Kd.R_slice HO379.out; subst eo29; obtain ⟨Ao30, co30, eo30⟩ := Kd.R_slice HO382.out; subst eo30) | ((with_reducible refine gate_callee (f := 35) rfl ?_); refine goesL_ (some 42) rfl rfl Try.func35 (by kernel_rfl) rfl #[.slice Ao28 t374.length co28, .slice Ao29 t377.length co29, .slice Ao30 t380.length co30] rfl Z5 ?_; (with_reducible refine (spec_StorePut.calls k _ _ t374 _ _ t377 _ _ t380 t383 t386 _ ?side1 ?side2 ?side3 ?side4 ?side5 ?side6 A17.out).mono ?_); (case side1 => exact Z19 HO376.out); (case side2 => exact (Kd.S_reads' HO376.out).2.1); (case side3 => exact Z22 HO379.out); (case side4 => exact (Kd.R_reads' HO379.out).2.1); (case side5 => exact Z22 HO382.out); (case side6 => exact (Kd.R_reads' HO382.out).2.1); rintro e w31 ⟨v384, rfl, ho0, hb⟩; refine ⟨_, rfl, ?_⟩; obtain ⟨wa385, wb385, nw_, ns1_, ns2_, ns3_⟩ := Kd.N_win ho0 (below_size Z0) Z16 hb.size; have n3_ := A_ (nw_); have nS_ := A_ (And.intro HS.out (And.intro ns1_ ns2_)); have ne_ := A_ (ns3_); clear nw_ ns1_ ns2_ ns3_; have n0_ := A_ (Kd.S_below (Z11 HO376.out) hb); have n1_ := A_ (Kd.R_below (Z6 HO379.out) hb); have n2_ := A_ (Kd.R_below (Z6 HO382.out) hb); have n4_ := A_ (below_step Z0 hb); clear HS; have HS := nS_; clear nS_; clear HE; have HE := ne_; clear ne_; clear HO376; clear HO379; clear HO382; clear HB; have HO376 := n0_; have HO379 := n1_; have HO382 := n2_; have HO385 := n3_; have HB := n4_; clear n0_ n1_ n2_ n3_ n4_; (try clear hb); (try clear hb2); (try clear hk); (try clear hi); (try clear ho0)) | ((with_reducible refine gate_callee (f := 21) rfl ?_); refine goesL_ (some 46) rfl rfl Try.func21 (by kernel_rfl) rfl #[.slice A0 l0.length c0] rfl Z5 ?_; (with_reducible refine (laws_toCellS.calls k _ _ l0 t387 _ ?side1 ?side2 A18.out).mono ?_); (case side1 => exact Z3 HR0.out); (case side2 => exact HC0.out); rintro e w32 ⟨v388, rfl, ho0, hb⟩; refine ⟨_, rfl, ?_⟩; obtain ⟨wa389, wb389, nw_, ns1_, ns2_, ns3_⟩ := Kd.S_win ho0 (below_size Z0) Z16 hb.size; have n4_ := A_ (nw_); have nS_ := A_ (And.intro HS.out (And.intro ns1_ ns2_)); have ne_ := A_ (ns3_); clear nw_ ns1_ ns2_ ns3_; have n0_ := A_ (Kd.S_below (Z11 HO376.out) hb); have n1_ := A_ (Kd.R_below (Z6 HO379.out) hb); have n2_ := A_ (Kd.R_below (Z6 HO382.out) hb); have n3_ := A_ (Kd.N_below (Z18 HO385.out) hb); have n5_ := A_ (below_step Z0 hb); clear HS; have HS := nS_; clear nS_; clear HE; have HE := ne_; clear ne_; clear HO376; clear HO379; clear HO382; clear HO385; clear HB; have HO376 := n0_; have HO379 := n1_; have HO382 := n2_; have HO385 := n3_; have HO389 := n4_; have HB := n5_; clear n0_ n1_ n2_ n3_ n4_ n5_; (try clear hb); (try clear hb2); (try clear hk); (try clear hi); (try clear ho0)) | ((with_reducible refine gate_callee (f := 22) rfl ?_); refine goesL_ (some 48) rfl rfl Try.func22 (by kernel_rfl) rfl #[.slice A1 l1.length c1] rfl Z5 ?_; (with_reducible refine (laws_toSlotS.calls k _ _ l1 t390 _ ?side1 ?side2 A19.out).mono ?_); (case side1 => exact Z3 HR1.out); (case side2 => exact HC1.out); rintro e w33 ⟨v391, rfl, ho0, hb⟩; refine ⟨_, rfl, ?_⟩; obtain ⟨wa392, wb392, nw_, ns1_, ns2_, ns3_⟩ := Kd.R_win ho0 (below_size Z0) Z16 hb.size; have n5_ := A_ (nw_); have nS_ := A_ (And.intro HS.out (And.intro ns1_ ns2_)); have ne_ := A_ (ns3_); clear nw_ ns1_ ns2_ ns3_; have n0_ := A_ (Kd.S_below (Z11 HO376.out) hb); have n1_ := A_ (Kd.R_below (Z6 HO379.out) hb); have n2_ := A_ (Kd.R_below (Z6 HO382.out) hb); have n3_ := A_ (Kd.N_below (Z18 HO385.out) hb); have n4_ := A_ (Kd.S_below (Z11 HO389.out) hb); have n6_ := A_ (below_step Z0 hb); clear HS; have HS := nS_; clear nS_; clear HE; have HE := ne_; clear ne_; clear HO376; clear HO379; clear HO382; clear HO385; clear HO389; clear HB; have HO376 := n0_; have HO379 := n1_; have HO382 := n2_; have HO385 := n3_; have HO389 := n4_; have HO392 := n5_; have HB := n6_; clear n0_ n1_ n2_ n3_ n4_ n5_ n6_; (try clear hb); (try clear hb2); (try clear hk); (try clear hi); (try clear ho0)) | ((with_reducible refine gate_callee (f := 36) rfl ?_); refine goesL_ (some 50) rfl rfl Try.func36 (by kernel_rfl) rfl #[.slice A2 l2.length c2] rfl Z5 ?_; (with_reducible refine (laws_toValueS.calls k _ _ l2 t393 _ ?side1 ?side2 A20.out).mono ?_); (case side1 => exact Z3 HR2.out); (case side2 => exact HC2.out); rintro e w34 ⟨v394, rfl, ho0, hb⟩; refine ⟨_, rfl, ?_⟩; obtain ⟨wa395, wb395, nw_, ns1_, ns2_, ns3_⟩ := Kd.R_win ho0 (below_size Z0) Z16 hb.size; have n6_ := A_ (nw_); have nS_ := A_ (And.intro HS.out (And.intro ns1_ ns2_)); have ne_ := A_ (ns3_); clear nw_ ns1_ ns2_ ns3_; have n0_ := A_ (Kd.S_below (Z11 HO376.out) hb); have n1_ := A_ (Kd.R_below (Z6 HO379.out) hb); have n2_ := A_ (Kd.R_below (Z6 HO382.out) hb); have n3_ := A_ (Kd.N_below (Z18 HO385.out) hb); have n4_ := A_ (Kd.S_below (Z11 HO389.out) hb); have n5_ := A_ (Kd.R_below (Z6 HO392.out) hb); have n7_ := A_ (below_step Z0 hb); clear HS; have HS := nS_; clear nS_; clear HE; have HE := ne_; clear ne_; clear HO376; clear HO379; clear HO382; clear HO385; clear HO389; clear HO392; clear HB; have HO376 := n0_; have HO379 := n1_; have HO382 := n2_; have HO385 := n3_; have HO389 := n4_; have HO392 := n5_; have HO395 := n6_; have HB := n7_; clear n0_ n1_ n2_ n3_ n4_ n5_ n6_ n7_; (try clear hb); (try clear hb2); (try clear hk); (try clear hi); (try clear ho0); obtain ⟨Ao35, co35, eo35⟩ := Kd.S_slice HO389.out; subst eo35; obtain ⟨Ao36, co36, eo36⟩ := Kd.R_slice HO392.out; subst eo36; obtain ⟨Ao37, co37, eo37⟩ := Kd.R_slice HO395.out; subst eo37) | ((with_reducible refine gate_callee (f := 37) rfl ?_); refine goesL_ (some 55) rfl rfl Try.func37 (by kernel_rfl) rfl #[.slice Ao35 t387.length co35, .slice Ao36 t390.length co36, .slice Ao37 t393.length co37] rfl Z5 ?_; (with_reducible refine (impl_StorePut.calls k _ _ t387 _ _ t390 _ _ t393 t396 t397 _ ?side1 ?side2 ?side3 ?side4 ?side5 ?side6 A21.out).mono ?_); (case side1 => exact Z19 HO389.out); (case side2 => exact (Kd.S_reads' HO389.out).2.1); (case side3 => exact Z22 HO392.out); (case side4 => exact (Kd.R_reads' HO392.out).2.1); (case side5 => exact Z22 HO395.out); (case side6 => exact (Kd.R_reads' HO395.out).2.1); rintro e w38 ⟨v398, rfl, ho0, hb⟩; refine ⟨_, rfl, ?_⟩; obtain ⟨wa399, wb399, nw_, ns1_, ns2_, ns3_⟩ := Kd.S_win ho0 (below_size Z0) Z16 hb.size; have n7_ := A_ (nw_); have nS_ := A_ (And.intro HS.out (And.intro ns1_ ns2_)); have ne_ := A_ (ns3_); clear nw_ ns1_ ns2_ ns3_; have n0_ := A_ (Kd.S_below (Z11 HO376.out) hb); have n1_ := A_ (Kd.R_below (Z6 HO379.out) hb); have n2_ := A_ (Kd.R_below (Z6 HO382.out) hb); have n3_ := A_ (Kd.N_below (Z18 HO385.out) hb); have n4_ := A_ (Kd.S_below (Z11 HO389.out) hb); have n5_ := A_ (Kd.R_below (Z6 HO392.out) hb); have n6_ := A_ (Kd.R_below (Z6 HO395.out) hb); have n8_ := A_ (below_step Z0 hb); clear HS; have HS := nS_; clear nS_; clear HE; have HE := ne_; clear ne_; clear HO376; clear HO379; clear HO382; clear HO385; clear HO389; clear HO392; clear HO395; clear HB; have HO376 := n0_; have HO379 := n1_; have HO382 := n2_; have HO385 := n3_; have HO389 := n4_; have HO392 := n5_; have HO395 := n6_; have HO399 := n7_; have HB := n8_; clear n0_ n1_ n2_ n3_ n4_ n5_ n6_ n7_ n8_; (try clear hb); (try clear hb2); (try clear hk); (try clear hi); (try clear ho0)))
    (try simp only [Act.put, List.setIfInBounds_toArray, List.set_cons_zero, List.set_cons_succ])
    go_cut [66] (fun v66 wc => ∃ (kq : Nat) (x66_21 : Bool) (wa_8 wb_8 wa_10 wb_10 wa_11 wb_11 wa_12 wb_12 wa_13 wb_13 : Nat), v66 = .bool x66_21 ∧ Aside0 (laws_FnExactStorePut.j0 kq l0 l1 l2 t383 t386 t387 t390 t393 t396 t397 x66_21 = some r) ∧ Aside0 (kq ≤ k) ∧ Aside0 (Kd.N k89 89 wc w.heap.size (Win wa_8 wb_8) v384 t383) ∧ Aside0 (Kd.S k89 89 wc w.heap.size (Win wa_10 wb_10) (.slice Ao35 t387.length co35) t387) ∧ Aside0 (Kd.R k92 92 wc w.heap.size (Win wa_11 wb_11) (.slice Ao36 t390.length co36) t390) ∧ Aside0 (Kd.R k99 99 wc w.heap.size (Win wa_12 wb_12) (.slice Ao37 t393.length co37) t393) ∧ Aside0 (Kd.S k89 89 wc w.heap.size (Win wa_13 wb_13) v398 t396) ∧ Aside0 (Below w.heap.size w wc) ∧ Aside0 (w.heap.size ≤ wa_8 ∧ wa_8 ≤ wb_8 ∧ wa_10 ≤ wb_10 ∧ wa_11 ≤ wb_11 ∧ wa_12 ≤ wb_12 ∧ wa_13 ≤ wb_13 ∧ wb_8 ≤ wa_10 ∧ wb_10 ≤ wa_11 ∧ wb_11 ≤ wa_12 ∧ wb_12 ≤ wa_13) ∧ Aside0 (wb_13 ≤ wc.heap.size))
    case first =>
     have H := HC22.out
     clear HC22
     replace H := Option.bind_eq_some_iff.mp H
     obtain ⟨t400, A390, H⟩ := H
     replace H : (if t400 = true then (laws_FnExactStorePut.j0 k l0 l1 l2 t383 t386 t387 t390 t393 t396 t397 (t397 != t386)) else (laws_FnExactStorePut.j0 k l0 l1 l2 t383 t386 t387 t390 t393 t396 t397 true)) = some r := H
     have A39 := A_ A390
     clear A390
     by_cases c40 : t400 = true
     ·subst c40
      have H1 : (laws_FnExactStorePut.j0 k l0 l1 l2 t383 t386 t387 t390 t393 t396 t397 (t397 != t386)) = some r := by rw [if_pos rfl] at H; exact H
      clear H
      have H := H1
      clear H1
      have H' := A_ H
      clear H
      obtain ⟨Ao41, co41, eo41⟩ := Kd.S_slice HO399.out
      subst eo41
      obtain ⟨Ao42, co42, eo42⟩ := Kd.N_slice HO385.out
      subst eo42
      go_wp2_with (first | ((with_reducible refine gate_callee (f := 25) rfl ?_); refine goesL_ (some 60) rfl rfl Try.func25 (by kernel_rfl) rfl #[.slice Ao41 t396.length co41, .slice Ao42 t383.length co42] rfl Z5 ?_; (with_reducible refine (laws_eqCellS.calls k _ _ t396 _ _ t383 true _ ?side1 ?side2 ?side3 ?side4 A39.out).mono ?_); (case side1 => exact Z19 HO399.out); (case side2 => exact (Kd.S_reads' HO399.out).2.1); (case side3 => exact Z33 HO385.out); (case side4 => exact (Kd.N_reads' HO385.out).2.1); rintro e w43 ⟨rfl, hb⟩; refine ⟨_, rfl, ?_⟩; have n0_ := A_ (Kd.S_below (Z11 HO376.out) hb); have n1_ := A_ (Kd.R_below (Z6 HO379.out) hb); have n2_ := A_ (Kd.R_below (Z6 HO382.out) hb); have n3_ := A_ (Kd.N_below (Z18 HO385.out) hb); have n4_ := A_ (Kd.S_below (Z11 HO389.out) hb); have n5_ := A_ (Kd.R_below (Z6 HO392.out) hb); have n6_ := A_ (Kd.R_below (Z6 HO395.out) hb); have n7_ := A_ (Kd.S_below (Z11 HO399.out) hb); have n8_ := A_ (below_step Z0 hb); have ne_ := A_ (sz_below Z16 hb); clear HE; have HE := ne_; clear ne_; clear HO376; clear HO379; clear HO382; clear HO385; clear HO389; clear HO392; clear HO395; clear HO399; clear HB; have HO376 := n0_; have HO379 := n1_; have HO382 := n2_; have HO385 := n3_; have HO389 := n4_; have HO392 := n5_; have HO395 := n6_; have HO399 := n7_; have HB := n8_; clear n0_ n1_ n2_ n3_ n4_ n5_ n6_ n7_ n8_; (try clear hb); (try clear hb2); (try clear hk); (try clear hi)))
      go_meet
      case rel => exact ⟨_, ((t397 != t386)), wa385, wb385, wa389, wb389, wa392, wb392, wa395, wb395, wa399, wb399, Z17, H', ⟨by first | omega | exact Nat.le_refl _⟩, ⟨Z18 HO385.out⟩, ⟨Z11 HO389.out⟩, ⟨Z6 HO392.out⟩, ⟨Z6 HO395.out⟩, ⟨Z11 HO399.out⟩, ⟨Z0⟩, ⟨by have hs_ := HS.out; omega⟩, ⟨by have hs_ := HS.out; refine Nat.le_trans ?_ Z16; omega⟩⟩
     ·replace c40 := Bool.eq_false_iff.mpr c40
      subst c40
      have H1 : (laws_FnExactStorePut.j0 k l0 l1 l2 t383 t386 t387 t390 t393 t396 t397 true) = some r := by rw [if_neg (show ¬ (false = true) by decide)] at H; exact H
      clear H
      have H := H1
      clear H1
      have H' := A_ H
      clear H
      obtain ⟨Ao44, co44, eo44⟩ := Kd.S_slice HO399.out
      subst eo44
      obtain ⟨Ao45, co45, eo45⟩ := Kd.N_slice HO385.out
      subst eo45
      go_wp2_with (first | ((with_reducible refine gate_callee (f := 25) rfl ?_); refine goesL_ (some 60) rfl rfl Try.func25 (by kernel_rfl) rfl #[.slice Ao44 t396.length co44, .slice Ao45 t383.length co45] rfl Z5 ?_; (with_reducible refine (laws_eqCellS.calls k _ _ t396 _ _ t383 false _ ?side1 ?side2 ?side3 ?side4 A39.out).mono ?_); (case side1 => exact Z19 HO399.out); (case side2 => exact (Kd.S_reads' HO399.out).2.1); (case side3 => exact Z33 HO385.out); (case side4 => exact (Kd.N_reads' HO385.out).2.1); rintro e w46 ⟨rfl, hb⟩; refine ⟨_, rfl, ?_⟩; have n0_ := A_ (Kd.S_below (Z11 HO376.out) hb); have n1_ := A_ (Kd.R_below (Z6 HO379.out) hb); have n2_ := A_ (Kd.R_below (Z6 HO382.out) hb); have n3_ := A_ (Kd.N_below (Z18 HO385.out) hb); have n4_ := A_ (Kd.S_below (Z11 HO389.out) hb); have n5_ := A_ (Kd.R_below (Z6 HO392.out) hb); have n6_ := A_ (Kd.R_below (Z6 HO395.out) hb); have n7_ := A_ (Kd.S_below (Z11 HO399.out) hb); have n8_ := A_ (below_step Z0 hb); have ne_ := A_ (sz_below Z16 hb); clear HE; have HE := ne_; clear ne_; clear HO376; clear HO379; clear HO382; clear HO385; clear HO389; clear HO392; clear HO395; clear HO399; clear HB; have HO376 := n0_; have HO379 := n1_; have HO382 := n2_; have HO385 := n3_; have HO389 := n4_; have HO392 := n5_; have HO395 := n6_; have HO399 := n7_; have HB := n8_; clear n0_ n1_ n2_ n3_ n4_ n5_ n6_ n7_ n8_; (try clear hb); (try clear hb2); (try clear hk); (try clear hi)))
      go_meet
      case rel => exact ⟨_, (true), wa385, wb385, wa389, wb389, wa392, wb392, wa395, wb395, wa399, wb399, Z17, H', ⟨by first | omega | exact Nat.le_refl _⟩, ⟨Z18 HO385.out⟩, ⟨Z11 HO389.out⟩, ⟨Z6 HO392.out⟩, ⟨Z6 HO395.out⟩, ⟨Z11 HO399.out⟩, ⟨Z0⟩, ⟨by have hs_ := HS.out; omega⟩, ⟨by have hs_ := HS.out; refine Nat.le_trans ?_ Z16; omega⟩⟩
    case rest =>
     clear HC22
     try clear c1
     try clear c2
     try clear p2
     try clear c3
     try clear c4
     try clear c5
     try clear c5b0
     try clear c6
     try clear c8
     try clear c8b0
     try clear c11
     try clear c11b0
     try clear c18
     try clear c19
     try clear c21
     try clear c22
     try clear c25
     try clear c34
     try clear c35
     try clear c36
     try clear c37
     try clear c40
     obtain ⟨kq, x66_21, wa_8, wb_8, wa_10, wb_10, wa_11, wb_11, wa_12, wb_12, wa_13, wb_13, rfl, HA, HJ21, HO_8, HO_10, HO_11, HO_12, HO_13, HB, HS, HE⟩ := hcut
     cases kq with
     | zero => exact absurd HA.out (by simp [laws_FnExactStorePut.j0])
     | succ kj21 =>
      have H := HA.out
      clear HA
      simp only [laws_FnExactStorePut.j0] at H
      by_cases c47 : x66_21 = true
      ·subst c47
       have H1 : (some false) = some r := by rw [if_pos rfl] at H; exact H
       clear H
       have H := H1
       clear H1
       obtain rfl := Option.some.inj H
       go_wp2
       go_ret
       exact ⟨Z14, Z0⟩
      ·replace c47 := Bool.eq_false_iff.mpr c47
       subst c47
       have H1 : ((laws_toCellS.f kj21 l0).bind fun t401 => ((laws_eqCellS.f kj21 t387 t401).bind fun t404 => (if t404 = true then ((laws_toSlotS.f kj21 l1).bind fun t405 => ((laws_eqSlotS.f kj21 t390 t405).bind fun t408 => (if t408 = true then ((laws_toValueS.f kj21 l2).bind fun t409 => ((laws_eqValueS.f kj21 t393 t409).bind fun t412 => (if t412 = true then ((laws_markCellS.f kj21 t387 1).bind fun bt413 => ((laws_markSlotS.f kj21 t390 bt413.1).bind fun bt415 => ((laws_markValueS.f kj21 t393 bt415.1).bind fun bt417 => (if bt417.1 < 0 then (laws_FnExactStorePut.j1 kj21 l0 l1 l2 t383 t386 t396 true) else ((laws_eqCellS.f kj21 t396 t383).bind fun t419 => (if t419 = true then (laws_FnExactStorePut.j1 kj21 l0 l1 l2 t383 t386 t396 (t397 != t386)) else (laws_FnExactStorePut.j1 kj21 l0 l1 l2 t383 t386 t396 true))))))) else (some false)))) else (some false)))) else (some false)))) = some r := by rw [if_neg (show ¬ (false = true) by decide)] at H; exact H
       clear H
       have H := H1
       clear H1
       replace H := Option.bind_eq_some_iff.mp H
       obtain ⟨t401, A480, H⟩ := H
       replace H : ((laws_eqCellS.f kj21 t387 t401).bind fun t404 => (if t404 = true then ((laws_toSlotS.f kj21 l1).bind fun t405 => ((laws_eqSlotS.f kj21 t390 t405).bind fun t408 => (if t408 = true then ((laws_toValueS.f kj21 l2).bind fun t409 => ((laws_eqValueS.f kj21 t393 t409).bind fun t412 => (if t412 = true then ((laws_markCellS.f kj21 t387 1).bind fun bt413 => ((laws_markSlotS.f kj21 t390 bt413.1).bind fun bt415 => ((laws_markValueS.f kj21 t393 bt415.1).bind fun bt417 => (if bt417.1 < 0 then (laws_FnExactStorePut.j1 kj21 l0 l1 l2 t383 t386 t396 true) else ((laws_eqCellS.f kj21 t396 t383).bind fun t419 => (if t419 = true then (laws_FnExactStorePut.j1 kj21 l0 l1 l2 t383 t386 t396 (t397 != t386)) else (laws_FnExactStorePut.j1 kj21 l0 l1 l2 t383 t386 t396 true))))))) else (some false)))) else (some false)))) else (some false))) = some r := H
       have A48 := A_ A480
       clear A480
       replace H := Option.bind_eq_some_iff.mp H
       obtain ⟨t404, A490, H⟩ := H
       replace H : (if t404 = true then ((laws_toSlotS.f kj21 l1).bind fun t405 => ((laws_eqSlotS.f kj21 t390 t405).bind fun t408 => (if t408 = true then ((laws_toValueS.f kj21 l2).bind fun t409 => ((laws_eqValueS.f kj21 t393 t409).bind fun t412 => (if t412 = true then ((laws_markCellS.f kj21 t387 1).bind fun bt413 => ((laws_markSlotS.f kj21 t390 bt413.1).bind fun bt415 => ((laws_markValueS.f kj21 t393 bt415.1).bind fun bt417 => (if bt417.1 < 0 then (laws_FnExactStorePut.j1 kj21 l0 l1 l2 t383 t386 t396 true) else ((laws_eqCellS.f kj21 t396 t383).bind fun t419 => (if t419 = true then (laws_FnExactStorePut.j1 kj21 l0 l1 l2 t383 t386 t396 (t397 != t386)) else (laws_FnExactStorePut.j1 kj21 l0 l1 l2 t383 t386 t396 true))))))) else (some false)))) else (some false)))) else (some false)) = some r := H
       have A49 := A_ A490
       clear A490
       by_cases c50 : t404 = true
       ·subst c50
        have H1 : ((laws_toSlotS.f kj21 l1).bind fun t405 => ((laws_eqSlotS.f kj21 t390 t405).bind fun t408 => (if t408 = true then ((laws_toValueS.f kj21 l2).bind fun t409 => ((laws_eqValueS.f kj21 t393 t409).bind fun t412 => (if t412 = true then ((laws_markCellS.f kj21 t387 1).bind fun bt413 => ((laws_markSlotS.f kj21 t390 bt413.1).bind fun bt415 => ((laws_markValueS.f kj21 t393 bt415.1).bind fun bt417 => (if bt417.1 < 0 then (laws_FnExactStorePut.j1 kj21 l0 l1 l2 t383 t386 t396 true) else ((laws_eqCellS.f kj21 t396 t383).bind fun t419 => (if t419 = true then (laws_FnExactStorePut.j1 kj21 l0 l1 l2 t383 t386 t396 (t397 != t386)) else (laws_FnExactStorePut.j1 kj21 l0 l1 l2 t383 t386 t396 true))))))) else (some false)))) else (some false)))) = some r := by rw [if_pos rfl] at H; exact H
        clear H
        have H := H1
        clear H1
        replace H := Option.bind_eq_some_iff.mp H
        obtain ⟨t405, A510, H⟩ := H
        replace H : ((laws_eqSlotS.f kj21 t390 t405).bind fun t408 => (if t408 = true then ((laws_toValueS.f kj21 l2).bind fun t409 => ((laws_eqValueS.f kj21 t393 t409).bind fun t412 => (if t412 = true then ((laws_markCellS.f kj21 t387 1).bind fun bt413 => ((laws_markSlotS.f kj21 t390 bt413.1).bind fun bt415 => ((laws_markValueS.f kj21 t393 bt415.1).bind fun bt417 => (if bt417.1 < 0 then (laws_FnExactStorePut.j1 kj21 l0 l1 l2 t383 t386 t396 true) else ((laws_eqCellS.f kj21 t396 t383).bind fun t419 => (if t419 = true then (laws_FnExactStorePut.j1 kj21 l0 l1 l2 t383 t386 t396 (t397 != t386)) else (laws_FnExactStorePut.j1 kj21 l0 l1 l2 t383 t386 t396 true))))))) else (some false)))) else (some false))) = some r := H
        have A51 := A_ A510
        clear A510
        replace H := Option.bind_eq_some_iff.mp H
        obtain ⟨t408, A520, H⟩ := H
        replace H : (if t408 = true then ((laws_toValueS.f kj21 l2).bind fun t409 => ((laws_eqValueS.f kj21 t393 t409).bind fun t412 => (if t412 = true then ((laws_markCellS.f kj21 t387 1).bind fun bt413 => ((laws_markSlotS.f kj21 t390 bt413.1).bind fun bt415 => ((laws_markValueS.f kj21 t393 bt415.1).bind fun bt417 => (if bt417.1 < 0 then (laws_FnExactStorePut.j1 kj21 l0 l1 l2 t383 t386 t396 true) else ((laws_eqCellS.f kj21 t396 t383).bind fun t419 => (if t419 = true then (laws_FnExactStorePut.j1 kj21 l0 l1 l2 t383 t386 t396 (t397 != t386)) else (laws_FnExactStorePut.j1 kj21 l0 l1 l2 t383 t386 t396 true))))))) else (some false)))) else (some false)) = some r := H
        have A52 := A_ A520
        clear A520
        by_cases c53 : t408 = true
        ·subst c53
         have H1 : ((laws_toValueS.f kj21 l2).bind fun t409 => ((laws_eqValueS.f kj21 t393 t409).bind fun t412 => (if t412 = true then ((laws_markCellS.f kj21 t387 1).bind fun bt413 => ((laws_markSlotS.f kj21 t390 bt413.1).bind fun bt415 => ((laws_markValueS.f kj21 t393 bt415.1).bind fun bt417 => (if bt417.1 < 0 then (laws_FnExactStorePut.j1 kj21 l0 l1 l2 t383 t386 t396 true) else ((laws_eqCellS.f kj21 t396 t383).bind fun t419 => (if t419 = true then (laws_FnExactStorePut.j1 kj21 l0 l1 l2 t383 t386 t396 (t397 != t386)) else (laws_FnExactStorePut.j1 kj21 l0 l1 l2 t383 t386 t396 true))))))) else (some false)))) = some r := by rw [if_pos rfl] at H; exact H
         clear H
         have H := H1
         clear H1
         replace H := Option.bind_eq_some_iff.mp H
         obtain ⟨t409, A540, H⟩ := H
         replace H : ((laws_eqValueS.f kj21 t393 t409).bind fun t412 => (if t412 = true then ((laws_markCellS.f kj21 t387 1).bind fun bt413 => ((laws_markSlotS.f kj21 t390 bt413.1).bind fun bt415 => ((laws_markValueS.f kj21 t393 bt415.1).bind fun bt417 => (if bt417.1 < 0 then (laws_FnExactStorePut.j1 kj21 l0 l1 l2 t383 t386 t396 true) else ((laws_eqCellS.f kj21 t396 t383).bind fun t419 => (if t419 = true then (laws_FnExactStorePut.j1 kj21 l0 l1 l2 t383 t386 t396 (t397 != t386)) else (laws_FnExactStorePut.j1 kj21 l0 l1 l2 t383 t386 t396 true))))))) else (some false))) = some r := H
         have A54 := A_ A540
         clear A540
         replace H := Option.bind_eq_some_iff.mp H
         obtain ⟨t412, A550, H⟩ := H
         replace H : (if t412 = true then ((laws_markCellS.f kj21 t387 1).bind fun bt413 => ((laws_markSlotS.f kj21 t390 bt413.1).bind fun bt415 => ((laws_markValueS.f kj21 t393 bt415.1).bind fun bt417 => (if bt417.1 < 0 then (laws_FnExactStorePut.j1 kj21 l0 l1 l2 t383 t386 t396 true) else ((laws_eqCellS.f kj21 t396 t383).bind fun t419 => (if t419 = true then (laws_FnExactStorePut.j1 kj21 l0 l1 l2 t383 t386 t396 (t397 != t386)) else (laws_FnExactStorePut.j1 kj21 l0 l1 l2 t383 t386 t396 true))))))) else (some false)) = some r := H
         have A55 := A_ A550
         clear A550
         by_cases c56 : t412 = true
         ·subst c56
          have H1 : ((laws_markCellS.f kj21 t387 1).bind fun bt413 => ((laws_markSlotS.f kj21 t390 bt413.1).bind fun bt415 => ((laws_markValueS.f kj21 t393 bt415.1).bind fun bt417 => (if bt417.1 < 0 then (laws_FnExactStorePut.j1 kj21 l0 l1 l2 t383 t386 t396 true) else ((laws_eqCellS.f kj21 t396 t383).bind fun t419 => (if t419 = true then (laws_FnExactStorePut.j1 kj21 l0 l1 l2 t383 t386 t396 (t397 != t386)) else (laws_FnExactStorePut.j1 kj21 l0 l1 l2 t383 t386 t396 true))))))) = some r := by rw [if_pos rfl] at H; exact H
          clear H
          have H := H1
          clear H1
          replace H := Option.bind_eq_some_iff.mp H
          obtain ⟨⟨t413, t414⟩, A570, H⟩ := H
          replace H : ((laws_markSlotS.f kj21 t390 t413).bind fun bt415 => ((laws_markValueS.f kj21 t393 bt415.1).bind fun bt417 => (if bt417.1 < 0 then (laws_FnExactStorePut.j1 kj21 l0 l1 l2 t383 t386 t396 true) else ((laws_eqCellS.f kj21 t396 t383).bind fun t419 => (if t419 = true then (laws_FnExactStorePut.j1 kj21 l0 l1 l2 t383 t386 t396 (t397 != t386)) else (laws_FnExactStorePut.j1 kj21 l0 l1 l2 t383 t386 t396 true)))))) = some r := H
          have A57 := A_ A570
          clear A570
          replace H := Option.bind_eq_some_iff.mp H
          obtain ⟨⟨t415, t416⟩, A580, H⟩ := H
          replace H : ((laws_markValueS.f kj21 t393 t415).bind fun bt417 => (if bt417.1 < 0 then (laws_FnExactStorePut.j1 kj21 l0 l1 l2 t383 t386 t396 true) else ((laws_eqCellS.f kj21 t396 t383).bind fun t419 => (if t419 = true then (laws_FnExactStorePut.j1 kj21 l0 l1 l2 t383 t386 t396 (t397 != t386)) else (laws_FnExactStorePut.j1 kj21 l0 l1 l2 t383 t386 t396 true))))) = some r := H
          have A58 := A_ A580
          clear A580
          replace H := Option.bind_eq_some_iff.mp H
          obtain ⟨⟨t417, t418⟩, A590, H⟩ := H
          replace H : (if t417 < 0 then (laws_FnExactStorePut.j1 kj21 l0 l1 l2 t383 t386 t396 true) else ((laws_eqCellS.f kj21 t396 t383).bind fun t419 => (if t419 = true then (laws_FnExactStorePut.j1 kj21 l0 l1 l2 t383 t386 t396 (t397 != t386)) else (laws_FnExactStorePut.j1 kj21 l0 l1 l2 t383 t386 t396 true)))) = some r := H
          have A59 := A_ A590
          clear A590
          have HC60 := A_ H
          clear H
          go_upto_region 28 with (first | ((with_reducible refine gate_callee (f := 21) rfl ?_); refine goesL_ (some 69) rfl rfl Try.func21 (by kernel_rfl) rfl #[.slice A0 l0.length c0] rfl Z5 ?_; (with_reducible refine (laws_toCellS.calls kj21 _ _ l0 t401 _ ?side1 ?side2 A48.out).mono ?_); (case side1 => exact Z3 HR0.out); (case side2 => exact HC0.out); rintro e w61 ⟨v402, rfl, ho0, hb⟩; refine ⟨_, rfl, ?_⟩; obtain ⟨wa403, wb403, nw_, ns1_, ns2_, ns3_⟩ := Kd.S_win ho0 (below_size Z0) Z16 hb.size; have n5_ := A_ (nw_); have nS_ := A_ (And.intro HS.out (And.intro ns1_ ns2_)); have ne_ := A_ (ns3_); clear nw_ ns1_ ns2_ ns3_; have n0_ := A_ (Kd.N_below (Z18 HO_8.out) hb); have n1_ := A_ (Kd.S_below (Z11 HO_10.out) hb); have n2_ := A_ (Kd.R_below (Z6 HO_11.out) hb); have n3_ := A_ (Kd.R_below (Z6 HO_12.out) hb); have n4_ := A_ (Kd.S_below (Z11 HO_13.out) hb); have n6_ := A_ (below_step Z0 hb); clear HS; have HS := nS_; clear nS_; clear HE; have HE := ne_; clear ne_; clear HO_8; clear HO_10; clear HO_11; clear HO_12; clear HO_13; clear HB; have HO_8 := n0_; have HO_10 := n1_; have HO_11 := n2_; have HO_12 := n3_; have HO_13 := n4_; have HO403 := n5_; have HB := n6_; clear n0_ n1_ n2_ n3_ n4_ n5_ n6_; (try clear hb); (try clear hb2); (try clear hk); (try clear hi); (try clear ho0); obtain ⟨Ao62, co62, eo62⟩ := Kd.S_slice HO403.out; subst eo62) | ((with_reducible refine gate_callee (f := 25) rfl ?_); refine goesL_ (some 70) rfl rfl Try.func25 (by kernel_rfl) rfl #[.slice Ao35 t387.length co35, .slice Ao62 t401.length co62] rfl Z5 ?_; (with_reducible refine (laws_eqCellS.calls kj21 _ _ t387 _ _ t401 true _ ?side1 ?side2 ?side3 ?side4 A49.out).mono ?_); (case side1 => exact Z19 HO_10.out); (case side2 => exact (Kd.S_reads' HO_10.out).2.1); (case side3 => exact Z19 HO403.out); (case side4 => exact (Kd.S_reads' HO403.out).2.1); rintro e w63 ⟨rfl, hb⟩; refine ⟨_, rfl, ?_⟩; have n0_ := A_ (Kd.N_below (Z18 HO_8.out) hb); have n1_ := A_ (Kd.S_below (Z11 HO_10.out) hb); have n2_ := A_ (Kd.R_below (Z6 HO_11.out) hb); have n3_ := A_ (Kd.R_below (Z6 HO_12.out) hb); have n4_ := A_ (Kd.S_below (Z11 HO_13.out) hb); have n5_ := A_ (Kd.S_below (Z11 HO403.out) hb); have n6_ := A_ (below_step Z0 hb); have ne_ := A_ (sz_below Z16 hb); clear HE; have HE := ne_; clear ne_; clear HO_8; clear HO_10; clear HO_11; clear HO_12; clear HO_13; clear HO403; clear HB; have HO_8 := n0_; have HO_10 := n1_; have HO_11 := n2_; have HO_12 := n3_; have HO_13 := n4_; have HO403 := n5_; have HB := n6_; clear n0_ n1_ n2_ n3_ n4_ n5_ n6_; (try clear hb); (try clear hb2); (try clear hk); (try clear hi)) | ((with_reducible refine gate_callee (f := 22) rfl ?_); refine goesL_ (some 74) rfl rfl Try.func22 (by kernel_rfl) rfl #[.slice A1 l1.length c1] rfl Z5 ?_; (with_reducible refine (laws_toSlotS.calls kj21 _ _ l1 t405 _ ?side1 ?side2 A51.out).mono ?_); (case side1 => exact Z3 HR1.out); (case side2 => exact HC1.out); rintro e w64 ⟨v406, rfl, ho0, hb⟩; refine ⟨_, rfl, ?_⟩; obtain ⟨wa407, wb407, nw_, ns1_, ns2_, ns3_⟩ := Kd.R_win ho0 (below_size Z0) Z16 hb.size; have n6_ := A_ (nw_); have nS_ := A_ (And.intro HS.out (And.intro ns1_ ns2_)); have ne_ := A_ (ns3_); clear nw_ ns1_ ns2_ ns3_; have n0_ := A_ (Kd.N_below (Z18 HO_8.out) hb); have n1_ := A_ (Kd.S_below (Z11 HO_10.out) hb); have n2_ := A_ (Kd.R_below (Z6 HO_11.out) hb); have n3_ := A_ (Kd.R_below (Z6 HO_12.out) hb); have n4_ := A_ (Kd.S_below (Z11 HO_13.out) hb); have n5_ := A_ (Kd.S_below (Z11 HO403.out) hb); have n7_ := A_ (below_step Z0 hb); clear HS; have HS := nS_; clear nS_; clear HE; have HE := ne_; clear ne_; clear HO_8; clear HO_10; clear HO_11; clear HO_12; clear HO_13; clear HO403; clear HB; have HO_8 := n0_; have HO_10 := n1_; have HO_11 := n2_; have HO_12 := n3_; have HO_13 := n4_; have HO403 := n5_; have HO407 := n6_; have HB := n7_; clear n0_ n1_ n2_ n3_ n4_ n5_ n6_ n7_; (try clear hb); (try clear hb2); (try clear hk); (try clear hi); (try clear ho0); obtain ⟨Ao65, co65, eo65⟩ := Kd.R_slice HO407.out; subst eo65) | ((with_reducible refine gate_callee (f := 26) rfl ?_); refine goesL_ (some 75) rfl rfl Try.func26 (by kernel_rfl) rfl #[.slice Ao36 t390.length co36, .slice Ao65 t405.length co65] rfl Z5 ?_; (with_reducible refine (laws_eqSlotS.calls kj21 _ _ t390 _ _ t405 true _ ?side1 ?side2 ?side3 ?side4 A52.out).mono ?_); (case side1 => exact Z22 HO_11.out); (case side2 => exact (Kd.R_reads' HO_11.out).2.1); (case side3 => exact Z22 HO407.out); (case side4 => exact (Kd.R_reads' HO407.out).2.1); rintro e w66 ⟨rfl, hb⟩; refine ⟨_, rfl, ?_⟩; have n0_ := A_ (Kd.N_below (Z18 HO_8.out) hb); have n1_ := A_ (Kd.S_below (Z11 HO_10.out) hb); have n2_ := A_ (Kd.R_below (Z6 HO_11.out) hb); have n3_ := A_ (Kd.R_below (Z6 HO_12.out) hb); have n4_ := A_ (Kd.S_below (Z11 HO_13.out) hb); have n5_ := A_ (Kd.S_below (Z11 HO403.out) hb); have n6_ := A_ (Kd.R_below (Z6 HO407.out) hb); have n7_ := A_ (below_step Z0 hb); have ne_ := A_ (sz_below Z16 hb); clear HE; have HE := ne_; clear ne_; clear HO_8; clear HO_10; clear HO_11; clear HO_12; clear HO_13; clear HO403; clear HO407; clear HB; have HO_8 := n0_; have HO_10 := n1_; have HO_11 := n2_; have HO_12 := n3_; have HO_13 := n4_; have HO403 := n5_; have HO407 := n6_; have HB := n7_; clear n0_ n1_ n2_ n3_ n4_ n5_ n6_ n7_; (try clear hb); (try clear hb2); (try clear hk); (try clear hi)) | ((with_reducible refine gate_callee (f := 36) rfl ?_); refine goesL_ (some 79) rfl rfl Try.func36 (by kernel_rfl) rfl #[.slice A2 l2.length c2] rfl Z5 ?_; (with_reducible refine (laws_toValueS.calls kj21 _ _ l2 t409 _ ?side1 ?side2 A54.out).mono ?_); (case side1 => exact Z3 HR2.out); (case side2 => exact HC2.out); rintro e w67 ⟨v410, rfl, ho0, hb⟩; refine ⟨_, rfl, ?_⟩; obtain ⟨wa411, wb411, nw_, ns1_, ns2_, ns3_⟩ := Kd.R_win ho0 (below_size Z0) Z16 hb.size; have n7_ := A_ (nw_); have nS_ := A_ (And.intro HS.out (And.intro ns1_ ns2_)); have ne_ := A_ (ns3_); clear nw_ ns1_ ns2_ ns3_; have n0_ := A_ (Kd.N_below (Z18 HO_8.out) hb); have n1_ := A_ (Kd.S_below (Z11 HO_10.out) hb); have n2_ := A_ (Kd.R_below (Z6 HO_11.out) hb); have n3_ := A_ (Kd.R_below (Z6 HO_12.out) hb); have n4_ := A_ (Kd.S_below (Z11 HO_13.out) hb); have n5_ := A_ (Kd.S_below (Z11 HO403.out) hb); have n6_ := A_ (Kd.R_below (Z6 HO407.out) hb); have n8_ := A_ (below_step Z0 hb); clear HS; have HS := nS_; clear nS_; clear HE; have HE := ne_; clear ne_; clear HO_8; clear HO_10; clear HO_11; clear HO_12; clear HO_13; clear HO403; clear HO407; clear HB; have HO_8 := n0_; have HO_10 := n1_; have HO_11 := n2_; have HO_12 := n3_; have HO_13 := n4_; have HO403 := n5_; have HO407 := n6_; have HO411 := n7_; have HB := n8_; clear n0_ n1_ n2_ n3_ n4_ n5_ n6_ n7_ n8_; (try clear hb); (try clear hb2); (try clear hk); (try clear hi); (try clear ho0); obtain ⟨Ao68, co68, eo68⟩ := Kd.R_slice HO411.out; subst eo68) | ((with_reducible refine gate_callee (f := 24) rfl ?_); refine goesL_ (some 80) rfl rfl Try.func24 (by kernel_rfl) rfl #[.slice Ao37 t393.length co37, .slice Ao68 t409.length co68] rfl Z5 ?_; (with_reducible refine (laws_eqValueS.calls kj21 _ _ t393 _ _ t409 true _ ?side1 ?side2 ?side3 ?side4 A55.out).mono ?_); (case side1 => exact Z22 HO_12.out); (case side2 => exact (Kd.R_reads' HO_12.out).2.1); (case side3 => exact Z22 HO411.out); (case side4 => exact (Kd.R_reads' HO411.out).2.1); rintro e w69 ⟨rfl, hb⟩; refine ⟨_, rfl, ?_⟩; have n0_ := A_ (Kd.N_below (Z18 HO_8.out) hb); have n1_ := A_ (Kd.S_below (Z11 HO_10.out) hb); have n2_ := A_ (Kd.R_below (Z6 HO_11.out) hb); have n3_ := A_ (Kd.R_below (Z6 HO_12.out) hb); have n4_ := A_ (Kd.S_below (Z11 HO_13.out) hb); have n5_ := A_ (Kd.S_below (Z11 HO403.out) hb); have n6_ := A_ (Kd.R_below (Z6 HO407.out) hb); have n7_ := A_ (Kd.R_below (Z6 HO411.out) hb); have n8_ := A_ (below_step Z0 hb); have ne_ := A_ (sz_below Z16 hb); clear HE; have HE := ne_; clear ne_; clear HO_8; clear HO_10; clear HO_11; clear HO_12; clear HO_13; clear HO403; clear HO407; clear HO411; clear HB; have HO_8 := n0_; have HO_10 := n1_; have HO_11 := n2_; have HO_12 := n3_; have HO_13 := n4_; have HO403 := n5_; have HO407 := n6_; have HO411 := n7_; have HB := n8_; clear n0_ n1_ n2_ n3_ n4_ n5_ n6_ n7_ n8_; (try clear hb); (try clear hb2); (try clear hk); (try clear hi)) | ((with_reducible refine gate_callee (f := 27) rfl ?_); refine goesL_ (some 84) rfl rfl Try.func27 (by kernel_rfl) rfl #[.slice Ao35 t387.length co35, .int .i64 1] rfl Z5 ?_; (with_reducible refine (laws_markCellS.calls kj21 (Win wa_10 wb_10) (.slice Ao35 t387.length co35) t387 1 t413 t414 w _ ?side1 ?side2 A57.out).mono ?_); (case side1 => exact Z0); (case side2 => exact (Z11 HO_10.out)); rintro e w70 ⟨rfl, hy0, hb, hkp⟩; refine ⟨_, rfl, ?_⟩; have hs_ := HS.out; have n0_ := A_ (Kd.N_winK (Z18 HO_8.out) hkp (by omega)); have n1_ := A_ (hy0); have n2_ := A_ (Kd.R_winK (Z6 HO_11.out) hkp (by omega)); have n3_ := A_ (Kd.R_winK (Z6 HO_12.out) hkp (by omega)); have n4_ := A_ (Kd.S_winK (Z11 HO_13.out) hkp (by omega)); have n5_ := A_ (Kd.S_winK (Z11 HO403.out) hkp (by omega)); have n6_ := A_ (Kd.R_winK (Z6 HO407.out) hkp (by omega)); have n7_ := A_ (Kd.R_winK (Z6 HO411.out) hkp (by omega)); have n8_ := A_ (hb); have ne_ := A_ (sz_kept Z16 hkp); clear hs_; clear HE; have HE := ne_; clear ne_; clear HO_8; clear HO_10; clear HO_11; clear HO_12; clear HO_13; clear HO403; clear HO407; clear HO411; clear HB; have HO_8 := n0_; have HO_10 := n1_; have HO_11 := n2_; have HO_12 := n3_; have HO_13 := n4_; have HO403 := n5_; have HO407 := n6_; have HO411 := n7_; have HB := n8_; clear n0_ n1_ n2_ n3_ n4_ n5_ n6_ n7_ n8_; (try clear hb); (try clear hkp); (try clear hy0)) | ((with_reducible refine gate_callee (f := 28) rfl ?_); refine goesL_ (some 87) rfl rfl Try.func28 (by kernel_rfl) rfl #[.slice Ao36 t390.length co36, .int .i64 t413] rfl Z5 ?_; (with_reducible refine (laws_markSlotS.calls kj21 (Win wa_11 wb_11) (.slice Ao36 t390.length co36) t390 t413 t415 t416 w _ ?side1 ?side2 A58.out).mono ?_); (case side1 => exact Z0); (case side2 => exact (Z6 HO_11.out)); rintro e w71 ⟨rfl, hy0, hb, hkp⟩; refine ⟨_, rfl, ?_⟩; have hs_ := HS.out; have n0_ := A_ (Kd.N_winK (Z18 HO_8.out) hkp (by omega)); have n1_ := A_ (Kd.S_winK (Z11 HO_10.out) hkp (by omega)); have n2_ := A_ (Kd.R_reok rfl hy0 (fun k_ e_ => HO_11.out.1 k_ e_)); have n3_ := A_ (Kd.R_winK (Z6 HO_12.out) hkp (by omega)); have n4_ := A_ (Kd.S_winK (Z11 HO_13.out) hkp (by omega)); have n5_ := A_ (Kd.S_winK (Z11 HO403.out) hkp (by omega)); have n6_ := A_ (Kd.R_winK (Z6 HO407.out) hkp (by omega)); have n7_ := A_ (Kd.R_winK (Z6 HO411.out) hkp (by omega)); have n8_ := A_ (hb); have ne_ := A_ (sz_kept Z16 hkp); clear hs_; clear HE; have HE := ne_; clear ne_; clear HO_8; clear HO_10; clear HO_11; clear HO_12; clear HO_13; clear HO403; clear HO407; clear HO411; clear HB; have HO_8 := n0_; have HO_10 := n1_; have HO_11 := n2_; have HO_12 := n3_; have HO_13 := n4_; have HO403 := n5_; have HO407 := n6_; have HO411 := n7_; have HB := n8_; clear n0_ n1_ n2_ n3_ n4_ n5_ n6_ n7_ n8_; (try clear hb); (try clear hkp); (try clear hy0)) | ((with_reducible refine gate_callee (f := 29) rfl ?_); refine goesL_ (some 90) rfl rfl Try.func29 (by kernel_rfl) rfl #[.slice Ao37 t393.length co37, .int .i64 t415] rfl Z5 ?_; (with_reducible refine (laws_markValueS.calls kj21 (Win wa_12 wb_12) (.slice Ao37 t393.length co37) t393 t415 t417 t418 w _ ?side1 ?side2 A59.out).mono ?_); (case side1 => exact Z0); (case side2 => exact (Z6 HO_12.out)); rintro e w72 ⟨rfl, hy0, hb, hkp⟩; refine ⟨_, rfl, ?_⟩; have hs_ := HS.out; have n0_ := A_ (Kd.N_winK (Z18 HO_8.out) hkp (by omega)); have n1_ := A_ (Kd.S_winK (Z11 HO_10.out) hkp (by omega)); have n2_ := A_ (Kd.R_winK (Z6 HO_11.out) hkp (by omega)); have n3_ := A_ (Kd.R_reok rfl hy0 (fun k_ e_ => HO_12.out.1 k_ e_)); have n4_ := A_ (Kd.S_winK (Z11 HO_13.out) hkp (by omega)); have n5_ := A_ (Kd.S_winK (Z11 HO403.out) hkp (by omega)); have n6_ := A_ (Kd.R_winK (Z6 HO407.out) hkp (by omega)); have n7_ := A_ (Kd.R_winK (Z6 HO411.out) hkp (by omega)); have n8_ := A_ (hb); have ne_ := A_ (sz_kept Z16 hkp); clear hs_; clear HE; have HE := ne_; clear ne_; clear HO_8; clear HO_10; clear HO_11; clear HO_12; clear HO_13; clear HO403; clear HO407; clear HO411; clear HB; have HO_8 := n0_; have HO_10 := n1_; have HO_11 := n2_; have HO_12 := n3_; have HO_13 := n4_; have HO403 := n5_; have HO407 := n6_; have HO411 := n7_; have HB := n8_; clear n0_ n1_ n2_ n3_ n4_ n5_ n6_ n7_ n8_; (try clear hb); (try clear hkp); (try clear hy0)))
          (try simp only [Act.put, List.setIfInBounds_toArray, List.set_cons_zero, List.set_cons_succ])
          go_cut [103] (fun v103 wc => ∃ (kq : Nat) (x103_59 : Bool) (wa_8 wb_8 wa_13 wb_13 : Nat), v103 = .bool x103_59 ∧ Aside0 (laws_FnExactStorePut.j1 kq l0 l1 l2 t383 t386 t396 x103_59 = some r) ∧ Aside0 (kq ≤ kj21) ∧ Aside0 (Kd.N k89 89 wc w.heap.size (Win wa_8 wb_8) v384 t383) ∧ Aside0 (Kd.S k89 89 wc w.heap.size (Win wa_13 wb_13) v398 t396) ∧ Aside0 (Below w.heap.size w wc) ∧ Aside0 (w.heap.size ≤ wa_8 ∧ wa_8 ≤ wb_8 ∧ wa_13 ≤ wb_13 ∧ wb_8 ≤ wa_13) ∧ Aside0 (wb_13 ≤ wc.heap.size))
          case first =>
           have H := HC60.out
           clear HC60
           by_cases c73 : t417 < 0
           ·rw [if_pos c73] at H
            have c73b0 : decide (t417 < 0) = true := decide_eq_true c73
            clear c73
            (first | rw [c73b0] | (simp only [i64_w, i32_w]; rw [c73b0]) | skip)
            have H' := A_ H
            clear H
            go_wp2
            go_meet
            case rel => exact ⟨_, (true), wa_8, wb_8, wa_13, wb_13, Z17, H', ⟨by have := HJ21.out; first | omega | exact Nat.le_refl _⟩, ⟨Z18 HO_8.out⟩, ⟨Z11 HO_13.out⟩, ⟨Z0⟩, ⟨by have hs_ := HS.out; omega⟩, ⟨by have hs_ := HS.out; refine Nat.le_trans ?_ Z16; omega⟩⟩
           ·rw [if_neg c73] at H
            have c73b0 : decide (t417 < 0) = false := decide_eq_false c73
            clear c73
            (first | rw [c73b0] | (simp only [i64_w, i32_w]; rw [c73b0]) | skip)
            replace H := Option.bind_eq_some_iff.mp H
            obtain ⟨t419, A740, H⟩ := H
            replace H : (if t419 = true then (laws_FnExactStorePut.j1 kj21 l0 l1 l2 t383 t386 t396 (t397 != t386)) else (laws_FnExactStorePut.j1 kj21 l0 l1 l2 t383 t386 t396 true)) = some r := H
            have A74 := A_ A740
            clear A740
            by_cases c75 : t419 = true
            ·subst c75
             have H1 : (laws_FnExactStorePut.j1 kj21 l0 l1 l2 t383 t386 t396 (t397 != t386)) = some r := by rw [if_pos rfl] at H; exact H
             clear H
             have H := H1
             clear H1
             have H' := A_ H
             clear H
             obtain ⟨Ao76, co76, eo76⟩ := Kd.S_slice HO_13.out
             subst eo76
             obtain ⟨Ao77, co77, eo77⟩ := Kd.N_slice HO_8.out
             subst eo77
             go_wp2_with (first | (go_at_call 25; (with_reducible refine (laws_eqCellS.calls kj21 _ _ t396 _ _ t383 true _ ?side1 ?side2 ?side3 ?side4 A74.out).mono ?_); (case side1 => exact Z19 HO_13.out); (case side2 => exact (Kd.S_reads' HO_13.out).2.1); (case side3 => exact Z33 HO_8.out); (case side4 => exact (Kd.N_reads' HO_8.out).2.1); rintro e w78 ⟨rfl, hb⟩; have n0_ := A_ (Kd.N_below (Z18 HO_8.out) hb); have n1_ := A_ (Kd.S_below (Z11 HO_10.out) hb); have n2_ := A_ (Kd.R_below (Z6 HO_11.out) hb); have n3_ := A_ (Kd.R_below (Z6 HO_12.out) hb); have n4_ := A_ (Kd.S_below (Z11 HO_13.out) hb); have n5_ := A_ (Kd.S_below (Z11 HO403.out) hb); have n6_ := A_ (Kd.R_below (Z6 HO407.out) hb); have n7_ := A_ (Kd.R_below (Z6 HO411.out) hb); have n8_ := A_ (below_step Z0 hb); have ne_ := A_ (sz_below Z16 hb); clear HE; have HE := ne_; clear ne_; clear HO_8; clear HO_10; clear HO_11; clear HO_12; clear HO_13; clear HO403; clear HO407; clear HO411; clear HB; have HO_8 := n0_; have HO_10 := n1_; have HO_11 := n2_; have HO_12 := n3_; have HO_13 := n4_; have HO403 := n5_; have HO407 := n6_; have HO411 := n7_; have HB := n8_; clear n0_ n1_ n2_ n3_ n4_ n5_ n6_ n7_ n8_; (try clear hb); (try clear hb2); (try clear hk); (try clear hi)))
             go_meet
             case rel => exact ⟨_, ((t397 != t386)), wa_8, wb_8, wa_13, wb_13, Z17, H', ⟨by have := HJ21.out; first | omega | exact Nat.le_refl _⟩, ⟨Z18 HO_8.out⟩, ⟨Z11 HO_13.out⟩, ⟨Z0⟩, ⟨by have hs_ := HS.out; omega⟩, ⟨by have hs_ := HS.out; refine Nat.le_trans ?_ Z16; omega⟩⟩
            ·replace c75 := Bool.eq_false_iff.mpr c75
             subst c75
             have H1 : (laws_FnExactStorePut.j1 kj21 l0 l1 l2 t383 t386 t396 true) = some r := by rw [if_neg (show ¬ (false = true) by decide)] at H; exact H
             clear H
             have H := H1
             clear H1
             have H' := A_ H
             clear H
             obtain ⟨Ao79, co79, eo79⟩ := Kd.S_slice HO_13.out
             subst eo79
             obtain ⟨Ao80, co80, eo80⟩ := Kd.N_slice HO_8.out
             subst eo80
             go_wp2_with (first | (go_at_call 25; (with_reducible refine (laws_eqCellS.calls kj21 _ _ t396 _ _ t383 false _ ?side1 ?side2 ?side3 ?side4 A74.out).mono ?_); (case side1 => exact Z19 HO_13.out); (case side2 => exact (Kd.S_reads' HO_13.out).2.1); (case side3 => exact Z33 HO_8.out); (case side4 => exact (Kd.N_reads' HO_8.out).2.1); rintro e w81 ⟨rfl, hb⟩; have n0_ := A_ (Kd.N_below (Z18 HO_8.out) hb); have n1_ := A_ (Kd.S_below (Z11 HO_10.out) hb); have n2_ := A_ (Kd.R_below (Z6 HO_11.out) hb); have n3_ := A_ (Kd.R_below (Z6 HO_12.out) hb); have n4_ := A_ (Kd.S_below (Z11 HO_13.out) hb); have n5_ := A_ (Kd.S_below (Z11 HO403.out) hb); have n6_ := A_ (Kd.R_below (Z6 HO407.out) hb); have n7_ := A_ (Kd.R_below (Z6 HO411.out) hb); have n8_ := A_ (below_step Z0 hb); have ne_ := A_ (sz_below Z16 hb); clear HE; have HE := ne_; clear ne_; clear HO_8; clear HO_10; clear HO_11; clear HO_12; clear HO_13; clear HO403; clear HO407; clear HO411; clear HB; have HO_8 := n0_; have HO_10 := n1_; have HO_11 := n2_; have HO_12 := n3_; have HO_13 := n4_; have HO403 := n5_; have HO407 := n6_; have HO411 := n7_; have HB := n8_; clear n0_ n1_ n2_ n3_ n4_ n5_ n6_ n7_ n8_; (try clear hb); (try clear hb2); (try clear hk); (try clear hi)))
             go_meet
             case rel => exact ⟨_, (true), wa_8, wb_8, wa_13, wb_13, Z17, H', ⟨by have := HJ21.out; first | omega | exact Nat.le_refl _⟩, ⟨Z18 HO_8.out⟩, ⟨Z11 HO_13.out⟩, ⟨Z0⟩, ⟨by have hs_ := HS.out; omega⟩, ⟨by have hs_ := HS.out; refine Nat.le_trans ?_ Z16; omega⟩⟩
          case rest =>
           clear HC60
           try clear c1
           try clear c2
           try clear p2
           try clear c3
           try clear c4
           try clear c5
           try clear c5b0
           try clear c6
           try clear c7
           try clear c8
           try clear c8b0
           try clear c11
           try clear c11b0
           try clear c18
           try clear c19
           try clear c21
           try clear c22
           try clear c24
           try clear c25
           try clear c26
           try clear c27
           try clear c28
           try clear c29
           try clear c34
           try clear c35
           try clear c36
           try clear c37
           try clear c40
           try clear c47
           try clear c50
           try clear c53
           try clear c56
           try clear c73
           try clear c73b0
           try clear c75
           try clear p2
           obtain ⟨kq, x103_59, wa_8, wb_8, wa_13, wb_13, rfl, HA, HJ59, HO_8, HO_13, HB, HS, HE⟩ := hcut
           cases kq with
           | zero => exact absurd HA.out (by simp [laws_FnExactStorePut.j1])
           | succ kj59 =>
            have H := HA.out
            clear HA
            simp only [laws_FnExactStorePut.j1] at H
            by_cases c82 : x103_59 = true
            ·subst c82
             have H1 : (some false) = some r := by rw [if_pos rfl] at H; exact H
             clear H
             have H := H1
             clear H1
             obtain rfl := Option.some.inj H
             go_wp2
             go_ret
             exact ⟨Z14, Z0⟩
            ·replace c82 := Bool.eq_false_iff.mpr c82
             subst c82
             have H1 : ((laws_markCellS.f kj59 t396 1).bind fun bt420 => ((laws_heldCellS.f kj59 bt420.2 1).bind fun t422 => (if t422 < 0 then (some false) else (if t422 = bt420.1 then ((laws_toCellS.f kj59 l0).bind fun t423 => ((laws_toSlotS.f kj59 l1).bind fun t426 => ((laws_toValueS.f kj59 l2).bind fun t429 => ((impl_StorePut.f kj59 t423 t426 t429).bind fun bt432 => ((laws_eqCellS.f kj59 bt432.1 t383).bind fun t436 => (if t436 = true then (laws_FnExactStorePut.j2 kj59 bt420.2 bt420.1 (bt432.2 != t386)) else (laws_FnExactStorePut.j2 kj59 bt420.2 bt420.1 true))))))) else (some false))))) = some r := by rw [if_neg (show ¬ (false = true) by decide)] at H; exact H
             clear H
             have H := H1
             clear H1
             replace H := Option.bind_eq_some_iff.mp H
             obtain ⟨⟨t420, t421⟩, A830, H⟩ := H
             replace H : ((laws_heldCellS.f kj59 t421 1).bind fun t422 => (if t422 < 0 then (some false) else (if t422 = t420 then ((laws_toCellS.f kj59 l0).bind fun t423 => ((laws_toSlotS.f kj59 l1).bind fun t426 => ((laws_toValueS.f kj59 l2).bind fun t429 => ((impl_StorePut.f kj59 t423 t426 t429).bind fun bt432 => ((laws_eqCellS.f kj59 bt432.1 t383).bind fun t436 => (if t436 = true then (laws_FnExactStorePut.j2 kj59 t421 t420 (bt432.2 != t386)) else (laws_FnExactStorePut.j2 kj59 t421 t420 true))))))) else (some false)))) = some r := H
             have A83 := A_ A830
             clear A830
             replace H := Option.bind_eq_some_iff.mp H
             obtain ⟨t422, A840, H⟩ := H
             replace H : (if t422 < 0 then (some false) else (if t422 = t420 then ((laws_toCellS.f kj59 l0).bind fun t423 => ((laws_toSlotS.f kj59 l1).bind fun t426 => ((laws_toValueS.f kj59 l2).bind fun t429 => ((impl_StorePut.f kj59 t423 t426 t429).bind fun bt432 => ((laws_eqCellS.f kj59 bt432.1 t383).bind fun t436 => (if t436 = true then (laws_FnExactStorePut.j2 kj59 t421 t420 (bt432.2 != t386)) else (laws_FnExactStorePut.j2 kj59 t421 t420 true))))))) else (some false))) = some r := H
             have A84 := A_ A840
             clear A840
             by_cases c85 : t422 < 0
             ·rw [if_pos c85] at H
              have c85b0 : decide (t422 < 0) = true := decide_eq_true c85
              clear c85
              obtain rfl := Option.some.inj H
              obtain ⟨Ao86, co86, eo86⟩ := Kd.S_slice HO_13.out
              subst eo86
              go_wp2_with (first | ((with_reducible refine gate_callee (f := 27) rfl ?_); refine goesL_ (some 106) rfl rfl Try.func27 (by kernel_rfl) rfl #[.slice Ao86 t396.length co86, .int .i64 1] rfl Z5 ?_; (with_reducible refine (laws_markCellS.calls kj59 (Win wa_13 wb_13) (.slice Ao86 t396.length co86) t396 1 t420 t421 w _ ?side1 ?side2 A83.out).mono ?_); (case side1 => exact Z0); (case side2 => exact (Z11 HO_13.out)); rintro e w87 ⟨rfl, hy0, hb, hkp⟩; refine ⟨_, rfl, ?_⟩; have hs_ := HS.out; have n0_ := A_ (Kd.N_winK (Z18 HO_8.out) hkp (by omega)); have n1_ := A_ (hy0); have n2_ := A_ (hb); have ne_ := A_ (sz_kept Z16 hkp); clear hs_; clear HE; have HE := ne_; clear ne_; clear HO_8; clear HO_13; clear HB; have HO_8 := n0_; have HO_13 := n1_; have HB := n2_; clear n0_ n1_ n2_; (try clear hb); (try clear hkp); (try clear hy0)) | ((with_reducible refine gate_callee (f := 33) rfl ?_); refine goesL_ (some 109) rfl rfl Try.func33 (by kernel_rfl) rfl #[.slice Ao86 t421.length co86, .int .i64 1] rfl (by (try simp only [List.map_toArray, List.map_cons, List.map_nil]); first | done | (rw [show t421.length = t396.length from (Kd.S_reads' HO_13.out).1.symm] <;> rfl) | rfl | (simp only [List.length_drop, List.length_take]; rfl)) ?_; (with_reducible refine (laws_heldCellS.calls kj59 _ _ t421 1 t422 _ ?side1 ?side2 A84.out).mono ?_); (case side1 => exact Z19 HO_13.out); (case side2 => rw [show t421.length = t396.length from (Kd.S_reads' HO_13.out).1.symm]; exact (Kd.S_reads' HO_13.out).2.1); rintro e w88 ⟨rfl, hb⟩; refine ⟨_, rfl, ?_⟩; have n0_ := A_ (Kd.N_below (Z18 HO_8.out) hb); have n1_ := A_ (Kd.S_below (Z11 HO_13.out) hb); have n2_ := A_ (below_step Z0 hb); have ne_ := A_ (sz_below Z16 hb); clear HE; have HE := ne_; clear ne_; clear HO_8; clear HO_13; clear HB; have HO_8 := n0_; have HO_13 := n1_; have HB := n2_; clear n0_ n1_ n2_; (try clear hb); (try clear hb2); (try clear hk); (try clear hi)))
              go_ret
              exact ⟨Z14, Z0⟩
             ·rw [if_neg c85] at H
              have c85b0 : decide (t422 < 0) = false := decide_eq_false c85
              clear c85
              by_cases c89 : t422 = t420
              ·rw [if_pos c89] at H
               have c89b0 : (t422 == t420) = true := beq_iff_eq.mpr c89
               have c89b1 : (t422 != t420) = false := bne_eq_false_iff_eq.mpr c89
               clear c89
               replace H := Option.bind_eq_some_iff.mp H
               obtain ⟨t423, A900, H⟩ := H
               replace H : ((laws_toSlotS.f kj59 l1).bind fun t426 => ((laws_toValueS.f kj59 l2).bind fun t429 => ((impl_StorePut.f kj59 t423 t426 t429).bind fun bt432 => ((laws_eqCellS.f kj59 bt432.1 t383).bind fun t436 => (if t436 = true then (laws_FnExactStorePut.j2 kj59 t421 t420 (bt432.2 != t386)) else (laws_FnExactStorePut.j2 kj59 t421 t420 true)))))) = some r := H
               have A90 := A_ A900
               clear A900
               replace H := Option.bind_eq_some_iff.mp H
               obtain ⟨t426, A910, H⟩ := H
               replace H : ((laws_toValueS.f kj59 l2).bind fun t429 => ((impl_StorePut.f kj59 t423 t426 t429).bind fun bt432 => ((laws_eqCellS.f kj59 bt432.1 t383).bind fun t436 => (if t436 = true then (laws_FnExactStorePut.j2 kj59 t421 t420 (bt432.2 != t386)) else (laws_FnExactStorePut.j2 kj59 t421 t420 true))))) = some r := H
               have A91 := A_ A910
               clear A910
               replace H := Option.bind_eq_some_iff.mp H
               obtain ⟨t429, A920, H⟩ := H
               replace H : ((impl_StorePut.f kj59 t423 t426 t429).bind fun bt432 => ((laws_eqCellS.f kj59 bt432.1 t383).bind fun t436 => (if t436 = true then (laws_FnExactStorePut.j2 kj59 t421 t420 (bt432.2 != t386)) else (laws_FnExactStorePut.j2 kj59 t421 t420 true)))) = some r := H
               have A92 := A_ A920
               clear A920
               replace H := Option.bind_eq_some_iff.mp H
               obtain ⟨⟨t432, t433⟩, A930, H⟩ := H
               replace H : ((laws_eqCellS.f kj59 t432 t383).bind fun t436 => (if t436 = true then (laws_FnExactStorePut.j2 kj59 t421 t420 (t433 != t386)) else (laws_FnExactStorePut.j2 kj59 t421 t420 true))) = some r := H
               have A93 := A_ A930
               clear A930
               have HC94 := A_ H
               clear H
               obtain ⟨Ao95, co95, eo95⟩ := Kd.S_slice HO_13.out
               subst eo95
               go_upto_region 39 with (first | ((with_reducible refine gate_callee (f := 27) rfl ?_); refine goesL_ (some 106) rfl rfl Try.func27 (by kernel_rfl) rfl #[.slice Ao95 t396.length co95, .int .i64 1] rfl Z5 ?_; (with_reducible refine (laws_markCellS.calls kj59 (Win wa_13 wb_13) (.slice Ao95 t396.length co95) t396 1 t420 t421 w _ ?side1 ?side2 A83.out).mono ?_); (case side1 => exact Z0); (case side2 => exact (Z11 HO_13.out)); rintro e w96 ⟨rfl, hy0, hb, hkp⟩; refine ⟨_, rfl, ?_⟩; have hs_ := HS.out; have n0_ := A_ (Kd.N_winK (Z18 HO_8.out) hkp (by omega)); have n1_ := A_ (hy0); have n2_ := A_ (hb); have ne_ := A_ (sz_kept Z16 hkp); clear hs_; clear HE; have HE := ne_; clear ne_; clear HO_8; clear HO_13; clear HB; have HO_8 := n0_; have HO_13 := n1_; have HB := n2_; clear n0_ n1_ n2_; (try clear hb); (try clear hkp); (try clear hy0)) | ((with_reducible refine gate_callee (f := 33) rfl ?_); refine goesL_ (some 109) rfl rfl Try.func33 (by kernel_rfl) rfl #[.slice Ao95 t421.length co95, .int .i64 1] rfl (by (try simp only [List.map_toArray, List.map_cons, List.map_nil]); first | done | (rw [show t421.length = t396.length from (Kd.S_reads' HO_13.out).1.symm] <;> rfl) | rfl | (simp only [List.length_drop, List.length_take]; rfl)) ?_; (with_reducible refine (laws_heldCellS.calls kj59 _ _ t421 1 t422 _ ?side1 ?side2 A84.out).mono ?_); (case side1 => exact Z19 HO_13.out); (case side2 => rw [show t421.length = t396.length from (Kd.S_reads' HO_13.out).1.symm]; exact (Kd.S_reads' HO_13.out).2.1); rintro e w97 ⟨rfl, hb⟩; refine ⟨_, rfl, ?_⟩; have n0_ := A_ (Kd.N_below (Z18 HO_8.out) hb); have n1_ := A_ (Kd.S_below (Z11 HO_13.out) hb); have n2_ := A_ (below_step Z0 hb); have ne_ := A_ (sz_below Z16 hb); clear HE; have HE := ne_; clear ne_; clear HO_8; clear HO_13; clear HB; have HO_8 := n0_; have HO_13 := n1_; have HB := n2_; clear n0_ n1_ n2_; (try clear hb); (try clear hb2); (try clear hk); (try clear hi)) | ((with_reducible refine gate_callee (f := 21) rfl ?_); refine goesL_ (some 117) rfl rfl Try.func21 (by kernel_rfl) rfl #[.slice A0 l0.length c0] rfl Z5 ?_; (with_reducible refine (laws_toCellS.calls kj59 _ _ l0 t423 _ ?side1 ?side2 A90.out).mono ?_); (case side1 => exact Z3 HR0.out); (case side2 => exact HC0.out); rintro e w98 ⟨v424, rfl, ho0, hb⟩; refine ⟨_, rfl, ?_⟩; obtain ⟨wa425, wb425, nw_, ns1_, ns2_, ns3_⟩ := Kd.S_win ho0 (below_size Z0) Z16 hb.size; have n2_ := A_ (nw_); have nS_ := A_ (And.intro HS.out (And.intro ns1_ ns2_)); have ne_ := A_ (ns3_); clear nw_ ns1_ ns2_ ns3_; have n0_ := A_ (Kd.N_below (Z18 HO_8.out) hb); have n1_ := A_ (Kd.S_below (Z11 HO_13.out) hb); have n3_ := A_ (below_step Z0 hb); clear HS; have HS := nS_; clear nS_; clear HE; have HE := ne_; clear ne_; clear HO_8; clear HO_13; clear HB; have HO_8 := n0_; have HO_13 := n1_; have HO425 := n2_; have HB := n3_; clear n0_ n1_ n2_ n3_; (try clear hb); (try clear hb2); (try clear hk); (try clear hi); (try clear ho0)) | ((with_reducible refine gate_callee (f := 22) rfl ?_); refine goesL_ (some 119) rfl rfl Try.func22 (by kernel_rfl) rfl #[.slice A1 l1.length c1] rfl Z5 ?_; (with_reducible refine (laws_toSlotS.calls kj59 _ _ l1 t426 _ ?side1 ?side2 A91.out).mono ?_); (case side1 => exact Z3 HR1.out); (case side2 => exact HC1.out); rintro e w99 ⟨v427, rfl, ho0, hb⟩; refine ⟨_, rfl, ?_⟩; obtain ⟨wa428, wb428, nw_, ns1_, ns2_, ns3_⟩ := Kd.R_win ho0 (below_size Z0) Z16 hb.size; have n3_ := A_ (nw_); have nS_ := A_ (And.intro HS.out (And.intro ns1_ ns2_)); have ne_ := A_ (ns3_); clear nw_ ns1_ ns2_ ns3_; have n0_ := A_ (Kd.N_below (Z18 HO_8.out) hb); have n1_ := A_ (Kd.S_below (Z11 HO_13.out) hb); have n2_ := A_ (Kd.S_below (Z11 HO425.out) hb); have n4_ := A_ (below_step Z0 hb); clear HS; have HS := nS_; clear nS_; clear HE; have HE := ne_; clear ne_; clear HO_8; clear HO_13; clear HO425; clear HB; have HO_8 := n0_; have HO_13 := n1_; have HO425 := n2_; have HO428 := n3_; have HB := n4_; clear n0_ n1_ n2_ n3_ n4_; (try clear hb); (try clear hb2); (try clear hk); (try clear hi); (try clear ho0)) | ((with_reducible refine gate_callee (f := 36) rfl ?_); refine goesL_ (some 121) rfl rfl Try.func36 (by kernel_rfl) rfl #[.slice A2 l2.length c2] rfl Z5 ?_; (with_reducible refine (laws_toValueS.calls kj59 _ _ l2 t429 _ ?side1 ?side2 A92.out).mono ?_); (case side1 => exact Z3 HR2.out); (case side2 => exact HC2.out); rintro e w100 ⟨v430, rfl, ho0, hb⟩; refine ⟨_, rfl, ?_⟩; obtain ⟨wa431, wb431, nw_, ns1_, ns2_, ns3_⟩ := Kd.R_win ho0 (below_size Z0) Z16 hb.size; have n4_ := A_ (nw_); have nS_ := A_ (And.intro HS.out (And.intro ns1_ ns2_)); have ne_ := A_ (ns3_); clear nw_ ns1_ ns2_ ns3_; have n0_ := A_ (Kd.N_below (Z18 HO_8.out) hb); have n1_ := A_ (Kd.S_below (Z11 HO_13.out) hb); have n2_ := A_ (Kd.S_below (Z11 HO425.out) hb); have n3_ := A_ (Kd.R_below (Z6 HO428.out) hb); have n5_ := A_ (below_step Z0 hb); clear HS; have HS := nS_; clear nS_; clear HE; have HE := ne_; clear ne_; clear HO_8; clear HO_13; clear HO425; clear HO428; clear HB; have HO_8 := n0_; have HO_13 := n1_; have HO425 := n2_; have HO428 := n3_; have HO431 := n4_; have HB := n5_; clear n0_ n1_ n2_ n3_ n4_ n5_; (try clear hb); (try clear hb2); (try clear hk); (try clear hi); (try clear ho0); obtain ⟨Ao101, co101, eo101⟩ := Kd.S_slice HO425.out; subst eo101; obtain ⟨Ao102, co102, eo102⟩ := Kd.R_slice HO428.out; subst eo102; obtain ⟨Ao103, co103, eo103⟩ := Kd.R_slice HO431.out; subst eo103) | ((with_reducible refine gate_callee (f := 37) rfl ?_); refine goesL_ (some 122) rfl rfl Try.func37 (by kernel_rfl) rfl #[.slice Ao101 t423.length co101, .slice Ao102 t426.length co102, .slice Ao103 t429.length co103] rfl Z5 ?_; (with_reducible refine (impl_StorePut.calls kj59 _ _ t423 _ _ t426 _ _ t429 t432 t433 _ ?side1 ?side2 ?side3 ?side4 ?side5 ?side6 A93.out).mono ?_); (case side1 => exact Z19 HO425.out); (case side2 => exact (Kd.S_reads' HO425.out).2.1); (case side3 => exact Z22 HO428.out); (case side4 => exact (Kd.R_reads' HO428.out).2.1); (case side5 => exact Z22 HO431.out); (case side6 => exact (Kd.R_reads' HO431.out).2.1); rintro e w104 ⟨v434, rfl, ho0, hb⟩; refine ⟨_, rfl, ?_⟩; obtain ⟨wa435, wb435, nw_, ns1_, ns2_, ns3_⟩ := Kd.S_win ho0 (below_size Z0) Z16 hb.size; have n5_ := A_ (nw_); have nS_ := A_ (And.intro HS.out (And.intro ns1_ ns2_)); have ne_ := A_ (ns3_); clear nw_ ns1_ ns2_ ns3_; have n0_ := A_ (Kd.N_below (Z18 HO_8.out) hb); have n1_ := A_ (Kd.S_below (Z11 HO_13.out) hb); have n2_ := A_ (Kd.S_below (Z11 HO425.out) hb); have n3_ := A_ (Kd.R_below (Z6 HO428.out) hb); have n4_ := A_ (Kd.R_below (Z6 HO431.out) hb); have n6_ := A_ (below_step Z0 hb); clear HS; have HS := nS_; clear nS_; clear HE; have HE := ne_; clear ne_; clear HO_8; clear HO_13; clear HO425; clear HO428; clear HO431; clear HB; have HO_8 := n0_; have HO_13 := n1_; have HO425 := n2_; have HO428 := n3_; have HO431 := n4_; have HO435 := n5_; have HB := n6_; clear n0_ n1_ n2_ n3_ n4_ n5_ n6_; (try clear hb); (try clear hb2); (try clear hk); (try clear hi); (try clear ho0)))
               (try simp only [Act.put, List.setIfInBounds_toArray, List.set_cons_zero, List.set_cons_succ])
               go_cut [133] (fun v133 wc => ∃ (kq : Nat) (x133_93 : Bool) (wa_13 wb_13 : Nat), v133 = .bool x133_93 ∧ Aside0 (laws_FnExactStorePut.j2 kq t421 t420 x133_93 = some r) ∧ Aside0 (kq ≤ kj59) ∧ Aside0 (Kd.S k89 89 wc w.heap.size (Win wa_13 wb_13) (.slice Ao95 t396.length co95) t421) ∧ Aside0 (Below w.heap.size w wc) ∧ Aside0 (w.heap.size ≤ wa_13 ∧ wa_13 ≤ wb_13) ∧ Aside0 (wb_13 ≤ wc.heap.size))
               case first =>
                have H := HC94.out
                clear HC94
                replace H := Option.bind_eq_some_iff.mp H
                obtain ⟨t436, A1050, H⟩ := H
                replace H : (if t436 = true then (laws_FnExactStorePut.j2 kj59 t421 t420 (t433 != t386)) else (laws_FnExactStorePut.j2 kj59 t421 t420 true)) = some r := H
                have A105 := A_ A1050
                clear A1050
                by_cases c106 : t436 = true
                ·subst c106
                 have H1 : (laws_FnExactStorePut.j2 kj59 t421 t420 (t433 != t386)) = some r := by rw [if_pos rfl] at H; exact H
                 clear H
                 have H := H1
                 clear H1
                 have H' := A_ H
                 clear H
                 obtain ⟨Ao107, co107, eo107⟩ := Kd.S_slice HO435.out
                 subst eo107
                 obtain ⟨Ao108, co108, eo108⟩ := Kd.N_slice HO_8.out
                 subst eo108
                 go_wp2_with (first | ((with_reducible refine gate_callee (f := 25) rfl ?_); refine goesL_ (some 127) rfl rfl Try.func25 (by kernel_rfl) rfl #[.slice Ao107 t432.length co107, .slice Ao108 t383.length co108] rfl Z5 ?_; (with_reducible refine (laws_eqCellS.calls kj59 _ _ t432 _ _ t383 true _ ?side1 ?side2 ?side3 ?side4 A105.out).mono ?_); (case side1 => exact Z19 HO435.out); (case side2 => exact (Kd.S_reads' HO435.out).2.1); (case side3 => exact Z33 HO_8.out); (case side4 => exact (Kd.N_reads' HO_8.out).2.1); rintro e w109 ⟨rfl, hb⟩; refine ⟨_, rfl, ?_⟩; have n0_ := A_ (Kd.N_below (Z18 HO_8.out) hb); have n1_ := A_ (Kd.S_below (Z11 HO_13.out) hb); have n2_ := A_ (Kd.S_below (Z11 HO425.out) hb); have n3_ := A_ (Kd.R_below (Z6 HO428.out) hb); have n4_ := A_ (Kd.R_below (Z6 HO431.out) hb); have n5_ := A_ (Kd.S_below (Z11 HO435.out) hb); have n6_ := A_ (below_step Z0 hb); have ne_ := A_ (sz_below Z16 hb); clear HE; have HE := ne_; clear ne_; clear HO_8; clear HO_13; clear HO425; clear HO428; clear HO431; clear HO435; clear HB; have HO_8 := n0_; have HO_13 := n1_; have HO425 := n2_; have HO428 := n3_; have HO431 := n4_; have HO435 := n5_; have HB := n6_; clear n0_ n1_ n2_ n3_ n4_ n5_ n6_; (try clear hb); (try clear hb2); (try clear hk); (try clear hi)))
                 go_meet
                 case rel => exact ⟨_, ((t433 != t386)), wa_13, wb_13, Z17, H', ⟨by have := HJ21.out; have := HJ59.out; first | omega | exact Nat.le_refl _⟩, ⟨Z11 HO_13.out⟩, ⟨Z0⟩, ⟨by have hs_ := HS.out; omega⟩, ⟨by have hs_ := HS.out; refine Nat.le_trans ?_ Z16; omega⟩⟩
                ·replace c106 := Bool.eq_false_iff.mpr c106
                 subst c106
                 have H1 : (laws_FnExactStorePut.j2 kj59 t421 t420 true) = some r := by rw [if_neg (show ¬ (false = true) by decide)] at H; exact H
                 clear H
                 have H := H1
                 clear H1
                 have H' := A_ H
                 clear H
                 obtain ⟨Ao110, co110, eo110⟩ := Kd.S_slice HO435.out
                 subst eo110
                 obtain ⟨Ao111, co111, eo111⟩ := Kd.N_slice HO_8.out
                 subst eo111
                 go_wp2_with (first | ((with_reducible refine gate_callee (f := 25) rfl ?_); refine goesL_ (some 127) rfl rfl Try.func25 (by kernel_rfl) rfl #[.slice Ao110 t432.length co110, .slice Ao111 t383.length co111] rfl Z5 ?_; (with_reducible refine (laws_eqCellS.calls kj59 _ _ t432 _ _ t383 false _ ?side1 ?side2 ?side3 ?side4 A105.out).mono ?_); (case side1 => exact Z19 HO435.out); (case side2 => exact (Kd.S_reads' HO435.out).2.1); (case side3 => exact Z33 HO_8.out); (case side4 => exact (Kd.N_reads' HO_8.out).2.1); rintro e w112 ⟨rfl, hb⟩; refine ⟨_, rfl, ?_⟩; have n0_ := A_ (Kd.N_below (Z18 HO_8.out) hb); have n1_ := A_ (Kd.S_below (Z11 HO_13.out) hb); have n2_ := A_ (Kd.S_below (Z11 HO425.out) hb); have n3_ := A_ (Kd.R_below (Z6 HO428.out) hb); have n4_ := A_ (Kd.R_below (Z6 HO431.out) hb); have n5_ := A_ (Kd.S_below (Z11 HO435.out) hb); have n6_ := A_ (below_step Z0 hb); have ne_ := A_ (sz_below Z16 hb); clear HE; have HE := ne_; clear ne_; clear HO_8; clear HO_13; clear HO425; clear HO428; clear HO431; clear HO435; clear HB; have HO_8 := n0_; have HO_13 := n1_; have HO425 := n2_; have HO428 := n3_; have HO431 := n4_; have HO435 := n5_; have HB := n6_; clear n0_ n1_ n2_ n3_ n4_ n5_ n6_; (try clear hb); (try clear hb2); (try clear hk); (try clear hi)))
                 go_meet
                 case rel => exact ⟨_, (true), wa_13, wb_13, Z17, H', ⟨by have := HJ21.out; have := HJ59.out; first | omega | exact Nat.le_refl _⟩, ⟨Z11 HO_13.out⟩, ⟨Z0⟩, ⟨by have hs_ := HS.out; omega⟩, ⟨by have hs_ := HS.out; refine Nat.le_trans ?_ Z16; omega⟩⟩
               case rest =>
                clear HC94
                try clear c1
                try clear c2
                try clear p2
                try clear c3
                try clear c4
                try clear c5
                try clear c5b0
                try clear c6
                try clear c7
                try clear c8
                try clear c8b0
                try clear c10
                try clear c11
                try clear c11b0
                try clear c18
                try clear c19
                try clear c21
                try clear c22
                try clear c24
                try clear c25
                try clear c26
                try clear c27
                try clear c28
                try clear c29
                try clear c33
                try clear c34
                try clear c35
                try clear c36
                try clear c37
                try clear c40
                try clear c47
                try clear c50
                try clear c53
                try clear c56
                try clear c73
                try clear c73b0
                try clear c75
                try clear c82
                try clear c85
                try clear c85b0
                try clear c89
                try clear c89b0
                try clear c89b1
                try clear c106
                try clear p2
                obtain ⟨kq, x133_93, wa_13, wb_13, rfl, HA, HJ93, HO_13, HB, HS, HE⟩ := hcut
                have hl13_93 := (Kd.S_reads' HO_13.out).1
                rw [hl13_93] at HO_13
                (try simp only [hl13_93])
                cases kq with
                | zero => exact absurd HA.out (by simp [laws_FnExactStorePut.j2])
                | succ kj93 =>
                 have H := HA.out
                 clear HA
                 simp only [laws_FnExactStorePut.j2] at H
                 by_cases c113 : x133_93 = true
                 ·subst c113
                  have H1 : (some false) = some r := by rw [if_pos rfl] at H; exact H
                  clear H
                  have H := H1
                  clear H1
                  obtain rfl := Option.some.inj H
                  go_wp2
                  go_ret
                  exact ⟨Z14, Z0⟩
                 ·replace c113 := Bool.eq_false_iff.mpr c113
                  subst c113
                  have H1 : ((laws_heldCellS.f kj93 t421 1).bind fun t437 => (if t437 < 0 then (some false) else (if t437 = t420 then (some true) else (some false)))) = some r := by rw [if_neg (show ¬ (false = true) by decide)] at H; exact H
                  clear H
                  have H := H1
                  clear H1
                  replace H := Option.bind_eq_some_iff.mp H
                  obtain ⟨t437, A1140, H⟩ := H
                  replace H : (if t437 < 0 then (some false) else (if t437 = t420 then (some true) else (some false))) = some r := H
                  have A114 := A_ A1140
                  clear A1140
                  by_cases c115 : t437 < 0
                  ·rw [if_pos c115] at H
                   have c115b0 : decide (t437 < 0) = true := decide_eq_true c115
                   clear c115
                   obtain rfl := Option.some.inj H
                   go_wp2_with (first | ((with_reducible refine gate_callee (f := 33) rfl ?_); refine goesL_ (some 136) rfl rfl Try.func33 (by kernel_rfl) rfl #[.slice Ao95 t421.length co95, .int .i64 1] rfl Z5 ?_; (with_reducible refine (laws_heldCellS.calls kj93 _ _ t421 1 t437 _ ?side1 ?side2 A114.out).mono ?_); (case side1 => exact Z19 HO_13.out); (case side2 => exact (Kd.S_reads' HO_13.out).2.1); rintro e w116 ⟨rfl, hb⟩; refine ⟨_, rfl, ?_⟩; have n0_ := A_ (Kd.S_below (Z11 HO_13.out) hb); have n1_ := A_ (below_step Z0 hb); have ne_ := A_ (sz_below Z16 hb); clear HE; have HE := ne_; clear ne_; clear HO_13; clear HB; have HO_13 := n0_; have HB := n1_; clear n0_ n1_; (try clear hb); (try clear hb2); (try clear hk); (try clear hi)))
                   go_ret
                   exact ⟨Z14, Z0⟩
                  ·rw [if_neg c115] at H
                   have c115b0 : decide (t437 < 0) = false := decide_eq_false c115
                   clear c115
                   by_cases c117 : t437 = t420
                   ·rw [if_pos c117] at H
                    have c117b0 : (t437 == t420) = true := beq_iff_eq.mpr c117
                    have c117b1 : (t437 != t420) = false := bne_eq_false_iff_eq.mpr c117
                    clear c117
                    obtain rfl := Option.some.inj H
                    go_wp2_with (first | ((with_reducible refine gate_callee (f := 33) rfl ?_); refine goesL_ (some 136) rfl rfl Try.func33 (by kernel_rfl) rfl #[.slice Ao95 t421.length co95, .int .i64 1] rfl Z5 ?_; (with_reducible refine (laws_heldCellS.calls kj93 _ _ t421 1 t437 _ ?side1 ?side2 A114.out).mono ?_); (case side1 => exact Z19 HO_13.out); (case side2 => exact (Kd.S_reads' HO_13.out).2.1); rintro e w118 ⟨rfl, hb⟩; refine ⟨_, rfl, ?_⟩; have n0_ := A_ (Kd.S_below (Z11 HO_13.out) hb); have n1_ := A_ (below_step Z0 hb); have ne_ := A_ (sz_below Z16 hb); clear HE; have HE := ne_; clear ne_; clear HO_13; clear HB; have HO_13 := n0_; have HB := n1_; clear n0_ n1_; (try clear hb); (try clear hb2); (try clear hk); (try clear hi)))
                    go_ret
                    exact ⟨Z14, Z0⟩
                   ·rw [if_neg c117] at H
                    have c117b0 : (t437 == t420) = false := beq_eq_false_iff_ne.mpr c117
                    have c117b1 : (t437 != t420) = true := bne_iff_ne.mpr c117
                    obtain rfl := Option.some.inj H
                    go_wp2_with (first | ((with_reducible refine gate_callee (f := 33) rfl ?_); refine goesL_ (some 136) rfl rfl Try.func33 (by kernel_rfl) rfl #[.slice Ao95 t421.length co95, .int .i64 1] rfl Z5 ?_; (with_reducible refine (laws_heldCellS.calls kj93 _ _ t421 1 t437 _ ?side1 ?side2 A114.out).mono ?_); (case side1 => exact Z19 HO_13.out); (case side2 => exact (Kd.S_reads' HO_13.out).2.1); rintro e w119 ⟨rfl, hb⟩; refine ⟨_, rfl, ?_⟩; have n0_ := A_ (Kd.S_below (Z11 HO_13.out) hb); have n1_ := A_ (below_step Z0 hb); have ne_ := A_ (sz_below Z16 hb); clear HE; have HE := ne_; clear ne_; clear HO_13; clear HB; have HO_13 := n0_; have HB := n1_; clear n0_ n1_; (try clear hb); (try clear hb2); (try clear hk); (try clear hi)))
                    go_ret
                    exact ⟨Z14, Z0⟩
              ·rw [if_neg c89] at H
               have c89b0 : (t422 == t420) = false := beq_eq_false_iff_ne.mpr c89
               have c89b1 : (t422 != t420) = true := bne_iff_ne.mpr c89
               obtain rfl := Option.some.inj H
               obtain ⟨Ao120, co120, eo120⟩ := Kd.S_slice HO_13.out
               subst eo120
               go_wp2_with (first | ((with_reducible refine gate_callee (f := 27) rfl ?_); refine goesL_ (some 106) rfl rfl Try.func27 (by kernel_rfl) rfl #[.slice Ao120 t396.length co120, .int .i64 1] rfl Z5 ?_; (with_reducible refine (laws_markCellS.calls kj59 (Win wa_13 wb_13) (.slice Ao120 t396.length co120) t396 1 t420 t421 w _ ?side1 ?side2 A83.out).mono ?_); (case side1 => exact Z0); (case side2 => exact (Z11 HO_13.out)); rintro e w121 ⟨rfl, hy0, hb, hkp⟩; refine ⟨_, rfl, ?_⟩; have hs_ := HS.out; have n0_ := A_ (Kd.N_winK (Z18 HO_8.out) hkp (by omega)); have n1_ := A_ (hy0); have n2_ := A_ (hb); have ne_ := A_ (sz_kept Z16 hkp); clear hs_; clear HE; have HE := ne_; clear ne_; clear HO_8; clear HO_13; clear HB; have HO_8 := n0_; have HO_13 := n1_; have HB := n2_; clear n0_ n1_ n2_; (try clear hb); (try clear hkp); (try clear hy0)) | ((with_reducible refine gate_callee (f := 33) rfl ?_); refine goesL_ (some 109) rfl rfl Try.func33 (by kernel_rfl) rfl #[.slice Ao120 t421.length co120, .int .i64 1] rfl (by (try simp only [List.map_toArray, List.map_cons, List.map_nil]); first | done | (rw [show t421.length = t396.length from (Kd.S_reads' HO_13.out).1.symm] <;> rfl) | rfl | (simp only [List.length_drop, List.length_take]; rfl)) ?_; (with_reducible refine (laws_heldCellS.calls kj59 _ _ t421 1 t422 _ ?side1 ?side2 A84.out).mono ?_); (case side1 => exact Z19 HO_13.out); (case side2 => rw [show t421.length = t396.length from (Kd.S_reads' HO_13.out).1.symm]; exact (Kd.S_reads' HO_13.out).2.1); rintro e w122 ⟨rfl, hb⟩; refine ⟨_, rfl, ?_⟩; have n0_ := A_ (Kd.N_below (Z18 HO_8.out) hb); have n1_ := A_ (Kd.S_below (Z11 HO_13.out) hb); have n2_ := A_ (below_step Z0 hb); have ne_ := A_ (sz_below Z16 hb); clear HE; have HE := ne_; clear ne_; clear HO_8; clear HO_13; clear HB; have HO_8 := n0_; have HO_13 := n1_; have HB := n2_; clear n0_ n1_ n2_; (try clear hb); (try clear hb2); (try clear hk); (try clear hi)))
               go_ret
               exact ⟨Z14, Z0⟩
         ·replace c56 := Bool.eq_false_iff.mpr c56
          subst c56
          have H1 : (some false) = some r := by rw [if_neg (show ¬ (false = true) by decide)] at H; exact H
          clear H
          have H := H1
          clear H1
          obtain rfl := Option.some.inj H
          go_wp2_with (first | ((with_reducible refine gate_callee (f := 21) rfl ?_); refine goesL_ (some 69) rfl rfl Try.func21 (by kernel_rfl) rfl #[.slice A0 l0.length c0] rfl Z5 ?_; (with_reducible refine (laws_toCellS.calls kj21 _ _ l0 t401 _ ?side1 ?side2 A48.out).mono ?_); (case side1 => exact Z3 HR0.out); (case side2 => exact HC0.out); rintro e w123 ⟨v402, rfl, ho0, hb⟩; refine ⟨_, rfl, ?_⟩; obtain ⟨wa403, wb403, nw_, ns1_, ns2_, ns3_⟩ := Kd.S_win ho0 (below_size Z0) Z16 hb.size; have n5_ := A_ (nw_); have nS_ := A_ (And.intro HS.out (And.intro ns1_ ns2_)); have ne_ := A_ (ns3_); clear nw_ ns1_ ns2_ ns3_; have n0_ := A_ (Kd.N_below (Z18 HO_8.out) hb); have n1_ := A_ (Kd.S_below (Z11 HO_10.out) hb); have n2_ := A_ (Kd.R_below (Z6 HO_11.out) hb); have n3_ := A_ (Kd.R_below (Z6 HO_12.out) hb); have n4_ := A_ (Kd.S_below (Z11 HO_13.out) hb); have n6_ := A_ (below_step Z0 hb); clear HS; have HS := nS_; clear nS_; clear HE; have HE := ne_; clear ne_; clear HO_8; clear HO_10; clear HO_11; clear HO_12; clear HO_13; clear HB; have HO_8 := n0_; have HO_10 := n1_; have HO_11 := n2_; have HO_12 := n3_; have HO_13 := n4_; have HO403 := n5_; have HB := n6_; clear n0_ n1_ n2_ n3_ n4_ n5_ n6_; (try clear hb); (try clear hb2); (try clear hk); (try clear hi); (try clear ho0); obtain ⟨Ao124, co124, eo124⟩ := Kd.S_slice HO403.out; subst eo124) | ((with_reducible refine gate_callee (f := 25) rfl ?_); refine goesL_ (some 70) rfl rfl Try.func25 (by kernel_rfl) rfl #[.slice Ao35 t387.length co35, .slice Ao124 t401.length co124] rfl Z5 ?_; (with_reducible refine (laws_eqCellS.calls kj21 _ _ t387 _ _ t401 true _ ?side1 ?side2 ?side3 ?side4 A49.out).mono ?_); (case side1 => exact Z19 HO_10.out); (case side2 => exact (Kd.S_reads' HO_10.out).2.1); (case side3 => exact Z19 HO403.out); (case side4 => exact (Kd.S_reads' HO403.out).2.1); rintro e w125 ⟨rfl, hb⟩; refine ⟨_, rfl, ?_⟩; have n0_ := A_ (Kd.N_below (Z18 HO_8.out) hb); have n1_ := A_ (Kd.S_below (Z11 HO_10.out) hb); have n2_ := A_ (Kd.R_below (Z6 HO_11.out) hb); have n3_ := A_ (Kd.R_below (Z6 HO_12.out) hb); have n4_ := A_ (Kd.S_below (Z11 HO_13.out) hb); have n5_ := A_ (Kd.S_below (Z11 HO403.out) hb); have n6_ := A_ (below_step Z0 hb); have ne_ := A_ (sz_below Z16 hb); clear HE; have HE := ne_; clear ne_; clear HO_8; clear HO_10; clear HO_11; clear HO_12; clear HO_13; clear HO403; clear HB; have HO_8 := n0_; have HO_10 := n1_; have HO_11 := n2_; have HO_12 := n3_; have HO_13 := n4_; have HO403 := n5_; have HB := n6_; clear n0_ n1_ n2_ n3_ n4_ n5_ n6_; (try clear hb); (try clear hb2); (try clear hk); (try clear hi)) | ((with_reducible refine gate_callee (f := 22) rfl ?_); refine goesL_ (some 74) rfl rfl Try.func22 (by kernel_rfl) rfl #[.slice A1 l1.length c1] rfl Z5 ?_; (with_reducible refine (laws_toSlotS.calls kj21 _ _ l1 t405 _ ?side1 ?side2 A51.out).mono ?_); (case side1 => exact Z3 HR1.out); (case side2 => exact HC1.out); rintro e w126 ⟨v406, rfl, ho0, hb⟩; refine ⟨_, rfl, ?_⟩; obtain ⟨wa407, wb407, nw_, ns1_, ns2_, ns3_⟩ := Kd.R_win ho0 (below_size Z0) Z16 hb.size; have n6_ := A_ (nw_); have nS_ := A_ (And.intro HS.out (And.intro ns1_ ns2_)); have ne_ := A_ (ns3_); clear nw_ ns1_ ns2_ ns3_; have n0_ := A_ (Kd.N_below (Z18 HO_8.out) hb); have n1_ := A_ (Kd.S_below (Z11 HO_10.out) hb); have n2_ := A_ (Kd.R_below (Z6 HO_11.out) hb); have n3_ := A_ (Kd.R_below (Z6 HO_12.out) hb); have n4_ := A_ (Kd.S_below (Z11 HO_13.out) hb); have n5_ := A_ (Kd.S_below (Z11 HO403.out) hb); have n7_ := A_ (below_step Z0 hb); clear HS; have HS := nS_; clear nS_; clear HE; have HE := ne_; clear ne_; clear HO_8; clear HO_10; clear HO_11; clear HO_12; clear HO_13; clear HO403; clear HB; have HO_8 := n0_; have HO_10 := n1_; have HO_11 := n2_; have HO_12 := n3_; have HO_13 := n4_; have HO403 := n5_; have HO407 := n6_; have HB := n7_; clear n0_ n1_ n2_ n3_ n4_ n5_ n6_ n7_; (try clear hb); (try clear hb2); (try clear hk); (try clear hi); (try clear ho0); obtain ⟨Ao127, co127, eo127⟩ := Kd.R_slice HO407.out; subst eo127) | ((with_reducible refine gate_callee (f := 26) rfl ?_); refine goesL_ (some 75) rfl rfl Try.func26 (by kernel_rfl) rfl #[.slice Ao36 t390.length co36, .slice Ao127 t405.length co127] rfl Z5 ?_; (with_reducible refine (laws_eqSlotS.calls kj21 _ _ t390 _ _ t405 true _ ?side1 ?side2 ?side3 ?side4 A52.out).mono ?_); (case side1 => exact Z22 HO_11.out); (case side2 => exact (Kd.R_reads' HO_11.out).2.1); (case side3 => exact Z22 HO407.out); (case side4 => exact (Kd.R_reads' HO407.out).2.1); rintro e w128 ⟨rfl, hb⟩; refine ⟨_, rfl, ?_⟩; have n0_ := A_ (Kd.N_below (Z18 HO_8.out) hb); have n1_ := A_ (Kd.S_below (Z11 HO_10.out) hb); have n2_ := A_ (Kd.R_below (Z6 HO_11.out) hb); have n3_ := A_ (Kd.R_below (Z6 HO_12.out) hb); have n4_ := A_ (Kd.S_below (Z11 HO_13.out) hb); have n5_ := A_ (Kd.S_below (Z11 HO403.out) hb); have n6_ := A_ (Kd.R_below (Z6 HO407.out) hb); have n7_ := A_ (below_step Z0 hb); have ne_ := A_ (sz_below Z16 hb); clear HE; have HE := ne_; clear ne_; clear HO_8; clear HO_10; clear HO_11; clear HO_12; clear HO_13; clear HO403; clear HO407; clear HB; have HO_8 := n0_; have HO_10 := n1_; have HO_11 := n2_; have HO_12 := n3_; have HO_13 := n4_; have HO403 := n5_; have HO407 := n6_; have HB := n7_; clear n0_ n1_ n2_ n3_ n4_ n5_ n6_ n7_; (try clear hb); (try clear hb2); (try clear hk); (try clear hi)) | ((with_reducible refine gate_callee (f := 36) rfl ?_); refine goesL_ (some 79) rfl rfl Try.func36 (by kernel_rfl) rfl #[.slice A2 l2.length c2] rfl Z5 ?_; (with_reducible refine (laws_toValueS.calls kj21 _ _ l2 t409 _ ?side1 ?side2 A54.out).mono ?_); (case side1 => exact Z3 HR2.out); (case side2 => exact HC2.out); rintro e w129 ⟨v410, rfl, ho0, hb⟩; refine ⟨_, rfl, ?_⟩; obtain ⟨wa411, wb411, nw_, ns1_, ns2_, ns3_⟩ := Kd.R_win ho0 (below_size Z0) Z16 hb.size; have n7_ := A_ (nw_); have nS_ := A_ (And.intro HS.out (And.intro ns1_ ns2_)); have ne_ := A_ (ns3_); clear nw_ ns1_ ns2_ ns3_; have n0_ := A_ (Kd.N_below (Z18 HO_8.out) hb); have n1_ := A_ (Kd.S_below (Z11 HO_10.out) hb); have n2_ := A_ (Kd.R_below (Z6 HO_11.out) hb); have n3_ := A_ (Kd.R_below (Z6 HO_12.out) hb); have n4_ := A_ (Kd.S_below (Z11 HO_13.out) hb); have n5_ := A_ (Kd.S_below (Z11 HO403.out) hb); have n6_ := A_ (Kd.R_below (Z6 HO407.out) hb); have n8_ := A_ (below_step Z0 hb); clear HS; have HS := nS_; clear nS_; clear HE; have HE := ne_; clear ne_; clear HO_8; clear HO_10; clear HO_11; clear HO_12; clear HO_13; clear HO403; clear HO407; clear HB; have HO_8 := n0_; have HO_10 := n1_; have HO_11 := n2_; have HO_12 := n3_; have HO_13 := n4_; have HO403 := n5_; have HO407 := n6_; have HO411 := n7_; have HB := n8_; clear n0_ n1_ n2_ n3_ n4_ n5_ n6_ n7_ n8_; (try clear hb); (try clear hb2); (try clear hk); (try clear hi); (try clear ho0); obtain ⟨Ao130, co130, eo130⟩ := Kd.R_slice HO411.out; subst eo130) | ((with_reducible refine gate_callee (f := 24) rfl ?_); refine goesL_ (some 80) rfl rfl Try.func24 (by kernel_rfl) rfl #[.slice Ao37 t393.length co37, .slice Ao130 t409.length co130] rfl Z5 ?_; (with_reducible refine (laws_eqValueS.calls kj21 _ _ t393 _ _ t409 false _ ?side1 ?side2 ?side3 ?side4 A55.out).mono ?_); (case side1 => exact Z22 HO_12.out); (case side2 => exact (Kd.R_reads' HO_12.out).2.1); (case side3 => exact Z22 HO411.out); (case side4 => exact (Kd.R_reads' HO411.out).2.1); rintro e w131 ⟨rfl, hb⟩; refine ⟨_, rfl, ?_⟩; have n0_ := A_ (Kd.N_below (Z18 HO_8.out) hb); have n1_ := A_ (Kd.S_below (Z11 HO_10.out) hb); have n2_ := A_ (Kd.R_below (Z6 HO_11.out) hb); have n3_ := A_ (Kd.R_below (Z6 HO_12.out) hb); have n4_ := A_ (Kd.S_below (Z11 HO_13.out) hb); have n5_ := A_ (Kd.S_below (Z11 HO403.out) hb); have n6_ := A_ (Kd.R_below (Z6 HO407.out) hb); have n7_ := A_ (Kd.R_below (Z6 HO411.out) hb); have n8_ := A_ (below_step Z0 hb); have ne_ := A_ (sz_below Z16 hb); clear HE; have HE := ne_; clear ne_; clear HO_8; clear HO_10; clear HO_11; clear HO_12; clear HO_13; clear HO403; clear HO407; clear HO411; clear HB; have HO_8 := n0_; have HO_10 := n1_; have HO_11 := n2_; have HO_12 := n3_; have HO_13 := n4_; have HO403 := n5_; have HO407 := n6_; have HO411 := n7_; have HB := n8_; clear n0_ n1_ n2_ n3_ n4_ n5_ n6_ n7_ n8_; (try clear hb); (try clear hb2); (try clear hk); (try clear hi)))
          go_ret
          exact ⟨Z14, Z0⟩
        ·replace c53 := Bool.eq_false_iff.mpr c53
         subst c53
         have H1 : (some false) = some r := by rw [if_neg (show ¬ (false = true) by decide)] at H; exact H
         clear H
         have H := H1
         clear H1
         obtain rfl := Option.some.inj H
         go_wp2_with (first | ((with_reducible refine gate_callee (f := 21) rfl ?_); refine goesL_ (some 69) rfl rfl Try.func21 (by kernel_rfl) rfl #[.slice A0 l0.length c0] rfl Z5 ?_; (with_reducible refine (laws_toCellS.calls kj21 _ _ l0 t401 _ ?side1 ?side2 A48.out).mono ?_); (case side1 => exact Z3 HR0.out); (case side2 => exact HC0.out); rintro e w132 ⟨v402, rfl, ho0, hb⟩; refine ⟨_, rfl, ?_⟩; obtain ⟨wa403, wb403, nw_, ns1_, ns2_, ns3_⟩ := Kd.S_win ho0 (below_size Z0) Z16 hb.size; have n5_ := A_ (nw_); have nS_ := A_ (And.intro HS.out (And.intro ns1_ ns2_)); have ne_ := A_ (ns3_); clear nw_ ns1_ ns2_ ns3_; have n0_ := A_ (Kd.N_below (Z18 HO_8.out) hb); have n1_ := A_ (Kd.S_below (Z11 HO_10.out) hb); have n2_ := A_ (Kd.R_below (Z6 HO_11.out) hb); have n3_ := A_ (Kd.R_below (Z6 HO_12.out) hb); have n4_ := A_ (Kd.S_below (Z11 HO_13.out) hb); have n6_ := A_ (below_step Z0 hb); clear HS; have HS := nS_; clear nS_; clear HE; have HE := ne_; clear ne_; clear HO_8; clear HO_10; clear HO_11; clear HO_12; clear HO_13; clear HB; have HO_8 := n0_; have HO_10 := n1_; have HO_11 := n2_; have HO_12 := n3_; have HO_13 := n4_; have HO403 := n5_; have HB := n6_; clear n0_ n1_ n2_ n3_ n4_ n5_ n6_; (try clear hb); (try clear hb2); (try clear hk); (try clear hi); (try clear ho0); obtain ⟨Ao133, co133, eo133⟩ := Kd.S_slice HO403.out; subst eo133) | ((with_reducible refine gate_callee (f := 25) rfl ?_); refine goesL_ (some 70) rfl rfl Try.func25 (by kernel_rfl) rfl #[.slice Ao35 t387.length co35, .slice Ao133 t401.length co133] rfl Z5 ?_; (with_reducible refine (laws_eqCellS.calls kj21 _ _ t387 _ _ t401 true _ ?side1 ?side2 ?side3 ?side4 A49.out).mono ?_); (case side1 => exact Z19 HO_10.out); (case side2 => exact (Kd.S_reads' HO_10.out).2.1); (case side3 => exact Z19 HO403.out); (case side4 => exact (Kd.S_reads' HO403.out).2.1); rintro e w134 ⟨rfl, hb⟩; refine ⟨_, rfl, ?_⟩; have n0_ := A_ (Kd.N_below (Z18 HO_8.out) hb); have n1_ := A_ (Kd.S_below (Z11 HO_10.out) hb); have n2_ := A_ (Kd.R_below (Z6 HO_11.out) hb); have n3_ := A_ (Kd.R_below (Z6 HO_12.out) hb); have n4_ := A_ (Kd.S_below (Z11 HO_13.out) hb); have n5_ := A_ (Kd.S_below (Z11 HO403.out) hb); have n6_ := A_ (below_step Z0 hb); have ne_ := A_ (sz_below Z16 hb); clear HE; have HE := ne_; clear ne_; clear HO_8; clear HO_10; clear HO_11; clear HO_12; clear HO_13; clear HO403; clear HB; have HO_8 := n0_; have HO_10 := n1_; have HO_11 := n2_; have HO_12 := n3_; have HO_13 := n4_; have HO403 := n5_; have HB := n6_; clear n0_ n1_ n2_ n3_ n4_ n5_ n6_; (try clear hb); (try clear hb2); (try clear hk); (try clear hi)) | ((with_reducible refine gate_callee (f := 22) rfl ?_); refine goesL_ (some 74) rfl rfl Try.func22 (by kernel_rfl) rfl #[.slice A1 l1.length c1] rfl Z5 ?_; (with_reducible refine (laws_toSlotS.calls kj21 _ _ l1 t405 _ ?side1 ?side2 A51.out).mono ?_); (case side1 => exact Z3 HR1.out); (case side2 => exact HC1.out); rintro e w135 ⟨v406, rfl, ho0, hb⟩; refine ⟨_, rfl, ?_⟩; obtain ⟨wa407, wb407, nw_, ns1_, ns2_, ns3_⟩ := Kd.R_win ho0 (below_size Z0) Z16 hb.size; have n6_ := A_ (nw_); have nS_ := A_ (And.intro HS.out (And.intro ns1_ ns2_)); have ne_ := A_ (ns3_); clear nw_ ns1_ ns2_ ns3_; have n0_ := A_ (Kd.N_below (Z18 HO_8.out) hb); have n1_ := A_ (Kd.S_below (Z11 HO_10.out) hb); have n2_ := A_ (Kd.R_below (Z6 HO_11.out) hb); have n3_ := A_ (Kd.R_below (Z6 HO_12.out) hb); have n4_ := A_ (Kd.S_below (Z11 HO_13.out) hb); have n5_ := A_ (Kd.S_below (Z11 HO403.out) hb); have n7_ := A_ (below_step Z0 hb); clear HS; have HS := nS_; clear nS_; clear HE; have HE := ne_; clear ne_; clear HO_8; clear HO_10; clear HO_11; clear HO_12; clear HO_13; clear HO403; clear HB; have HO_8 := n0_; have HO_10 := n1_; have HO_11 := n2_; have HO_12 := n3_; have HO_13 := n4_; have HO403 := n5_; have HO407 := n6_; have HB := n7_; clear n0_ n1_ n2_ n3_ n4_ n5_ n6_ n7_; (try clear hb); (try clear hb2); (try clear hk); (try clear hi); (try clear ho0); obtain ⟨Ao136, co136, eo136⟩ := Kd.R_slice HO407.out; subst eo136) | ((with_reducible refine gate_callee (f := 26) rfl ?_); refine goesL_ (some 75) rfl rfl Try.func26 (by kernel_rfl) rfl #[.slice Ao36 t390.length co36, .slice Ao136 t405.length co136] rfl Z5 ?_; (with_reducible refine (laws_eqSlotS.calls kj21 _ _ t390 _ _ t405 false _ ?side1 ?side2 ?side3 ?side4 A52.out).mono ?_); (case side1 => exact Z22 HO_11.out); (case side2 => exact (Kd.R_reads' HO_11.out).2.1); (case side3 => exact Z22 HO407.out); (case side4 => exact (Kd.R_reads' HO407.out).2.1); rintro e w137 ⟨rfl, hb⟩; refine ⟨_, rfl, ?_⟩; have n0_ := A_ (Kd.N_below (Z18 HO_8.out) hb); have n1_ := A_ (Kd.S_below (Z11 HO_10.out) hb); have n2_ := A_ (Kd.R_below (Z6 HO_11.out) hb); have n3_ := A_ (Kd.R_below (Z6 HO_12.out) hb); have n4_ := A_ (Kd.S_below (Z11 HO_13.out) hb); have n5_ := A_ (Kd.S_below (Z11 HO403.out) hb); have n6_ := A_ (Kd.R_below (Z6 HO407.out) hb); have n7_ := A_ (below_step Z0 hb); have ne_ := A_ (sz_below Z16 hb); clear HE; have HE := ne_; clear ne_; clear HO_8; clear HO_10; clear HO_11; clear HO_12; clear HO_13; clear HO403; clear HO407; clear HB; have HO_8 := n0_; have HO_10 := n1_; have HO_11 := n2_; have HO_12 := n3_; have HO_13 := n4_; have HO403 := n5_; have HO407 := n6_; have HB := n7_; clear n0_ n1_ n2_ n3_ n4_ n5_ n6_ n7_; (try clear hb); (try clear hb2); (try clear hk); (try clear hi)))
         go_ret
         exact ⟨Z14, Z0⟩
       ·replace c50 := Bool.eq_false_iff.mpr c50
        subst c50
        have H1 : (some false) = some r := by rw [if_neg (show ¬ (false = true) by decide)] at H; exact H
        clear H
        have H := H1
        clear H1
        obtain rfl := Option.some.inj H
        go_wp2_with (first | ((with_reducible refine gate_callee (f := 21) rfl ?_); refine goesL_ (some 69) rfl rfl Try.func21 (by kernel_rfl) rfl #[.slice A0 l0.length c0] rfl Z5 ?_; (with_reducible refine (laws_toCellS.calls kj21 _ _ l0 t401 _ ?side1 ?side2 A48.out).mono ?_); (case side1 => exact Z3 HR0.out); (case side2 => exact HC0.out); rintro e w138 ⟨v402, rfl, ho0, hb⟩; refine ⟨_, rfl, ?_⟩; obtain ⟨wa403, wb403, nw_, ns1_, ns2_, ns3_⟩ := Kd.S_win ho0 (below_size Z0) Z16 hb.size; have n5_ := A_ (nw_); have nS_ := A_ (And.intro HS.out (And.intro ns1_ ns2_)); have ne_ := A_ (ns3_); clear nw_ ns1_ ns2_ ns3_; have n0_ := A_ (Kd.N_below (Z18 HO_8.out) hb); have n1_ := A_ (Kd.S_below (Z11 HO_10.out) hb); have n2_ := A_ (Kd.R_below (Z6 HO_11.out) hb); have n3_ := A_ (Kd.R_below (Z6 HO_12.out) hb); have n4_ := A_ (Kd.S_below (Z11 HO_13.out) hb); have n6_ := A_ (below_step Z0 hb); clear HS; have HS := nS_; clear nS_; clear HE; have HE := ne_; clear ne_; clear HO_8; clear HO_10; clear HO_11; clear HO_12; clear HO_13; clear HB; have HO_8 := n0_; have HO_10 := n1_; have HO_11 := n2_; have HO_12 := n3_; have HO_13 := n4_; have HO403 := n5_; have HB := n6_; clear n0_ n1_ n2_ n3_ n4_ n5_ n6_; (try clear hb); (try clear hb2); (try clear hk); (try clear hi); (try clear ho0); obtain ⟨Ao139, co139, eo139⟩ := Kd.S_slice HO403.out; subst eo139) | ((with_reducible refine gate_callee (f := 25) rfl ?_); refine goesL_ (some 70) rfl rfl Try.func25 (by kernel_rfl) rfl #[.slice Ao35 t387.length co35, .slice Ao139 t401.length co139] rfl Z5 ?_; (with_reducible refine (laws_eqCellS.calls kj21 _ _ t387 _ _ t401 false _ ?side1 ?side2 ?side3 ?side4 A49.out).mono ?_); (case side1 => exact Z19 HO_10.out); (case side2 => exact (Kd.S_reads' HO_10.out).2.1); (case side3 => exact Z19 HO403.out); (case side4 => exact (Kd.S_reads' HO403.out).2.1); rintro e w140 ⟨rfl, hb⟩; refine ⟨_, rfl, ?_⟩; have n0_ := A_ (Kd.N_below (Z18 HO_8.out) hb); have n1_ := A_ (Kd.S_below (Z11 HO_10.out) hb); have n2_ := A_ (Kd.R_below (Z6 HO_11.out) hb); have n3_ := A_ (Kd.R_below (Z6 HO_12.out) hb); have n4_ := A_ (Kd.S_below (Z11 HO_13.out) hb); have n5_ := A_ (Kd.S_below (Z11 HO403.out) hb); have n6_ := A_ (below_step Z0 hb); have ne_ := A_ (sz_below Z16 hb); clear HE; have HE := ne_; clear ne_; clear HO_8; clear HO_10; clear HO_11; clear HO_12; clear HO_13; clear HO403; clear HB; have HO_8 := n0_; have HO_10 := n1_; have HO_11 := n2_; have HO_12 := n3_; have HO_13 := n4_; have HO403 := n5_; have HB := n6_; clear n0_ n1_ n2_ n3_ n4_ n5_ n6_; (try clear hb); (try clear hb2); (try clear hk); (try clear hi)))
        go_ret
        exact ⟨Z14, Z0⟩
end Go.Proofs.Ytpadhphdglbciaa.PFnExactStorePut
