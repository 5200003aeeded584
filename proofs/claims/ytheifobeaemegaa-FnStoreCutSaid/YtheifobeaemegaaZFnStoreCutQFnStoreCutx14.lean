/- Walks of the functions that the law 'FnStoreCut' reaches, part 14: for each a Lean function and the proof that Go's comes to just its answer (lines of the print, under own names; no condition). -/
import Derived.Test.YtheifobeaemegaaZFnStoreCutQFnStoreCutx0
import Derived.Test.YtheifobeaemegaaZFnStoreCutQFnStoreCutx3
import Derived.Test.YtheifobeaemegaaZFnStoreCutQFnStoreCutx5
import Derived.Test.YtheifobeaemegaaZFnStoreCutQFnStoreCutx10
import Derived.Test.YtheifobeaemegaaZFnStoreCutQFnStoreCutx13
namespace Go.Proofs.Ytheifobeaemegaa.PFnStoreCut
open Go.RowKit Go.Proofs.YtheifobeaemegaaW.PrintWords Go.Proofs.YtheifobeaemegaaW.PrintLast Go.Proofs.YtheifobeaemegaaW.PrintMore
attribute [local go_sem] max2_int min2_int max_two min_two max_three min_three max_four min_four
set_option linter.unusedVariables false
set_option linter.unusedSimpArgs false
mutual
def laws_FnStoreCut.j0 : Nat → List (S68) → List (S41) → Bool → Bool → Option (Bool)
 | 0, _, _, _, _ => none
 | k + 1, x4, x5, x7, x37 => if x37 = true then (some x7) else (laws_FnStoreCut.l0 k x4 x5 0)
def laws_FnStoreCut.l0 : Nat → List (S68) → List (S41) → Int → Option (Bool)
 | 0, _, _, _ => none
 | k + 1, x4, x5, x8 => if x8 < (x5.length : Int) then (if 0 ≤ x8 then ((impl_PlaceUnder.f k ((rd_T41 x5 x8).f0) x4).bind fun t465 => (if t465 = true then (some false) else (laws_FnStoreCut.l0 k x4 x5 (wrap64 (x8 + 1))))) else (none)) else ((impl_StoreCut.f k x5 x4).bind fun t466 => ((spec_SameStore.f k t466 x5).bind fun t469 => (if t469 = true then ((impl_StoreOk.f k x5).bind fun t470 => (some t470)) else (some false))))
end
def laws_FnStoreCut.f (k : Nat) (l0 : List Int) : Option (Bool) := if (l0.length : Int) > 1048576 then (some true) else ((spec_DrawStoreCut.f k l0).bind fun bt449 => ((impl_StoreCut.f k bt449.1 bt449.2).bind fun t455 => ((spec_StoreCut.f k bt449.1 bt449.2).bind fun t458 => ((spec_SameStore.f k t455 t458).bind fun t461 => (if t461 = true then ((impl_StoreOk.f k bt449.1).bind fun t462 => (if t462 = true then ((impl_PlaceOk.f k bt449.2).bind fun t463 => (laws_FnStoreCut.j0 k bt449.2 t455 t461 (!t463))) else (laws_FnStoreCut.j0 k bt449.2 t455 t461 true))) else (laws_FnStoreCut.j0 k bt449.2 t455 t461 true))))))
theorem laws_FnStoreCut.mono_l : ∀ k, (∀ y0 y1 y2 y3, LeO (laws_FnStoreCut.j0 k y0 y1 y2 y3) (laws_FnStoreCut.j0 (k + 1) y0 y1 y2 y3)) ∧ (∀ y0 y1 y2, LeO (laws_FnStoreCut.l0 k y0 y1 y2) (laws_FnStoreCut.l0 (k + 1) y0 y1 y2))
 | 0 => ⟨fun _ _ _ _ r h => by simp [laws_FnStoreCut.j0] at h, fun _ _ _ r h => by simp [laws_FnStoreCut.l0] at h⟩
 | k + 1 => by
  obtain ⟨ih0, ih1⟩ := laws_FnStoreCut.mono_l k
  refine ⟨?_, ?_⟩
  ·intro y0 y1 y2 y3
   unfold laws_FnStoreCut.j0
   repeat' first
   | (with_reducible exact ih0 _ _ _ _)
   | (with_reducible exact ih1 _ _ _)
   | (with_reducible exact impl_PlaceOk.mono _ _)
   | (with_reducible exact impl_PlaceUnder.mono _ _ _)
   | (with_reducible exact impl_StoreCut.mono _ _ _)
   | (with_reducible exact impl_StoreOk.mono _ _)
   | (with_reducible exact spec_DrawStoreCut.mono _ _)
   | (with_reducible exact spec_SameStore.mono _ _ _)
   | (with_reducible exact spec_StoreCut.mono _ _ _)
   | (with_reducible exact LeO.refl _)
   | (with_reducible exact LeO.none _)
   | (with_reducible refine LeO.ite ?_ ?_)
   | (with_reducible refine LeO.bind ?_ (fun _ => ?_))
   | exact ih0 _ _ _ _
   | exact ih1 _ _ _
   | exact impl_PlaceOk.mono _ _
   | exact impl_PlaceUnder.mono _ _ _
   | exact impl_StoreCut.mono _ _ _
   | exact impl_StoreOk.mono _ _
   | exact spec_DrawStoreCut.mono _ _
   | exact spec_SameStore.mono _ _ _
   | exact spec_StoreCut.mono _ _ _
   | exact LeO.none _
   | refine LeO.ite ?_ ?_
   | refine LeO.bind ?_ (fun _ => ?_)
  ·intro y0 y1 y2
   unfold laws_FnStoreCut.l0
   repeat' first
   | (with_reducible exact ih0 _ _ _ _)
   | (with_reducible exact ih1 _ _ _)
   | (with_reducible exact impl_PlaceOk.mono _ _)
   | (with_reducible exact impl_PlaceUnder.mono _ _ _)
   | (with_reducible exact impl_StoreCut.mono _ _ _)
   | (with_reducible exact impl_StoreOk.mono _ _)
   | (with_reducible exact spec_DrawStoreCut.mono _ _)
   | (with_reducible exact spec_SameStore.mono _ _ _)
   | (with_reducible exact spec_StoreCut.mono _ _ _)
   | (with_reducible exact LeO.refl _)
   | (with_reducible exact LeO.none _)
   | (with_reducible refine LeO.ite ?_ ?_)
   | (with_reducible refine LeO.bind ?_ (fun _ => ?_))
   | exact ih0 _ _ _ _
   | exact ih1 _ _ _
   | exact impl_PlaceOk.mono _ _
   | exact impl_PlaceUnder.mono _ _ _
   | exact impl_StoreCut.mono _ _ _
   | exact impl_StoreOk.mono _ _
   | exact spec_DrawStoreCut.mono _ _
   | exact spec_SameStore.mono _ _ _
   | exact spec_StoreCut.mono _ _ _
   | exact LeO.none _
   | refine LeO.ite ?_ ?_
   | refine LeO.bind ?_ (fun _ => ?_)
theorem laws_FnStoreCut.mono : ∀ a0 k, LeO (laws_FnStoreCut.f k a0) (laws_FnStoreCut.f (k + 1) a0) := by
 intro a0 k
 obtain ⟨ih0, ih1⟩ := laws_FnStoreCut.mono_l k
 unfold laws_FnStoreCut.f
 repeat' first
   | (with_reducible exact ih0 _ _ _ _)
   | (with_reducible exact ih1 _ _ _)
   | (with_reducible exact impl_PlaceOk.mono _ _)
   | (with_reducible exact impl_PlaceUnder.mono _ _ _)
   | (with_reducible exact impl_StoreCut.mono _ _ _)
   | (with_reducible exact impl_StoreOk.mono _ _)
   | (with_reducible exact spec_DrawStoreCut.mono _ _)
   | (with_reducible exact spec_SameStore.mono _ _ _)
   | (with_reducible exact spec_StoreCut.mono _ _ _)
   | (with_reducible exact LeO.refl _)
   | (with_reducible exact LeO.none _)
   | (with_reducible refine LeO.ite ?_ ?_)
   | (with_reducible refine LeO.bind ?_ (fun _ => ?_))
   | exact ih0 _ _ _ _
   | exact ih1 _ _ _
   | exact impl_PlaceOk.mono _ _
   | exact impl_PlaceUnder.mono _ _ _
   | exact impl_StoreCut.mono _ _ _
   | exact impl_StoreOk.mono _ _
   | exact spec_DrawStoreCut.mono _ _
   | exact spec_SameStore.mono _ _ _
   | exact spec_StoreCut.mono _ _ _
   | exact LeO.none _
   | refine LeO.ite ?_ ?_
   | refine LeO.bind ?_ (fun _ => ?_)
set_option maxHeartbeats 8000000 in
set_option maxRecDepth 100000 in
theorem laws_FnStoreCut.calls (k : Nat) (A0 : Option Addr) (c0 : Nat) (l0 : List Int) (r : Bool) (w : World) (hr0 : Kd.C (Kd.int .u8) w A0 l0.length l0) (hc0 : l0.length ≤ c0) (h : laws_FnStoreCut.f k l0 = some r) :
  Calls Try.prog 6 #[.slice A0 l0.length c0] w fun e w' => e = .returned (.bool r) ∧ Below w.heap.size w w' := by
 have HR0 := A_ hr0
 have HC0 := A_ hc0
 clear hr0 hc0
 have HB := A_ (Below.refl w.heap.size w)
 have H : (if (l0.length : Int) > 1048576 then (some true) else ((spec_DrawStoreCut.f k l0).bind fun bt449 => ((impl_StoreCut.f k bt449.1 bt449.2).bind fun t455 => ((spec_StoreCut.f k bt449.1 bt449.2).bind fun t458 => ((spec_SameStore.f k t455 t458).bind fun t461 => (if t461 = true then ((impl_StoreOk.f k bt449.1).bind fun t462 => (if t462 = true then ((impl_PlaceOk.f k bt449.2).bind fun t463 => (laws_FnStoreCut.j0 k bt449.2 t455 t461 (!t463))) else (laws_FnStoreCut.j0 k bt449.2 t455 t461 true))) else (laws_FnStoreCut.j0 k bt449.2 t455 t461 true))))))) = some r := h
 clear h
 by_cases c2 : (l0.length : Int) > 1048576
 ·rw [if_pos c2] at H
  have c2b0 : decide (1048576 < (l0.length : Int)) = true := decide_eq_true c2
  have c2b1 : decide (1048576 < l0.length) = true := decide_eq_true (by omega)
  clear c2
  obtain rfl := Option.some.inj H
  go_enter Try.func6, Try.ntmps6
  go_wp2
  go_ret
  exact ⟨Z18, Z1⟩
 ·rw [if_neg c2] at H
  have c2b0 : decide (1048576 < (l0.length : Int)) = false := decide_eq_false c2
  have c2b1 : decide (1048576 < l0.length) = false := decide_eq_false (by omega)
  clear c2
  replace H := Option.bind_eq_some_iff.mp H
  obtain ⟨⟨t449, t452⟩, A30, H⟩ := H
  replace H : ((impl_StoreCut.f k t449 t452).bind fun t455 => ((spec_StoreCut.f k t449 t452).bind fun t458 => ((spec_SameStore.f k t455 t458).bind fun t461 => (if t461 = true then ((impl_StoreOk.f k t449).bind fun t462 => (if t462 = true then ((impl_PlaceOk.f k t452).bind fun t463 => (laws_FnStoreCut.j0 k t452 t455 t461 (!t463))) else (laws_FnStoreCut.j0 k t452 t455 t461 true))) else (laws_FnStoreCut.j0 k t452 t455 t461 true))))) = some r := H
  have A3 := A_ A30
  clear A30
  replace H := Option.bind_eq_some_iff.mp H
  obtain ⟨t455, A40, H⟩ := H
  replace H : ((spec_StoreCut.f k t449 t452).bind fun t458 => ((spec_SameStore.f k t455 t458).bind fun t461 => (if t461 = true then ((impl_StoreOk.f k t449).bind fun t462 => (if t462 = true then ((impl_PlaceOk.f k t452).bind fun t463 => (laws_FnStoreCut.j0 k t452 t455 t461 (!t463))) else (laws_FnStoreCut.j0 k t452 t455 t461 true))) else (laws_FnStoreCut.j0 k t452 t455 t461 true)))) = some r := H
  have A4 := A_ A40
  clear A40
  replace H := Option.bind_eq_some_iff.mp H
  obtain ⟨t458, A50, H⟩ := H
  replace H : ((spec_SameStore.f k t455 t458).bind fun t461 => (if t461 = true then ((impl_StoreOk.f k t449).bind fun t462 => (if t462 = true then ((impl_PlaceOk.f k t452).bind fun t463 => (laws_FnStoreCut.j0 k t452 t455 t461 (!t463))) else (laws_FnStoreCut.j0 k t452 t455 t461 true))) else (laws_FnStoreCut.j0 k t452 t455 t461 true))) = some r := H
  have A5 := A_ A50
  clear A50
  replace H := Option.bind_eq_some_iff.mp H
  obtain ⟨t461, A60, H⟩ := H
  replace H : (if t461 = true then ((impl_StoreOk.f k t449).bind fun t462 => (if t462 = true then ((impl_PlaceOk.f k t452).bind fun t463 => (laws_FnStoreCut.j0 k t452 t455 t461 (!t463))) else (laws_FnStoreCut.j0 k t452 t455 t461 true))) else (laws_FnStoreCut.j0 k t452 t455 t461 true)) = some r := H
  have A6 := A_ A60
  clear A60
  have HC7 := A_ H
  clear H
  go_enter Try.func6, Try.ntmps6
  go_upto_region 7 with (first | ((with_reducible refine gate_callee (f := 20) rfl ?_); refine goesL_ (some 14) rfl rfl Try.func20 (by kernel_rfl) rfl #[.slice A0 l0.length c0] rfl Z3 ?_; (with_reducible refine (spec_DrawStoreCut.calls k _ _ l0 t449 t452 _ ?side1 ?side2 A3.out).mono ?_); (case side1 => exact Z17 HR0.out); (case side2 => exact HC0.out); rintro e w8 ⟨v450, v453, rfl, ho0, ho1, hb⟩; refine ⟨_, rfl, ?_⟩; have n0_ := A_ (Kd.N_lower (Kd.N_mono (ok' := fun k_ => some k_ ≠ (v453 : Value).ownBlock) ho0 (fun k_ hk_ => hk_.2)) (below_size Z1)); have n1_ := A_ (Kd.R_lower (Kd.R_mono (ok' := fun k_ => True) ho1 (fun _ hk_ => trivial)) (below_size Z1)); have n2_ := A_ (below_step Z1 hb); clear HB; have HO451 := n0_; have HO454 := n1_; have HB := n2_; clear n0_ n1_ n2_; (try clear hb); (try clear hb2); (try clear hk); (try clear hi); (try clear ho0); (try clear ho1); obtain ⟨Ao9, co9, eo9⟩ := Kd.N_slice HO451.out; subst eo9; obtain ⟨Ao10, co10, eo10⟩ := Kd.R_slice HO454.out; subst eo10) | ((with_reducible refine gate_callee (f := 21) rfl ?_); refine goesL_ (some 19) rfl rfl Try.func21 (by kernel_rfl) rfl #[.slice Ao9 t449.length co9, .slice Ao10 t452.length co10] rfl Z3 ?_; (with_reducible refine (impl_StoreCut.calls k _ _ t449 _ _ t452 t455 _ ?side1 ?side2 ?side3 ?side4 A4.out).mono ?_); (case side1 => exact Z28 HO451.out); (case side2 => exact (Kd.N_reads' HO451.out).2.1); (case side3 => exact Z27 HO454.out); (case side4 => exact (Kd.R_reads' HO454.out).2.1); rintro e w11 ⟨v456, rfl, ho0, hb⟩; refine ⟨_, rfl, ?_⟩; have n0_ := A_ (Kd.N_elder' (Z20 HO451.out) (by first | exact Kd.N_base ho0 | exact Kd.S_base ho0) hb); have n1_ := A_ (Kd.R_below (Z14 HO454.out) hb); have n2_ := A_ (Kd.N_lower (Kd.N_mono (ok' := fun k_ => some k_ ≠ (.slice Ao9 t449.length co9 : Value).ownBlock ∧ some k_ ≠ (.slice Ao10 t452.length co10 : Value).ownBlock) (Kd.S_N (Kd.S_bound ho0)) (fun k_ hk_ => ⟨(Kd.fresh' (Kd.N_lt (Z20 HO451.out)) k_ hk_.2.1), (Kd.fresh' (Kd.R_lt (Z14 HO454.out)) k_ hk_.2.1)⟩)) (below_size Z1)); have n3_ := A_ (below_step Z1 hb); clear HO451; clear HO454; clear HB; have HO451 := n0_; have HO454 := n1_; have HO457 := n2_; have HB := n3_; clear n0_ n1_ n2_ n3_; (try clear hb); (try clear hb2); (try clear hk); (try clear hi); (try clear ho0)) | ((with_reducible refine gate_callee (f := 22) rfl ?_); refine goesL_ (some 22) rfl rfl Try.func22 (by kernel_rfl) rfl #[.slice Ao9 t449.length co9, .slice Ao10 t452.length co10] rfl Z3 ?_; (with_reducible refine (spec_StoreCut.calls k _ _ t449 _ _ t452 t458 _ ?side1 ?side2 ?side3 ?side4 A5.out).mono ?_); (case side1 => exact Z28 HO451.out); (case side2 => exact (Kd.N_reads' HO451.out).2.1); (case side3 => exact Z27 HO454.out); (case side4 => exact (Kd.R_reads' HO454.out).2.1); rintro e w12 ⟨v459, rfl, ho0, hb⟩; refine ⟨_, rfl, ?_⟩; have n0_ := A_ (Kd.N_elder' (Z20 HO451.out) (by first | exact Kd.N_base ho0 | exact Kd.S_base ho0) hb); have n1_ := A_ (Kd.R_below (Z14 HO454.out) hb); have n2_ := A_ (Kd.N_elder' (Z20 HO457.out) (by first | exact Kd.N_base ho0 | exact Kd.S_base ho0) hb); have n3_ := A_ (Kd.N_lower (Kd.N_mono (ok' := fun k_ => some k_ ≠ (.slice Ao9 t449.length co9 : Value).ownBlock ∧ some k_ ≠ (.slice Ao10 t452.length co10 : Value).ownBlock ∧ some k_ ≠ (v456 : Value).ownBlock) (Kd.S_N (Kd.S_bound ho0)) (fun k_ hk_ => ⟨(Kd.fresh' (Kd.N_lt (Z20 HO451.out)) k_ hk_.2.1), (Kd.fresh' (Kd.R_lt (Z14 HO454.out)) k_ hk_.2.1), (Kd.fresh' (Kd.N_lt (Z20 HO457.out)) k_ hk_.2.1)⟩)) (below_size Z1)); have n4_ := A_ (below_step Z1 hb); clear HO451; clear HO454; clear HO457; clear HB; have HO451 := n0_; have HO454 := n1_; have HO457 := n2_; have HO460 := n3_; have HB := n4_; clear n0_ n1_ n2_ n3_ n4_; (try clear hb); (try clear hb2); (try clear hk); (try clear hi); (try clear ho0); obtain ⟨Ao13, co13, eo13⟩ := Kd.N_slice HO457.out; subst eo13; obtain ⟨Ao14, co14, eo14⟩ := Kd.N_slice HO460.out; subst eo14) | ((with_reducible refine gate_callee (f := 23) rfl ?_); refine goesL_ (some 25) rfl rfl Try.func23 (by kernel_rfl) rfl #[.slice Ao13 t455.length co13, .slice Ao14 t458.length co14] rfl Z3 ?_; (with_reducible refine (spec_SameStore.calls k _ _ t455 _ _ t458 t461 _ ?side1 ?side2 ?side3 ?side4 A6.out).mono ?_); (case side1 => exact Z28 HO457.out); (case side2 => exact (Kd.N_reads' HO457.out).2.1); (case side3 => exact Z28 HO460.out); (case side4 => exact (Kd.N_reads' HO460.out).2.1); rintro e w' ⟨rfl, ⟨nd, rfl⟩⟩; refine ⟨_, rfl, ?_⟩))
  (try simp only [Act.put, List.setIfInBounds_toArray, List.set_cons_zero, List.set_cons_succ])
  go_cut [37] (fun v37 wc => ∃ (kq : Nat) (x37_6 : Bool), v37 = .bool x37_6 ∧ Aside0 (laws_FnStoreCut.j0 kq t452 t455 t461 x37_6 = some r) ∧ Aside0 (kq ≤ k) ∧ Aside0 (Kd.R k68 68 wc w.heap.size (fun _ => True) (.slice Ao10 t452.length co10) t452) ∧ Aside0 (Kd.N k41 41 wc w.heap.size (fun k_ => some k_ ≠ ((.slice Ao10 t452.length co10) : Value).ownBlock) (.slice Ao13 t455.length co13) t455) ∧ Aside0 (Below w.heap.size w wc))
  case first =>
   have H := HC7.out
   clear HC7
   by_cases c15 : t461 = true
   ·subst c15
    have H1 : ((impl_StoreOk.f k t449).bind fun t462 => (if t462 = true then ((impl_PlaceOk.f k t452).bind fun t463 => (laws_FnStoreCut.j0 k t452 t455 true (!t463))) else (laws_FnStoreCut.j0 k t452 t455 true true))) = some r := by rw [if_pos rfl] at H; exact H
    clear H
    have H := H1
    clear H1
    replace H := Option.bind_eq_some_iff.mp H
    obtain ⟨t462, A160, H⟩ := H
    replace H : (if t462 = true then ((impl_PlaceOk.f k t452).bind fun t463 => (laws_FnStoreCut.j0 k t452 t455 true (!t463))) else (laws_FnStoreCut.j0 k t452 t455 true true)) = some r := H
    have A16 := A_ A160
    clear A160
    by_cases c17 : t462 = true
    ·subst c17
     have H1 : ((impl_PlaceOk.f k t452).bind fun t463 => (laws_FnStoreCut.j0 k t452 t455 true (!t463))) = some r := by rw [if_pos rfl] at H; exact H
     clear H
     have H := H1
     clear H1
     replace H := Option.bind_eq_some_iff.mp H
     obtain ⟨t463, A180, H⟩ := H
     replace H : (laws_FnStoreCut.j0 k t452 t455 true (!t463)) = some r := H
     have A18 := A_ A180
     clear A180
     have H' := A_ H
     clear H
     go_wp2_with (first | (go_at_call 16; (with_reducible refine (impl_StoreOk.calls k _ _ t449 true _ ?side1 ?side2 A16.out).mono ?_); (case side1 => exact Z28 HO451.out); (case side2 => exact (Kd.N_reads' HO451.out).2.1); rintro e w19 ⟨rfl, hb⟩; have n0_ := A_ (Kd.N_below (Z20 HO451.out) hb); have n1_ := A_ (Kd.R_below (Z14 HO454.out) hb); have n2_ := A_ (Kd.N_below (Z20 HO457.out) hb); have n3_ := A_ (Kd.N_below (Z20 HO460.out) hb); have n4_ := A_ (below_step Z1 hb); clear HO451; clear HO454; clear HO457; clear HO460; clear HB; have HO451 := n0_; have HO454 := n1_; have HO457 := n2_; have HO460 := n3_; have HB := n4_; clear n0_ n1_ n2_ n3_ n4_; (try clear hb); (try clear hb2); (try clear hk); (try clear hi)) | (go_at_call 24; (with_reducible refine (impl_PlaceOk.calls k _ _ t452 t463 _ ?side1 ?side2 A18.out).mono ?_); (case side1 => exact Z27 HO454.out); (case side2 => exact (Kd.R_reads' HO454.out).2.1); rintro e w20 ⟨rfl, hb⟩; have n0_ := A_ (Kd.N_below (Z20 HO451.out) hb); have n1_ := A_ (Kd.R_below (Z14 HO454.out) hb); have n2_ := A_ (Kd.N_below (Z20 HO457.out) hb); have n3_ := A_ (Kd.N_below (Z20 HO460.out) hb); have n4_ := A_ (below_step Z1 hb); clear HO451; clear HO454; clear HO457; clear HO460; clear HB; have HO451 := n0_; have HO454 := n1_; have HO457 := n2_; have HO460 := n3_; have HB := n4_; clear n0_ n1_ n2_ n3_ n4_; (try clear hb); (try clear hb2); (try clear hk); (try clear hi)))
     go_meet
     case rel => exact ⟨_, (!t463), Z22, H', ⟨by first | omega | exact Nat.le_refl _⟩, ⟨Z14 HO454.out⟩, ⟨by (with_reducible repeat (first | apply Kd.N_alloc | apply Kd.N_drewN | apply Kd.N_drew)); exact Kd.N_mono HO457.out (fun _ hk => hk.1.2)⟩, ⟨Z1⟩⟩
    ·replace c17 := Bool.eq_false_iff.mpr c17
     subst c17
     have H1 : (laws_FnStoreCut.j0 k t452 t455 true true) = some r := by rw [if_neg (show ¬ (false = true) by decide)] at H; exact H
     clear H
     have H := H1
     clear H1
     have H' := A_ H
     clear H
     go_wp2_with (first | (go_at_call 16; (with_reducible refine (impl_StoreOk.calls k _ _ t449 false _ ?side1 ?side2 A16.out).mono ?_); (case side1 => exact Z28 HO451.out); (case side2 => exact (Kd.N_reads' HO451.out).2.1); rintro e w21 ⟨rfl, hb⟩; have n0_ := A_ (Kd.N_below (Z20 HO451.out) hb); have n1_ := A_ (Kd.R_below (Z14 HO454.out) hb); have n2_ := A_ (Kd.N_below (Z20 HO457.out) hb); have n3_ := A_ (Kd.N_below (Z20 HO460.out) hb); have n4_ := A_ (below_step Z1 hb); clear HO451; clear HO454; clear HO457; clear HO460; clear HB; have HO451 := n0_; have HO454 := n1_; have HO457 := n2_; have HO460 := n3_; have HB := n4_; clear n0_ n1_ n2_ n3_ n4_; (try clear hb); (try clear hb2); (try clear hk); (try clear hi)))
     go_meet
     case rel => exact ⟨_, (true), Z22, H', ⟨by first | omega | exact Nat.le_refl _⟩, ⟨Z14 HO454.out⟩, ⟨by (with_reducible repeat (first | apply Kd.N_alloc | apply Kd.N_drewN | apply Kd.N_drew)); exact Kd.N_mono HO457.out (fun _ hk => hk.1.2)⟩, ⟨Z1⟩⟩
   ·replace c15 := Bool.eq_false_iff.mpr c15
    subst c15
    have H1 : (laws_FnStoreCut.j0 k t452 t455 false true) = some r := by rw [if_neg (show ¬ (false = true) by decide)] at H; exact H
    clear H
    have H := H1
    clear H1
    have H' := A_ H
    clear H
    go_wp2
    go_meet
    case rel => exact ⟨_, (true), Z22, H', ⟨by first | omega | exact Nat.le_refl _⟩, ⟨Z14 HO454.out⟩, ⟨by (with_reducible repeat (first | apply Kd.N_alloc | apply Kd.N_drewN | apply Kd.N_drew)); exact Kd.N_mono HO457.out (fun _ hk => hk.1.2)⟩, ⟨Z1⟩⟩
  case rest =>
   clear HC7
   try clear c1
   try clear c2
   try clear c2b0
   try clear c2b1
   try clear p2
   try clear c6
   try clear c15
   try clear c17
   try clear c20
   try clear c21
   obtain ⟨kq, x37_6, rfl, HA, HJ6, HO_4, HO_5, HB⟩ := hcut
   cases kq with
   | zero => exact absurd HA.out (by simp [laws_FnStoreCut.j0])
   | succ kj6 =>
    have H := HA.out
    clear HA
    simp only [laws_FnStoreCut.j0] at H
    by_cases c22 : x37_6 = true
    ·subst c22
     have H1 : (some t461) = some r := by rw [if_pos rfl] at H; exact H
     clear H
     have H := H1
     clear H1
     obtain rfl := Option.some.inj H
     go_wp2
     go_ret
     exact ⟨Z18, Z1⟩
    ·replace c22 := Bool.eq_false_iff.mpr c22
     subst c22
     have H1 : (laws_FnStoreCut.l0 kj6 t452 t455 0) = some r := by rw [if_neg (show ¬ (false = true) by decide)] at H; exact H
     clear H
     have H := H1
     clear H1
     have H' := A_ H
     clear H
     go_wp2
     go_loopg [8] kj6 (fun kq v8 w' => ∃ (x8_2 : Int), v8 = .int .i64 x8_2 ∧ Aside0 (laws_FnStoreCut.l0 kq t452 t455 x8_2 = some r) ∧ Aside0 (kq ≤ kj6) ∧ Aside0 (Kd.R k68 68 w' w.heap.size (fun _ => True) (.slice Ao10 t452.length co10) t452) ∧ Aside0 (Kd.N k41 41 w' w.heap.size (fun k_ => some k_ ≠ ((.slice Ao10 t452.length co10) : Value).ownBlock) (.slice Ao13 t455.length co13) t455) ∧ Aside0 (Below w.heap.size w w'))
     case atStart => exact ⟨(0), Z22, H', ⟨Nat.le_refl _⟩, ⟨Z14 HO_4.out⟩, ⟨Z20 HO_5.out⟩, ⟨Z1⟩⟩
     case round =>
      clear H'
      try clear c1
      try clear c2
      try clear c2b0
      try clear c2b1
      try clear p2
      try clear c6
      try clear c15
      try clear c17
      try clear c20
      try clear c21
      try clear c22
      try clear p2
      obtain ⟨x8_2, rfl, HA, HK2, HO_4, HO_5, HB⟩ := hrel
      cases gk with
      | zero => exact absurd HA.out (by simp [laws_FnStoreCut.l0])
      | succ k2 =>
       have H := HA.out
       clear HA
       simp only [laws_FnStoreCut.l0] at H
       by_cases c23 : x8_2 < (t455.length : Int)
       ·rw [if_pos c23] at H
        have c23b0 : decide (x8_2 < (t455.length : Int)) = true := decide_eq_true c23
        clear c23
        by_cases c24 : 0 ≤ x8_2
        ·rw [if_pos c24] at H
         have c24b0 : decide (0 ≤ x8_2) = true := decide_eq_true c24
         clear c24
         replace H := Option.bind_eq_some_iff.mp H
         obtain ⟨t465, A250, H⟩ := H
         replace H : (if t465 = true then (some false) else (laws_FnStoreCut.l0 k2 t452 t455 (wrap64 (x8_2 + 1)))) = some r := H
         have A25 := A_ A250
         clear A250
         by_cases c26 : t465 = true
         ·subst c26
          have H1 : (some false) = some r := by rw [if_pos rfl] at H; exact H
          clear H
          have H := H1
          clear H1
          obtain rfl := Option.some.inj H
          have p464 : 0 ≤ (x8_2 : Int) := of_decide_eq_true Z13
          have q464 : x8_2 < (t455.length : Int) := of_decide_eq_true Z13
          obtain ⟨ad464, A464_0, c464_0, A464_1, c464_1, e464, hx464_0, hx464_1, hl464_0, hi464_0, hl464_1, hi464_1⟩ := at_T41 (Kd.N_reads' HO_5.out).2.2 x8_2 p464 q464
          cases e464
          obtain ⟨ce464, hce464, hMe464, hcc464⟩ := Kd.N_get HO_5.out z41 x8_2 p464 (by first | exact q464 | exact of_decide_eq_true Z13 | (have e_ := (Kd.N_reads' HO_5.out).1; omega))
          obtain ⟨ua464_0, uc464_0, ua464_1, uc464_1, rfl, ul464_0, ge464_0, ul464_1, ge464_1⟩ := k41_openF hMe464
          have hv464_0 := hcc464 0 _ rfl
          rw [Nat.add_zero] at hv464_0
          replace hv464_0 := Option.some.inj (hv464_0.symm.trans hx464_0)
          injection hv464_0 with hva_ hvn_ hvc_
          rw [hva_] at ge464_0
          rw [hvc_] at ul464_0
          have HL464_0 := A_ (show Kd.V k68 68 _ w.heap.size _ _ ((rd_T41 t455 x8_2).f0) from Kd.V_mk ul464_0 ge464_0)
          clear hva_ hvn_ hvc_ ge464_0 ul464_0
          have hv464_1 := hcc464 1 _ rfl
          rw [add_field _ _ 1 (by omega)] at hv464_1
          replace hv464_1 := Option.some.inj (hv464_1.symm.trans hx464_1)
          injection hv464_1 with hva_ hvn_ hvc_
          rw [hva_] at ge464_1
          rw [hvc_] at ul464_1
          have HL464_1 := A_ (show Kd.V k28 28 _ w.heap.size _ _ ((rd_T41 t455 x8_2).f1) from Kd.V_mk ul464_1 ge464_1)
          clear hva_ hvn_ hvc_ ge464_1 ul464_1
          clear hcc464 hce464
          have HR464_0 := A_ hi464_0
          have HC464_0 := A_ hl464_0
          clear hi464_0 hl464_0
          have HR464_1 := A_ hi464_1
          have HC464_1 := A_ hl464_1
          clear hi464_1 hl464_1
          replace p464 := eq_true p464
          replace q464 := eq_true q464
          go_wp2_with (first | ((with_reducible refine gate_callee (f := 25) rfl ?_); refine goesL_ (some 51) rfl rfl Try.func25 (by kernel_rfl) rfl #[.slice A464_0 ((rd_T41 t455 x8_2).f0).length c464_0, .slice Ao10 t452.length co10] rfl Z3 ?_; (with_reducible refine (impl_PlaceUnder.calls k2 _ _ ((rd_T41 t455 x8_2).f0) _ _ t452 true _ ?side1 ?side2 ?side3 ?side4 A25.out).mono ?_); (case side1 => repeat (first | exact (Z33 HR464_0.out) | (with_reducible refine Kd.C_alloc ?_ _) | (with_reducible refine Kd.C_drewN ?_ _) | (with_reducible refine Kd.C_drew ?_))); (case side2 => exact HC464_0.out); (case side3 => exact Z27 HO_4.out); (case side4 => exact (Kd.R_reads' HO_4.out).2.1); rintro e w27 ⟨rfl, hb⟩; refine ⟨_, rfl, ?_⟩; have n0_ := A_ (Kd.R_below (Z14 HO_4.out) hb); have n1_ := A_ (Kd.N_below (Z20 HO_5.out) hb); have n2_ := A_ (Kd.V_below (by (with_reducible repeat (first | apply Kd.V_alloc | apply Kd.V_drewN | apply Kd.V_drew)); exact HL464_0.out) hb); have n3_ := A_ (Kd.V_below (by (with_reducible repeat (first | apply Kd.V_alloc | apply Kd.V_drewN | apply Kd.V_drew)); exact HL464_1.out) hb); have n4_ := A_ (Kd.C_below (Z33 HR464_0.out) hb); have n5_ := A_ (Kd.C_below (Z33 HR464_1.out) hb); have n6_ := A_ (below_step Z1 hb); clear HO_4; clear HO_5; clear HL464_0; clear HL464_1; clear HR464_0; clear HR464_1; clear HB; have HO_4 := n0_; have HO_5 := n1_; have HL464_0 := n2_; have HL464_1 := n3_; have HR464_0 := n4_; have HR464_1 := n5_; have HB := n6_; clear n0_ n1_ n2_ n3_ n4_ n5_ n6_; (try clear hb); (try clear hb2); (try clear hk); (try clear hi)))
          go_ret
          exact ⟨Z18, Z1⟩
         ·replace c26 := Bool.eq_false_iff.mpr c26
          subst c26
          have H1 : (laws_FnStoreCut.l0 k2 t452 t455 (wrap64 (x8_2 + 1))) = some r := by rw [if_neg (show ¬ (false = true) by decide)] at H; exact H
          clear H
          have H := H1
          clear H1
          have H' := A_ H
          clear H
          have p464 : 0 ≤ (x8_2 : Int) := of_decide_eq_true Z13
          have q464 : x8_2 < (t455.length : Int) := of_decide_eq_true Z13
          obtain ⟨ad464, A464_0, c464_0, A464_1, c464_1, e464, hx464_0, hx464_1, hl464_0, hi464_0, hl464_1, hi464_1⟩ := at_T41 (Kd.N_reads' HO_5.out).2.2 x8_2 p464 q464
          cases e464
          obtain ⟨ce464, hce464, hMe464, hcc464⟩ := Kd.N_get HO_5.out z41 x8_2 p464 (by first | exact q464 | exact of_decide_eq_true Z13 | (have e_ := (Kd.N_reads' HO_5.out).1; omega))
          obtain ⟨ua464_0, uc464_0, ua464_1, uc464_1, rfl, ul464_0, ge464_0, ul464_1, ge464_1⟩ := k41_openF hMe464
          have hv464_0 := hcc464 0 _ rfl
          rw [Nat.add_zero] at hv464_0
          replace hv464_0 := Option.some.inj (hv464_0.symm.trans hx464_0)
          injection hv464_0 with hva_ hvn_ hvc_
          rw [hva_] at ge464_0
          rw [hvc_] at ul464_0
          have HL464_0 := A_ (show Kd.V k68 68 _ w.heap.size _ _ ((rd_T41 t455 x8_2).f0) from Kd.V_mk ul464_0 ge464_0)
          clear hva_ hvn_ hvc_ ge464_0 ul464_0
          have hv464_1 := hcc464 1 _ rfl
          rw [add_field _ _ 1 (by omega)] at hv464_1
          replace hv464_1 := Option.some.inj (hv464_1.symm.trans hx464_1)
          injection hv464_1 with hva_ hvn_ hvc_
          rw [hva_] at ge464_1
          rw [hvc_] at ul464_1
          have HL464_1 := A_ (show Kd.V k28 28 _ w.heap.size _ _ ((rd_T41 t455 x8_2).f1) from Kd.V_mk ul464_1 ge464_1)
          clear hva_ hvn_ hvc_ ge464_1 ul464_1
          clear hcc464 hce464
          have HR464_0 := A_ hi464_0
          have HC464_0 := A_ hl464_0
          clear hi464_0 hl464_0
          have HR464_1 := A_ hi464_1
          have HC464_1 := A_ hl464_1
          clear hi464_1 hl464_1
          replace p464 := eq_true p464
          replace q464 := eq_true q464
          go_wp2_with (first | ((with_reducible refine gate_callee (f := 25) rfl ?_); refine goesL_ (some 51) rfl rfl Try.func25 (by kernel_rfl) rfl #[.slice A464_0 ((rd_T41 t455 x8_2).f0).length c464_0, .slice Ao10 t452.length co10] rfl Z3 ?_; (with_reducible refine (impl_PlaceUnder.calls k2 _ _ ((rd_T41 t455 x8_2).f0) _ _ t452 false _ ?side1 ?side2 ?side3 ?side4 A25.out).mono ?_); (case side1 => repeat (first | exact (Z33 HR464_0.out) | (with_reducible refine Kd.C_alloc ?_ _) | (with_reducible refine Kd.C_drewN ?_ _) | (with_reducible refine Kd.C_drew ?_))); (case side2 => exact HC464_0.out); (case side3 => exact Z27 HO_4.out); (case side4 => exact (Kd.R_reads' HO_4.out).2.1); rintro e w28 ⟨rfl, hb⟩; refine ⟨_, rfl, ?_⟩; have n0_ := A_ (Kd.R_below (Z14 HO_4.out) hb); have n1_ := A_ (Kd.N_below (Z20 HO_5.out) hb); have n2_ := A_ (Kd.V_below (by (with_reducible repeat (first | apply Kd.V_alloc | apply Kd.V_drewN | apply Kd.V_drew)); exact HL464_0.out) hb); have n3_ := A_ (Kd.V_below (by (with_reducible repeat (first | apply Kd.V_alloc | apply Kd.V_drewN | apply Kd.V_drew)); exact HL464_1.out) hb); have n4_ := A_ (Kd.C_below (Z33 HR464_0.out) hb); have n5_ := A_ (Kd.C_below (Z33 HR464_1.out) hb); have n6_ := A_ (below_step Z1 hb); clear HO_4; clear HO_5; clear HL464_0; clear HL464_1; clear HR464_0; clear HR464_1; clear HB; have HO_4 := n0_; have HO_5 := n1_; have HL464_0 := n2_; have HL464_1 := n3_; have HR464_0 := n4_; have HR464_1 := n5_; have HB := n6_; clear n0_ n1_ n2_ n3_ n4_ n5_ n6_; (try clear hb); (try clear hb2); (try clear hk); (try clear hi)))
          go_roundg k2
          case measure => have := HJ6.out; have := HK2.out; omega
          case rel => exact ⟨(wrap64 (x8_2 + 1)), Z22, H', ⟨by have := HJ6.out; have := HK2.out; omega⟩, ⟨Z14 HO_4.out⟩, ⟨Z20 HO_5.out⟩, ⟨Z1⟩⟩
        ·rw [if_neg c24] at H
         exact absurd H (by simp)
       ·rw [if_neg c23] at H
        have c23b0 : decide (x8_2 < (t455.length : Int)) = false := decide_eq_false c23
        clear c23
        replace H := Option.bind_eq_some_iff.mp H
        obtain ⟨t466, A290, H⟩ := H
        replace H : ((spec_SameStore.f k2 t466 t455).bind fun t469 => (if t469 = true then ((impl_StoreOk.f k2 t455).bind fun t470 => (some t470)) else (some false))) = some r := H
        have A29 := A_ A290
        clear A290
        replace H := Option.bind_eq_some_iff.mp H
        obtain ⟨t469, A300, H⟩ := H
        replace H : (if t469 = true then ((impl_StoreOk.f k2 t455).bind fun t470 => (some t470)) else (some false)) = some r := H
        have A30 := A_ A300
        clear A300
        by_cases c31 : t469 = true
        ·subst c31
         have H1 : ((impl_StoreOk.f k2 t455).bind fun t470 => (some t470)) = some r := by rw [if_pos rfl] at H; exact H
         clear H
         have H := H1
         clear H1
         replace H := Option.bind_eq_some_iff.mp H
         obtain ⟨t470, A320, H⟩ := H
         replace H : (some t470) = some r := H
         have A32 := A_ A320
         clear A320
         obtain rfl := Option.some.inj H
         go_wp2_with (first | ((with_reducible refine gate_callee (f := 21) rfl ?_); refine goesL_ (some 54) rfl rfl Try.func21 (by kernel_rfl) rfl #[.slice Ao13 t455.length co13, .slice Ao10 t452.length co10] rfl Z3 ?_; (with_reducible refine (impl_StoreCut.calls k2 _ _ t455 _ _ t452 t466 _ ?side1 ?side2 ?side3 ?side4 A29.out).mono ?_); (case side1 => exact Z28 HO_5.out); (case side2 => exact (Kd.N_reads' HO_5.out).2.1); (case side3 => exact Z27 HO_4.out); (case side4 => exact (Kd.R_reads' HO_4.out).2.1); rintro e w33 ⟨v467, rfl, ho0, hb⟩; refine ⟨_, rfl, ?_⟩; have n0_ := A_ (Kd.R_below (Z14 HO_4.out) hb); have n1_ := A_ (Kd.N_elder' (Z20 HO_5.out) (by first | exact Kd.N_base ho0 | exact Kd.S_base ho0) hb); have n2_ := A_ (Kd.N_lower (Kd.N_mono (ok' := fun k_ => some k_ ≠ (.slice Ao10 t452.length co10 : Value).ownBlock ∧ some k_ ≠ (.slice Ao13 t455.length co13 : Value).ownBlock) (Kd.S_N (Kd.S_bound ho0)) (fun k_ hk_ => ⟨(Kd.fresh' (Kd.R_lt (Z14 HO_4.out)) k_ hk_.2.1), (Kd.fresh' (Kd.N_lt (Z20 HO_5.out)) k_ hk_.2.1)⟩)) (below_size Z1)); have n3_ := A_ (below_step Z1 hb); clear HO_4; clear HO_5; clear HB; have HO_4 := n0_; have HO_5 := n1_; have HO468 := n2_; have HB := n3_; clear n0_ n1_ n2_ n3_; (try clear hb); (try clear hb2); (try clear hk); (try clear hi); (try clear ho0); obtain ⟨Ao34, co34, eo34⟩ := Kd.N_slice HO468.out; subst eo34) | ((with_reducible refine gate_callee (f := 23) rfl ?_); refine goesL_ (some 56) rfl rfl Try.func23 (by kernel_rfl) rfl #[.slice Ao34 t466.length co34, .slice Ao13 t455.length co13] rfl Z3 ?_; (with_reducible refine (spec_SameStore.calls k2 _ _ t466 _ _ t455 true _ ?side1 ?side2 ?side3 ?side4 A30.out).mono ?_); (case side1 => exact Z28 HO468.out); (case side2 => exact (Kd.N_reads' HO468.out).2.1); (case side3 => exact Z28 HO_5.out); (case side4 => exact (Kd.N_reads' HO_5.out).2.1); rintro e w' ⟨rfl, ⟨nd, rfl⟩⟩; refine ⟨_, rfl, ?_⟩) | (go_at_call 16; (with_reducible refine (impl_StoreOk.calls k2 _ _ t455 t470 _ ?side1 ?side2 A32.out).mono ?_); (case side1 => exact Z28 HO_5.out); (case side2 => exact (Kd.N_reads' HO_5.out).2.1); rintro e w35 ⟨rfl, hb⟩; have n0_ := A_ (Kd.R_below (Z14 HO_4.out) hb); have n1_ := A_ (Kd.N_below (Z20 HO_5.out) hb); have n2_ := A_ (Kd.N_below (Z20 HO468.out) hb); have n3_ := A_ (below_step Z1 hb); clear HO_4; clear HO_5; clear HO468; clear HB; have HO_4 := n0_; have HO_5 := n1_; have HO468 := n2_; have HB := n3_; clear n0_ n1_ n2_ n3_; (try clear hb); (try clear hb2); (try clear hk); (try clear hi)))
         go_ret
         exact ⟨Z18, Z1⟩
        ·replace c31 := Bool.eq_false_iff.mpr c31
         subst c31
         have H1 : (some false) = some r := by rw [if_neg (show ¬ (false = true) by decide)] at H; exact H
         clear H
         have H := H1
         clear H1
         obtain rfl := Option.some.inj H
         go_wp2_with (first | ((with_reducible refine gate_callee (f := 21) rfl ?_); refine goesL_ (some 54) rfl rfl Try.func21 (by kernel_rfl) rfl #[.slice Ao13 t455.length co13, .slice Ao10 t452.length co10] rfl Z3 ?_; (with_reducible refine (impl_StoreCut.calls k2 _ _ t455 _ _ t452 t466 _ ?side1 ?side2 ?side3 ?side4 A29.out).mono ?_); (case side1 => exact Z28 HO_5.out); (case side2 => exact (Kd.N_reads' HO_5.out).2.1); (case side3 => exact Z27 HO_4.out); (case side4 => exact (Kd.R_reads' HO_4.out).2.1); rintro e w36 ⟨v467, rfl, ho0, hb⟩; refine ⟨_, rfl, ?_⟩; have n0_ := A_ (Kd.R_below (Z14 HO_4.out) hb); have n1_ := A_ (Kd.N_elder' (Z20 HO_5.out) (by first | exact Kd.N_base ho0 | exact Kd.S_base ho0) hb); have n2_ := A_ (Kd.N_lower (Kd.N_mono (ok' := fun k_ => some k_ ≠ (.slice Ao10 t452.length co10 : Value).ownBlock ∧ some k_ ≠ (.slice Ao13 t455.length co13 : Value).ownBlock) (Kd.S_N (Kd.S_bound ho0)) (fun k_ hk_ => ⟨(Kd.fresh' (Kd.R_lt (Z14 HO_4.out)) k_ hk_.2.1), (Kd.fresh' (Kd.N_lt (Z20 HO_5.out)) k_ hk_.2.1)⟩)) (below_size Z1)); have n3_ := A_ (below_step Z1 hb); clear HO_4; clear HO_5; clear HB; have HO_4 := n0_; have HO_5 := n1_; have HO468 := n2_; have HB := n3_; clear n0_ n1_ n2_ n3_; (try clear hb); (try clear hb2); (try clear hk); (try clear hi); (try clear ho0); obtain ⟨Ao37, co37, eo37⟩ := Kd.N_slice HO468.out; subst eo37) | ((with_reducible refine gate_callee (f := 23) rfl ?_); refine goesL_ (some 56) rfl rfl Try.func23 (by kernel_rfl) rfl #[.slice Ao37 t466.length co37, .slice Ao13 t455.length co13] rfl Z3 ?_; (with_reducible refine (spec_SameStore.calls k2 _ _ t466 _ _ t455 false _ ?side1 ?side2 ?side3 ?side4 A30.out).mono ?_); (case side1 => exact Z28 HO468.out); (case side2 => exact (Kd.N_reads' HO468.out).2.1); (case side3 => exact Z28 HO_5.out); (case side4 => exact (Kd.N_reads' HO_5.out).2.1); rintro e w' ⟨rfl, ⟨nd, rfl⟩⟩; refine ⟨_, rfl, ?_⟩))
         go_ret
         exact ⟨Z18, Z1⟩
def laws_FnStoreCut.Pure : Prop := ∀ (l0 : List Int), l0.length ≤ maxLen → l0.length * 1 ≤ 140737488351232 → (∀ x ∈ l0, (Lit.int .u8 x).wf = true) → ∃ k, laws_FnStoreCut.f k l0 = some true
theorem laws_FnStoreCut.walk (P : laws_FnStoreCut.Pure) (a0 : Option Addr) (len0 cap0 : Nat) (z0 : List Int) (w : World) (w0 : (a0 = none ∧ len0 = 0 ∧ cap0 = 0 ∧ z0 = []) ∨ ∃ x, a0 = some x ∧ len0 ≤ cap0 ∧ cap0 ≤ maxLen ∧ z0.length = cap0 ∧ (∀ i, i < z0.length → w.cell? (x.add i) = some (.int .u8 (z0.getD i 0))) ∧ ∀ n ∈ z0, (Lit.int .u8 n).wf = true) (y0 : len0 * 1 ≤ 140737488351232) :
  Calls Try.prog 6 #[.slice a0 len0 cap0] w fun e w' => e = .returned (.bool true) ∧ Below w.heap.size w w' := by
 obtain ⟨l0, rfl, hr0, hm0, hw0, hc0⟩ := ReadsInt.ofRowC w0
 obtain ⟨k, h⟩ := P l0 hm0 y0 hw0
 refine (laws_FnStoreCut.calls k _ _ l0 true w (Kd.C_of_reads (d := (0 : Int)) (h1 := fun _ => rfl) hr0) hc0 h).mono ?_
 rintro e w' ⟨rfl, hd⟩
 exact ⟨rfl, hd⟩
end Go.Proofs.Ytheifobeaemegaa.PFnStoreCut
