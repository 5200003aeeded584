/- Walks of the functions that the law 'FnExactStoreGet' reaches, part 13: for each a Lean function and the proof that Go's comes to just its answer (lines of the print, under own names; no condition). -/
import Derived.Test.YtpadhphdglbciaaZFnExactStoreGetMFnExactStoreGet
import Derived.Test.YtpadhphdglbciaaZFnExactStoreGetQFnExactStoreGetx0
import Derived.Test.YtpadhphdglbciaaZFnExactStoreGetQFnExactStoreGetx2
import Derived.Test.YtpadhphdglbciaaZFnExactStoreGetQFnExactStoreGetx5
import Derived.Test.YtpadhphdglbciaaZFnExactStoreGetQFnExactStoreGetx10
import Derived.Test.YtpadhphdglbciaaZFnExactStoreGetQFnExactStoreGetx11
import Derived.Test.YtpadhphdglbciaaZFnExactStoreGetQFnExactStoreGetx12
namespace Go.Proofs.Ytpadhphdglbciaa.PFnExactStoreGet
open Go.RowKit Go.Proofs.YtpadhphdglbciaaW.PrintWords Go.Proofs.YtpadhphdglbciaaW.PrintLast Go.Proofs.YtpadhphdglbciaaW.PrintMore
attribute [local go_sem] max2_int min2_int max_two min_two max_three min_three max_four min_four
set_option linter.unusedVariables false
set_option linter.unusedSimpArgs false
mutual
def laws_FnExactStoreGet.j0 : Nat → List (S84) → List (S94) → List (S99) → Bool → List (S89) → List (S92) → List (S99) → Bool → Bool → Option (Bool)
 | 0, _, _, _, _, _, _, _, _, _ => none
 | k + 1, x0, x1, x6, x7, x8, x9, x10, x11, x53 => if x53 = true then (some false) else ((laws_toCellS.f k x0).bind fun t278 => ((laws_eqCellS.f k x8 t278).bind fun t281 => (if t281 = true then ((laws_toSlotS.f k x1).bind fun t282 => ((laws_eqSlotS.f k x9 t282).bind fun t285 => (if t285 = true then ((laws_markCellS.f k x8 1).bind fun bt286 => ((laws_markSlotS.f k x9 bt286.1).bind fun bt288 => (if bt288.1 < 0 then (laws_FnExactStoreGet.j1 k x0 x1 x6 x7 x10 true) else ((laws_eqValueS.f k x10 x6).bind fun t290 => (if t290 = true then (laws_FnExactStoreGet.j1 k x0 x1 x6 x7 x10 (x11 != x7)) else (laws_FnExactStoreGet.j1 k x0 x1 x6 x7 x10 true)))))) else (some false)))) else (some false))))
def laws_FnExactStoreGet.j1 : Nat → List (S84) → List (S94) → List (S99) → Bool → List (S99) → Bool → Option (Bool)
 | 0, _, _, _, _, _, _ => none
 | k + 1, x0, x1, x6, x7, x10, x82 => if x82 = true then (some false) else ((laws_markValueS.f k x10 1).bind fun bt291 => ((laws_heldValueS.f k bt291.2 1).bind fun t293 => (if t293 < 0 then (some false) else (if t293 = bt291.1 then ((laws_toCellS.f k x0).bind fun t294 => ((laws_toSlotS.f k x1).bind fun t297 => ((impl_StoreGet.f k t294 t297).bind fun bt300 => ((laws_eqValueS.f k bt300.1 x6).bind fun t304 => (if t304 = true then (laws_FnExactStoreGet.j2 k bt291.2 bt291.1 (bt300.2 != x7)) else (laws_FnExactStoreGet.j2 k bt291.2 bt291.1 true)))))) else (some false)))))
def laws_FnExactStoreGet.j2 : Nat → List (S99) → Int → Bool → Option (Bool)
 | 0, _, _, _ => none
 | k + 1, x10, x13, x110 => if x110 = true then (some false) else ((laws_heldValueS.f k x10 1).bind fun t305 => (if t305 < 0 then (some false) else (if t305 = x13 then (some true) else (some false))))
end
def laws_FnExactStoreGet.f (k : Nat) (l0 : List (S84)) (l1 : List (S94)) : Option (Bool) := (laws_szCellS.f k l0 1048576).bind fun t255 => (if t255 < 0 then (some true) else ((laws_szSlotS.f l1 t255).bind fun t256 => (if t256 < 0 then (some true) else ((laws_toCellS.f k l0).bind fun t257 => ((laws_toSlotS.f k l1).bind fun t260 => ((spec_StoreGet.f k t257 t260).bind fun bt263 => ((laws_toCellS.f k l0).bind fun t267 => ((laws_toSlotS.f k l1).bind fun t270 => ((impl_StoreGet.f k t267 t270).bind fun bt273 => ((laws_eqValueS.f k bt273.1 bt263.1).bind fun t277 => (if t277 = true then (laws_FnExactStoreGet.j0 k l0 l1 bt263.1 bt263.2 t267 t270 bt273.1 bt273.2 (bt273.2 != bt263.2)) else (laws_FnExactStoreGet.j0 k l0 l1 bt263.1 bt263.2 t267 t270 bt273.1 bt273.2 true))))))))))))
theorem laws_FnExactStoreGet.mono_l : ∀ k, (∀ y0 y1 y2 y3 y4 y5 y6 y7 y8, LeO (laws_FnExactStoreGet.j0 k y0 y1 y2 y3 y4 y5 y6 y7 y8) (laws_FnExactStoreGet.j0 (k + 1) y0 y1 y2 y3 y4 y5 y6 y7 y8)) ∧ (∀ y0 y1 y2 y3 y4 y5, LeO (laws_FnExactStoreGet.j1 k y0 y1 y2 y3 y4 y5) (laws_FnExactStoreGet.j1 (k + 1) y0 y1 y2 y3 y4 y5)) ∧ (∀ y0 y1 y2, LeO (laws_FnExactStoreGet.j2 k y0 y1 y2) (laws_FnExactStoreGet.j2 (k + 1) y0 y1 y2))
 | 0 => ⟨fun _ _ _ _ _ _ _ _ _ r h => by simp [laws_FnExactStoreGet.j0] at h, fun _ _ _ _ _ _ r h => by simp [laws_FnExactStoreGet.j1] at h, fun _ _ _ r h => by simp [laws_FnExactStoreGet.j2] at h⟩
 | k + 1 => by
  obtain ⟨ih0, ih1, ih2⟩ := laws_FnExactStoreGet.mono_l k
  refine ⟨?_, ?_, ?_⟩
  ·intro y0 y1 y2 y3 y4 y5 y6 y7 y8
   unfold laws_FnExactStoreGet.j0
   repeat' first
   | (with_reducible exact ih0 _ _ _ _ _ _ _ _ _)
   | (with_reducible exact ih1 _ _ _ _ _ _)
   | (with_reducible exact ih2 _ _ _)
   | (with_reducible exact impl_StoreGet.mono _ _ _)
   | (with_reducible exact laws_eqCellS.mono _ _ _)
   | (with_reducible exact laws_eqSlotS.mono _ _ _)
   | (with_reducible exact laws_eqValueS.mono _ _ _)
   | (with_reducible exact laws_heldValueS.mono _ _ _)
   | (with_reducible exact laws_markCellS.mono _ _ _)
   | (with_reducible exact laws_markSlotS.mono _ _ _)
   | (with_reducible exact laws_markValueS.mono _ _ _)
   | (with_reducible exact laws_szCellS.mono _ _ _)
   | (with_reducible exact laws_toCellS.mono _ _)
   | (with_reducible exact laws_toSlotS.mono _ _)
   | (with_reducible exact spec_StoreGet.mono _ _ _)
   | (with_reducible exact LeO.refl _)
   | (with_reducible exact LeO.none _)
   | (with_reducible refine LeO.ite ?_ ?_)
   | (with_reducible refine LeO.bind ?_ (fun _ => ?_))
   | exact ih0 _ _ _ _ _ _ _ _ _
   | exact ih1 _ _ _ _ _ _
   | exact ih2 _ _ _
   | exact impl_StoreGet.mono _ _ _
   | exact laws_eqCellS.mono _ _ _
   | exact laws_eqSlotS.mono _ _ _
   | exact laws_eqValueS.mono _ _ _
   | exact laws_heldValueS.mono _ _ _
   | exact laws_markCellS.mono _ _ _
   | exact laws_markSlotS.mono _ _ _
   | exact laws_markValueS.mono _ _ _
   | exact laws_szCellS.mono _ _ _
   | exact laws_toCellS.mono _ _
   | exact laws_toSlotS.mono _ _
   | exact spec_StoreGet.mono _ _ _
   | exact LeO.none _
   | refine LeO.ite ?_ ?_
   | refine LeO.bind ?_ (fun _ => ?_)
  ·intro y0 y1 y2 y3 y4 y5
   unfold laws_FnExactStoreGet.j1
   repeat' first
   | (with_reducible exact ih0 _ _ _ _ _ _ _ _ _)
   | (with_reducible exact ih1 _ _ _ _ _ _)
   | (with_reducible exact ih2 _ _ _)
   | (with_reducible exact impl_StoreGet.mono _ _ _)
   | (with_reducible exact laws_eqCellS.mono _ _ _)
   | (with_reducible exact laws_eqSlotS.mono _ _ _)
   | (with_reducible exact laws_eqValueS.mono _ _ _)
   | (with_reducible exact laws_heldValueS.mono _ _ _)
   | (with_reducible exact laws_markCellS.mono _ _ _)
   | (with_reducible exact laws_markSlotS.mono _ _ _)
   | (with_reducible exact laws_markValueS.mono _ _ _)
   | (with_reducible exact laws_szCellS.mono _ _ _)
   | (with_reducible exact laws_toCellS.mono _ _)
   | (with_reducible exact laws_toSlotS.mono _ _)
   | (with_reducible exact spec_StoreGet.mono _ _ _)
   | (with_reducible exact LeO.refl _)
   | (with_reducible exact LeO.none _)
   | (with_reducible refine LeO.ite ?_ ?_)
   | (with_reducible refine LeO.bind ?_ (fun _ => ?_))
   | exact ih0 _ _ _ _ _ _ _ _ _
   | exact ih1 _ _ _ _ _ _
   | exact ih2 _ _ _
   | exact impl_StoreGet.mono _ _ _
   | exact laws_eqCellS.mono _ _ _
   | exact laws_eqSlotS.mono _ _ _
   | exact laws_eqValueS.mono _ _ _
   | exact laws_heldValueS.mono _ _ _
   | exact laws_markCellS.mono _ _ _
   | exact laws_markSlotS.mono _ _ _
   | exact laws_markValueS.mono _ _ _
   | exact laws_szCellS.mono _ _ _
   | exact laws_toCellS.mono _ _
   | exact laws_toSlotS.mono _ _
   | exact spec_StoreGet.mono _ _ _
   | exact LeO.none _
   | refine LeO.ite ?_ ?_
   | refine LeO.bind ?_ (fun _ => ?_)
  ·intro y0 y1 y2
   unfold laws_FnExactStoreGet.j2
   repeat' first
   | (with_reducible exact ih0 _ _ _ _ _ _ _ _ _)
   | (with_reducible exact ih1 _ _ _ _ _ _)
   | (with_reducible exact ih2 _ _ _)
   | (with_reducible exact impl_StoreGet.mono _ _ _)
   | (with_reducible exact laws_eqCellS.mono _ _ _)
   | (with_reducible exact laws_eqSlotS.mono _ _ _)
   | (with_reducible exact laws_eqValueS.mono _ _ _)
   | (with_reducible exact laws_heldValueS.mono _ _ _)
   | (with_reducible exact laws_markCellS.mono _ _ _)
   | (with_reducible exact laws_markSlotS.mono _ _ _)
   | (with_reducible exact laws_markValueS.mono _ _ _)
   | (with_reducible exact laws_szCellS.mono _ _ _)
   | (with_reducible exact laws_toCellS.mono _ _)
   | (with_reducible exact laws_toSlotS.mono _ _)
   | (with_reducible exact spec_StoreGet.mono _ _ _)
   | (with_reducible exact LeO.refl _)
   | (with_reducible exact LeO.none _)
   | (with_reducible refine LeO.ite ?_ ?_)
   | (with_reducible refine LeO.bind ?_ (fun _ => ?_))
   | exact ih0 _ _ _ _ _ _ _ _ _
   | exact ih1 _ _ _ _ _ _
   | exact ih2 _ _ _
   | exact impl_StoreGet.mono _ _ _
   | exact laws_eqCellS.mono _ _ _
   | exact laws_eqSlotS.mono _ _ _
   | exact laws_eqValueS.mono _ _ _
   | exact laws_heldValueS.mono _ _ _
   | exact laws_markCellS.mono _ _ _
   | exact laws_markSlotS.mono _ _ _
   | exact laws_markValueS.mono _ _ _
   | exact laws_szCellS.mono _ _ _
   | exact laws_toCellS.mono _ _
   | exact laws_toSlotS.mono _ _
   | exact spec_StoreGet.mono _ _ _
   | exact LeO.none _
   | refine LeO.ite ?_ ?_
   | refine LeO.bind ?_ (fun _ => ?_)
theorem laws_FnExactStoreGet.mono : ∀ a0 a1 k, LeO (laws_FnExactStoreGet.f k a0 a1) (laws_FnExactStoreGet.f (k + 1) a0 a1) := by
 intro a0 a1 k
 obtain ⟨ih0, ih1, ih2⟩ := laws_FnExactStoreGet.mono_l k
 unfold laws_FnExactStoreGet.f
 repeat' first
   | (with_reducible exact ih0 _ _ _ _ _ _ _ _ _)
   | (with_reducible exact ih1 _ _ _ _ _ _)
   | (with_reducible exact ih2 _ _ _)
   | (with_reducible exact impl_StoreGet.mono _ _ _)
   | (with_reducible exact laws_eqCellS.mono _ _ _)
   | (with_reducible exact laws_eqSlotS.mono _ _ _)
   | (with_reducible exact laws_eqValueS.mono _ _ _)
   | (with_reducible exact laws_heldValueS.mono _ _ _)
   | (with_reducible exact laws_markCellS.mono _ _ _)
   | (with_reducible exact laws_markSlotS.mono _ _ _)
   | (with_reducible exact laws_markValueS.mono _ _ _)
   | (with_reducible exact laws_szCellS.mono _ _ _)
   | (with_reducible exact laws_toCellS.mono _ _)
   | (with_reducible exact laws_toSlotS.mono _ _)
   | (with_reducible exact spec_StoreGet.mono _ _ _)
   | (with_reducible exact LeO.refl _)
   | (with_reducible exact LeO.none _)
   | (with_reducible refine LeO.ite ?_ ?_)
   | (with_reducible refine LeO.bind ?_ (fun _ => ?_))
   | exact ih0 _ _ _ _ _ _ _ _ _
   | exact ih1 _ _ _ _ _ _
   | exact ih2 _ _ _
   | exact impl_StoreGet.mono _ _ _
   | exact laws_eqCellS.mono _ _ _
   | exact laws_eqSlotS.mono _ _ _
   | exact laws_eqValueS.mono _ _ _
   | exact laws_heldValueS.mono _ _ _
   | exact laws_markCellS.mono _ _ _
   | exact laws_markSlotS.mono _ _ _
   | exact laws_markValueS.mono _ _ _
   | exact laws_szCellS.mono _ _ _
   | exact laws_toCellS.mono _ _
   | exact laws_toSlotS.mono _ _
   | exact spec_StoreGet.mono _ _ _
   | exact LeO.none _
   | refine LeO.ite ?_ ?_
   | refine LeO.bind ?_ (fun _ => ?_)
set_option maxHeartbeats 8000000 in
set_option maxRecDepth 100000 in
theorem laws_FnExactStoreGet.calls (k : Nat) (A0 : Option Addr) (c0 : Nat) (l0 : List (S84)) (A1 : Option Addr) (c1 : Nat) (l1 : List (S94)) (r : Bool) (w : World) (hr0 : Kd.C k84 w A0 l0.length l0) (hc0 : l0.length ≤ c0) (hr1 : Kd.C k94 w A1 l1.length l1) (hc1 : l1.length ≤ c1) (h : laws_FnExactStoreGet.f k l0 l1 = some r) :
  Calls Try.prog 4 #[.slice A0 l0.length c0, .slice A1 l1.length c1] w fun e w' => e = .returned (.bool r) ∧ Below w.heap.size w w' := by
 have HR0 := A_ hr0
 have HC0 := A_ hc0
 clear hr0 hc0
 have HR1 := A_ hr1
 have HC1 := A_ hc1
 clear hr1 hc1
 have HB := A_ (Below.refl w.heap.size w)
 have HS := A_ (Nat.le_refl w.heap.size)
 have HE := A_ (Nat.le_refl w.heap.size)
 have H : ((laws_szCellS.f k l0 1048576).bind fun t255 => (if t255 < 0 then (some true) else ((laws_szSlotS.f l1 t255).bind fun t256 => (if t256 < 0 then (some true) else ((laws_toCellS.f k l0).bind fun t257 => ((laws_toSlotS.f k l1).bind fun t260 => ((spec_StoreGet.f k t257 t260).bind fun bt263 => ((laws_toCellS.f k l0).bind fun t267 => ((laws_toSlotS.f k l1).bind fun t270 => ((impl_StoreGet.f k t267 t270).bind fun bt273 => ((laws_eqValueS.f k bt273.1 bt263.1).bind fun t277 => (if t277 = true then (laws_FnExactStoreGet.j0 k l0 l1 bt263.1 bt263.2 t267 t270 bt273.1 bt273.2 (bt273.2 != bt263.2)) else (laws_FnExactStoreGet.j0 k l0 l1 bt263.1 bt263.2 t267 t270 bt273.1 bt273.2 true))))))))))))) = some r := h
 clear h
 replace H := Option.bind_eq_some_iff.mp H
 obtain ⟨t255, A30, H⟩ := H
 replace H : (if t255 < 0 then (some true) else ((laws_szSlotS.f l1 t255).bind fun t256 => (if t256 < 0 then (some true) else ((laws_toCellS.f k l0).bind fun t257 => ((laws_toSlotS.f k l1).bind fun t260 => ((spec_StoreGet.f k t257 t260).bind fun bt263 => ((laws_toCellS.f k l0).bind fun t267 => ((laws_toSlotS.f k l1).bind fun t270 => ((impl_StoreGet.f k t267 t270).bind fun bt273 => ((laws_eqValueS.f k bt273.1 bt263.1).bind fun t277 => (if t277 = true then (laws_FnExactStoreGet.j0 k l0 l1 bt263.1 bt263.2 t267 t270 bt273.1 bt273.2 (bt273.2 != bt263.2)) else (laws_FnExactStoreGet.j0 k l0 l1 bt263.1 bt263.2 t267 t270 bt273.1 bt273.2 true)))))))))))) = some r := H
 have A3 := A_ A30
 clear A30
 by_cases c4 : t255 < 0
 ·rw [if_pos c4] at H
  have c4b0 : decide (t255 < 0) = true := decide_eq_true c4
  clear c4
  obtain rfl := Option.some.inj H
  go_enter Try.func4, Try.ntmps4
  go_wp2_with (first | ((with_reducible refine gate_callee (f := 18) rfl ?_); refine goesL_ (some 19) rfl rfl Try.func18 (by kernel_rfl) rfl #[.slice A0 l0.length c0, .int .i64 1048576] rfl Z3 ?_; (with_reducible refine (laws_szCellS.calls k _ _ l0 1048576 t255 _ ?side1 ?side2 A3.out).mono ?_); (case side1 => exact Z24 HR0.out); (case side2 => exact HC0.out); rintro e w5 ⟨rfl, hb⟩; refine ⟨_, rfl, ?_⟩; have n0_ := A_ (below_step Z1 hb); have ne_ := A_ (sz_below Z15 hb); clear HE; have HE := ne_; clear ne_; clear HB; have HB := n0_; clear n0_; (try clear hb); (try clear hb2); (try clear hk); (try clear hi)))
  go_ret
  exact ⟨Z12, Z1⟩
 ·rw [if_neg c4] at H
  have c4b0 : decide (t255 < 0) = false := decide_eq_false c4
  clear c4
  replace H := Option.bind_eq_some_iff.mp H
  obtain ⟨t256, A60, H⟩ := H
  replace H : (if t256 < 0 then (some true) else ((laws_toCellS.f k l0).bind fun t257 => ((laws_toSlotS.f k l1).bind fun t260 => ((spec_StoreGet.f k t257 t260).bind fun bt263 => ((laws_toCellS.f k l0).bind fun t267 => ((laws_toSlotS.f k l1).bind fun t270 => ((impl_StoreGet.f k t267 t270).bind fun bt273 => ((laws_eqValueS.f k bt273.1 bt263.1).bind fun t277 => (if t277 = true then (laws_FnExactStoreGet.j0 k l0 l1 bt263.1 bt263.2 t267 t270 bt273.1 bt273.2 (bt273.2 != bt263.2)) else (laws_FnExactStoreGet.j0 k l0 l1 bt263.1 bt263.2 t267 t270 bt273.1 bt273.2 true)))))))))) = some r := H
  have A6 := A_ A60
  clear A60
  by_cases c7 : t256 < 0
  ·rw [if_pos c7] at H
   have c7b0 : decide (t256 < 0) = true := decide_eq_true c7
   clear c7
   obtain rfl := Option.some.inj H
   go_enter Try.func4, Try.ntmps4
   go_wp2_with (first | ((with_reducible refine gate_callee (f := 18) rfl ?_); refine goesL_ (some 19) rfl rfl Try.func18 (by kernel_rfl) rfl #[.slice A0 l0.length c0, .int .i64 1048576] rfl Z3 ?_; (with_reducible refine (laws_szCellS.calls k _ _ l0 1048576 t255 _ ?side1 ?side2 A3.out).mono ?_); (case side1 => exact Z24 HR0.out); (case side2 => exact HC0.out); rintro e w8 ⟨rfl, hb⟩; refine ⟨_, rfl, ?_⟩; have n0_ := A_ (below_step Z1 hb); have ne_ := A_ (sz_below Z15 hb); clear HE; have HE := ne_; clear ne_; clear HB; have HB := n0_; clear n0_; (try clear hb); (try clear hb2); (try clear hk); (try clear hi)) | ((with_reducible refine gate_callee (f := 19) rfl ?_); refine goesL_ (some 24) rfl rfl Try.func19 (by kernel_rfl) rfl #[.slice A1 l1.length c1, .int .i64 t255] rfl Z3 ?_; (with_reducible refine (laws_szSlotS.calls _ _ l1 t255 t256 _ ?side1 ?side2 A6.out).mono ?_); (case side1 => exact Z5 HR1.out); (case side2 => exact HC1.out); rintro e w' ⟨rfl, ⟨nd, rfl⟩⟩; refine ⟨_, rfl, ?_⟩))
   go_ret
   exact ⟨Z12, Z1⟩
  ·rw [if_neg c7] at H
   have c7b0 : decide (t256 < 0) = false := decide_eq_false c7
   clear c7
   replace H := Option.bind_eq_some_iff.mp H
   obtain ⟨t257, A90, H⟩ := H
   replace H : ((laws_toSlotS.f k l1).bind fun t260 => ((spec_StoreGet.f k t257 t260).bind fun bt263 => ((laws_toCellS.f k l0).bind fun t267 => ((laws_toSlotS.f k l1).bind fun t270 => ((impl_StoreGet.f k t267 t270).bind fun bt273 => ((laws_eqValueS.f k bt273.1 bt263.1).bind fun t277 => (if t277 = true then (laws_FnExactStoreGet.j0 k l0 l1 bt263.1 bt263.2 t267 t270 bt273.1 bt273.2 (bt273.2 != bt263.2)) else (laws_FnExactStoreGet.j0 k l0 l1 bt263.1 bt263.2 t267 t270 bt273.1 bt273.2 true)))))))) = some r := H
   have A9 := A_ A90
   clear A90
   replace H := Option.bind_eq_some_iff.mp H
   obtain ⟨t260, A100, H⟩ := H
   replace H : ((spec_StoreGet.f k t257 t260).bind fun bt263 => ((laws_toCellS.f k l0).bind fun t267 => ((laws_toSlotS.f k l1).bind fun t270 => ((impl_StoreGet.f k t267 t270).bind fun bt273 => ((laws_eqValueS.f k bt273.1 bt263.1).bind fun t277 => (if t277 = true then (laws_FnExactStoreGet.j0 k l0 l1 bt263.1 bt263.2 t267 t270 bt273.1 bt273.2 (bt273.2 != bt263.2)) else (laws_FnExactStoreGet.j0 k l0 l1 bt263.1 bt263.2 t267 t270 bt273.1 bt273.2 true))))))) = some r := H
   have A10 := A_ A100
   clear A100
   replace H := Option.bind_eq_some_iff.mp H
   obtain ⟨⟨t263, t264⟩, A110, H⟩ := H
   replace H : ((laws_toCellS.f k l0).bind fun t267 => ((laws_toSlotS.f k l1).bind fun t270 => ((impl_StoreGet.f k t267 t270).bind fun bt273 => ((laws_eqValueS.f k bt273.1 t263).bind fun t277 => (if t277 = true then (laws_FnExactStoreGet.j0 k l0 l1 t263 t264 t267 t270 bt273.1 bt273.2 (bt273.2 != t264)) else (laws_FnExactStoreGet.j0 k l0 l1 t263 t264 t267 t270 bt273.1 bt273.2 true)))))) = some r := H
   have A11 := A_ A110
   clear A110
   replace H := Option.bind_eq_some_iff.mp H
   obtain ⟨t267, A120, H⟩ := H
   replace H : ((laws_toSlotS.f k l1).bind fun t270 => ((impl_StoreGet.f k t267 t270).bind fun bt273 => ((laws_eqValueS.f k bt273.1 t263).bind fun t277 => (if t277 = true then (laws_FnExactStoreGet.j0 k l0 l1 t263 t264 t267 t270 bt273.1 bt273.2 (bt273.2 != t264)) else (laws_FnExactStoreGet.j0 k l0 l1 t263 t264 t267 t270 bt273.1 bt273.2 true))))) = some r := H
   have A12 := A_ A120
   clear A120
   replace H := Option.bind_eq_some_iff.mp H
   obtain ⟨t270, A130, H⟩ := H
   replace H : ((impl_StoreGet.f k t267 t270).bind fun bt273 => ((laws_eqValueS.f k bt273.1 t263).bind fun t277 => (if t277 = true then (laws_FnExactStoreGet.j0 k l0 l1 t263 t264 t267 t270 bt273.1 bt273.2 (bt273.2 != t264)) else (laws_FnExactStoreGet.j0 k l0 l1 t263 t264 t267 t270 bt273.1 bt273.2 true)))) = some r := H
   have A13 := A_ A130
   clear A130
   replace H := Option.bind_eq_some_iff.mp H
   obtain ⟨⟨t273, t274⟩, A140, H⟩ := H
   replace H : ((laws_eqValueS.f k t273 t263).bind fun t277 => (if t277 = true then (laws_FnExactStoreGet.j0 k l0 l1 t263 t264 t267 t270 t273 t274 (t274 != t264)) else (laws_FnExactStoreGet.j0 k l0 l1 t263 t264 t267 t270 t273 t274 true))) = some r := H
   have A14 := A_ A140
   clear A140
   have HC15 := A_ H
   clear H
   go_enter Try.func4, Try.ntmps4
   go_upto_region 12 with (first | ((with_reducible refine gate_callee (f := 18) rfl ?_); refine goesL_ (some 19) rfl rfl Try.func18 (by kernel_rfl) rfl #[.slice A0 l0.length c0, .int .i64 1048576] rfl Z3 ?_; (with_reducible refine (laws_szCellS.calls k _ _ l0 1048576 t255 _ ?side1 ?side2 A3.out).mono ?_); (case side1 => exact Z24 HR0.out); (case side2 => exact HC0.out); rintro e w16 ⟨rfl, hb⟩; refine ⟨_, rfl, ?_⟩; have n0_ := A_ (below_step Z1 hb); have ne_ := A_ (sz_below Z15 hb); clear HE; have HE := ne_; clear ne_; clear HB; have HB := n0_; clear n0_; (try clear hb); (try clear hb2); (try clear hk); (try clear hi)) | ((with_reducible refine gate_callee (f := 19) rfl ?_); refine goesL_ (some 24) rfl rfl Try.func19 (by kernel_rfl) rfl #[.slice A1 l1.length c1, .int .i64 t255] rfl Z3 ?_; (with_reducible refine (laws_szSlotS.calls _ _ l1 t255 t256 _ ?side1 ?side2 A6.out).mono ?_); (case side1 => exact Z5 HR1.out); (case side2 => exact HC1.out); rintro e w' ⟨rfl, ⟨nd, rfl⟩⟩; refine ⟨_, rfl, ?_⟩) | ((with_reducible refine gate_callee (f := 21) rfl ?_); refine goesL_ (some 29) rfl rfl Try.func21 (by kernel_rfl) rfl #[.slice A0 l0.length c0] rfl Z3 ?_; (with_reducible refine (laws_toCellS.calls k _ _ l0 t257 _ ?side1 ?side2 A9.out).mono ?_); (case side1 => repeat (first | exact (Kd.C_below HR0.out Z1) | (with_reducible refine Kd.C_alloc ?_ _) | (with_reducible refine Kd.C_drewN ?_ _) | (with_reducible refine Kd.C_drew ?_))); (case side2 => exact HC0.out); rintro e w17 ⟨v258, rfl, ho0, hb⟩; refine ⟨_, rfl, ?_⟩; obtain ⟨wa259, wb259, nw_, ns1_, ns2_, ns3_⟩ := Kd.S_win ho0 (below_size Z1) Z15 hb.size; have n0_ := A_ (nw_); have nS_ := A_ (And.intro HS.out (And.intro ns1_ ns2_)); have ne_ := A_ (ns3_); clear nw_ ns1_ ns2_ ns3_; have n1_ := A_ (below_step Z1 hb); clear HS; have HS := nS_; clear nS_; clear HE; have HE := ne_; clear ne_; clear HB; have HO259 := n0_; have HB := n1_; clear n0_ n1_; (try clear hb); (try clear hb2); (try clear hk); (try clear hi); (try clear ho0)) | ((with_reducible refine gate_callee (f := 22) rfl ?_); refine goesL_ (some 31) rfl rfl Try.func22 (by kernel_rfl) rfl #[.slice A1 l1.length c1] rfl Z3 ?_; (with_reducible refine (laws_toSlotS.calls k _ _ l1 t260 _ ?side1 ?side2 A10.out).mono ?_); (case side1 => exact Z5 HR1.out); (case side2 => exact HC1.out); rintro e w18 ⟨v261, rfl, ho0, hb⟩; refine ⟨_, rfl, ?_⟩; obtain ⟨wa262, wb262, nw_, ns1_, ns2_, ns3_⟩ := Kd.R_win ho0 (below_size Z1) Z15 hb.size; have n1_ := A_ (nw_); have nS_ := A_ (And.intro HS.out (And.intro ns1_ ns2_)); have ne_ := A_ (ns3_); clear nw_ ns1_ ns2_ ns3_; have n0_ := A_ (Kd.S_below (Z16 HO259.out) hb); have n2_ := A_ (below_step Z1 hb); clear HS; have HS := nS_; clear nS_; clear HE; have HE := ne_; clear ne_; clear HO259; clear HB; have HO259 := n0_; have HO262 := n1_; have HB := n2_; clear n0_ n1_ n2_; (try clear hb); (try clear hb2); (try clear hk); (try clear hi); (try clear ho0); obtain ⟨Ao19, co19, eo19⟩ := Kd.S_slice HO259.out; subst eo19; obtain ⟨Ao20, co20, eo20⟩ := Kd.R_slice HO262.out; subst eo20) | ((with_reducible refine gate_callee (f := 20) rfl ?_); refine goesL_ (some 32) rfl rfl Try.func20 (by kernel_rfl) rfl #[.slice Ao19 t257.length co19, .slice Ao20 t260.length co20] rfl Z3 ?_; (with_reducible refine (spec_StoreGet.calls k _ _ t257 _ _ t260 t263 t264 _ ?side1 ?side2 ?side3 ?side4 A11.out).mono ?_); (case side1 => exact Z23 HO259.out); (case side2 => exact (Kd.S_reads' HO259.out).2.1); (case side3 => exact Z17 HO262.out); (case side4 => exact (Kd.R_reads' HO262.out).2.1); rintro e w21 ⟨v265, rfl, ho0, hb⟩; refine ⟨_, rfl, ?_⟩; obtain ⟨wa266, wb266, nw_, ns1_, ns2_, ns3_⟩ := Kd.R_win ho0 (below_size Z1) Z15 hb.size; have n2_ := A_ (nw_); have nS_ := A_ (And.intro HS.out (And.intro ns1_ ns2_)); have ne_ := A_ (ns3_); clear nw_ ns1_ ns2_ ns3_; have n0_ := A_ (Kd.S_below (Z16 HO259.out) hb); have n1_ := A_ (Kd.R_below (Z10 HO262.out) hb); have n3_ := A_ (below_step Z1 hb); clear HS; have HS := nS_; clear nS_; clear HE; have HE := ne_; clear ne_; clear HO259; clear HO262; clear HB; have HO259 := n0_; have HO262 := n1_; have HO266 := n2_; have HB := n3_; clear n0_ n1_ n2_ n3_; (try clear hb); (try clear hb2); (try clear hk); (try clear hi); (try clear ho0)) | ((with_reducible refine gate_callee (f := 21) rfl ?_); refine goesL_ (some 36) rfl rfl Try.func21 (by kernel_rfl) rfl #[.slice A0 l0.length c0] rfl Z3 ?_; (with_reducible refine (laws_toCellS.calls k _ _ l0 t267 _ ?side1 ?side2 A12.out).mono ?_); (case side1 => exact Z5 HR0.out); (case side2 => exact HC0.out); rintro e w22 ⟨v268, rfl, ho0, hb⟩; refine ⟨_, rfl, ?_⟩; obtain ⟨wa269, wb269, nw_, ns1_, ns2_, ns3_⟩ := Kd.S_win ho0 (below_size Z1) Z15 hb.size; have n3_ := A_ (nw_); have nS_ := A_ (And.intro HS.out (And.intro ns1_ ns2_)); have ne_ := A_ (ns3_); clear nw_ ns1_ ns2_ ns3_; have n0_ := A_ (Kd.S_below (Z16 HO259.out) hb); have n1_ := A_ (Kd.R_below (Z10 HO262.out) hb); have n2_ := A_ (Kd.R_below (Z10 HO266.out) hb); have n4_ := A_ (below_step Z1 hb); clear HS; have HS := nS_; clear nS_; clear HE; have HE := ne_; clear ne_; clear HO259; clear HO262; clear HO266; clear HB; have HO259 := n0_; have HO262 := n1_; have HO266 := n2_; have HO269 := n3_; have HB := n4_; clear n0_ n1_ n2_ n3_ n4_; (try clear hb); (try clear hb2); (try clear hk); (try clear hi); (try clear ho0)) | ((with_reducible refine gate_callee (f := 22) rfl ?_); refine goesL_ (some 38) rfl rfl Try.func22 (by kernel_rfl) rfl #[.slice A1 l1.length c1] rfl Z3 ?_; (with_reducible refine (laws_toSlotS.calls k _ _ l1 t270 _ ?side1 ?side2 A13.out).mono ?_); (case side1 => exact Z5 HR1.out); (case side2 => exact HC1.out); rintro e w23 ⟨v271, rfl, ho0, hb⟩; refine ⟨_, rfl, ?_⟩; obtain ⟨wa272, wb272, nw_, ns1_, ns2_, ns3_⟩ := Kd.R_win ho0 (below_size Z1) Z15 hb.size; have n4_ := A_ (nw_); have nS_ := A_ (And.intro HS.out (And.intro ns1_ ns2_)); have ne_ := A_ (ns3_); clear nw_ ns1_ ns2_ ns3_; have n0_ := A_ (Kd.S_below (Z16 HO259.out) hb); have n1_ := A_ (Kd.R_below (Z10 HO262.out) hb); have n2_ := A_ (Kd.R_below (Z10 HO266.out) hb); have n3_ := A_ (Kd.S_below (Z16 HO269.out) hb); have n5_ := A_ (below_step Z1 hb); clear HS; have HS := nS_; clear nS_; clear HE; have HE := ne_; clear ne_; clear HO259; clear HO262; clear HO266; clear HO269; clear HB; have HO259 := n0_; have HO262 := n1_; have HO266 := n2_; have HO269 := n3_; have HO272 := n4_; have HB := n5_; clear n0_ n1_ n2_ n3_ n4_ n5_; (try clear hb); (try clear hb2); (try clear hk); (try clear hi); (try clear ho0); obtain ⟨Ao24, co24, eo24⟩ := Kd.S_slice HO269.out; subst eo24; obtain ⟨Ao25, co25, eo25⟩ := Kd.R_slice HO272.out; subst eo25) | ((with_reducible refine gate_callee (f := 23) rfl ?_); refine goesL_ (some 42) rfl rfl Try.func23 (by kernel_rfl) rfl #[.slice Ao24 t267.length co24, .slice Ao25 t270.length co25] rfl Z3 ?_; (with_reducible refine (impl_StoreGet.calls k _ _ t267 _ _ t270 t273 t274 _ ?side1 ?side2 ?side3 ?side4 A14.out).mono ?_); (case side1 => exact Z23 HO269.out); (case side2 => exact (Kd.S_reads' HO269.out).2.1); (case side3 => exact Z17 HO272.out); (case side4 => exact (Kd.R_reads' HO272.out).2.1); rintro e w26 ⟨v275, rfl, ho0, hb⟩; refine ⟨_, rfl, ?_⟩; obtain ⟨wa276, wb276, nw_, ns1_, ns2_, ns3_⟩ := Kd.R_win ho0 (below_size Z1) Z15 hb.size; have n5_ := A_ (nw_); have nS_ := A_ (And.intro HS.out (And.intro ns1_ ns2_)); have ne_ := A_ (ns3_); clear nw_ ns1_ ns2_ ns3_; have n0_ := A_ (Kd.S_below (Z16 HO259.out) hb); have n1_ := A_ (Kd.R_below (Z10 HO262.out) hb); have n2_ := A_ (Kd.R_below (Z10 HO266.out) hb); have n3_ := A_ (Kd.S_below (Z16 HO269.out) hb); have n4_ := A_ (Kd.R_below (Z10 HO272.out) hb); have n6_ := A_ (below_step Z1 hb); clear HS; have HS := nS_; clear nS_; clear HE; have HE := ne_; clear ne_; clear HO259; clear HO262; clear HO266; clear HO269; clear HO272; clear HB; have HO259 := n0_; have HO262 := n1_; have HO266 := n2_; have HO269 := n3_; have HO272 := n4_; have HO276 := n5_; have HB := n6_; clear n0_ n1_ n2_ n3_ n4_ n5_ n6_; (try clear hb); (try clear hb2); (try clear hk); (try clear hi); (try clear ho0)))
   (try simp only [Act.put, List.setIfInBounds_toArray, List.set_cons_zero, List.set_cons_succ])
   go_cut [53] (fun v53 wc => ∃ (kq : Nat) (x53_14 : Bool) (wa_6 wb_6 wa_8 wb_8 wa_9 wb_9 wa_10 wb_10 : Nat), v53 = .bool x53_14 ∧ Aside0 (laws_FnExactStoreGet.j0 kq l0 l1 t263 t264 t267 t270 t273 t274 x53_14 = some r) ∧ Aside0 (kq ≤ k) ∧ Aside0 (Kd.R k99 99 wc w.heap.size (Win wa_6 wb_6) v265 t263) ∧ Aside0 (Kd.S k89 89 wc w.heap.size (Win wa_8 wb_8) (.slice Ao24 t267.length co24) t267) ∧ Aside0 (Kd.R k92 92 wc w.heap.size (Win wa_9 wb_9) (.slice Ao25 t270.length co25) t270) ∧ Aside0 (Kd.R k99 99 wc w.heap.size (Win wa_10 wb_10) v275 t273) ∧ Aside0 (Below w.heap.size w wc) ∧ Aside0 (w.heap.size ≤ wa_6 ∧ wa_6 ≤ wb_6 ∧ wa_8 ≤ wb_8 ∧ wa_9 ≤ wb_9 ∧ wa_10 ≤ wb_10 ∧ wb_6 ≤ wa_8 ∧ wb_8 ≤ wa_9 ∧ wb_9 ≤ wa_10) ∧ Aside0 (wb_10 ≤ wc.heap.size))
   case first =>
    have H := HC15.out
    clear HC15
    replace H := Option.bind_eq_some_iff.mp H
    obtain ⟨t277, A270, H⟩ := H
    replace H : (if t277 = true then (laws_FnExactStoreGet.j0 k l0 l1 t263 t264 t267 t270 t273 t274 (t274 != t264)) else (laws_FnExactStoreGet.j0 k l0 l1 t263 t264 t267 t270 t273 t274 true)) = some r := H
    have A27 := A_ A270
    clear A270
    by_cases c28 : t277 = true
    ·subst c28
     have H1 : (laws_FnExactStoreGet.j0 k l0 l1 t263 t264 t267 t270 t273 t274 (t274 != t264)) = some r := by rw [if_pos rfl] at H; exact H
     clear H
     have H := H1
     clear H1
     have H' := A_ H
     clear H
     obtain ⟨Ao29, co29, eo29⟩ := Kd.R_slice HO276.out
     subst eo29
     obtain ⟨Ao30, co30, eo30⟩ := Kd.R_slice HO266.out
     subst eo30
     go_wp2_with (first | ((with_reducible refine gate_callee (f := 24) rfl ?_); refine goesL_ (some 47) rfl rfl Try.func24 (by kernel_rfl) rfl #[.slice Ao29 t273.length co29, .slice Ao30 t263.length co30] rfl Z3 ?_; (with_reducible refine (laws_eqValueS.calls k _ _ t273 _ _ t263 true _ ?side1 ?side2 ?side3 ?side4 A27.out).mono ?_); (case side1 => exact Z17 HO276.out); (case side2 => exact (Kd.R_reads' HO276.out).2.1); (case side3 => exact Z17 HO266.out); (case side4 => exact (Kd.R_reads' HO266.out).2.1); rintro e w31 ⟨rfl, hb⟩; refine ⟨_, rfl, ?_⟩; have n0_ := A_ (Kd.S_below (Z16 HO259.out) hb); have n1_ := A_ (Kd.R_below (Z10 HO262.out) hb); have n2_ := A_ (Kd.R_below (Z10 HO266.out) hb); have n3_ := A_ (Kd.S_below (Z16 HO269.out) hb); have n4_ := A_ (Kd.R_below (Z10 HO272.out) hb); have n5_ := A_ (Kd.R_below (Z10 HO276.out) hb); have n6_ := A_ (below_step Z1 hb); have ne_ := A_ (sz_below Z15 hb); clear HE; have HE := ne_; clear ne_; clear HO259; clear HO262; clear HO266; clear HO269; clear HO272; clear HO276; clear HB; have HO259 := n0_; have HO262 := n1_; have HO266 := n2_; have HO269 := n3_; have HO272 := n4_; have HO276 := n5_; have HB := n6_; clear n0_ n1_ n2_ n3_ n4_ n5_ n6_; (try clear hb); (try clear hb2); (try clear hk); (try clear hi)))
     go_meet
     case rel => exact ⟨_, ((t274 != t264)), wa266, wb266, wa269, wb269, wa272, wb272, wa276, wb276, Z18, H', ⟨by first | omega | exact Nat.le_refl _⟩, ⟨Z10 HO266.out⟩, ⟨Z16 HO269.out⟩, ⟨Z10 HO272.out⟩, ⟨Z10 HO276.out⟩, ⟨Z1⟩, ⟨by have hs_ := HS.out; omega⟩, ⟨by have hs_ := HS.out; refine Nat.le_trans ?_ Z15; omega⟩⟩
    ·replace c28 := Bool.eq_false_iff.mpr c28
     subst c28
     have H1 : (laws_FnExactStoreGet.j0 k l0 l1 t263 t264 t267 t270 t273 t274 true) = some r := by rw [if_neg (show ¬ (false = true) by decide)] at H; exact H
     clear H
     have H := H1
     clear H1
     have H' := A_ H
     clear H
     obtain ⟨Ao32, co32, eo32⟩ := Kd.R_slice HO276.out
     subst eo32
     obtain ⟨Ao33, co33, eo33⟩ := Kd.R_slice HO266.out
     subst eo33
     go_wp2_with (first | ((with_reducible refine gate_callee (f := 24) rfl ?_); refine goesL_ (some 47) rfl rfl Try.func24 (by kernel_rfl) rfl #[.slice Ao32 t273.length co32, .slice Ao33 t263.length co33] rfl Z3 ?_; (with_reducible refine (laws_eqValueS.calls k _ _ t273 _ _ t263 false _ ?side1 ?side2 ?side3 ?side4 A27.out).mono ?_); (case side1 => exact Z17 HO276.out); (case side2 => exact (Kd.R_reads' HO276.out).2.1); (case side3 => exact Z17 HO266.out); (case side4 => exact (Kd.R_reads' HO266.out).2.1); rintro e w34 ⟨rfl, hb⟩; refine ⟨_, rfl, ?_⟩; have n0_ := A_ (Kd.S_below (Z16 HO259.out) hb); have n1_ := A_ (Kd.R_below (Z10 HO262.out) hb); have n2_ := A_ (Kd.R_below (Z10 HO266.out) hb); have n3_ := A_ (Kd.S_below (Z16 HO269.out) hb); have n4_ := A_ (Kd.R_below (Z10 HO272.out) hb); have n5_ := A_ (Kd.R_below (Z10 HO276.out) hb); have n6_ := A_ (below_step Z1 hb); have ne_ := A_ (sz_below Z15 hb); clear HE; have HE := ne_; clear ne_; clear HO259; clear HO262; clear HO266; clear HO269; clear HO272; clear HO276; clear HB; have HO259 := n0_; have HO262 := n1_; have HO266 := n2_; have HO269 := n3_; have HO272 := n4_; have HO276 := n5_; have HB := n6_; clear n0_ n1_ n2_ n3_ n4_ n5_ n6_; (try clear hb); (try clear hb2); (try clear hk); (try clear hi)))
     go_meet
     case rel => exact ⟨_, (true), wa266, wb266, wa269, wb269, wa272, wb272, wa276, wb276, Z18, H', ⟨by first | omega | exact Nat.le_refl _⟩, ⟨Z10 HO266.out⟩, ⟨Z16 HO269.out⟩, ⟨Z10 HO272.out⟩, ⟨Z10 HO276.out⟩, ⟨Z1⟩, ⟨by have hs_ := HS.out; omega⟩, ⟨by have hs_ := HS.out; refine Nat.le_trans ?_ Z15; omega⟩⟩
   case rest =>
    clear HC15
    try clear c1
    try clear c2
    try clear p2
    try clear c4
    try clear c4b0
    try clear c7
    try clear c7b0
    try clear c18
    try clear c19
    try clear c20
    try clear c21
    try clear c22
    try clear c23
    try clear c24
    try clear c28
    obtain ⟨kq, x53_14, wa_6, wb_6, wa_8, wb_8, wa_9, wb_9, wa_10, wb_10, rfl, HA, HJ14, HO_6, HO_8, HO_9, HO_10, HB, HS, HE⟩ := hcut
    cases kq with
    | zero => exact absurd HA.out (by simp [laws_FnExactStoreGet.j0])
    | succ kj14 =>
     have H := HA.out
     clear HA
     simp only [laws_FnExactStoreGet.j0] at H
     by_cases c35 : x53_14 = true
     ·subst c35
      have H1 : (some false) = some r := by rw [if_pos rfl] at H; exact H
      clear H
      have H := H1
      clear H1
      obtain rfl := Option.some.inj H
      go_wp2
      go_ret
      exact ⟨Z12, Z1⟩
     ·replace c35 := Bool.eq_false_iff.mpr c35
      subst c35
      have H1 : ((laws_toCellS.f kj14 l0).bind fun t278 => ((laws_eqCellS.f kj14 t267 t278).bind fun t281 => (if t281 = true then ((laws_toSlotS.f kj14 l1).bind fun t282 => ((laws_eqSlotS.f kj14 t270 t282).bind fun t285 => (if t285 = true then ((laws_markCellS.f kj14 t267 1).bind fun bt286 => ((laws_markSlotS.f kj14 t270 bt286.1).bind fun bt288 => (if bt288.1 < 0 then (laws_FnExactStoreGet.j1 kj14 l0 l1 t263 t264 t273 true) else ((laws_eqValueS.f kj14 t273 t263).bind fun t290 => (if t290 = true then (laws_FnExactStoreGet.j1 kj14 l0 l1 t263 t264 t273 (t274 != t264)) else (laws_FnExactStoreGet.j1 kj14 l0 l1 t263 t264 t273 true)))))) else (some false)))) else (some false)))) = some r := by rw [if_neg (show ¬ (false = true) by decide)] at H; exact H
      clear H
      have H := H1
      clear H1
      replace H := Option.bind_eq_some_iff.mp H
      obtain ⟨t278, A360, H⟩ := H
      replace H : ((laws_eqCellS.f kj14 t267 t278).bind fun t281 => (if t281 = true then ((laws_toSlotS.f kj14 l1).bind fun t282 => ((laws_eqSlotS.f kj14 t270 t282).bind fun t285 => (if t285 = true then ((laws_markCellS.f kj14 t267 1).bind fun bt286 => ((laws_markSlotS.f kj14 t270 bt286.1).bind fun bt288 => (if bt288.1 < 0 then (laws_FnExactStoreGet.j1 kj14 l0 l1 t263 t264 t273 true) else ((laws_eqValueS.f kj14 t273 t263).bind fun t290 => (if t290 = true then (laws_FnExactStoreGet.j1 kj14 l0 l1 t263 t264 t273 (t274 != t264)) else (laws_FnExactStoreGet.j1 kj14 l0 l1 t263 t264 t273 true)))))) else (some false)))) else (some false))) = some r := H
      have A36 := A_ A360
      clear A360
      replace H := Option.bind_eq_some_iff.mp H
      obtain ⟨t281, A370, H⟩ := H
      replace H : (if t281 = true then ((laws_toSlotS.f kj14 l1).bind fun t282 => ((laws_eqSlotS.f kj14 t270 t282).bind fun t285 => (if t285 = true then ((laws_markCellS.f kj14 t267 1).bind fun bt286 => ((laws_markSlotS.f kj14 t270 bt286.1).bind fun bt288 => (if bt288.1 < 0 then (laws_FnExactStoreGet.j1 kj14 l0 l1 t263 t264 t273 true) else ((laws_eqValueS.f kj14 t273 t263).bind fun t290 => (if t290 = true then (laws_FnExactStoreGet.j1 kj14 l0 l1 t263 t264 t273 (t274 != t264)) else (laws_FnExactStoreGet.j1 kj14 l0 l1 t263 t264 t273 true)))))) else (some false)))) else (some false)) = some r := H
      have A37 := A_ A370
      clear A370
      by_cases c38 : t281 = true
      ·subst c38
       have H1 : ((laws_toSlotS.f kj14 l1).bind fun t282 => ((laws_eqSlotS.f kj14 t270 t282).bind fun t285 => (if t285 = true then ((laws_markCellS.f kj14 t267 1).bind fun bt286 => ((laws_markSlotS.f kj14 t270 bt286.1).bind fun bt288 => (if bt288.1 < 0 then (laws_FnExactStoreGet.j1 kj14 l0 l1 t263 t264 t273 true) else ((laws_eqValueS.f kj14 t273 t263).bind fun t290 => (if t290 = true then (laws_FnExactStoreGet.j1 kj14 l0 l1 t263 t264 t273 (t274 != t264)) else (laws_FnExactStoreGet.j1 kj14 l0 l1 t263 t264 t273 true)))))) else (some false)))) = some r := by rw [if_pos rfl] at H; exact H
       clear H
       have H := H1
       clear H1
       replace H := Option.bind_eq_some_iff.mp H
       obtain ⟨t282, A390, H⟩ := H
       replace H : ((laws_eqSlotS.f kj14 t270 t282).bind fun t285 => (if t285 = true then ((laws_markCellS.f kj14 t267 1).bind fun bt286 => ((laws_markSlotS.f kj14 t270 bt286.1).bind fun bt288 => (if bt288.1 < 0 then (laws_FnExactStoreGet.j1 kj14 l0 l1 t263 t264 t273 true) else ((laws_eqValueS.f kj14 t273 t263).bind fun t290 => (if t290 = true then (laws_FnExactStoreGet.j1 kj14 l0 l1 t263 t264 t273 (t274 != t264)) else (laws_FnExactStoreGet.j1 kj14 l0 l1 t263 t264 t273 true)))))) else (some false))) = some r := H
       have A39 := A_ A390
       clear A390
       replace H := Option.bind_eq_some_iff.mp H
       obtain ⟨t285, A400, H⟩ := H
       replace H : (if t285 = true then ((laws_markCellS.f kj14 t267 1).bind fun bt286 => ((laws_markSlotS.f kj14 t270 bt286.1).bind fun bt288 => (if bt288.1 < 0 then (laws_FnExactStoreGet.j1 kj14 l0 l1 t263 t264 t273 true) else ((laws_eqValueS.f kj14 t273 t263).bind fun t290 => (if t290 = true then (laws_FnExactStoreGet.j1 kj14 l0 l1 t263 t264 t273 (t274 != t264)) else (laws_FnExactStoreGet.j1 kj14 l0 l1 t263 t264 t273 true)))))) else (some false)) = some r := H
       have A40 := A_ A400
       clear A400
       by_cases c41 : t285 = true
       ·subst c41
        have H1 : ((laws_markCellS.f kj14 t267 1).bind fun bt286 => ((laws_markSlotS.f kj14 t270 bt286.1).bind fun bt288 => (if bt288.1 < 0 then (laws_FnExactStoreGet.j1 kj14 l0 l1 t263 t264 t273 true) else ((laws_eqValueS.f kj14 t273 t263).bind fun t290 => (if t290 = true then (laws_FnExactStoreGet.j1 kj14 l0 l1 t263 t264 t273 (t274 != t264)) else (laws_FnExactStoreGet.j1 kj14 l0 l1 t263 t264 t273 true)))))) = some r := by rw [if_pos rfl] at H; exact H
        clear H
        have H := H1
        clear H1
        replace H := Option.bind_eq_some_iff.mp H
        obtain ⟨⟨t286, t287⟩, A420, H⟩ := H
        replace H : ((laws_markSlotS.f kj14 t270 t286).bind fun bt288 => (if bt288.1 < 0 then (laws_FnExactStoreGet.j1 kj14 l0 l1 t263 t264 t273 true) else ((laws_eqValueS.f kj14 t273 t263).bind fun t290 => (if t290 = true then (laws_FnExactStoreGet.j1 kj14 l0 l1 t263 t264 t273 (t274 != t264)) else (laws_FnExactStoreGet.j1 kj14 l0 l1 t263 t264 t273 true))))) = some r := H
        have A42 := A_ A420
        clear A420
        replace H := Option.bind_eq_some_iff.mp H
        obtain ⟨⟨t288, t289⟩, A430, H⟩ := H
        replace H : (if t288 < 0 then (laws_FnExactStoreGet.j1 kj14 l0 l1 t263 t264 t273 true) else ((laws_eqValueS.f kj14 t273 t263).bind fun t290 => (if t290 = true then (laws_FnExactStoreGet.j1 kj14 l0 l1 t263 t264 t273 (t274 != t264)) else (laws_FnExactStoreGet.j1 kj14 l0 l1 t263 t264 t273 true)))) = some r := H
        have A43 := A_ A430
        clear A430
        have HC44 := A_ H
        clear H
        go_upto_region 21 with (first | ((with_reducible refine gate_callee (f := 21) rfl ?_); refine goesL_ (some 56) rfl rfl Try.func21 (by kernel_rfl) rfl #[.slice A0 l0.length c0] rfl Z3 ?_; (with_reducible refine (laws_toCellS.calls kj14 _ _ l0 t278 _ ?side1 ?side2 A36.out).mono ?_); (case side1 => exact Z5 HR0.out); (case side2 => exact HC0.out); rintro e w45 ⟨v279, rfl, ho0, hb⟩; refine ⟨_, rfl, ?_⟩; obtain ⟨wa280, wb280, nw_, ns1_, ns2_, ns3_⟩ := Kd.S_win ho0 (below_size Z1) Z15 hb.size; have n4_ := A_ (nw_); have nS_ := A_ (And.intro HS.out (And.intro ns1_ ns2_)); have ne_ := A_ (ns3_); clear nw_ ns1_ ns2_ ns3_; have n0_ := A_ (Kd.R_below (Z10 HO_6.out) hb); have n1_ := A_ (Kd.S_below (Z16 HO_8.out) hb); have n2_ := A_ (Kd.R_below (Z10 HO_9.out) hb); have n3_ := A_ (Kd.R_below (Z10 HO_10.out) hb); have n5_ := A_ (below_step Z1 hb); clear HS; have HS := nS_; clear nS_; clear HE; have HE := ne_; clear ne_; clear HO_6; clear HO_8; clear HO_9; clear HO_10; clear HB; have HO_6 := n0_; have HO_8 := n1_; have HO_9 := n2_; have HO_10 := n3_; have HO280 := n4_; have HB := n5_; clear n0_ n1_ n2_ n3_ n4_ n5_; (try clear hb); (try clear hb2); (try clear hk); (try clear hi); (try clear ho0); obtain ⟨Ao46, co46, eo46⟩ := Kd.S_slice HO280.out; subst eo46) | ((with_reducible refine gate_callee (f := 25) rfl ?_); refine goesL_ (some 57) rfl rfl Try.func25 (by kernel_rfl) rfl #[.slice Ao24 t267.length co24, .slice Ao46 t278.length co46] rfl Z3 ?_; (with_reducible refine (laws_eqCellS.calls kj14 _ _ t267 _ _ t278 true _ ?side1 ?side2 ?side3 ?side4 A37.out).mono ?_); (case side1 => exact Z23 HO_8.out); (case side2 => exact (Kd.S_reads' HO_8.out).2.1); (case side3 => exact Z23 HO280.out); (case side4 => exact (Kd.S_reads' HO280.out).2.1); rintro e w47 ⟨rfl, hb⟩; refine ⟨_, rfl, ?_⟩; have n0_ := A_ (Kd.R_below (Z10 HO_6.out) hb); have n1_ := A_ (Kd.S_below (Z16 HO_8.out) hb); have n2_ := A_ (Kd.R_below (Z10 HO_9.out) hb); have n3_ := A_ (Kd.R_below (Z10 HO_10.out) hb); have n4_ := A_ (Kd.S_below (Z16 HO280.out) hb); have n5_ := A_ (below_step Z1 hb); have ne_ := A_ (sz_below Z15 hb); clear HE; have HE := ne_; clear ne_; clear HO_6; clear HO_8; clear HO_9; clear HO_10; clear HO280; clear HB; have HO_6 := n0_; have HO_8 := n1_; have HO_9 := n2_; have HO_10 := n3_; have HO280 := n4_; have HB := n5_; clear n0_ n1_ n2_ n3_ n4_ n5_; (try clear hb); (try clear hb2); (try clear hk); (try clear hi)) | ((with_reducible refine gate_callee (f := 22) rfl ?_); refine goesL_ (some 61) rfl rfl Try.func22 (by kernel_rfl) rfl #[.slice A1 l1.length c1] rfl Z3 ?_; (with_reducible refine (laws_toSlotS.calls kj14 _ _ l1 t282 _ ?side1 ?side2 A39.out).mono ?_); (case side1 => exact Z5 HR1.out); (case side2 => exact HC1.out); rintro e w48 ⟨v283, rfl, ho0, hb⟩; refine ⟨_, rfl, ?_⟩; obtain ⟨wa284, wb284, nw_, ns1_, ns2_, ns3_⟩ := Kd.R_win ho0 (below_size Z1) Z15 hb.size; have n5_ := A_ (nw_); have nS_ := A_ (And.intro HS.out (And.intro ns1_ ns2_)); have ne_ := A_ (ns3_); clear nw_ ns1_ ns2_ ns3_; have n0_ := A_ (Kd.R_below (Z10 HO_6.out) hb); have n1_ := A_ (Kd.S_below (Z16 HO_8.out) hb); have n2_ := A_ (Kd.R_below (Z10 HO_9.out) hb); have n3_ := A_ (Kd.R_below (Z10 HO_10.out) hb); have n4_ := A_ (Kd.S_below (Z16 HO280.out) hb); have n6_ := A_ (below_step Z1 hb); clear HS; have HS := nS_; clear nS_; clear HE; have HE := ne_; clear ne_; clear HO_6; clear HO_8; clear HO_9; clear HO_10; clear HO280; clear HB; have HO_6 := n0_; have HO_8 := n1_; have HO_9 := n2_; have HO_10 := n3_; have HO280 := n4_; have HO284 := n5_; have HB := n6_; clear n0_ n1_ n2_ n3_ n4_ n5_ n6_; (try clear hb); (try clear hb2); (try clear hk); (try clear hi); (try clear ho0); obtain ⟨Ao49, co49, eo49⟩ := Kd.R_slice HO284.out; subst eo49) | ((with_reducible refine gate_callee (f := 26) rfl ?_); refine goesL_ (some 62) rfl rfl Try.func26 (by kernel_rfl) rfl #[.slice Ao25 t270.length co25, .slice Ao49 t282.length co49] rfl Z3 ?_; (with_reducible refine (laws_eqSlotS.calls kj14 _ _ t270 _ _ t282 true _ ?side1 ?side2 ?side3 ?side4 A40.out).mono ?_); (case side1 => exact Z17 HO_9.out); (case side2 => exact (Kd.R_reads' HO_9.out).2.1); (case side3 => exact Z17 HO284.out); (case side4 => exact (Kd.R_reads' HO284.out).2.1); rintro e w50 ⟨rfl, hb⟩; refine ⟨_, rfl, ?_⟩; have n0_ := A_ (Kd.R_below (Z10 HO_6.out) hb); have n1_ := A_ (Kd.S_below (Z16 HO_8.out) hb); have n2_ := A_ (Kd.R_below (Z10 HO_9.out) hb); have n3_ := A_ (Kd.R_below (Z10 HO_10.out) hb); have n4_ := A_ (Kd.S_below (Z16 HO280.out) hb); have n5_ := A_ (Kd.R_below (Z10 HO284.out) hb); have n6_ := A_ (below_step Z1 hb); have ne_ := A_ (sz_below Z15 hb); clear HE; have HE := ne_; clear ne_; clear HO_6; clear HO_8; clear HO_9; clear HO_10; clear HO280; clear HO284; clear HB; have HO_6 := n0_; have HO_8 := n1_; have HO_9 := n2_; have HO_10 := n3_; have HO280 := n4_; have HO284 := n5_; have HB := n6_; clear n0_ n1_ n2_ n3_ n4_ n5_ n6_; (try clear hb); (try clear hb2); (try clear hk); (try clear hi)) | ((with_reducible refine gate_callee (f := 27) rfl ?_); refine goesL_ (some 66) rfl rfl Try.func27 (by kernel_rfl) rfl #[.slice Ao24 t267.length co24, .int .i64 1] rfl Z3 ?_; (with_reducible refine (laws_markCellS.calls kj14 (Win wa_8 wb_8) (.slice Ao24 t267.length co24) t267 1 t286 t287 w _ ?side1 ?side2 A42.out).mono ?_); (case side1 => exact Z1); (case side2 => exact (Z16 HO_8.out)); rintro e w51 ⟨rfl, hy0, hb, hkp⟩; refine ⟨_, rfl, ?_⟩; have hs_ := HS.out; have n0_ := A_ (Kd.R_winK (Z10 HO_6.out) hkp (by omega)); have n1_ := A_ (hy0); have n2_ := A_ (Kd.R_winK (Z10 HO_9.out) hkp (by omega)); have n3_ := A_ (Kd.R_winK (Z10 HO_10.out) hkp (by omega)); have n4_ := A_ (Kd.S_winK (Z16 HO280.out) hkp (by omega)); have n5_ := A_ (Kd.R_winK (Z10 HO284.out) hkp (by omega)); have n6_ := A_ (hb); have ne_ := A_ (sz_kept Z15 hkp); clear hs_; clear HE; have HE := ne_; clear ne_; clear HO_6; clear HO_8; clear HO_9; clear HO_10; clear HO280; clear HO284; clear HB; have HO_6 := n0_; have HO_8 := n1_; have HO_9 := n2_; have HO_10 := n3_; have HO280 := n4_; have HO284 := n5_; have HB := n6_; clear n0_ n1_ n2_ n3_ n4_ n5_ n6_; (try clear hb); (try clear hkp); (try clear hy0)) | ((with_reducible refine gate_callee (f := 28) rfl ?_); refine goesL_ (some 69) rfl rfl Try.func28 (by kernel_rfl) rfl #[.slice Ao25 t270.length co25, .int .i64 t286] rfl Z3 ?_; (with_reducible refine (laws_markSlotS.calls kj14 (Win wa_9 wb_9) (.slice Ao25 t270.length co25) t270 t286 t288 t289 w _ ?side1 ?side2 A43.out).mono ?_); (case side1 => exact Z1); (case side2 => exact (Z10 HO_9.out)); rintro e w52 ⟨rfl, hy0, hb, hkp⟩; refine ⟨_, rfl, ?_⟩; have hs_ := HS.out; have n0_ := A_ (Kd.R_winK (Z10 HO_6.out) hkp (by omega)); have n1_ := A_ (Kd.S_winK (Z16 HO_8.out) hkp (by omega)); have n2_ := A_ (Kd.R_reok rfl hy0 (fun k_ e_ => HO_9.out.1 k_ e_)); have n3_ := A_ (Kd.R_winK (Z10 HO_10.out) hkp (by omega)); have n4_ := A_ (Kd.S_winK (Z16 HO280.out) hkp (by omega)); have n5_ := A_ (Kd.R_winK (Z10 HO284.out) hkp (by omega)); have n6_ := A_ (hb); have ne_ := A_ (sz_kept Z15 hkp); clear hs_; clear HE; have HE := ne_; clear ne_; clear HO_6; clear HO_8; clear HO_9; clear HO_10; clear HO280; clear HO284; clear HB; have HO_6 := n0_; have HO_8 := n1_; have HO_9 := n2_; have HO_10 := n3_; have HO280 := n4_; have HO284 := n5_; have HB := n6_; clear n0_ n1_ n2_ n3_ n4_ n5_ n6_; (try clear hb); (try clear hkp); (try clear hy0)))
        (try simp only [Act.put, List.setIfInBounds_toArray, List.set_cons_zero, List.set_cons_succ])
        go_cut [82] (fun v82 wc => ∃ (kq : Nat) (x82_43 : Bool) (wa_6 wb_6 wa_10 wb_10 : Nat), v82 = .bool x82_43 ∧ Aside0 (laws_FnExactStoreGet.j1 kq l0 l1 t263 t264 t273 x82_43 = some r) ∧ Aside0 (kq ≤ kj14) ∧ Aside0 (Kd.R k99 99 wc w.heap.size (Win wa_6 wb_6) v265 t263) ∧ Aside0 (Kd.R k99 99 wc w.heap.size (Win wa_10 wb_10) v275 t273) ∧ Aside0 (Below w.heap.size w wc) ∧ Aside0 (w.heap.size ≤ wa_6 ∧ wa_6 ≤ wb_6 ∧ wa_10 ≤ wb_10 ∧ wb_6 ≤ wa_10) ∧ Aside0 (wb_10 ≤ wc.heap.size))
        case first =>
         have H := HC44.out
         clear HC44
         by_cases c53 : t288 < 0
         ·rw [if_pos c53] at H
          have c53b0 : decide (t288 < 0) = true := decide_eq_true c53
          clear c53
          (first | rw [c53b0] | (simp only [i64_w, i32_w]; rw [c53b0]) | skip)
          have H' := A_ H
          clear H
          go_wp2
          go_meet
          case rel => exact ⟨_, (true), wa_6, wb_6, wa_10, wb_10, Z18, H', ⟨by have := HJ14.out; first | omega | exact Nat.le_refl _⟩, ⟨Z10 HO_6.out⟩, ⟨Z10 HO_10.out⟩, ⟨Z1⟩, ⟨by have hs_ := HS.out; omega⟩, ⟨by have hs_ := HS.out; refine Nat.le_trans ?_ Z15; omega⟩⟩
         ·rw [if_neg c53] at H
          have c53b0 : decide (t288 < 0) = false := decide_eq_false c53
          clear c53
          (first | rw [c53b0] | (simp only [i64_w, i32_w]; rw [c53b0]) | skip)
          replace H := Option.bind_eq_some_iff.mp H
          obtain ⟨t290, A540, H⟩ := H
          replace H : (if t290 = true then (laws_FnExactStoreGet.j1 kj14 l0 l1 t263 t264 t273 (t274 != t264)) else (laws_FnExactStoreGet.j1 kj14 l0 l1 t263 t264 t273 true)) = some r := H
          have A54 := A_ A540
          clear A540
          by_cases c55 : t290 = true
          ·subst c55
           have H1 : (laws_FnExactStoreGet.j1 kj14 l0 l1 t263 t264 t273 (t274 != t264)) = some r := by rw [if_pos rfl] at H; exact H
           clear H
           have H := H1
           clear H1
           have H' := A_ H
           clear H
           obtain ⟨Ao56, co56, eo56⟩ := Kd.R_slice HO_10.out
           subst eo56
           obtain ⟨Ao57, co57, eo57⟩ := Kd.R_slice HO_6.out
           subst eo57
           go_wp2_with (first | (go_at_call 24; (with_reducible refine (laws_eqValueS.calls kj14 _ _ t273 _ _ t263 true _ ?side1 ?side2 ?side3 ?side4 A54.out).mono ?_); (case side1 => exact Z17 HO_10.out); (case side2 => exact (Kd.R_reads' HO_10.out).2.1); (case side3 => exact Z17 HO_6.out); (case side4 => exact (Kd.R_reads' HO_6.out).2.1); rintro e w58 ⟨rfl, hb⟩; have n0_ := A_ (Kd.R_below (Z10 HO_6.out) hb); have n1_ := A_ (Kd.S_below (Z16 HO_8.out) hb); have n2_ := A_ (Kd.R_below (Z10 HO_9.out) hb); have n3_ := A_ (Kd.R_below (Z10 HO_10.out) hb); have n4_ := A_ (Kd.S_below (Z16 HO280.out) hb); have n5_ := A_ (Kd.R_below (Z10 HO284.out) hb); have n6_ := A_ (below_step Z1 hb); have ne_ := A_ (sz_below Z15 hb); clear HE; have HE := ne_; clear ne_; clear HO_6; clear HO_8; clear HO_9; clear HO_10; clear HO280; clear HO284; clear HB; have HO_6 := n0_; have HO_8 := n1_; have HO_9 := n2_; have HO_10 := n3_; have HO280 := n4_; have HO284 := n5_; have HB := n6_; clear n0_ n1_ n2_ n3_ n4_ n5_ n6_; (try clear hb); (try clear hb2); (try clear hk); (try clear hi)))
           go_meet
           case rel => exact ⟨_, ((t274 != t264)), wa_6, wb_6, wa_10, wb_10, Z18, H', ⟨by have := HJ14.out; first | omega | exact Nat.le_refl _⟩, ⟨Z10 HO_6.out⟩, ⟨Z10 HO_10.out⟩, ⟨Z1⟩, ⟨by have hs_ := HS.out; omega⟩, ⟨by have hs_ := HS.out; refine Nat.le_trans ?_ Z15; omega⟩⟩
          ·replace c55 := Bool.eq_false_iff.mpr c55
           subst c55
           have H1 : (laws_FnExactStoreGet.j1 kj14 l0 l1 t263 t264 t273 true) = some r := by rw [if_neg (show ¬ (false = true) by decide)] at H; exact H
           clear H
           have H := H1
           clear H1
           have H' := A_ H
           clear H
           obtain ⟨Ao59, co59, eo59⟩ := Kd.R_slice HO_10.out
           subst eo59
           obtain ⟨Ao60, co60, eo60⟩ := Kd.R_slice HO_6.out
           subst eo60
           go_wp2_with (first | (go_at_call 24; (with_reducible refine (laws_eqValueS.calls kj14 _ _ t273 _ _ t263 false _ ?side1 ?side2 ?side3 ?side4 A54.out).mono ?_); (case side1 => exact Z17 HO_10.out); (case side2 => exact (Kd.R_reads' HO_10.out).2.1); (case side3 => exact Z17 HO_6.out); (case side4 => exact (Kd.R_reads' HO_6.out).2.1); rintro e w61 ⟨rfl, hb⟩; have n0_ := A_ (Kd.R_below (Z10 HO_6.out) hb); have n1_ := A_ (Kd.S_below (Z16 HO_8.out) hb); have n2_ := A_ (Kd.R_below (Z10 HO_9.out) hb); have n3_ := A_ (Kd.R_below (Z10 HO_10.out) hb); have n4_ := A_ (Kd.S_below (Z16 HO280.out) hb); have n5_ := A_ (Kd.R_below (Z10 HO284.out) hb); have n6_ := A_ (below_step Z1 hb); have ne_ := A_ (sz_below Z15 hb); clear HE; have HE := ne_; clear ne_; clear HO_6; clear HO_8; clear HO_9; clear HO_10; clear HO280; clear HO284; clear HB; have HO_6 := n0_; have HO_8 := n1_; have HO_9 := n2_; have HO_10 := n3_; have HO280 := n4_; have HO284 := n5_; have HB := n6_; clear n0_ n1_ n2_ n3_ n4_ n5_ n6_; (try clear hb); (try clear hb2); (try clear hk); (try clear hi)))
           go_meet
           case rel => exact ⟨_, (true), wa_6, wb_6, wa_10, wb_10, Z18, H', ⟨by have := HJ14.out; first | omega | exact Nat.le_refl _⟩, ⟨Z10 HO_6.out⟩, ⟨Z10 HO_10.out⟩, ⟨Z1⟩, ⟨by have hs_ := HS.out; omega⟩, ⟨by have hs_ := HS.out; refine Nat.le_trans ?_ Z15; omega⟩⟩
        case rest =>
         clear HC44
         try clear c1
         try clear c2
         try clear p2
         try clear c3
         try clear c4
         try clear c4b0
         try clear c5
         try clear c7
         try clear c7b0
         try clear c18
         try clear c19
         try clear c20
         try clear c21
         try clear c22
         try clear c23
         try clear c24
         try clear c25
         try clear c26
         try clear c27
         try clear c28
         try clear c35
         try clear c38
         try clear c41
         try clear c53
         try clear c53b0
         try clear c55
         try clear p2
         obtain ⟨kq, x82_43, wa_6, wb_6, wa_10, wb_10, rfl, HA, HJ43, HO_6, HO_10, HB, HS, HE⟩ := hcut
         cases kq with
         | zero => exact absurd HA.out (by simp [laws_FnExactStoreGet.j1])
         | succ kj43 =>
          have H := HA.out
          clear HA
          simp only [laws_FnExactStoreGet.j1] at H
          by_cases c62 : x82_43 = true
          ·subst c62
           have H1 : (some false) = some r := by rw [if_pos rfl] at H; exact H
           clear H
           have H := H1
           clear H1
           obtain rfl := Option.some.inj H
           go_wp2
           go_ret
           exact ⟨Z12, Z1⟩
          ·replace c62 := Bool.eq_false_iff.mpr c62
           subst c62
           have H1 : ((laws_markValueS.f kj43 t273 1).bind fun bt291 => ((laws_heldValueS.f kj43 bt291.2 1).bind fun t293 => (if t293 < 0 then (some false) else (if t293 = bt291.1 then ((laws_toCellS.f kj43 l0).bind fun t294 => ((laws_toSlotS.f kj43 l1).bind fun t297 => ((impl_StoreGet.f kj43 t294 t297).bind fun bt300 => ((laws_eqValueS.f kj43 bt300.1 t263).bind fun t304 => (if t304 = true then (laws_FnExactStoreGet.j2 kj43 bt291.2 bt291.1 (bt300.2 != t264)) else (laws_FnExactStoreGet.j2 kj43 bt291.2 bt291.1 true)))))) else (some false))))) = some r := by rw [if_neg (show ¬ (false = true) by decide)] at H; exact H
           clear H
           have H := H1
           clear H1
           replace H := Option.bind_eq_some_iff.mp H
           obtain ⟨⟨t291, t292⟩, A630, H⟩ := H
           replace H : ((laws_heldValueS.f kj43 t292 1).bind fun t293 => (if t293 < 0 then (some false) else (if t293 = t291 then ((laws_toCellS.f kj43 l0).bind fun t294 => ((laws_toSlotS.f kj43 l1).bind fun t297 => ((impl_StoreGet.f kj43 t294 t297).bind fun bt300 => ((laws_eqValueS.f kj43 bt300.1 t263).bind fun t304 => (if t304 = true then (laws_FnExactStoreGet.j2 kj43 t292 t291 (bt300.2 != t264)) else (laws_FnExactStoreGet.j2 kj43 t292 t291 true)))))) else (some false)))) = some r := H
           have A63 := A_ A630
           clear A630
           replace H := Option.bind_eq_some_iff.mp H
           obtain ⟨t293, A640, H⟩ := H
           replace H : (if t293 < 0 then (some false) else (if t293 = t291 then ((laws_toCellS.f kj43 l0).bind fun t294 => ((laws_toSlotS.f kj43 l1).bind fun t297 => ((impl_StoreGet.f kj43 t294 t297).bind fun bt300 => ((laws_eqValueS.f kj43 bt300.1 t263).bind fun t304 => (if t304 = true then (laws_FnExactStoreGet.j2 kj43 t292 t291 (bt300.2 != t264)) else (laws_FnExactStoreGet.j2 kj43 t292 t291 true)))))) else (some false))) = some r := H
           have A64 := A_ A640
           clear A640
           by_cases c65 : t293 < 0
           ·rw [if_pos c65] at H
            have c65b0 : decide (t293 < 0) = true := decide_eq_true c65
            clear c65
            obtain rfl := Option.some.inj H
            obtain ⟨Ao66, co66, eo66⟩ := Kd.R_slice HO_10.out
            subst eo66
            go_wp2_with (first | ((with_reducible refine gate_callee (f := 29) rfl ?_); refine goesL_ (some 85) rfl rfl Try.func29 (by kernel_rfl) rfl #[.slice Ao66 t273.length co66, .int .i64 1] rfl Z3 ?_; (with_reducible refine (laws_markValueS.calls kj43 (Win wa_10 wb_10) (.slice Ao66 t273.length co66) t273 1 t291 t292 w _ ?side1 ?side2 A63.out).mono ?_); (case side1 => exact Z1); (case side2 => exact (Z10 HO_10.out)); rintro e w67 ⟨rfl, hy0, hb, hkp⟩; refine ⟨_, rfl, ?_⟩; have hs_ := HS.out; have n0_ := A_ (Kd.R_winK (Z10 HO_6.out) hkp (by omega)); have n1_ := A_ (Kd.R_reok rfl hy0 (fun k_ e_ => HO_10.out.1 k_ e_)); have n2_ := A_ (hb); have ne_ := A_ (sz_kept Z15 hkp); clear hs_; clear HE; have HE := ne_; clear ne_; clear HO_6; clear HO_10; clear HB; have HO_6 := n0_; have HO_10 := n1_; have HB := n2_; clear n0_ n1_ n2_; (try clear hb); (try clear hkp); (try clear hy0)) | ((with_reducible refine gate_callee (f := 30) rfl ?_); refine goesL_ (some 88) rfl rfl Try.func30 (by kernel_rfl) rfl #[.slice Ao66 t292.length co66, .int .i64 1] rfl (by (try simp only [List.map_toArray, List.map_cons, List.map_nil]); first | done | (rw [show t292.length = t273.length from (Kd.R_reads' HO_10.out).1.symm] <;> rfl) | rfl | (simp only [List.length_drop, List.length_take]; rfl)) ?_; (with_reducible refine (laws_heldValueS.calls kj43 _ _ t292 1 t293 _ ?side1 ?side2 A64.out).mono ?_); (case side1 => exact Z17 HO_10.out); (case side2 => rw [show t292.length = t273.length from (Kd.R_reads' HO_10.out).1.symm]; exact (Kd.R_reads' HO_10.out).2.1); rintro e w68 ⟨rfl, hb⟩; refine ⟨_, rfl, ?_⟩; have n0_ := A_ (Kd.R_below (Z10 HO_6.out) hb); have n1_ := A_ (Kd.R_below (Z10 HO_10.out) hb); have n2_ := A_ (below_step Z1 hb); have ne_ := A_ (sz_below Z15 hb); clear HE; have HE := ne_; clear ne_; clear HO_6; clear HO_10; clear HB; have HO_6 := n0_; have HO_10 := n1_; have HB := n2_; clear n0_ n1_ n2_; (try clear hb); (try clear hb2); (try clear hk); (try clear hi)))
            go_ret
            exact ⟨Z12, Z1⟩
           ·rw [if_neg c65] at H
            have c65b0 : decide (t293 < 0) = false := decide_eq_false c65
            clear c65
            by_cases c69 : t293 = t291
            ·rw [if_pos c69] at H
             have c69b0 : (t293 == t291) = true := beq_iff_eq.mpr c69
             have c69b1 : (t293 != t291) = false := bne_eq_false_iff_eq.mpr c69
             clear c69
             replace H := Option.bind_eq_some_iff.mp H
             obtain ⟨t294, A700, H⟩ := H
             replace H : ((laws_toSlotS.f kj43 l1).bind fun t297 => ((impl_StoreGet.f kj43 t294 t297).bind fun bt300 => ((laws_eqValueS.f kj43 bt300.1 t263).bind fun t304 => (if t304 = true then (laws_FnExactStoreGet.j2 kj43 t292 t291 (bt300.2 != t264)) else (laws_FnExactStoreGet.j2 kj43 t292 t291 true))))) = some r := H
             have A70 := A_ A700
             clear A700
             replace H := Option.bind_eq_some_iff.mp H
             obtain ⟨t297, A710, H⟩ := H
             replace H : ((impl_StoreGet.f kj43 t294 t297).bind fun bt300 => ((laws_eqValueS.f kj43 bt300.1 t263).bind fun t304 => (if t304 = true then (laws_FnExactStoreGet.j2 kj43 t292 t291 (bt300.2 != t264)) else (laws_FnExactStoreGet.j2 kj43 t292 t291 true)))) = some r := H
             have A71 := A_ A710
             clear A710
             replace H := Option.bind_eq_some_iff.mp H
             obtain ⟨⟨t300, t301⟩, A720, H⟩ := H
             replace H : ((laws_eqValueS.f kj43 t300 t263).bind fun t304 => (if t304 = true then (laws_FnExactStoreGet.j2 kj43 t292 t291 (t301 != t264)) else (laws_FnExactStoreGet.j2 kj43 t292 t291 true))) = some r := H
             have A72 := A_ A720
             clear A720
             have HC73 := A_ H
             clear H
             obtain ⟨Ao74, co74, eo74⟩ := Kd.R_slice HO_10.out
             subst eo74
             go_upto_region 32 with (first | ((with_reducible refine gate_callee (f := 29) rfl ?_); refine goesL_ (some 85) rfl rfl Try.func29 (by kernel_rfl) rfl #[.slice Ao74 t273.length co74, .int .i64 1] rfl Z3 ?_; (with_reducible refine (laws_markValueS.calls kj43 (Win wa_10 wb_10) (.slice Ao74 t273.length co74) t273 1 t291 t292 w _ ?side1 ?side2 A63.out).mono ?_); (case side1 => exact Z1); (case side2 => exact (Z10 HO_10.out)); rintro e w75 ⟨rfl, hy0, hb, hkp⟩; refine ⟨_, rfl, ?_⟩; have hs_ := HS.out; have n0_ := A_ (Kd.R_winK (Z10 HO_6.out) hkp (by omega)); have n1_ := A_ (Kd.R_reok rfl hy0 (fun k_ e_ => HO_10.out.1 k_ e_)); have n2_ := A_ (hb); have ne_ := A_ (sz_kept Z15 hkp); clear hs_; clear HE; have HE := ne_; clear ne_; clear HO_6; clear HO_10; clear HB; have HO_6 := n0_; have HO_10 := n1_; have HB := n2_; clear n0_ n1_ n2_; (try clear hb); (try clear hkp); (try clear hy0)) | ((with_reducible refine gate_callee (f := 30) rfl ?_); refine goesL_ (some 88) rfl rfl Try.func30 (by kernel_rfl) rfl #[.slice Ao74 t292.length co74, .int .i64 1] rfl (by (try simp only [List.map_toArray, List.map_cons, List.map_nil]); first | done | (rw [show t292.length = t273.length from (Kd.R_reads' HO_10.out).1.symm] <;> rfl) | rfl | (simp only [List.length_drop, List.length_take]; rfl)) ?_; (with_reducible refine (laws_heldValueS.calls kj43 _ _ t292 1 t293 _ ?side1 ?side2 A64.out).mono ?_); (case side1 => exact Z17 HO_10.out); (case side2 => rw [show t292.length = t273.length from (Kd.R_reads' HO_10.out).1.symm]; exact (Kd.R_reads' HO_10.out).2.1); rintro e w76 ⟨rfl, hb⟩; refine ⟨_, rfl, ?_⟩; have n0_ := A_ (Kd.R_below (Z10 HO_6.out) hb); have n1_ := A_ (Kd.R_below (Z10 HO_10.out) hb); have n2_ := A_ (below_step Z1 hb); have ne_ := A_ (sz_below Z15 hb); clear HE; have HE := ne_; clear ne_; clear HO_6; clear HO_10; clear HB; have HO_6 := n0_; have HO_10 := n1_; have HB := n2_; clear n0_ n1_ n2_; (try clear hb); (try clear hb2); (try clear hk); (try clear hi)) | ((with_reducible refine gate_callee (f := 21) rfl ?_); refine goesL_ (some 96) rfl rfl Try.func21 (by kernel_rfl) rfl #[.slice A0 l0.length c0] rfl Z3 ?_; (with_reducible refine (laws_toCellS.calls kj43 _ _ l0 t294 _ ?side1 ?side2 A70.out).mono ?_); (case side1 => exact Z5 HR0.out); (case side2 => exact HC0.out); rintro e w77 ⟨v295, rfl, ho0, hb⟩; refine ⟨_, rfl, ?_⟩; obtain ⟨wa296, wb296, nw_, ns1_, ns2_, ns3_⟩ := Kd.S_win ho0 (below_size Z1) Z15 hb.size; have n2_ := A_ (nw_); have nS_ := A_ (And.intro HS.out (And.intro ns1_ ns2_)); have ne_ := A_ (ns3_); clear nw_ ns1_ ns2_ ns3_; have n0_ := A_ (Kd.R_below (Z10 HO_6.out) hb); have n1_ := A_ (Kd.R_below (Z10 HO_10.out) hb); have n3_ := A_ (below_step Z1 hb); clear HS; have HS := nS_; clear nS_; clear HE; have HE := ne_; clear ne_; clear HO_6; clear HO_10; clear HB; have HO_6 := n0_; have HO_10 := n1_; have HO296 := n2_; have HB := n3_; clear n0_ n1_ n2_ n3_; (try clear hb); (try clear hb2); (try clear hk); (try clear hi); (try clear ho0)) | ((with_reducible refine gate_callee (f := 22) rfl ?_); refine goesL_ (some 98) rfl rfl Try.func22 (by kernel_rfl) rfl #[.slice A1 l1.length c1] rfl Z3 ?_; (with_reducible refine (laws_toSlotS.calls kj43 _ _ l1 t297 _ ?side1 ?side2 A71.out).mono ?_); (case side1 => exact Z5 HR1.out); (case side2 => exact HC1.out); rintro e w78 ⟨v298, rfl, ho0, hb⟩; refine ⟨_, rfl, ?_⟩; obtain ⟨wa299, wb299, nw_, ns1_, ns2_, ns3_⟩ := Kd.R_win ho0 (below_size Z1) Z15 hb.size; have n3_ := A_ (nw_); have nS_ := A_ (And.intro HS.out (And.intro ns1_ ns2_)); have ne_ := A_ (ns3_); clear nw_ ns1_ ns2_ ns3_; have n0_ := A_ (Kd.R_below (Z10 HO_6.out) hb); have n1_ := A_ (Kd.R_below (Z10 HO_10.out) hb); have n2_ := A_ (Kd.S_below (Z16 HO296.out) hb); have n4_ := A_ (below_step Z1 hb); clear HS; have HS := nS_; clear nS_; clear HE; have HE := ne_; clear ne_; clear HO_6; clear HO_10; clear HO296; clear HB; have HO_6 := n0_; have HO_10 := n1_; have HO296 := n2_; have HO299 := n3_; have HB := n4_; clear n0_ n1_ n2_ n3_ n4_; (try clear hb); (try clear hb2); (try clear hk); (try clear hi); (try clear ho0); obtain ⟨Ao79, co79, eo79⟩ := Kd.S_slice HO296.out; subst eo79; obtain ⟨Ao80, co80, eo80⟩ := Kd.R_slice HO299.out; subst eo80) | ((with_reducible refine gate_callee (f := 23) rfl ?_); refine goesL_ (some 99) rfl rfl Try.func23 (by kernel_rfl) rfl #[.slice Ao79 t294.length co79, .slice Ao80 t297.length co80] rfl Z3 ?_; (with_reducible refine (impl_StoreGet.calls kj43 _ _ t294 _ _ t297 t300 t301 _ ?side1 ?side2 ?side3 ?side4 A72.out).mono ?_); (case side1 => exact Z23 HO296.out); (case side2 => exact (Kd.S_reads' HO296.out).2.1); (case side3 => exact Z17 HO299.out); (case side4 => exact (Kd.R_reads' HO299.out).2.1); rintro e w81 ⟨v302, rfl, ho0, hb⟩; refine ⟨_, rfl, ?_⟩; obtain ⟨wa303, wb303, nw_, ns1_, ns2_, ns3_⟩ := Kd.R_win ho0 (below_size Z1) Z15 hb.size; have n4_ := A_ (nw_); have nS_ := A_ (And.intro HS.out (And.intro ns1_ ns2_)); have ne_ := A_ (ns3_); clear nw_ ns1_ ns2_ ns3_; have n0_ := A_ (Kd.R_below (Z10 HO_6.out) hb); have n1_ := A_ (Kd.R_below (Z10 HO_10.out) hb); have n2_ := A_ (Kd.S_below (Z16 HO296.out) hb); have n3_ := A_ (Kd.R_below (Z10 HO299.out) hb); have n5_ := A_ (below_step Z1 hb); clear HS; have HS := nS_; clear nS_; clear HE; have HE := ne_; clear ne_; clear HO_6; clear HO_10; clear HO296; clear HO299; clear HB; have HO_6 := n0_; have HO_10 := n1_; have HO296 := n2_; have HO299 := n3_; have HO303 := n4_; have HB := n5_; clear n0_ n1_ n2_ n3_ n4_ n5_; (try clear hb); (try clear hb2); (try clear hk); (try clear hi); (try clear ho0)))
             (try simp only [Act.put, List.setIfInBounds_toArray, List.set_cons_zero, List.set_cons_succ])
             go_cut [110] (fun v110 wc => ∃ (kq : Nat) (x110_72 : Bool) (wa_10 wb_10 : Nat), v110 = .bool x110_72 ∧ Aside0 (laws_FnExactStoreGet.j2 kq t292 t291 x110_72 = some r) ∧ Aside0 (kq ≤ kj43) ∧ Aside0 (Kd.R k99 99 wc w.heap.size (Win wa_10 wb_10) (.slice Ao74 t273.length co74) t292) ∧ Aside0 (Below w.heap.size w wc) ∧ Aside0 (w.heap.size ≤ wa_10 ∧ wa_10 ≤ wb_10) ∧ Aside0 (wb_10 ≤ wc.heap.size))
             case first =>
              have H := HC73.out
              clear HC73
              replace H := Option.bind_eq_some_iff.mp H
              obtain ⟨t304, A820, H⟩ := H
              replace H : (if t304 = true then (laws_FnExactStoreGet.j2 kj43 t292 t291 (t301 != t264)) else (laws_FnExactStoreGet.j2 kj43 t292 t291 true)) = some r := H
              have A82 := A_ A820
              clear A820
              by_cases c83 : t304 = true
              ·subst c83
               have H1 : (laws_FnExactStoreGet.j2 kj43 t292 t291 (t301 != t264)) = some r := by rw [if_pos rfl] at H; exact H
               clear H
               have H := H1
               clear H1
               have H' := A_ H
               clear H
               obtain ⟨Ao84, co84, eo84⟩ := Kd.R_slice HO303.out
               subst eo84
               obtain ⟨Ao85, co85, eo85⟩ := Kd.R_slice HO_6.out
               subst eo85
               go_wp2_with (first | ((with_reducible refine gate_callee (f := 24) rfl ?_); refine goesL_ (some 104) rfl rfl Try.func24 (by kernel_rfl) rfl #[.slice Ao84 t300.length co84, .slice Ao85 t263.length co85] rfl Z3 ?_; (with_reducible refine (laws_eqValueS.calls kj43 _ _ t300 _ _ t263 true _ ?side1 ?side2 ?side3 ?side4 A82.out).mono ?_); (case side1 => exact Z17 HO303.out); (case side2 => exact (Kd.R_reads' HO303.out).2.1); (case side3 => exact Z17 HO_6.out); (case side4 => exact (Kd.R_reads' HO_6.out).2.1); rintro e w86 ⟨rfl, hb⟩; refine ⟨_, rfl, ?_⟩; have n0_ := A_ (Kd.R_below (Z10 HO_6.out) hb); have n1_ := A_ (Kd.R_below (Z10 HO_10.out) hb); have n2_ := A_ (Kd.S_below (Z16 HO296.out) hb); have n3_ := A_ (Kd.R_below (Z10 HO299.out) hb); have n4_ := A_ (Kd.R_below (Z10 HO303.out) hb); have n5_ := A_ (below_step Z1 hb); have ne_ := A_ (sz_below Z15 hb); clear HE; have HE := ne_; clear ne_; clear HO_6; clear HO_10; clear HO296; clear HO299; clear HO303; clear HB; have HO_6 := n0_; have HO_10 := n1_; have HO296 := n2_; have HO299 := n3_; have HO303 := n4_; have HB := n5_; clear n0_ n1_ n2_ n3_ n4_ n5_; (try clear hb); (try clear hb2); (try clear hk); (try clear hi)))
               go_meet
               case rel => exact ⟨_, ((t301 != t264)), wa_10, wb_10, Z18, H', ⟨by have := HJ14.out; have := HJ43.out; first | omega | exact Nat.le_refl _⟩, ⟨Z10 HO_10.out⟩, ⟨Z1⟩, ⟨by have hs_ := HS.out; omega⟩, ⟨by have hs_ := HS.out; refine Nat.le_trans ?_ Z15; omega⟩⟩
              ·replace c83 := Bool.eq_false_iff.mpr c83
               subst c83
               have H1 : (laws_FnExactStoreGet.j2 kj43 t292 t291 true) = some r := by rw [if_neg (show ¬ (false = true) by decide)] at H; exact H
               clear H
               have H := H1
               clear H1
               have H' := A_ H
               clear H
               obtain ⟨Ao87, co87, eo87⟩ := Kd.R_slice HO303.out
               subst eo87
               obtain ⟨Ao88, co88, eo88⟩ := Kd.R_slice HO_6.out
               subst eo88
               go_wp2_with (first | ((with_reducible refine gate_callee (f := 24) rfl ?_); refine goesL_ (some 104) rfl rfl Try.func24 (by kernel_rfl) rfl #[.slice Ao87 t300.length co87, .slice Ao88 t263.length co88] rfl Z3 ?_; (with_reducible refine (laws_eqValueS.calls kj43 _ _ t300 _ _ t263 false _ ?side1 ?side2 ?side3 ?side4 A82.out).mono ?_); (case side1 => exact Z17 HO303.out); (case side2 => exact (Kd.R_reads' HO303.out).2.1); (case side3 => exact Z17 HO_6.out); (case side4 => exact (Kd.R_reads' HO_6.out).2.1); rintro e w89 ⟨rfl, hb⟩; refine ⟨_, rfl, ?_⟩; have n0_ := A_ (Kd.R_below (Z10 HO_6.out) hb); have n1_ := A_ (Kd.R_below (Z10 HO_10.out) hb); have n2_ := A_ (Kd.S_below (Z16 HO296.out) hb); have n3_ := A_ (Kd.R_below (Z10 HO299.out) hb); have n4_ := A_ (Kd.R_below (Z10 HO303.out) hb); have n5_ := A_ (below_step Z1 hb); have ne_ := A_ (sz_below Z15 hb); clear HE; have HE := ne_; clear ne_; clear HO_6; clear HO_10; clear HO296; clear HO299; clear HO303; clear HB; have HO_6 := n0_; have HO_10 := n1_; have HO296 := n2_; have HO299 := n3_; have HO303 := n4_; have HB := n5_; clear n0_ n1_ n2_ n3_ n4_ n5_; (try clear hb); (try clear hb2); (try clear hk); (try clear hi)))
               go_meet
               case rel => exact ⟨_, (true), wa_10, wb_10, Z18, H', ⟨by have := HJ14.out; have := HJ43.out; first | omega | exact Nat.le_refl _⟩, ⟨Z10 HO_10.out⟩, ⟨Z1⟩, ⟨by have hs_ := HS.out; omega⟩, ⟨by have hs_ := HS.out; refine Nat.le_trans ?_ Z15; omega⟩⟩
             case rest =>
              clear HC73
              try clear c1
              try clear c2
              try clear p2
              try clear c3
              try clear c4
              try clear c4b0
              try clear c5
              try clear c6
              try clear c7
              try clear c7b0
              try clear c8
              try clear c18
              try clear c19
              try clear c20
              try clear c21
              try clear c22
              try clear c23
              try clear c24
              try clear c25
              try clear c26
              try clear c27
              try clear c28
              try clear c29
              try clear c30
              try clear c35
              try clear c38
              try clear c41
              try clear c53
              try clear c53b0
              try clear c55
              try clear c62
              try clear c65
              try clear c65b0
              try clear c69
              try clear c69b0
              try clear c69b1
              try clear c83
              try clear p2
              obtain ⟨kq, x110_72, wa_10, wb_10, rfl, HA, HJ72, HO_10, HB, HS, HE⟩ := hcut
              have hl10_72 := (Kd.R_reads' HO_10.out).1
              rw [hl10_72] at HO_10
              (try simp only [hl10_72])
              cases kq with
              | zero => exact absurd HA.out (by simp [laws_FnExactStoreGet.j2])
              | succ kj72 =>
               have H := HA.out
               clear HA
               simp only [laws_FnExactStoreGet.j2] at H
               by_cases c90 : x110_72 = true
               ·subst c90
                have H1 : (some false) = some r := by rw [if_pos rfl] at H; exact H
                clear H
                have H := H1
                clear H1
                obtain rfl := Option.some.inj H
                go_wp2
                go_ret
                exact ⟨Z12, Z1⟩
               ·replace c90 := Bool.eq_false_iff.mpr c90
                subst c90
                have H1 : ((laws_heldValueS.f kj72 t292 1).bind fun t305 => (if t305 < 0 then (some false) else (if t305 = t291 then (some true) else (some false)))) = some r := by rw [if_neg (show ¬ (false = true) by decide)] at H; exact H
                clear H
                have H := H1
                clear H1
                replace H := Option.bind_eq_some_iff.mp H
                obtain ⟨t305, A910, H⟩ := H
                replace H : (if t305 < 0 then (some false) else (if t305 = t291 then (some true) else (some false))) = some r := H
                have A91 := A_ A910
                clear A910
                by_cases c92 : t305 < 0
                ·rw [if_pos c92] at H
                 have c92b0 : decide (t305 < 0) = true := decide_eq_true c92
                 clear c92
                 obtain rfl := Option.some.inj H
                 go_wp2_with (first | ((with_reducible refine gate_callee (f := 30) rfl ?_); refine goesL_ (some 113) rfl rfl Try.func30 (by kernel_rfl) rfl #[.slice Ao74 t292.length co74, .int .i64 1] rfl Z3 ?_; (with_reducible refine (laws_heldValueS.calls kj72 _ _ t292 1 t305 _ ?side1 ?side2 A91.out).mono ?_); (case side1 => exact Z17 HO_10.out); (case side2 => exact (Kd.R_reads' HO_10.out).2.1); rintro e w93 ⟨rfl, hb⟩; refine ⟨_, rfl, ?_⟩; have n0_ := A_ (Kd.R_below (Z10 HO_10.out) hb); have n1_ := A_ (below_step Z1 hb); have ne_ := A_ (sz_below Z15 hb); clear HE; have HE := ne_; clear ne_; clear HO_10; clear HB; have HO_10 := n0_; have HB := n1_; clear n0_ n1_; (try clear hb); (try clear hb2); (try clear hk); (try clear hi)))
                 go_ret
                 exact ⟨Z12, Z1⟩
                ·rw [if_neg c92] at H
                 have c92b0 : decide (t305 < 0) = false := decide_eq_false c92
                 clear c92
                 by_cases c94 : t305 = t291
                 ·rw [if_pos c94] at H
                  have c94b0 : (t305 == t291) = true := beq_iff_eq.mpr c94
                  have c94b1 : (t305 != t291) = false := bne_eq_false_iff_eq.mpr c94
                  clear c94
                  obtain rfl := Option.some.inj H
                  go_wp2_with (first | ((with_reducible refine gate_callee (f := 30) rfl ?_); refine goesL_ (some 113) rfl rfl Try.func30 (by kernel_rfl) rfl #[.slice Ao74 t292.length co74, .int .i64 1] rfl Z3 ?_; (with_reducible refine (laws_heldValueS.calls kj72 _ _ t292 1 t305 _ ?side1 ?side2 A91.out).mono ?_); (case side1 => exact Z17 HO_10.out); (case side2 => exact (Kd.R_reads' HO_10.out).2.1); rintro e w95 ⟨rfl, hb⟩; refine ⟨_, rfl, ?_⟩; have n0_ := A_ (Kd.R_below (Z10 HO_10.out) hb); have n1_ := A_ (below_step Z1 hb); have ne_ := A_ (sz_below Z15 hb); clear HE; have HE := ne_; clear ne_; clear HO_10; clear HB; have HO_10 := n0_; have HB := n1_; clear n0_ n1_; (try clear hb); (try clear hb2); (try clear hk); (try clear hi)))
                  go_ret
                  exact ⟨Z12, Z1⟩
                 ·rw [if_neg c94] at H
                  have c94b0 : (t305 == t291) = false := beq_eq_false_iff_ne.mpr c94
                  have c94b1 : (t305 != t291) = true := bne_iff_ne.mpr c94
                  obtain rfl := Option.some.inj H
                  go_wp2_with (first | ((with_reducible refine gate_callee (f := 30) rfl ?_); refine goesL_ (some 113) rfl rfl Try.func30 (by kernel_rfl) rfl #[.slice Ao74 t292.length co74, .int .i64 1] rfl Z3 ?_; (with_reducible refine (laws_heldValueS.calls kj72 _ _ t292 1 t305 _ ?side1 ?side2 A91.out).mono ?_); (case side1 => exact Z17 HO_10.out); (case side2 => exact (Kd.R_reads' HO_10.out).2.1); rintro e w96 ⟨rfl, hb⟩; refine ⟨_, rfl, ?_⟩; have n0_ := A_ (Kd.R_below (Z10 HO_10.out) hb); have n1_ := A_ (below_step Z1 hb); have ne_ := A_ (sz_below Z15 hb); clear HE; have HE := ne_; clear ne_; clear HO_10; clear HB; have HO_10 := n0_; have HB := n1_; clear n0_ n1_; (try clear hb); (try clear hb2); (try clear hk); (try clear hi)))
                  go_ret
                  exact ⟨Z12, Z1⟩
            ·rw [if_neg c69] at H
             have c69b0 : (t293 == t291) = false := beq_eq_false_iff_ne.mpr c69
             have c69b1 : (t293 != t291) = true := bne_iff_ne.mpr c69
             obtain rfl := Option.some.inj H
             obtain ⟨Ao97, co97, eo97⟩ := Kd.R_slice HO_10.out
             subst eo97
             go_wp2_with (first | ((with_reducible refine gate_callee (f := 29) rfl ?_); refine goesL_ (some 85) rfl rfl Try.func29 (by kernel_rfl) rfl #[.slice Ao97 t273.length co97, .int .i64 1] rfl Z3 ?_; (with_reducible refine (laws_markValueS.calls kj43 (Win wa_10 wb_10) (.slice Ao97 t273.length co97) t273 1 t291 t292 w _ ?side1 ?side2 A63.out).mono ?_); (case side1 => exact Z1); (case side2 => exact (Z10 HO_10.out)); rintro e w98 ⟨rfl, hy0, hb, hkp⟩; refine ⟨_, rfl, ?_⟩; have hs_ := HS.out; have n0_ := A_ (Kd.R_winK (Z10 HO_6.out) hkp (by omega)); have n1_ := A_ (Kd.R_reok rfl hy0 (fun k_ e_ => HO_10.out.1 k_ e_)); have n2_ := A_ (hb); have ne_ := A_ (sz_kept Z15 hkp); clear hs_; clear HE; have HE := ne_; clear ne_; clear HO_6; clear HO_10; clear HB; have HO_6 := n0_; have HO_10 := n1_; have HB := n2_; clear n0_ n1_ n2_; (try clear hb); (try clear hkp); (try clear hy0)) | ((with_reducible refine gate_callee (f := 30) rfl ?_); refine goesL_ (some 88) rfl rfl Try.func30 (by kernel_rfl) rfl #[.slice Ao97 t292.length co97, .int .i64 1] rfl (by (try simp only [List.map_toArray, List.map_cons, List.map_nil]); first | done | (rw [show t292.length = t273.length from (Kd.R_reads' HO_10.out).1.symm] <;> rfl) | rfl | (simp only [List.length_drop, List.length_take]; rfl)) ?_; (with_reducible refine (laws_heldValueS.calls kj43 _ _ t292 1 t293 _ ?side1 ?side2 A64.out).mono ?_); (case side1 => exact Z17 HO_10.out); (case side2 => rw [show t292.length = t273.length from (Kd.R_reads' HO_10.out).1.symm]; exact (Kd.R_reads' HO_10.out).2.1); rintro e w99 ⟨rfl, hb⟩; refine ⟨_, rfl, ?_⟩; have n0_ := A_ (Kd.R_below (Z10 HO_6.out) hb); have n1_ := A_ (Kd.R_below (Z10 HO_10.out) hb); have n2_ := A_ (below_step Z1 hb); have ne_ := A_ (sz_below Z15 hb); clear HE; have HE := ne_; clear ne_; clear HO_6; clear HO_10; clear HB; have HO_6 := n0_; have HO_10 := n1_; have HB := n2_; clear n0_ n1_ n2_; (try clear hb); (try clear hb2); (try clear hk); (try clear hi)))
             go_ret
             exact ⟨Z12, Z1⟩
       ·replace c41 := Bool.eq_false_iff.mpr c41
        subst c41
        have H1 : (some false) = some r := by rw [if_neg (show ¬ (false = true) by decide)] at H; exact H
        clear H
        have H := H1
        clear H1
        obtain rfl := Option.some.inj H
        go_wp2_with (first | ((with_reducible refine gate_callee (f := 21) rfl ?_); refine goesL_ (some 56) rfl rfl Try.func21 (by kernel_rfl) rfl #[.slice A0 l0.length c0] rfl Z3 ?_; (with_reducible refine (laws_toCellS.calls kj14 _ _ l0 t278 _ ?side1 ?side2 A36.out).mono ?_); (case side1 => exact Z5 HR0.out); (case side2 => exact HC0.out); rintro e w100 ⟨v279, rfl, ho0, hb⟩; refine ⟨_, rfl, ?_⟩; obtain ⟨wa280, wb280, nw_, ns1_, ns2_, ns3_⟩ := Kd.S_win ho0 (below_size Z1) Z15 hb.size; have n4_ := A_ (nw_); have nS_ := A_ (And.intro HS.out (And.intro ns1_ ns2_)); have ne_ := A_ (ns3_); clear nw_ ns1_ ns2_ ns3_; have n0_ := A_ (Kd.R_below (Z10 HO_6.out) hb); have n1_ := A_ (Kd.S_below (Z16 HO_8.out) hb); have n2_ := A_ (Kd.R_below (Z10 HO_9.out) hb); have n3_ := A_ (Kd.R_below (Z10 HO_10.out) hb); have n5_ := A_ (below_step Z1 hb); clear HS; have HS := nS_; clear nS_; clear HE; have HE := ne_; clear ne_; clear HO_6; clear HO_8; clear HO_9; clear HO_10; clear HB; have HO_6 := n0_; have HO_8 := n1_; have HO_9 := n2_; have HO_10 := n3_; have HO280 := n4_; have HB := n5_; clear n0_ n1_ n2_ n3_ n4_ n5_; (try clear hb); (try clear hb2); (try clear hk); (try clear hi); (try clear ho0); obtain ⟨Ao101, co101, eo101⟩ := Kd.S_slice HO280.out; subst eo101) | ((with_reducible refine gate_callee (f := 25) rfl ?_); refine goesL_ (some 57) rfl rfl Try.func25 (by kernel_rfl) rfl #[.slice Ao24 t267.length co24, .slice Ao101 t278.length co101] rfl Z3 ?_; (with_reducible refine (laws_eqCellS.calls kj14 _ _ t267 _ _ t278 true _ ?side1 ?side2 ?side3 ?side4 A37.out).mono ?_); (case side1 => exact Z23 HO_8.out); (case side2 => exact (Kd.S_reads' HO_8.out).2.1); (case side3 => exact Z23 HO280.out); (case side4 => exact (Kd.S_reads' HO280.out).2.1); rintro e w102 ⟨rfl, hb⟩; refine ⟨_, rfl, ?_⟩; have n0_ := A_ (Kd.R_below (Z10 HO_6.out) hb); have n1_ := A_ (Kd.S_below (Z16 HO_8.out) hb); have n2_ := A_ (Kd.R_below (Z10 HO_9.out) hb); have n3_ := A_ (Kd.R_below (Z10 HO_10.out) hb); have n4_ := A_ (Kd.S_below (Z16 HO280.out) hb); have n5_ := A_ (below_step Z1 hb); have ne_ := A_ (sz_below Z15 hb); clear HE; have HE := ne_; clear ne_; clear HO_6; clear HO_8; clear HO_9; clear HO_10; clear HO280; clear HB; have HO_6 := n0_; have HO_8 := n1_; have HO_9 := n2_; have HO_10 := n3_; have HO280 := n4_; have HB := n5_; clear n0_ n1_ n2_ n3_ n4_ n5_; (try clear hb); (try clear hb2); (try clear hk); (try clear hi)) | ((with_reducible refine gate_callee (f := 22) rfl ?_); refine goesL_ (some 61) rfl rfl Try.func22 (by kernel_rfl) rfl #[.slice A1 l1.length c1] rfl Z3 ?_; (with_reducible refine (laws_toSlotS.calls kj14 _ _ l1 t282 _ ?side1 ?side2 A39.out).mono ?_); (case side1 => exact Z5 HR1.out); (case side2 => exact HC1.out); rintro e w103 ⟨v283, rfl, ho0, hb⟩; refine ⟨_, rfl, ?_⟩; obtain ⟨wa284, wb284, nw_, ns1_, ns2_, ns3_⟩ := Kd.R_win ho0 (below_size Z1) Z15 hb.size; have n5_ := A_ (nw_); have nS_ := A_ (And.intro HS.out (And.intro ns1_ ns2_)); have ne_ := A_ (ns3_); clear nw_ ns1_ ns2_ ns3_; have n0_ := A_ (Kd.R_below (Z10 HO_6.out) hb); have n1_ := A_ (Kd.S_below (Z16 HO_8.out) hb); have n2_ := A_ (Kd.R_below (Z10 HO_9.out) hb); have n3_ := A_ (Kd.R_below (Z10 HO_10.out) hb); have n4_ := A_ (Kd.S_below (Z16 HO280.out) hb); have n6_ := A_ (below_step Z1 hb); clear HS; have HS := nS_; clear nS_; clear HE; have HE := ne_; clear ne_; clear HO_6; clear HO_8; clear HO_9; clear HO_10; clear HO280; clear HB; have HO_6 := n0_; have HO_8 := n1_; have HO_9 := n2_; have HO_10 := n3_; have HO280 := n4_; have HO284 := n5_; have HB := n6_; clear n0_ n1_ n2_ n3_ n4_ n5_ n6_; (try clear hb); (try clear hb2); (try clear hk); (try clear hi); (try clear ho0); obtain ⟨Ao104, co104, eo104⟩ := Kd.R_slice HO284.out; subst eo104) | ((with_reducible refine gate_callee (f := 26) rfl ?_); refine goesL_ (some 62) rfl rfl Try.func26 (by kernel_rfl) rfl #[.slice Ao25 t270.length co25, .slice Ao104 t282.length co104] rfl Z3 ?_; (with_reducible refine (laws_eqSlotS.calls kj14 _ _ t270 _ _ t282 false _ ?side1 ?side2 ?side3 ?side4 A40.out).mono ?_); (case side1 => exact Z17 HO_9.out); (case side2 => exact (Kd.R_reads' HO_9.out).2.1); (case side3 => exact Z17 HO284.out); (case side4 => exact (Kd.R_reads' HO284.out).2.1); rintro e w105 ⟨rfl, hb⟩; refine ⟨_, rfl, ?_⟩; have n0_ := A_ (Kd.R_below (Z10 HO_6.out) hb); have n1_ := A_ (Kd.S_below (Z16 HO_8.out) hb); have n2_ := A_ (Kd.R_below (Z10 HO_9.out) hb); have n3_ := A_ (Kd.R_below (Z10 HO_10.out) hb); have n4_ := A_ (Kd.S_below (Z16 HO280.out) hb); have n5_ := A_ (Kd.R_below (Z10 HO284.out) hb); have n6_ := A_ (below_step Z1 hb); have ne_ := A_ (sz_below Z15 hb); clear HE; have HE := ne_; clear ne_; clear HO_6; clear HO_8; clear HO_9; clear HO_10; clear HO280; clear HO284; clear HB; have HO_6 := n0_; have HO_8 := n1_; have HO_9 := n2_; have HO_10 := n3_; have HO280 := n4_; have HO284 := n5_; have HB := n6_; clear n0_ n1_ n2_ n3_ n4_ n5_ n6_; (try clear hb); (try clear hb2); (try clear hk); (try clear hi)))
        go_ret
        exact ⟨Z12, Z1⟩
      ·replace c38 := Bool.eq_false_iff.mpr c38
       subst c38
       have H1 : (some false) = some r := by rw [if_neg (show ¬ (false = true) by decide)] at H; exact H
       clear H
       have H := H1
       clear H1
       obtain rfl := Option.some.inj H
       go_wp2_with (first | ((with_reducible refine gate_callee (f := 21) rfl ?_); refine goesL_ (some 56) rfl rfl Try.func21 (by kernel_rfl) rfl #[.slice A0 l0.length c0] rfl Z3 ?_; (with_reducible refine (laws_toCellS.calls kj14 _ _ l0 t278 _ ?side1 ?side2 A36.out).mono ?_); (case side1 => exact Z5 HR0.out); (case side2 => exact HC0.out); rintro e w106 ⟨v279, rfl, ho0, hb⟩; refine ⟨_, rfl, ?_⟩; obtain ⟨wa280, wb280, nw_, ns1_, ns2_, ns3_⟩ := Kd.S_win ho0 (below_size Z1) Z15 hb.size; have n4_ := A_ (nw_); have nS_ := A_ (And.intro HS.out (And.intro ns1_ ns2_)); have ne_ := A_ (ns3_); clear nw_ ns1_ ns2_ ns3_; have n0_ := A_ (Kd.R_below (Z10 HO_6.out) hb); have n1_ := A_ (Kd.S_below (Z16 HO_8.out) hb); have n2_ := A_ (Kd.R_below (Z10 HO_9.out) hb); have n3_ := A_ (Kd.R_below (Z10 HO_10.out) hb); have n5_ := A_ (below_step Z1 hb); clear HS; have HS := nS_; clear nS_; clear HE; have HE := ne_; clear ne_; clear HO_6; clear HO_8; clear HO_9; clear HO_10; clear HB; have HO_6 := n0_; have HO_8 := n1_; have HO_9 := n2_; have HO_10 := n3_; have HO280 := n4_; have HB := n5_; clear n0_ n1_ n2_ n3_ n4_ n5_; (try clear hb); (try clear hb2); (try clear hk); (try clear hi); (try clear ho0); obtain ⟨Ao107, co107, eo107⟩ := Kd.S_slice HO280.out; subst eo107) | ((with_reducible refine gate_callee (f := 25) rfl ?_); refine goesL_ (some 57) rfl rfl Try.func25 (by kernel_rfl) rfl #[.slice Ao24 t267.length co24, .slice Ao107 t278.length co107] rfl Z3 ?_; (with_reducible refine (laws_eqCellS.calls kj14 _ _ t267 _ _ t278 false _ ?side1 ?side2 ?side3 ?side4 A37.out).mono ?_); (case side1 => exact Z23 HO_8.out); (case side2 => exact (Kd.S_reads' HO_8.out).2.1); (case side3 => exact Z23 HO280.out); (case side4 => exact (Kd.S_reads' HO280.out).2.1); rintro e w108 ⟨rfl, hb⟩; refine ⟨_, rfl, ?_⟩; have n0_ := A_ (Kd.R_below (Z10 HO_6.out) hb); have n1_ := A_ (Kd.S_below (Z16 HO_8.out) hb); have n2_ := A_ (Kd.R_below (Z10 HO_9.out) hb); have n3_ := A_ (Kd.R_below (Z10 HO_10.out) hb); have n4_ := A_ (Kd.S_below (Z16 HO280.out) hb); have n5_ := A_ (below_step Z1 hb); have ne_ := A_ (sz_below Z15 hb); clear HE; have HE := ne_; clear ne_; clear HO_6; clear HO_8; clear HO_9; clear HO_10; clear HO280; clear HB; have HO_6 := n0_; have HO_8 := n1_; have HO_9 := n2_; have HO_10 := n3_; have HO280 := n4_; have HB := n5_; clear n0_ n1_ n2_ n3_ n4_ n5_; (try clear hb); (try clear hb2); (try clear hk); (try clear hi)))
       go_ret
       exact ⟨Z12, Z1⟩
end Go.Proofs.Ytpadhphdglbciaa.PFnExactStoreGet
