/- Walks of the functions that the law 'FnStorePut' reaches, part 12: for each a Lean function and the proof that Go's comes to just its answer (lines of the print, under own names; no condition). -/
import Derived.Test.YtheifobeaemegaaZFnStorePutQFnStorePutx0
import Derived.Test.YtheifobeaemegaaZFnStorePutQFnStorePutx8
import Derived.Test.YtheifobeaemegaaZFnStorePutQFnStorePutx9
import Derived.Test.YtheifobeaemegaaZFnStorePutQFnStorePutx10
import Derived.Test.YtheifobeaemegaaZFnStorePutQFnStorePutx11
namespace Go.Proofs.Ytheifobeaemegaa.PFnStorePut
open Go.RowKit Go.Proofs.YtheifobeaemegaaW.PrintWords Go.Proofs.YtheifobeaemegaaW.PrintLast Go.Proofs.YtheifobeaemegaaW.PrintMore
attribute [local go_sem] max2_int min2_int max_two min_two max_three min_three max_four min_four
set_option linter.unusedVariables false
set_option linter.unusedSimpArgs false
def spec_source_cells.l0 : Nat → List (S41) → Int → List Int → Int → Int → Option ((List (S41)) × Int × Int)
 | 0, _, _, _, _, _ => none
 | k + 1, x3, x4, x1000, x1001, x1002 => if x4 > 0 then ((spec_source_slots.f k x1000 x1001 x1002).bind fun bt393 => ((spec_source_pick.f k x1000 bt393.2.1 bt393.2.2 4).bind fun bt398 => ((spec_source_goods.f k x1000 bt398.2.1 bt398.2.2 bt398.1).bind fun bt401 => ((spec_validPlace.f k bt393.1).bind fun t407 => (if t407 = true then ((spec_put.f k x3 bt393.1 bt401.1).bind fun t408 => (spec_source_cells.l0 k t408 (wrap64 (x4 - 1)) x1000 bt401.2.1 bt401.2.2)) else (spec_source_cells.l0 k x3 (wrap64 (x4 - 1)) x1000 bt401.2.1 bt401.2.2)))))) else (some (x3, x1001, x1002))
def spec_source_cells.f (k : Nat) (s0_0 : List Int) (s0_1 : Int) (s0_2 : Int) : Option ((List (S41)) × Int × Int) := (spec_source_pick.f k s0_0 s0_1 s0_2 5).bind fun bt390 => (spec_source_cells.l0 k (([] : List (S41))) bt390.1 s0_0 bt390.2.1 bt390.2.2)
theorem spec_source_cells.mono_l : ∀ k, (∀ y0 y1 y2 y3 y4, LeO (spec_source_cells.l0 k y0 y1 y2 y3 y4) (spec_source_cells.l0 (k + 1) y0 y1 y2 y3 y4))
 | 0 => fun _ _ _ _ _ r h => by simp [spec_source_cells.l0] at h
 | k + 1 => by
  have ih0 := spec_source_cells.mono_l k
  ·intro y0 y1 y2 y3 y4
   unfold spec_source_cells.l0
   repeat' first
   | (with_reducible exact ih0 _ _ _ _ _)
   | (with_reducible exact spec_put.mono _ _ _ _)
   | (with_reducible exact spec_source_goods.mono _ _ _ _ _)
   | (with_reducible exact spec_source_pick.mono _ _ _ _ _)
   | (with_reducible exact spec_source_slots.mono _ _ _ _)
   | (with_reducible exact spec_validPlace.mono _ _)
   | (with_reducible exact LeO.refl _)
   | (with_reducible exact LeO.none _)
   | (with_reducible refine LeO.ite ?_ ?_)
   | (with_reducible refine LeO.bind ?_ (fun _ => ?_))
   | exact ih0 _ _ _ _ _
   | exact spec_put.mono _ _ _ _
   | exact spec_source_goods.mono _ _ _ _ _
   | exact spec_source_pick.mono _ _ _ _ _
   | exact spec_source_slots.mono _ _ _ _
   | exact spec_validPlace.mono _ _
   | exact LeO.none _
   | refine LeO.ite ?_ ?_
   | refine LeO.bind ?_ (fun _ => ?_)
theorem spec_source_cells.mono : ∀ a0 a1 a2 k, LeO (spec_source_cells.f k a0 a1 a2) (spec_source_cells.f (k + 1) a0 a1 a2) := by
 intro a0 a1 a2 k
 have ih0 := spec_source_cells.mono_l k
 unfold spec_source_cells.f
 repeat' first
   | (with_reducible exact ih0 _ _ _ _ _)
   | (with_reducible exact spec_put.mono _ _ _ _)
   | (with_reducible exact spec_source_goods.mono _ _ _ _ _)
   | (with_reducible exact spec_source_pick.mono _ _ _ _ _)
   | (with_reducible exact spec_source_slots.mono _ _ _ _)
   | (with_reducible exact spec_validPlace.mono _ _)
   | (with_reducible exact LeO.refl _)
   | (with_reducible exact LeO.none _)
   | (with_reducible refine LeO.ite ?_ ?_)
   | (with_reducible refine LeO.bind ?_ (fun _ => ?_))
   | exact ih0 _ _ _ _ _
   | exact spec_put.mono _ _ _ _
   | exact spec_source_goods.mono _ _ _ _ _
   | exact spec_source_pick.mono _ _ _ _ _
   | exact spec_source_slots.mono _ _ _ _
   | exact spec_validPlace.mono _ _
   | exact LeO.none _
   | refine LeO.ite ?_ ?_
   | refine LeO.bind ?_ (fun _ => ?_)
set_option maxHeartbeats 8000000 in
set_option maxRecDepth 100000 in
theorem spec_source_cells.calls (k : Nat) (g : Nat) (s0_0 : List Int) (s0_1 : Int) (s0_2 : Int) (r1 : List (S41)) (r2 : Int) (r3 : Int) (w0 w : World) (hI : IsS77 w0 w g s0_0 s0_1 s0_2) (hB : Below w0.heap.size w0 w) (h : spec_source_cells.f k s0_0 s0_1 s0_2 = some (r1, r2, r3)) :
  Calls Try.prog 42 #[.pointer (some ⟨g, 0, none⟩)] w fun e w' => ∃ v0_ : Value, e = .returned (v0_) ∧ Kd.N k41 41 w' w.heap.size (fun k_ => (w.heap.size ≤ k_)) v0_ r1 ∧ IsS77 w0 w' g s0_0 r2 r3 ∧ Below w0.heap.size w0 w' ∧ KeepBut w w' g none := by
 have hu41 := Try.underlying41
 have HI0 := A_ hI
 have HK := A_ (KeepBut.refl w g none)
 have HL := A_ hB.size
 clear hI
 have HW0 := A_ hB.size
 have HB := A_ hB
 clear hB
 have H : ((spec_source_pick.f k s0_0 s0_1 s0_2 5).bind fun bt390 => (spec_source_cells.l0 k (([] : List (S41))) bt390.1 s0_0 bt390.2.1 bt390.2.2)) = some (r1, r2, r3) := h
 clear h
 obtain ⟨y387, hy387⟩ : ∃ y_ : List (S41), y_ = (([] : List (S41))) := ⟨_, rfl⟩
 replace H : ((spec_source_pick.f k s0_0 s0_1 s0_2 5).bind fun bt390 => (spec_source_cells.l0 k y387 bt390.1 s0_0 bt390.2.1 bt390.2.2)) = some (r1, r2, r3) := by first | (rw [hy387]; with_reducible exact H) | (have H2_ := (Option.bind_some _ _).symm.trans H; rw [hy387]; with_reducible exact H2_) | (have H2_ := (Option.bind_some _ _).symm.trans H; with_reducible exact H2_) | with_reducible exact H | (rw [hy387]; exact H) | exact H
 have Ny387 := A_ hy387
 clear hy387
 replace H := Option.bind_eq_some_iff.mp H
 obtain ⟨⟨t390, t391, t392⟩, A20, H⟩ := H
 replace H : (spec_source_cells.l0 k y387 t390 s0_0 t391 t392) = some (r1, r2, r3) := H
 have A2 := A_ A20
 clear A20
 have H' := A_ H
 clear H
 go_enter Try.func42, Try.ntmps42
 go_wp2_with (first | ((with_reducible refine gate_dst (N := 6) rfl ?_); refine Kd.N_lit k41 _ 41 ?hg (N' := 6) ?hd (xs := ([] : List (S41))) (inner := []) (ok := (fun k_ => (w.heap.size ≤ k_) ∧ k_ ≠ g)) (okp := (fun k_ => (w.heap.size ≤ k_) ∧ k_ ≠ g)) ?hr ?hp (fun _ hk => hk) ((show ∀ k_, w.heap.size ≤ k_ → (fun k_ => (w.heap.size ≤ k_) ∧ k_ ≠ g) k_ from fun k_ hk => ⟨(Nat.le_trans (keep_size (w := w) (g := g) (row := none) Z7) hk), IsS77.fresh (Z8 HI0.out) k_ hk⟩) _ (Nat.le_refl _)) (Below.refl _ _) (Nat.le_refl _) (by simp) ?_; (case hd => rfl); (case hg => rfl); (case hr => exact Z28); (case hp => exact (Reps.none _ _)); intro v388 w3 ho4 hb hg_ hnew_; clear hg_ hnew_; (first | rw [← Ny387.out] at ho4 | (simp only [Int.reduceToNat] at ho4; rw [← Ny387.out] at ho4)); have n0_ := A_ (Kd.N_lower ho4 (keep_size (w := w) (g := g) (row := none) Z7)); have n1_ := A_ (IsS77.below (Z8 HI0.out) hb); have n2_ := A_ (KeepBut.trans Z7 (KeepBut.of_below hb g none) (.inl rfl)); have n3_ := A_ (below_step (Z4 HI0.out) hb); clear HI0; clear HK; clear HB; have HO389 := n0_; have HI0 := n1_; have HK := n2_; have HB := n3_; clear n0_ n1_ n2_ n3_; clear hb ho4) | ((with_reducible refine gate_callee (f := 38) rfl ?_); refine goesL_ (some 8) rfl rfl Try.func38 (by kernel_rfl) rfl #[.pointer (some ⟨g, 0, none⟩), .int .i64 5] rfl Z3 ?_; (with_reducible refine (spec_source_pick.calls k g s0_0 s0_1 s0_2 5 t390 t391 t392 w0 _ ?side1 ?side2 A2.out).mono ?_); (case side1 => exact Z8 HI0.out); (case side2 => exact Z4 HI0.out); rintro e w5 ⟨rfl, hi, hb, hk⟩; refine ⟨_, rfl, ?_⟩; have n0_ := A_ (Kd.N_mono (Kd.N_keep (Kd.N_mono (ok := fun k_ => (((w.heap.size ≤ k_)) ∧ k_ ≠ g)) (Z18 HO389.out) (fun k_ hk_ => (⟨hk_, hk_.2⟩ : _ ∧ k_ ≠ g))) hk (fun _ h => h.2)) (fun _ h => h.1)); have n1_ := A_ (KeepBut.trans Z7 hk (.inl rfl)); have n2_ := A_ (hb); have n3_ := A_ (hi); clear HO389; clear HK; clear HB; clear HI0; have HO389 := n0_; have HK := n1_; have HB := n2_; have HI0 := n3_; clear n0_ n1_ n2_ n3_; (try clear hb); (try clear hb2); (try clear hk); (try clear hi)))
 go_loopg [3, 4] k (fun kq v3 v4 w' => ∃ (x3_1 : List (S41)) (x4_1 : Int) (x1001_1 : Int) (x1002_1 : Int), v4 = .int .i64 x4_1 ∧ Aside0 (spec_source_cells.l0 kq x3_1 x4_1 s0_0 x1001_1 x1002_1 = some (r1, r2, r3)) ∧ Aside0 (kq ≤ k) ∧ Aside0 (Kd.N k41 41 w' w.heap.size (fun k_ => (w.heap.size ≤ k_) ∧ k_ ≠ g) v3 x3_1) ∧ Aside0 (IsS77 w0 w' g s0_0 x1001_1 x1002_1) ∧ Aside0 (KeepBut w w' g none) ∧ Aside0 (Below w0.heap.size w0 w'))
 case atStart => exact ⟨(y387), (t390), (t391), (t392), Z21, H', ⟨Nat.le_refl _⟩, ⟨Z18 HO389.out⟩, ⟨Z8 HI0.out⟩, ⟨Z7⟩, ⟨Z4 HI0.out⟩⟩
 case round =>
  clear H'
  try clear p2
  try clear c3
  try clear c4
  obtain ⟨x3_1, x4_1, x1001_1, x1002_1, rfl, HA, HK1, HO_3, HI0, HK, HB⟩ := hrel
  cases gk with
  | zero => exact absurd HA.out (by simp [spec_source_cells.l0])
  | succ k1 =>
   have H := HA.out
   clear HA
   simp only [spec_source_cells.l0] at H
   by_cases c6 : x4_1 > 0
   ·rw [if_pos c6] at H
    have c6b0 : decide (0 < x4_1) = true := decide_eq_true c6
    clear c6
    replace H := Option.bind_eq_some_iff.mp H
    obtain ⟨⟨t393, t396, t397⟩, A70, H⟩ := H
    replace H : ((spec_source_pick.f k1 s0_0 t396 t397 4).bind fun bt398 => ((spec_source_goods.f k1 s0_0 bt398.2.1 bt398.2.2 bt398.1).bind fun bt401 => ((spec_validPlace.f k1 t393).bind fun t407 => (if t407 = true then ((spec_put.f k1 x3_1 t393 bt401.1).bind fun t408 => (spec_source_cells.l0 k1 t408 (wrap64 (x4_1 - 1)) s0_0 bt401.2.1 bt401.2.2)) else (spec_source_cells.l0 k1 x3_1 (wrap64 (x4_1 - 1)) s0_0 bt401.2.1 bt401.2.2))))) = some (r1, r2, r3) := H
    have A7 := A_ A70
    clear A70
    replace H := Option.bind_eq_some_iff.mp H
    obtain ⟨⟨t398, t399, t400⟩, A80, H⟩ := H
    replace H : ((spec_source_goods.f k1 s0_0 t399 t400 t398).bind fun bt401 => ((spec_validPlace.f k1 t393).bind fun t407 => (if t407 = true then ((spec_put.f k1 x3_1 t393 bt401.1).bind fun t408 => (spec_source_cells.l0 k1 t408 (wrap64 (x4_1 - 1)) s0_0 bt401.2.1 bt401.2.2)) else (spec_source_cells.l0 k1 x3_1 (wrap64 (x4_1 - 1)) s0_0 bt401.2.1 bt401.2.2)))) = some (r1, r2, r3) := H
    have A8 := A_ A80
    clear A80
    replace H := Option.bind_eq_some_iff.mp H
    obtain ⟨⟨t401, t404, t405⟩, A90, H⟩ := H
    replace H : ((spec_validPlace.f k1 t393).bind fun t407 => (if t407 = true then ((spec_put.f k1 x3_1 t393 t401).bind fun t408 => (spec_source_cells.l0 k1 t408 (wrap64 (x4_1 - 1)) s0_0 t404 t405)) else (spec_source_cells.l0 k1 x3_1 (wrap64 (x4_1 - 1)) s0_0 t404 t405))) = some (r1, r2, r3) := H
    have A9 := A_ A90
    clear A90
    replace H := Option.bind_eq_some_iff.mp H
    obtain ⟨t407, A100, H⟩ := H
    replace H : (if t407 = true then ((spec_put.f k1 x3_1 t393 t401).bind fun t408 => (spec_source_cells.l0 k1 t408 (wrap64 (x4_1 - 1)) s0_0 t404 t405)) else (spec_source_cells.l0 k1 x3_1 (wrap64 (x4_1 - 1)) s0_0 t404 t405)) = some (r1, r2, r3) := H
    have A10 := A_ A100
    clear A100
    by_cases c11 : t407 = true
    ·subst c11
     have H1 : ((spec_put.f k1 x3_1 t393 t401).bind fun t408 => (spec_source_cells.l0 k1 t408 (wrap64 (x4_1 - 1)) s0_0 t404 t405)) = some (r1, r2, r3) := by rw [if_pos rfl] at H; exact H
     clear H
     have H := H1
     clear H1
     replace H := Option.bind_eq_some_iff.mp H
     obtain ⟨t408, A120, H⟩ := H
     replace H : (spec_source_cells.l0 k1 t408 (wrap64 (x4_1 - 1)) s0_0 t404 t405) = some (r1, r2, r3) := H
     have A12 := A_ A120
     clear A120
     have H' := A_ H
     clear H
     go_wp2_with (first | ((with_reducible refine gate_callee (f := 55) rfl ?_); refine goesL_ (some 14) rfl rfl Try.func55 (by kernel_rfl) rfl #[.pointer (some ⟨g, 0, none⟩)] rfl Z3 ?_; (with_reducible refine (spec_source_slots.calls k1 g s0_0 x1001_1 x1002_1 t393 t396 t397 w0 _ ?side1 ?side2 A7.out).mono ?_); (case side1 => exact Z8 HI0.out); (case side2 => exact Z4 HI0.out); rintro e w13 ⟨v394, rfl, ho0, hi, hb, hk⟩; refine ⟨_, rfl, ?_⟩; have n0_ := A_ (Kd.N_mono (Kd.N_told (Kd.N_oldK (Kd.N_mono (ok := fun k_ => (((w.heap.size ≤ k_)) ∧ k_ ≠ g)) (Z18 HO_3.out) (fun k_ hk_ => (⟨hk_, hk_.2⟩ : _ ∧ k_ ≠ g))) hk) (Kd.R_base ho0)) (fun _ h_ => h_.1)); have n1_ := A_ (Kd.R_lower (Kd.R_newM (M := fun k_ => (w.heap.size ≤ k_)) ho0 (keep_size (w := w) (g := g) (row := none) Z7) (fun k_ h_ => h_)) (keep_size (w := w) (g := g) (row := none) Z7)); have n2_ := A_ (KeepBut.trans Z7 hk (.inl rfl)); have n3_ := A_ (hb); have n4_ := A_ (hi); clear HO_3; clear HK; clear HB; clear HI0; have HO_3 := n0_; have HO395 := n1_; have HK := n2_; have HB := n3_; have HI0 := n4_; clear n0_ n1_ n2_ n3_ n4_; (try clear hb); (try clear hb2); (try clear hk); (try clear hi); (try clear ho0)) | ((with_reducible refine gate_callee (f := 38) rfl ?_); refine goesL_ (some 17) rfl rfl Try.func38 (by kernel_rfl) rfl #[.pointer (some ⟨g, 0, none⟩), .int .i64 4] rfl Z3 ?_; (with_reducible refine (spec_source_pick.calls k1 g s0_0 t396 t397 4 t398 t399 t400 w0 _ ?side1 ?side2 A8.out).mono ?_); (case side1 => exact Z8 HI0.out); (case side2 => exact Z4 HI0.out); rintro e w14 ⟨rfl, hi, hb, hk⟩; refine ⟨_, rfl, ?_⟩; have n0_ := A_ (Kd.N_mono (Kd.N_keep (Kd.N_mono (ok := fun k_ => ((((w.heap.size ≤ k_)) ∧ k_ ≠ g) ∧ some k_ ≠ (v394 : Value).ownBlock)) (Z18 HO_3.out) (fun k_ hk_ => (⟨hk_, hk_.1.2⟩ : _ ∧ k_ ≠ g))) hk (fun _ h => h.2)) (fun _ h => h.1)); have n1_ := A_ (Kd.R_mono (Kd.R_keep (IsS77.apart (show IsS77 w0 _ g s0_0 t396 t397 from by repeat (first | (with_reducible first | exact HI0.out | apply IsS77.alloc | apply IsS77.drewN | apply IsS77.drew | apply IsS77.set_1 | apply IsS77.set_2) | exact HI0.out)) (Z13 HO395.out) (by decide)) hk (fun _ h => h.2)) (fun _ h => h.1)); have n2_ := A_ (KeepBut.trans Z7 hk (.inl rfl)); have n3_ := A_ (hb); have n4_ := A_ (hi); clear HO_3; clear HO395; clear HK; clear HB; clear HI0; have HO_3 := n0_; have HO395 := n1_; have HK := n2_; have HB := n3_; have HI0 := n4_; clear n0_ n1_ n2_ n3_ n4_; (try clear hb); (try clear hb2); (try clear hk); (try clear hi)) | ((with_reducible refine gate_callee (f := 59) rfl ?_); refine goesL_ (some 18) rfl rfl Try.func59 (by kernel_rfl) rfl #[.pointer (some ⟨g, 0, none⟩), .int .i64 t398] rfl Z3 ?_; (with_reducible refine (spec_source_goods.calls k1 g s0_0 t399 t400 t398 t401 t404 t405 w0 _ ?side1 ?side2 A9.out).mono ?_); (case side1 => exact Z8 HI0.out); (case side2 => exact Z4 HI0.out); rintro e w15 ⟨v402, rfl, ho0, hi, hb, hk⟩; refine ⟨_, rfl, ?_⟩; have n0_ := A_ (Kd.N_mono (Kd.N_told (Kd.N_oldK (Kd.N_mono (ok := fun k_ => ((((w.heap.size ≤ k_)) ∧ k_ ≠ g) ∧ some k_ ≠ (v394 : Value).ownBlock)) (Z18 HO_3.out) (fun k_ hk_ => (⟨hk_, hk_.1.2⟩ : _ ∧ k_ ≠ g))) hk) (Kd.R_base ho0)) (fun _ h_ => h_.1)); have n1_ := A_ (Kd.R_mono (Kd.R_keep (IsS77.apart (show IsS77 w0 _ g s0_0 t399 t400 from by repeat (first | (with_reducible first | exact HI0.out | apply IsS77.alloc | apply IsS77.drewN | apply IsS77.drew | apply IsS77.set_1 | apply IsS77.set_2) | exact HI0.out)) (Z13 HO395.out) (by decide)) hk (fun _ h => h.2)) (fun _ h => h.1)); have n2_ := A_ (Kd.R_lower (Kd.R_newM (M := fun k_ => (w.heap.size ≤ k_)) ho0 (keep_size (w := w) (g := g) (row := none) Z7) (fun k_ h_ => h_)) (keep_size (w := w) (g := g) (row := none) Z7)); have n3_ := A_ (KeepBut.trans Z7 hk (.inl rfl)); have n4_ := A_ (hb); have n5_ := A_ (hi); clear HO_3; clear HO395; clear HK; clear HB; clear HI0; have HO_3 := n0_; have HO395 := n1_; have HO403 := n2_; have HK := n3_; have HB := n4_; have HI0 := n5_; clear n0_ n1_ n2_ n3_ n4_ n5_; (try clear hb); (try clear hb2); (try clear hk); (try clear hi); (try clear ho0); obtain ⟨Ao16, co16, eo16⟩ := Kd.R_slice HO403.out; subst eo16; obtain ⟨Ao17, co17, eo17⟩ := Kd.R_slice HO395.out; subst eo17) | ((with_reducible refine gate_dst (N := 5) rfl ?_); refine box_event ?hg (N := 5) ?hd (cs := #[.slice none 0 0, .slice none 0 0]) (t := 41) ?hr ?_; (case hd => rfl); (case hg => rfl); (case hr => exact Z28); intro gb406 hg w18 hbox hb; have n0_ := A_ (Kd.N_below (Kd.N_elderB (Z18 HO_3.out) gb406 (Nat.le_of_eq hg.symm)) hb); have n1_ := A_ (Kd.R_below (Z13 HO395.out) hb); have n2_ := A_ (Kd.R_below (Z13 HO403.out) hb); have n3_ := A_ (IsS77.below (Z8 HI0.out) hb); have n4_ := A_ (KeepBut.trans Z7 (KeepBut.of_below hb g none) (.inl rfl)); have n5_ := A_ (below_step (Z4 HI0.out) hb); have n6_ := A_ (hbox); have n7_ := A_ ((by rw [hg]; exact (keep_size (w := w) (g := g) (row := none) Z7) : w.heap.size ≤ gb406)); have n8_ := A_ ((Nat.le_trans HW0.out (by rw [hg]; exact (keep_size (w := w) (g := g) (row := none) Z7) : w.heap.size ≤ gb406) : w0.heap.size ≤ gb406)); have n9_ := A_ ((by rw [hg]; exact Nat.ne_of_lt (IsS77.lt (show IsS77 w0 _ g s0_0 t404 t405 from by repeat (first | (with_reducible first | exact HI0.out | apply IsS77.alloc | apply IsS77.drewN | apply IsS77.drew | apply IsS77.set_1 | apply IsS77.set_2) | exact HI0.out))) : g ≠ gb406)); have n10_ := A_ ((by rw [hg]; exact Nat.ne_of_gt (IsS77.lt (show IsS77 w0 _ g s0_0 t404 t405 from by repeat (first | (with_reducible first | exact HI0.out | apply IsS77.alloc | apply IsS77.drewN | apply IsS77.drew | apply IsS77.set_1 | apply IsS77.set_2) | exact HI0.out))) : gb406 ≠ g)); clear HO_3; clear HO395; clear HO403; clear HI0; clear HK; clear HB; have HO_3 := n0_; have HO395 := n1_; have HO403 := n2_; have HI0 := n3_; have HK := n4_; have HB := n5_; have BK406 := n6_; have GW406 := n7_; have GE406 := n8_; have NB0_406 := n9_; have NB406_0 := n10_; clear n0_ n1_ n2_ n3_ n4_ n5_ n6_ n7_ n8_ n9_ n10_; clear hb hbox hg; have hnb19 := NB406_0.out; have hnc19 := NB0_406.out; have hcz20_0 : w18.cell? ⟨gb406, 0, none⟩ = some (.slice none 0 0) := (blk_cell BK406.out 0).trans rfl; have hcz20_1 : w18.cell? ⟨gb406, 1, none⟩ = some (.slice none 0 0) := (blk_cell BK406.out 1).trans rfl; have hfz20_0 := blk_frozen BK406.out 0; have hfz20_1 := blk_frozen BK406.out 1) | ((with_reducible refine gate_callee (f := 51) rfl ?_); refine goesL_ (some 22) rfl rfl Try.func51 (by kernel_rfl) rfl #[.slice Ao17 t393.length co17] rfl Z3 ?_; (with_reducible refine (spec_validPlace.calls k1 _ _ t393 true _ ?side1 ?side2 A10.out).mono ?_); (case side1 => refine (Kd.R_reads' (e := 68) (base := w.heap.size) (ok := fun k_ => ((w.heap.size ≤ k_) ∧ True)) (n := t393.length) (c := co17) ?_).2.2; exact (by (with_reducible repeat (first | apply Kd.R_alloc | apply Kd.R_drewN | apply Kd.R_drew)); exact (Kd.R_mono (Kd.R_far (p := ⟨gb406, 1, none⟩) (Kd.R_far (p := ⟨gb406, 0, none⟩) (Kd.R_types HO395.out BK406.out (by decide)) (fun _ hk => hk.2) (.slice Ao17 t393.length co17)) (fun _ hk => hk.2) (.slice Ao16 t401.length co16)) (fun _ h_ => h_.1)))); (case side2 => exact (Kd.R_reads' HO395.out).2.1); rintro e w21 ⟨rfl, hb⟩; refine ⟨_, rfl, ?_⟩; have n0_ := A_ (Kd.N_below (by (with_reducible repeat (first | apply Kd.N_alloc | apply Kd.N_drewN | apply Kd.N_drew)); exact (Kd.N_mono (Kd.N_far (p := ⟨gb406, 1, none⟩) (Kd.N_far (p := ⟨gb406, 0, none⟩) (Kd.N_mono HO_3.out (fun k_ hk => (⟨hk, hk.2⟩ : _ ∧ k_ ≠ gb406))) (fun _ hk => hk.2) (.slice Ao17 t393.length co17)) (fun _ hk => hk.2) (.slice Ao16 t401.length co16)) (fun _ h_ => h_.1))) hb); have n1_ := A_ (Kd.R_below (by (with_reducible repeat (first | apply Kd.R_alloc | apply Kd.R_drewN | apply Kd.R_drew)); exact (Kd.R_mono (Kd.R_far (p := ⟨gb406, 1, none⟩) (Kd.R_far (p := ⟨gb406, 0, none⟩) (Kd.R_types HO395.out BK406.out (by decide)) (fun _ hk => hk.2) (.slice Ao17 t393.length co17)) (fun _ hk => hk.2) (.slice Ao16 t401.length co16)) (fun _ h_ => h_.1))) hb); have n2_ := A_ (Kd.R_below (by (with_reducible repeat (first | apply Kd.R_alloc | apply Kd.R_drewN | apply Kd.R_drew)); exact (Kd.R_mono (Kd.R_far (p := ⟨gb406, 1, none⟩) (Kd.R_far (p := ⟨gb406, 0, none⟩) (Kd.R_types HO403.out BK406.out (by decide)) (fun _ hk => hk.2) (.slice Ao17 t393.length co17)) (fun _ hk => hk.2) (.slice Ao16 t401.length co16)) (fun _ h_ => h_.1))) hb); have n3_ := A_ (IsS77.below (show IsS77 w0 ((w18.setCell ⟨gb406, 0, none⟩ (.slice Ao17 t393.length co17)).setCell ⟨gb406, 1, none⟩ (.slice Ao16 t401.length co16)) g s0_0 t404 t405 from by repeat (first | (with_reducible first | exact HI0.out | apply IsS77.alloc | apply IsS77.drewN | apply IsS77.drew | apply IsS77.set_1 | apply IsS77.set_2 | refine IsS77.far ?_ NB0_406.out _) | exact HI0.out)) hb); have n4_ := A_ (blk_below (g := gb406) (o := .cells #[.slice Ao17 t393.length co17, .slice Ao16 t401.length co16] 41 (0, 0)) (by (with_reducible repeat (first | refine blk_drewN ?_ _ | refine blk_drew ?_ | refine blk_alloc ?_ _)); refine blk_put (cs := #[.slice Ao17 t393.length co17, .slice none 0 0]) ?_ 1 _ rfl; (with_reducible repeat (first | refine blk_drewN ?_ _ | refine blk_drew ?_ | refine blk_alloc ?_ _)); refine blk_put (cs := #[.slice none 0 0, .slice none 0 0]) ?_ 0 _ rfl; (with_reducible repeat (first | refine blk_drewN ?_ _ | refine blk_drew ?_ | refine blk_alloc ?_ _)); exact BK406.out) hb); have n5_ := A_ (KeepBut.trans (Z20 GW406.out) (KeepBut.of_below hb g none) (.inl rfl)); have n6_ := A_ (below_step (Z22 HI0.out GE406.out) hb); clear HO_3; clear HO395; clear HO403; clear HI0; clear BK406; clear HK; clear HB; have HO_3 := n0_; have HO395 := n1_; have HO403 := n2_; have HI0 := n3_; have BK406 := n4_; have HK := n5_; have HB := n6_; clear n0_ n1_ n2_ n3_ n4_ n5_ n6_; (try clear hb); (try clear hb2); (try clear hk); (try clear hi); have hcz22_0 : w21.cell? ⟨gb406, 0, none⟩ = some (.slice Ao17 t393.length co17) := (blk_cell BK406.out 0).trans rfl; have hcz22_1 : w21.cell? ⟨gb406, 1, none⟩ = some (.slice Ao16 t401.length co16) := (blk_cell BK406.out 1).trans rfl; have hfz22_0 := blk_frozen BK406.out 0; have hfz22_1 := blk_frozen BK406.out 1; obtain ⟨Ao23, co23, eo23⟩ := Kd.N_slice HO_3.out; subst eo23) | ((with_reducible refine gate_callee (f := 61) rfl ?_); refine goesL_ (some 25) rfl rfl Try.func61 (by kernel_rfl) rfl #[.slice Ao23 x3_1.length co23, .agg #[.slice Ao17 t393.length co17, .slice Ao16 t401.length co16]] rfl Z3 ?_; (with_reducible refine (spec_put.calls k1 _ _ x3_1 _ _ t393 _ _ t401 t408 _ ?side1 ?side2 ?side3 ?side4 ?side5 ?side6 A12.out).mono ?_); (case side1 => exact Z25 HO_3.out); (case side2 => exact (Kd.N_reads' HO_3.out).2.1); (case side3 => exact Z24 HO395.out); (case side4 => exact (Kd.R_reads' HO395.out).2.1); (case side5 => exact Z24 HO403.out); (case side6 => exact (Kd.R_reads' HO403.out).2.1); rintro e w24 ⟨v409, rfl, ho0, hb⟩; refine ⟨_, rfl, ?_⟩; have n0_ := A_ (Kd.N_elder' (Z18 HO_3.out) Z49 hb); have n1_ := A_ (Kd.R_below (Z13 HO395.out) hb); have n2_ := A_ (Kd.R_below (Z13 HO403.out) hb); have n3_ := A_ (Kd.N_lower (Kd.N_mono (ok' := fun k_ => (w.heap.size ≤ k_) ∧ some k_ ≠ (.slice Ao23 x3_1.length co23 : Value).ownBlock ∧ some k_ ≠ (.slice Ao17 t393.length co17 : Value).ownBlock ∧ some k_ ≠ (.slice Ao16 t401.length co16 : Value).ownBlock ∧ k_ ≠ gb406 ∧ k_ ≠ g) ho0 (fun k_ hk_ => ⟨(Nat.le_trans (keep_size (w := w) (g := g) (row := none) (Z20 GW406.out)) hk_), (Kd.fresh' (Kd.N_lt (Z18 HO_3.out)) k_ hk_), (Kd.fresh' (Kd.R_lt (Z13 HO395.out)) k_ hk_), (Kd.fresh' (Kd.R_lt (Z13 HO403.out)) k_ hk_), (Kd.freshB (g := gb406) (o := .cells #[.slice Ao17 t393.length co17, .slice Ao16 t401.length co16] 41 (0, 0)) (Z6 BK406.out) k_ hk_), (IsS77.fresh (Z23 HI0.out NB0_406.out) k_ hk_)⟩)) (keep_size (w := w) (g := g) (row := none) (Z20 GW406.out))); have n4_ := A_ (IsS77.below (Z23 HI0.out NB0_406.out) hb); have n5_ := A_ (blk_below (g := gb406) (o := .cells #[.slice Ao17 t393.length co17, .slice Ao16 t401.length co16] 41 (0, 0)) (Z6 BK406.out) hb); have n6_ := A_ (KeepBut.trans (Z20 GW406.out) (KeepBut.of_below hb g none) (.inl rfl)); have n7_ := A_ (below_step (Z22 HI0.out GE406.out) hb); clear HO_3; clear HO395; clear HO403; clear HI0; clear BK406; clear HK; clear HB; have HO_3 := n0_; have HO395 := n1_; have HO403 := n2_; have HO410 := n3_; have HI0 := n4_; have BK406 := n5_; have HK := n6_; have HB := n7_; clear n0_ n1_ n2_ n3_ n4_ n5_ n6_ n7_; (try clear hb); (try clear hb2); (try clear hk); (try clear hi); (try clear ho0)))
     go_roundg k1
     case measure => have := HK1.out; omega
     case rel => exact ⟨(t408), (wrap64 (x4_1 - 1)), (t404), (t405), Z21, H', ⟨by have := HK1.out; omega⟩, ⟨by (with_reducible repeat (first | apply Kd.N_alloc | apply Kd.N_drewN | apply Kd.N_drew)); exact Kd.N_mono HO410.out (fun _ hk => ⟨hk.1, hk.2.2.2.2.2⟩)⟩, ⟨Z23 HI0.out NB0_406.out⟩, ⟨Z20 GW406.out⟩, ⟨Z22 HI0.out GE406.out⟩⟩
    ·replace c11 := Bool.eq_false_iff.mpr c11
     subst c11
     have H1 : (spec_source_cells.l0 k1 x3_1 (wrap64 (x4_1 - 1)) s0_0 t404 t405) = some (r1, r2, r3) := by rw [if_neg (show ¬ (false = true) by decide)] at H; exact H
     clear H
     have H := H1
     clear H1
     have H' := A_ H
     clear H
     go_wp2_with (first | ((with_reducible refine gate_callee (f := 55) rfl ?_); refine goesL_ (some 14) rfl rfl Try.func55 (by kernel_rfl) rfl #[.pointer (some ⟨g, 0, none⟩)] rfl Z3 ?_; (with_reducible refine (spec_source_slots.calls k1 g s0_0 x1001_1 x1002_1 t393 t396 t397 w0 _ ?side1 ?side2 A7.out).mono ?_); (case side1 => exact Z8 HI0.out); (case side2 => exact Z4 HI0.out); rintro e w25 ⟨v394, rfl, ho0, hi, hb, hk⟩; refine ⟨_, rfl, ?_⟩; have n0_ := A_ (Kd.N_mono (Kd.N_told (Kd.N_oldK (Kd.N_mono (ok := fun k_ => (((w.heap.size ≤ k_)) ∧ k_ ≠ g)) (Z18 HO_3.out) (fun k_ hk_ => (⟨hk_, hk_.2⟩ : _ ∧ k_ ≠ g))) hk) (Kd.R_base ho0)) (fun _ h_ => h_.1)); have n1_ := A_ (Kd.R_lower (Kd.R_newM (M := fun k_ => (w.heap.size ≤ k_)) ho0 (keep_size (w := w) (g := g) (row := none) Z7) (fun k_ h_ => h_)) (keep_size (w := w) (g := g) (row := none) Z7)); have n2_ := A_ (KeepBut.trans Z7 hk (.inl rfl)); have n3_ := A_ (hb); have n4_ := A_ (hi); clear HO_3; clear HK; clear HB; clear HI0; have HO_3 := n0_; have HO395 := n1_; have HK := n2_; have HB := n3_; have HI0 := n4_; clear n0_ n1_ n2_ n3_ n4_; (try clear hb); (try clear hb2); (try clear hk); (try clear hi); (try clear ho0)) | ((with_reducible refine gate_callee (f := 38) rfl ?_); refine goesL_ (some 17) rfl rfl Try.func38 (by kernel_rfl) rfl #[.pointer (some ⟨g, 0, none⟩), .int .i64 4] rfl Z3 ?_; (with_reducible refine (spec_source_pick.calls k1 g s0_0 t396 t397 4 t398 t399 t400 w0 _ ?side1 ?side2 A8.out).mono ?_); (case side1 => exact Z8 HI0.out); (case side2 => exact Z4 HI0.out); rintro e w26 ⟨rfl, hi, hb, hk⟩; refine ⟨_, rfl, ?_⟩; have n0_ := A_ (Kd.N_mono (Kd.N_keep (Kd.N_mono (ok := fun k_ => ((((w.heap.size ≤ k_)) ∧ k_ ≠ g) ∧ some k_ ≠ (v394 : Value).ownBlock)) (Z18 HO_3.out) (fun k_ hk_ => (⟨hk_, hk_.1.2⟩ : _ ∧ k_ ≠ g))) hk (fun _ h => h.2)) (fun _ h => h.1)); have n1_ := A_ (Kd.R_mono (Kd.R_keep (IsS77.apart (show IsS77 w0 _ g s0_0 t396 t397 from by repeat (first | (with_reducible first | exact HI0.out | apply IsS77.alloc | apply IsS77.drewN | apply IsS77.drew | apply IsS77.set_1 | apply IsS77.set_2) | exact HI0.out)) (Z13 HO395.out) (by decide)) hk (fun _ h => h.2)) (fun _ h => h.1)); have n2_ := A_ (KeepBut.trans Z7 hk (.inl rfl)); have n3_ := A_ (hb); have n4_ := A_ (hi); clear HO_3; clear HO395; clear HK; clear HB; clear HI0; have HO_3 := n0_; have HO395 := n1_; have HK := n2_; have HB := n3_; have HI0 := n4_; clear n0_ n1_ n2_ n3_ n4_; (try clear hb); (try clear hb2); (try clear hk); (try clear hi)) | ((with_reducible refine gate_callee (f := 59) rfl ?_); refine goesL_ (some 18) rfl rfl Try.func59 (by kernel_rfl) rfl #[.pointer (some ⟨g, 0, none⟩), .int .i64 t398] rfl Z3 ?_; (with_reducible refine (spec_source_goods.calls k1 g s0_0 t399 t400 t398 t401 t404 t405 w0 _ ?side1 ?side2 A9.out).mono ?_); (case side1 => exact Z8 HI0.out); (case side2 => exact Z4 HI0.out); rintro e w27 ⟨v402, rfl, ho0, hi, hb, hk⟩; refine ⟨_, rfl, ?_⟩; have n0_ := A_ (Kd.N_mono (Kd.N_told (Kd.N_oldK (Kd.N_mono (ok := fun k_ => ((((w.heap.size ≤ k_)) ∧ k_ ≠ g) ∧ some k_ ≠ (v394 : Value).ownBlock)) (Z18 HO_3.out) (fun k_ hk_ => (⟨hk_, hk_.1.2⟩ : _ ∧ k_ ≠ g))) hk) (Kd.R_base ho0)) (fun _ h_ => h_.1)); have n1_ := A_ (Kd.R_mono (Kd.R_keep (IsS77.apart (show IsS77 w0 _ g s0_0 t399 t400 from by repeat (first | (with_reducible first | exact HI0.out | apply IsS77.alloc | apply IsS77.drewN | apply IsS77.drew | apply IsS77.set_1 | apply IsS77.set_2) | exact HI0.out)) (Z13 HO395.out) (by decide)) hk (fun _ h => h.2)) (fun _ h => h.1)); have n2_ := A_ (Kd.R_lower (Kd.R_newM (M := fun k_ => (w.heap.size ≤ k_)) ho0 (keep_size (w := w) (g := g) (row := none) Z7) (fun k_ h_ => h_)) (keep_size (w := w) (g := g) (row := none) Z7)); have n3_ := A_ (KeepBut.trans Z7 hk (.inl rfl)); have n4_ := A_ (hb); have n5_ := A_ (hi); clear HO_3; clear HO395; clear HK; clear HB; clear HI0; have HO_3 := n0_; have HO395 := n1_; have HO403 := n2_; have HK := n3_; have HB := n4_; have HI0 := n5_; clear n0_ n1_ n2_ n3_ n4_ n5_; (try clear hb); (try clear hb2); (try clear hk); (try clear hi); (try clear ho0); obtain ⟨Ao28, co28, eo28⟩ := Kd.R_slice HO403.out; subst eo28; obtain ⟨Ao29, co29, eo29⟩ := Kd.R_slice HO395.out; subst eo29) | ((with_reducible refine gate_dst (N := 5) rfl ?_); refine box_event ?hg (N := 5) ?hd (cs := #[.slice none 0 0, .slice none 0 0]) (t := 41) ?hr ?_; (case hd => rfl); (case hg => rfl); (case hr => exact Z28); intro gb406 hg w30 hbox hb; have n0_ := A_ (Kd.N_below (Kd.N_elderB (Z18 HO_3.out) gb406 (Nat.le_of_eq hg.symm)) hb); have n1_ := A_ (Kd.R_below (Z13 HO395.out) hb); have n2_ := A_ (Kd.R_below (Z13 HO403.out) hb); have n3_ := A_ (IsS77.below (Z8 HI0.out) hb); have n4_ := A_ (KeepBut.trans Z7 (KeepBut.of_below hb g none) (.inl rfl)); have n5_ := A_ (below_step (Z4 HI0.out) hb); have n6_ := A_ (hbox); have n7_ := A_ ((by rw [hg]; exact (keep_size (w := w) (g := g) (row := none) Z7) : w.heap.size ≤ gb406)); have n8_ := A_ ((Nat.le_trans HW0.out (by rw [hg]; exact (keep_size (w := w) (g := g) (row := none) Z7) : w.heap.size ≤ gb406) : w0.heap.size ≤ gb406)); have n9_ := A_ ((by rw [hg]; exact Nat.ne_of_lt (IsS77.lt (show IsS77 w0 _ g s0_0 t404 t405 from by repeat (first | (with_reducible first | exact HI0.out | apply IsS77.alloc | apply IsS77.drewN | apply IsS77.drew | apply IsS77.set_1 | apply IsS77.set_2) | exact HI0.out))) : g ≠ gb406)); have n10_ := A_ ((by rw [hg]; exact Nat.ne_of_gt (IsS77.lt (show IsS77 w0 _ g s0_0 t404 t405 from by repeat (first | (with_reducible first | exact HI0.out | apply IsS77.alloc | apply IsS77.drewN | apply IsS77.drew | apply IsS77.set_1 | apply IsS77.set_2) | exact HI0.out))) : gb406 ≠ g)); clear HO_3; clear HO395; clear HO403; clear HI0; clear HK; clear HB; have HO_3 := n0_; have HO395 := n1_; have HO403 := n2_; have HI0 := n3_; have HK := n4_; have HB := n5_; have BK406 := n6_; have GW406 := n7_; have GE406 := n8_; have NB0_406 := n9_; have NB406_0 := n10_; clear n0_ n1_ n2_ n3_ n4_ n5_ n6_ n7_ n8_ n9_ n10_; clear hb hbox hg; have hnb31 := NB406_0.out; have hnc31 := NB0_406.out; have hcz32_0 : w30.cell? ⟨gb406, 0, none⟩ = some (.slice none 0 0) := (blk_cell BK406.out 0).trans rfl; have hcz32_1 : w30.cell? ⟨gb406, 1, none⟩ = some (.slice none 0 0) := (blk_cell BK406.out 1).trans rfl; have hfz32_0 := blk_frozen BK406.out 0; have hfz32_1 := blk_frozen BK406.out 1) | ((with_reducible refine gate_callee (f := 51) rfl ?_); refine goesL_ (some 22) rfl rfl Try.func51 (by kernel_rfl) rfl #[.slice Ao29 t393.length co29] rfl Z3 ?_; (with_reducible refine (spec_validPlace.calls k1 _ _ t393 false _ ?side1 ?side2 A10.out).mono ?_); (case side1 => refine (Kd.R_reads' (e := 68) (base := w.heap.size) (ok := fun k_ => ((w.heap.size ≤ k_) ∧ True)) (n := t393.length) (c := co29) ?_).2.2; exact (by (with_reducible repeat (first | apply Kd.R_alloc | apply Kd.R_drewN | apply Kd.R_drew)); exact (Kd.R_mono (Kd.R_far (p := ⟨gb406, 1, none⟩) (Kd.R_far (p := ⟨gb406, 0, none⟩) (Kd.R_types HO395.out BK406.out (by decide)) (fun _ hk => hk.2) (.slice Ao29 t393.length co29)) (fun _ hk => hk.2) (.slice Ao28 t401.length co28)) (fun _ h_ => h_.1)))); (case side2 => exact (Kd.R_reads' HO395.out).2.1); rintro e w33 ⟨rfl, hb⟩; refine ⟨_, rfl, ?_⟩; have n0_ := A_ (Kd.N_below (by (with_reducible repeat (first | apply Kd.N_alloc | apply Kd.N_drewN | apply Kd.N_drew)); exact (Kd.N_mono (Kd.N_far (p := ⟨gb406, 1, none⟩) (Kd.N_far (p := ⟨gb406, 0, none⟩) (Kd.N_mono HO_3.out (fun k_ hk => (⟨hk, hk.2⟩ : _ ∧ k_ ≠ gb406))) (fun _ hk => hk.2) (.slice Ao29 t393.length co29)) (fun _ hk => hk.2) (.slice Ao28 t401.length co28)) (fun _ h_ => h_.1))) hb); have n1_ := A_ (Kd.R_below (by (with_reducible repeat (first | apply Kd.R_alloc | apply Kd.R_drewN | apply Kd.R_drew)); exact (Kd.R_mono (Kd.R_far (p := ⟨gb406, 1, none⟩) (Kd.R_far (p := ⟨gb406, 0, none⟩) (Kd.R_types HO395.out BK406.out (by decide)) (fun _ hk => hk.2) (.slice Ao29 t393.length co29)) (fun _ hk => hk.2) (.slice Ao28 t401.length co28)) (fun _ h_ => h_.1))) hb); have n2_ := A_ (Kd.R_below (by (with_reducible repeat (first | apply Kd.R_alloc | apply Kd.R_drewN | apply Kd.R_drew)); exact (Kd.R_mono (Kd.R_far (p := ⟨gb406, 1, none⟩) (Kd.R_far (p := ⟨gb406, 0, none⟩) (Kd.R_types HO403.out BK406.out (by decide)) (fun _ hk => hk.2) (.slice Ao29 t393.length co29)) (fun _ hk => hk.2) (.slice Ao28 t401.length co28)) (fun _ h_ => h_.1))) hb); have n3_ := A_ (IsS77.below (show IsS77 w0 ((w30.setCell ⟨gb406, 0, none⟩ (.slice Ao29 t393.length co29)).setCell ⟨gb406, 1, none⟩ (.slice Ao28 t401.length co28)) g s0_0 t404 t405 from by repeat (first | (with_reducible first | exact HI0.out | apply IsS77.alloc | apply IsS77.drewN | apply IsS77.drew | apply IsS77.set_1 | apply IsS77.set_2 | refine IsS77.far ?_ NB0_406.out _) | exact HI0.out)) hb); have n4_ := A_ (blk_below (g := gb406) (o := .cells #[.slice Ao29 t393.length co29, .slice Ao28 t401.length co28] 41 (0, 0)) (by (with_reducible repeat (first | refine blk_drewN ?_ _ | refine blk_drew ?_ | refine blk_alloc ?_ _)); refine blk_put (cs := #[.slice Ao29 t393.length co29, .slice none 0 0]) ?_ 1 _ rfl; (with_reducible repeat (first | refine blk_drewN ?_ _ | refine blk_drew ?_ | refine blk_alloc ?_ _)); refine blk_put (cs := #[.slice none 0 0, .slice none 0 0]) ?_ 0 _ rfl; (with_reducible repeat (first | refine blk_drewN ?_ _ | refine blk_drew ?_ | refine blk_alloc ?_ _)); exact BK406.out) hb); have n5_ := A_ (KeepBut.trans (Z20 GW406.out) (KeepBut.of_below hb g none) (.inl rfl)); have n6_ := A_ (below_step (Z22 HI0.out GE406.out) hb); clear HO_3; clear HO395; clear HO403; clear HI0; clear BK406; clear HK; clear HB; have HO_3 := n0_; have HO395 := n1_; have HO403 := n2_; have HI0 := n3_; have BK406 := n4_; have HK := n5_; have HB := n6_; clear n0_ n1_ n2_ n3_ n4_ n5_ n6_; (try clear hb); (try clear hb2); (try clear hk); (try clear hi)))
     go_roundg k1
     case measure => have := HK1.out; omega
     case rel => exact ⟨(x3_1), (wrap64 (x4_1 - 1)), (t404), (t405), Z21, H', ⟨by have := HK1.out; omega⟩, ⟨by (with_reducible repeat (first | apply Kd.N_alloc | apply Kd.N_drewN | apply Kd.N_drew)); exact Kd.N_mono HO_3.out (fun _ hk => ⟨hk.1.1.1.1, hk.1.1.1.2⟩)⟩, ⟨Z23 HI0.out NB0_406.out⟩, ⟨Z20 GW406.out⟩, ⟨Z22 HI0.out GE406.out⟩⟩
   ·rw [if_neg c6] at H
    have c6b0 : decide (0 < x4_1) = false := decide_eq_false c6
    clear c6
    simp only [Option.some.injEq, Prod.mk.injEq] at H
    obtain ⟨rfl, rfl, rfl⟩ := H
    go_wp2
    go_ret
    exact ⟨_, Z16, by (with_reducible repeat (first | apply Kd.N_alloc | apply Kd.N_drewN | apply Kd.N_drew)); exact Kd.N_mono HO_3.out (fun _ hk => hk.1), Z8 HI0.out, Z4 HI0.out, Z7⟩
def spec_DrawStoreGet.j0 : Nat → List (S41) → Bool → List Int → Int → Int → Option ((List (S41)) × (List (S68)))
 | 0, _, _, _, _, _ => none
 | k + 1, x5, x17, x415000, x415001, x415002 => if x17 = true then ((some (([] : List (S68)) : List (S68))).bind fun y423 => ((spec_source_pick.f k x415000 x415001 x415002 (x5.length : Int)).bind fun bt426 => (if 0 ≤ bt426.1 then (if bt426.1 < (x5.length : Int) then (if y423.length + ((rd_T41 x5 bt426.1).f0).length < 8796093022208 then (some (x5, (y423 ++ ((rd_T41 x5 bt426.1).f0)))) else (none)) else (none)) else (none)))) else ((spec_source_slots.f k x415000 x415001 x415002).bind fun bt433 => (some (x5, bt433.1)))
def spec_DrawStoreGet.f (k : Nat) (l0 : List Int) : Option ((List (S41)) × (List (S68))) := (spec_newSource.f l0).bind fun bt411 => ((spec_source_cells.f k bt411.1 bt411.2.1 bt411.2.2).bind fun bt415 => (if (bt415.1.length : Int) > 0 then ((spec_source_pick.f k bt411.1 bt415.2.1 bt415.2.2 3).bind fun bt420 => (spec_DrawStoreGet.j0 k bt415.1 (decide (bt420.1 > 0)) bt411.1 bt420.2.1 bt420.2.2)) else (spec_DrawStoreGet.j0 k bt415.1 false bt411.1 bt415.2.1 bt415.2.2)))
theorem spec_DrawStoreGet.mono_l : ∀ k, (∀ y0 y1 y2 y3 y4, LeO (spec_DrawStoreGet.j0 k y0 y1 y2 y3 y4) (spec_DrawStoreGet.j0 (k + 1) y0 y1 y2 y3 y4))
 | 0 => fun _ _ _ _ _ r h => by simp [spec_DrawStoreGet.j0] at h
 | k + 1 => by
  have ih0 := spec_DrawStoreGet.mono_l k
  ·intro y0 y1 y2 y3 y4
   unfold spec_DrawStoreGet.j0
   repeat' first
   | (with_reducible exact ih0 _ _ _ _ _)
   | (with_reducible exact spec_source_cells.mono _ _ _ _)
   | (with_reducible exact spec_source_pick.mono _ _ _ _ _)
   | (with_reducible exact spec_source_slots.mono _ _ _ _)
   | (with_reducible exact LeO.refl _)
   | (with_reducible exact LeO.none _)
   | (with_reducible refine LeO.ite ?_ ?_)
   | (with_reducible refine LeO.bind ?_ (fun _ => ?_))
   | exact ih0 _ _ _ _ _
   | exact spec_source_cells.mono _ _ _ _
   | exact spec_source_pick.mono _ _ _ _ _
   | exact spec_source_slots.mono _ _ _ _
   | exact LeO.none _
   | refine LeO.ite ?_ ?_
   | refine LeO.bind ?_ (fun _ => ?_)
theorem spec_DrawStoreGet.mono : ∀ a0 k, LeO (spec_DrawStoreGet.f k a0) (spec_DrawStoreGet.f (k + 1) a0) := by
 intro a0 k
 have ih0 := spec_DrawStoreGet.mono_l k
 unfold spec_DrawStoreGet.f
 repeat' first
   | (with_reducible exact ih0 _ _ _ _ _)
   | (with_reducible exact spec_source_cells.mono _ _ _ _)
   | (with_reducible exact spec_source_pick.mono _ _ _ _ _)
   | (with_reducible exact spec_source_slots.mono _ _ _ _)
   | (with_reducible exact LeO.refl _)
   | (with_reducible exact LeO.none _)
   | (with_reducible refine LeO.ite ?_ ?_)
   | (with_reducible refine LeO.bind ?_ (fun _ => ?_))
   | exact ih0 _ _ _ _ _
   | exact spec_source_cells.mono _ _ _ _
   | exact spec_source_pick.mono _ _ _ _ _
   | exact spec_source_slots.mono _ _ _ _
   | exact LeO.none _
   | refine LeO.ite ?_ ?_
   | refine LeO.bind ?_ (fun _ => ?_)
set_option maxHeartbeats 8000000 in
set_option maxRecDepth 100000 in
theorem spec_DrawStoreGet.calls (k : Nat) (A0 : Option Addr) (c0 : Nat) (l0 : List Int) (r1 : List (S41)) (r2 : List (S68)) (w : World) (hr0 : Kd.C (Kd.int .u8) w A0 l0.length l0) (hc0 : l0.length ≤ c0) (h : spec_DrawStoreGet.f k l0 = some (r1, r2)) :
  Calls Try.prog 26 #[.slice A0 l0.length c0] w fun e w' => ∃ v0_ v1_ : Value, e = .returned (.tuple #[v0_, v1_]) ∧ Kd.N k41 41 w' w.heap.size (fun k_ => (w.heap.size ≤ k_) ∧ some k_ ≠ (v1_ : Value).ownBlock) v0_ r1 ∧ Kd.R k68 68 w' w.heap.size (fun k_ => (w.heap.size ≤ k_)) v1_ r2 ∧ Below w.heap.size w w' := by
 have HR0 := A_ hr0
 have HC0 := A_ hc0
 clear hr0 hc0
 have HB := A_ (Below.refl w.heap.size w)
 have H : ((spec_newSource.f l0).bind fun bt411 => ((spec_source_cells.f k bt411.1 bt411.2.1 bt411.2.2).bind fun bt415 => (if (bt415.1.length : Int) > 0 then ((spec_source_pick.f k bt411.1 bt415.2.1 bt415.2.2 3).bind fun bt420 => (spec_DrawStoreGet.j0 k bt415.1 (decide (bt420.1 > 0)) bt411.1 bt420.2.1 bt420.2.2)) else (spec_DrawStoreGet.j0 k bt415.1 false bt411.1 bt415.2.1 bt415.2.2)))) = some (r1, r2) := h
 clear h
 replace H := Option.bind_eq_some_iff.mp H
 obtain ⟨⟨t411, t412, t413⟩, A20, H⟩ := H
 replace H : ((spec_source_cells.f k t411 t412 t413).bind fun bt415 => (if (bt415.1.length : Int) > 0 then ((spec_source_pick.f k t411 bt415.2.1 bt415.2.2 3).bind fun bt420 => (spec_DrawStoreGet.j0 k bt415.1 (decide (bt420.1 > 0)) t411 bt420.2.1 bt420.2.2)) else (spec_DrawStoreGet.j0 k bt415.1 false t411 bt415.2.1 bt415.2.2))) = some (r1, r2) := H
 have A2 := A_ A20
 clear A20
 replace H := Option.bind_eq_some_iff.mp H
 obtain ⟨⟨t415, t418, t419⟩, A30, H⟩ := H
 replace H : (if (t415.length : Int) > 0 then ((spec_source_pick.f k t411 t418 t419 3).bind fun bt420 => (spec_DrawStoreGet.j0 k t415 (decide (bt420.1 > 0)) t411 bt420.2.1 bt420.2.2)) else (spec_DrawStoreGet.j0 k t415 false t411 t418 t419)) = some (r1, r2) := H
 have A3 := A_ A30
 clear A30
 have HC4 := A_ H
 clear H
 go_enter Try.func26, Try.ntmps26
 go_upto_region 3 with (first | ((with_reducible refine gate_callee (f := 32) rfl ?_); refine goesL_ (some 7) rfl rfl Try.func32 (by kernel_rfl) rfl #[.slice A0 l0.length c0] rfl Z3 ?_; (with_reducible refine (spec_newSource.calls _ _ l0 t411 t412 t413 w _ ?side1 ?side2 ?side3 A2.out).mono ?_); (case side1 => exact Z1); (case side2 => exact HR0.out); (case side3 => exact HC0.out); rintro e w5 ⟨g414, rfl, hi, hb, hb2⟩; refine ⟨_, rfl, ?_⟩; have n0_ := A_ (hb); have n1_ := A_ (hi); clear HB; have HB := n0_; have HI414 := n1_; clear n0_ n1_; (try clear hb); (try clear hb2); (try clear hk); (try clear hi)) | ((with_reducible refine gate_callee (f := 42) rfl ?_); refine goesL_ (some 9) rfl rfl Try.func42 (by kernel_rfl) rfl #[.pointer (some ⟨g414, 0, none⟩)] rfl Z3 ?_; (with_reducible refine (spec_source_cells.calls k g414 t411 t412 t413 t415 t418 t419 w _ ?side1 ?side2 A3.out).mono ?_); (case side1 => exact Z8 HI414.out); (case side2 => exact Z4 HI414.out); rintro e w6 ⟨v416, rfl, ho0, hi, hb, hk⟩; refine ⟨_, rfl, ?_⟩; have n0_ := A_ (Kd.N_lower (Kd.N_mono (ok' := fun k_ => (w.heap.size ≤ k_) ∧ k_ ≠ g414) ho0 (fun k_ hk_ => ⟨(Nat.le_trans (below_size (Z4 HI414.out)) hk_), (IsS77.fresh (Z8 HI414.out) k_ hk_)⟩)) (below_size (Z4 HI414.out))); have n1_ := A_ (hb); have n2_ := A_ (hi); clear HB; clear HI414; have HO417 := n0_; have HB := n1_; have HI414 := n2_; clear n0_ n1_ n2_; (try clear hb); (try clear hb2); (try clear hk); (try clear hi); (try clear ho0)))
 (try simp only [Act.put, List.setIfInBounds_toArray, List.set_cons_zero, List.set_cons_succ])
 go_cut [17] (fun v17 wc => ∃ (kq : Nat) (x17_3 : Bool) (x415001_3 : Int) (x415002_3 : Int), v17 = .bool x17_3 ∧ Aside0 (spec_DrawStoreGet.j0 kq t415 x17_3 t411 x415001_3 x415002_3 = some (r1, r2)) ∧ Aside0 (kq ≤ k) ∧ Aside0 (Kd.N k41 41 wc w.heap.size (fun k_ => (w.heap.size ≤ k_) ∧ k_ ≠ g414) v416 t415) ∧ Aside0 (IsS77 w wc g414 t411 x415001_3 x415002_3) ∧ Aside0 (Below w.heap.size w wc))
 case first =>
  have H := HC4.out
  clear HC4
  by_cases c7 : (t415.length : Int) > 0
  ·rw [if_pos c7] at H
   have c7b0 : decide (0 < (t415.length : Int)) = true := decide_eq_true c7
   have c7b1 : decide (0 < t415.length) = true := decide_eq_true (by omega)
   clear c7
   (first | rw [c7b0] | (simp only [i64_w, i32_w]; rw [c7b0]) | skip)
   replace H := Option.bind_eq_some_iff.mp H
   obtain ⟨⟨t420, t421, t422⟩, A80, H⟩ := H
   replace H : (spec_DrawStoreGet.j0 k t415 (decide (t420 > 0)) t411 t421 t422) = some (r1, r2) := H
   have A8 := A_ A80
   clear A80
   have H' := A_ H
   clear H
   obtain ⟨Ao9, co9, eo9⟩ := Kd.N_slice HO417.out
   subst eo9
   go_wp2_with (first | (go_at_call 38; (with_reducible refine (spec_source_pick.calls k g414 t411 t418 t419 3 t420 t421 t422 w _ ?side1 ?side2 A8.out).mono ?_); (case side1 => exact Z8 HI414.out); (case side2 => exact Z4 HI414.out); rintro e w10 ⟨rfl, hi, hb, hk⟩; have n0_ := A_ (Kd.N_mono (Kd.N_keep (Kd.N_mono (ok := fun k_ => (((w.heap.size ≤ k_)) ∧ k_ ≠ g414)) (Z18 HO417.out) (fun k_ hk_ => (⟨hk_, hk_.2⟩ : _ ∧ k_ ≠ g414))) hk (fun _ h => h.2)) (fun _ h => h.1)); have n1_ := A_ (hb); have n2_ := A_ (hi); clear HO417; clear HB; clear HI414; have HO417 := n0_; have HB := n1_; have HI414 := n2_; clear n0_ n1_ n2_; (try clear hb); (try clear hb2); (try clear hk); (try clear hi)))
   go_meet
   case rel => exact ⟨_, (decide (t420 > 0)), (t421), (t422), Z21, H', ⟨Z50⟩, ⟨Z18 HO417.out⟩, ⟨Z8 HI414.out⟩, ⟨Z4 HI414.out⟩⟩
  ·rw [if_neg c7] at H
   have c7b0 : decide (0 < (t415.length : Int)) = false := decide_eq_false c7
   have c7b1 : decide (0 < t415.length) = false := decide_eq_false (by omega)
   clear c7
   (first | rw [c7b0] | (simp only [i64_w, i32_w]; rw [c7b0]) | skip)
   have H' := A_ H
   clear H
   obtain ⟨Ao11, co11, eo11⟩ := Kd.N_slice HO417.out
   subst eo11
   go_wp2
   go_meet
   case rel => exact ⟨_, (false), (t418), (t419), Z21, H', ⟨Z50⟩, ⟨Z18 HO417.out⟩, ⟨Z8 HI414.out⟩, ⟨Z4 HI414.out⟩⟩
 case rest =>
  clear HC4
  try clear c2
  try clear p2
  try clear c3
  try clear c4
  try clear c7
  try clear c7b0
  try clear c7b1
  obtain ⟨kq, x17_3, x415001_3, x415002_3, rfl, HA, HJ3, HO_5, HI414, HB⟩ := hcut
  cases kq with
  | zero => exact absurd HA.out (by simp [spec_DrawStoreGet.j0])
  | succ kj3 =>
   have H := HA.out
   clear HA
   simp only [spec_DrawStoreGet.j0] at H
   by_cases c12 : x17_3 = true
   ·subst c12
    have H1 : ((some (([] : List (S68)) : List (S68))).bind fun y423 => ((spec_source_pick.f kj3 t411 x415001_3 x415002_3 (t415.length : Int)).bind fun bt426 => (if 0 ≤ bt426.1 then (if bt426.1 < (t415.length : Int) then (if y423.length + ((rd_T41 t415 bt426.1).f0).length < 8796093022208 then (some (t415, (y423 ++ ((rd_T41 t415 bt426.1).f0)))) else (none)) else (none)) else (none)))) = some (r1, r2) := by rw [if_pos rfl] at H; exact H
    clear H
    have H := H1
    clear H1
    obtain ⟨y423, hy423⟩ : ∃ y_ : List (S68), y_ = (([] : List (S68))) := ⟨_, rfl⟩
    replace H : ((spec_source_pick.f kj3 t411 x415001_3 x415002_3 (t415.length : Int)).bind fun bt426 => (if 0 ≤ bt426.1 then (if bt426.1 < (t415.length : Int) then (if y423.length + ((rd_T41 t415 bt426.1).f0).length < 8796093022208 then (some (t415, (y423 ++ ((rd_T41 t415 bt426.1).f0)))) else (none)) else (none)) else (none))) = some (r1, r2) := by first | (rw [hy423]; with_reducible exact H) | (have H2_ := (Option.bind_some _ _).symm.trans H; rw [hy423]; with_reducible exact H2_) | (have H2_ := (Option.bind_some _ _).symm.trans H; with_reducible exact H2_) | with_reducible exact H | (rw [hy423]; exact H) | exact H
    have Ny423 := A_ hy423
    clear hy423
    replace H := Option.bind_eq_some_iff.mp H
    obtain ⟨⟨t426, t427, t428⟩, A130, H⟩ := H
    replace H : (if 0 ≤ t426 then (if t426 < (t415.length : Int) then (if y423.length + ((rd_T41 t415 t426).f0).length < 8796093022208 then (some (t415, (y423 ++ ((rd_T41 t415 t426).f0)))) else (none)) else (none)) else (none)) = some (r1, r2) := H
    have A13 := A_ A130
    clear A130
    by_cases c14 : 0 ≤ t426
    ·rw [if_pos c14] at H
     have c14b0 : decide (0 ≤ t426) = true := decide_eq_true c14
     clear c14
     by_cases c15 : t426 < (t415.length : Int)
     ·rw [if_pos c15] at H
      have c15b0 : decide (t426 < (t415.length : Int)) = true := decide_eq_true c15
      clear c15
      by_cases c16 : y423.length + ((rd_T41 t415 t426).f0).length < 8796093022208
      ·rw [if_pos c16] at H
       have LMc16 := A_ c16
       clear c16
       obtain ⟨y430, hy430⟩ : ∃ y_ : List (S68), y_ = (y423 ++ ((rd_T41 t415 t426).f0)) := ⟨_, rfl⟩
       replace H : (some (t415, y430)) = some (r1, r2) := by first | (rw [hy430]; with_reducible exact H) | (have H2_ := (Option.bind_some _ _).symm.trans H; rw [hy430]; with_reducible exact H2_) | (have H2_ := (Option.bind_some _ _).symm.trans H; with_reducible exact H2_) | with_reducible exact H | (rw [hy430]; exact H) | exact H
       have Ny430 := A_ hy430
       clear hy430
       simp only [Option.some.injEq, Prod.mk.injEq] at H
       obtain ⟨rfl, rfl⟩ := H
       go_wp2_with (first | ((with_reducible refine gate_dst (N := 19) rfl ?_); refine Kd.R_lit k68 _ 68 ?hg (N := 19) ?hd (xs := ([] : List (S68))) (inner := []) (ok := fun _ => True) (okp := fun _ => True) ?hr ?hp (fun _ hk => hk) trivial (Below.refl _ _) (Nat.le_refl _) (by simp) ?_; (case hd => rfl); (case hg => rfl); (case hr => exact Z28); (case hp => exact (Reps.none _ _)); intro v424 w17 ho18 hb hg_ hnew_; clear hg_ hnew_; (first | rw [← Ny423.out] at ho18 | (simp only [Int.reduceToNat] at ho18; rw [← Ny423.out] at ho18)); have n0_ := A_ (Kd.N_elder' (Z18 HO_5.out) (Kd.R_base ho18) hb); have n1_ := A_ (Kd.R_lower (Kd.R_newM (M := fun k_ => (w.heap.size ≤ k_)) ho18 (below_size (Z4 HI414.out)) (fun k_ h_ => h_)) (below_size (Z4 HI414.out))); have n2_ := A_ (IsS77.below (Z8 HI414.out) hb); have n3_ := A_ (below_step (Z4 HI414.out) hb); clear HO_5; clear HI414; clear HB; have HO_5 := n0_; have HO425 := n1_; have HI414 := n2_; have HB := n3_; clear n0_ n1_ n2_ n3_; clear hb ho18; obtain ⟨Ao19, co19, eo19⟩ := Kd.N_slice HO_5.out; subst eo19) | ((with_reducible refine gate_callee (f := 38) rfl ?_); refine goesL_ (some 24) rfl rfl Try.func38 (by kernel_rfl) rfl #[.pointer (some ⟨g414, 0, none⟩), .int .i64 (t415.length : Int)] rfl Z3 ?_; (with_reducible refine (spec_source_pick.calls kj3 g414 t411 x415001_3 x415002_3 (t415.length : Int) t426 t427 t428 w _ ?side1 ?side2 A13.out).mono ?_); (case side1 => exact Z8 HI414.out); (case side2 => exact Z4 HI414.out); rintro e w20 ⟨rfl, hi, hb, hk⟩; refine ⟨_, rfl, ?_⟩; have n0_ := A_ (Kd.N_mono (Kd.N_keep (Kd.N_mono (ok := fun k_ => ((((w.heap.size ≤ k_)) ∧ k_ ≠ g414) ∧ some k_ ≠ (v424 : Value).ownBlock)) (Z18 HO_5.out) (fun k_ hk_ => (⟨hk_, hk_.1.2⟩ : _ ∧ k_ ≠ g414))) hk (fun _ h => h.2)) (fun _ h => h.1)); have n1_ := A_ (Kd.R_mono (Kd.R_keep (IsS77.apart (show IsS77 w _ g414 t411 x415001_3 x415002_3 from by repeat (first | (with_reducible first | exact HI414.out | apply IsS77.alloc | apply IsS77.drewN | apply IsS77.drew | apply IsS77.set_1 | apply IsS77.set_2) | exact HI414.out)) (Z13 HO425.out) (by decide)) hk (fun _ h => h.2)) (fun _ h => h.1)); have n2_ := A_ (hb); have n3_ := A_ (hi); clear HO_5; clear HO425; clear HB; clear HI414; have HO_5 := n0_; have HO425 := n1_; have HB := n2_; have HI414 := n3_; clear n0_ n1_ n2_ n3_; (try clear hb); (try clear hb2); (try clear hk); (try clear hi); have p429 : 0 ≤ (t426 : Int) := of_decide_eq_true Z14; have q429 : t426 < (t415.length : Int) := of_decide_eq_true Z14; obtain ⟨ad429, A429_0, c429_0, A429_1, c429_1, e429, hx429_0, hx429_1, hl429_0, hi429_0, hl429_1, hi429_1⟩ := at_T41 (Kd.N_reads' HO_5.out).2.2 t426 p429 q429; cases e429; obtain ⟨ce429, hce429, hMe429, hcc429⟩ := Kd.N_get HO_5.out z41 t426 p429 (by first | exact q429 | exact of_decide_eq_true Z14 | (have e_ := (Kd.N_reads' HO_5.out).1; omega)); obtain ⟨ua429_0, uc429_0, ua429_1, uc429_1, rfl, ul429_0, ge429_0, ul429_1, ge429_1⟩ := k41_openF hMe429; have hv429_0 := hcc429 0 _ rfl; rw [Nat.add_zero] at hv429_0; replace hv429_0 := Option.some.inj (hv429_0.symm.trans hx429_0); injection hv429_0 with hva_ hvn_ hvc_; rw [hva_] at ge429_0; rw [hvc_] at ul429_0; have HL429_0 := A_ (show Kd.V k68 68 _ w.heap.size _ _ ((rd_T41 t415 t426).f0) from Kd.V_mk ul429_0 ge429_0); clear hva_ hvn_ hvc_ ge429_0 ul429_0; have hv429_1 := hcc429 1 _ rfl; rw [add_field _ _ 1 (by omega)] at hv429_1; replace hv429_1 := Option.some.inj (hv429_1.symm.trans hx429_1); injection hv429_1 with hva_ hvn_ hvc_; rw [hva_] at ge429_1; rw [hvc_] at ul429_1; have HL429_1 := A_ (show Kd.V k28 28 _ w.heap.size _ _ ((rd_T41 t415 t426).f1) from Kd.V_mk ul429_1 ge429_1); clear hva_ hvn_ hvc_ ge429_1 ul429_1; clear hcc429 hce429; have HR429_0 := A_ hi429_0; have HC429_0 := A_ hl429_0; clear hi429_0 hl429_0; have HR429_1 := A_ hi429_1; have HC429_1 := A_ hl429_1; clear hi429_1 hl429_1; replace p429 := eq_true p429; replace q429 := eq_true q429) | ((with_reducible refine gate_builtin (b := .append) (xs := #[.tmp 19, .tmp 27]) rfl ?_); at_builtin; refine Kd.R_append_rows k68 (w0 := w) w.heap.size rfl (.tmp 19) (.tmp 27) 39 68 (.agg #[(.int .i64 0), (.int .i64 0)]) 16 rfl Try.underlying39 info68 rfl (by decide) (by omega) v424 y423 ((rd_T41 t415 t426).f0) _ _ _ (fun k_ => (w.heap.size ≤ k_)) (fun _ => False) rfl rfl ?aO ?aR (fun _ _ h => h) (fun _ h => h.elim) ?aF ?aB ?aS ?aL ?_; (case aR => repeat (first | exact (by repeat (first | (with_reducible exact HR429_0.out) | (with_reducible refine Kd.C_alloc ?_ _) | (with_reducible refine Kd.C_drewN ?_ _) | (with_reducible refine Kd.C_drew ?_) | exact HR429_0.out)) | (with_reducible refine Kd.C_alloc ?_ _) | (with_reducible refine Kd.C_drewN ?_ _) | (with_reducible refine Kd.C_drew ?_))); (case aB => exact (Z4 HI414.out)); (case aF => exact (fun k_ hk => (Nat.le_trans (below_size (Z4 HI414.out)) hk))); (case aO => exact (Z40 HO425.out)); (case aS => exact (below_size (Z4 HI414.out))); (case aL => have := LMc16.out; omega); intro v431 w21 ho hb hg hat; rw [← Ny430.out] at ho; have n0_ := A_ (Kd.N_afterv (ok := (fun k_ => (w.heap.size ≤ k_) ∧ k_ ≠ g414)) (Z18 HO_5.out) hg hat); have n1_ := A_ (IsS77.grown (Z8 HI414.out) hg (IsS77.own_ne HI414.out HO425.out (by decide))); have n2_ := A_ (Kd.V_afterv (ok := (fun k_ => (w.heap.size ≤ k_) ∧ some k_ ≠ (.slice (some ad429) t415.length co19 : Value).ownBlock ∧ k_ ≠ g414)) (by (with_reducible repeat (first | apply Kd.V_alloc | apply Kd.V_drewN | apply Kd.V_drew)); exact Kd.V_mono HL429_0.out (fun _ hk => ⟨⟨hk.1.1.1, ⟨hk.2, hk.1.1.2⟩⟩, hk.1.2⟩)) hg hat); have n3_ := A_ (Kd.V_afterv (ok := (fun k_ => (w.heap.size ≤ k_) ∧ some k_ ≠ (.slice (some ad429) t415.length co19 : Value).ownBlock ∧ k_ ≠ g414)) (by (with_reducible repeat (first | apply Kd.V_alloc | apply Kd.V_drewN | apply Kd.V_drew)); exact Kd.V_mono HL429_1.out (fun _ hk => ⟨⟨hk.1.1.1, ⟨hk.2, hk.1.1.2⟩⟩, hk.1.2⟩)) hg hat); have n4_ := A_ (hb); have n5_ := A_ (ho); clear HO_5; clear HI414; clear HL429_0; clear HL429_1; clear HB; clear HO425; have HO_5 := n0_; have HI414 := n1_; have HL429_0 := n2_; have HL429_1 := n3_; have HB := n4_; have HO432 := n5_; clear n0_ n1_ n2_ n3_ n4_ n5_; clear ho hb hg hat))
       go_ret2
       exact ⟨_, _, Z16, by (with_reducible repeat (first | apply Kd.N_alloc | apply Kd.N_drewN | apply Kd.N_drew)); exact Kd.N_mono HO_5.out (fun _ hk => ⟨hk.1.1, hk.2⟩), Z13 HO432.out, Z4 HI414.out⟩
      ·rw [if_neg c16] at H
       exact absurd H (by simp)
     ·rw [if_neg c15] at H
      exact absurd H (by simp)
    ·rw [if_neg c14] at H
     exact absurd H (by simp)
   ·replace c12 := Bool.eq_false_iff.mpr c12
    subst c12
    have H1 : ((spec_source_slots.f kj3 t411 x415001_3 x415002_3).bind fun bt433 => (some (t415, bt433.1))) = some (r1, r2) := by rw [if_neg (show ¬ (false = true) by decide)] at H; exact H
    clear H
    have H := H1
    clear H1
    replace H := Option.bind_eq_some_iff.mp H
    obtain ⟨⟨t433, t436, t437⟩, A220, H⟩ := H
    replace H : (some (t415, t433)) = some (r1, r2) := H
    have A22 := A_ A220
    clear A220
    simp only [Option.some.injEq, Prod.mk.injEq] at H
    obtain ⟨rfl, rfl⟩ := H
    go_wp2_with (first | ((with_reducible refine gate_callee (f := 55) rfl ?_); refine goesL_ (some 31) rfl rfl Try.func55 (by kernel_rfl) rfl #[.pointer (some ⟨g414, 0, none⟩)] rfl Z3 ?_; (with_reducible refine (spec_source_slots.calls kj3 g414 t411 x415001_3 x415002_3 t433 t436 t437 w _ ?side1 ?side2 A22.out).mono ?_); (case side1 => exact Z8 HI414.out); (case side2 => exact Z4 HI414.out); rintro e w23 ⟨v434, rfl, ho0, hi, hb, hk⟩; refine ⟨_, rfl, ?_⟩; have n0_ := A_ (Kd.N_mono (Kd.N_told (Kd.N_oldK (Kd.N_mono (ok := fun k_ => (((w.heap.size ≤ k_)) ∧ k_ ≠ g414)) (Z18 HO_5.out) (fun k_ hk_ => (⟨hk_, hk_.2⟩ : _ ∧ k_ ≠ g414))) hk) (Kd.R_base ho0)) (fun _ h_ => h_.1)); have n1_ := A_ (Kd.R_lower (Kd.R_newM (M := fun k_ => (w.heap.size ≤ k_)) ho0 (below_size (Z4 HI414.out)) (fun k_ h_ => h_)) (below_size (Z4 HI414.out))); have n2_ := A_ (hb); have n3_ := A_ (hi); clear HO_5; clear HB; clear HI414; have HO_5 := n0_; have HO435 := n1_; have HB := n2_; have HI414 := n3_; clear n0_ n1_ n2_ n3_; (try clear hb); (try clear hb2); (try clear hk); (try clear hi); (try clear ho0)))
    go_ret2
    exact ⟨_, _, Z16, by (with_reducible repeat (first | apply Kd.N_alloc | apply Kd.N_drewN | apply Kd.N_drew)); exact Kd.N_mono HO_5.out (fun _ hk => ⟨hk.1.1, hk.2⟩), Z40 HO435.out, Z4 HI414.out⟩
def spec_DrawStorePut.f (k : Nat) (l0 : List Int) : Option ((List (S41)) × (List (S68)) × (List (S28))) := (spec_newSource.f l0).bind fun bt438 => ((spec_DrawStoreGet.f k l0).bind fun bt442 => ((spec_source_pick.f k bt438.1 bt438.2.1 bt438.2.2 2).bind fun bt448 => ((spec_source_pick.f k bt438.1 bt448.2.1 bt448.2.2 4).bind fun bt451 => ((spec_source_rarely.f k bt438.1 bt451.2.1 bt451.2.2).bind fun bt454 => (if bt454.1 = true then ((spec_source_goods.f k bt438.1 bt454.2.1 bt454.2.2 4).bind fun bt457 => (some (bt442.1, bt442.2, bt457.1))) else ((spec_source_goods.f k bt438.1 bt454.2.1 bt454.2.2 bt451.1).bind fun bt462 => (some (bt442.1, bt442.2, bt462.1))))))))
theorem spec_DrawStorePut.mono : ∀ a0 k, LeO (spec_DrawStorePut.f k a0) (spec_DrawStorePut.f (k + 1) a0) := by
 intro a0 k
 unfold spec_DrawStorePut.f
 repeat' first
   | (with_reducible exact spec_DrawStoreGet.mono _ _)
   | (with_reducible exact spec_source_goods.mono _ _ _ _ _)
   | (with_reducible exact spec_source_pick.mono _ _ _ _ _)
   | (with_reducible exact spec_source_rarely.mono _ _ _ _)
   | (with_reducible exact LeO.refl _)
   | (with_reducible exact LeO.none _)
   | (with_reducible refine LeO.ite ?_ ?_)
   | (with_reducible refine LeO.bind ?_ (fun _ => ?_))
   | exact spec_DrawStoreGet.mono _ _
   | exact spec_source_goods.mono _ _ _ _ _
   | exact spec_source_pick.mono _ _ _ _ _
   | exact spec_source_rarely.mono _ _ _ _
   | exact LeO.none _
   | refine LeO.ite ?_ ?_
   | refine LeO.bind ?_ (fun _ => ?_)
set_option maxHeartbeats 8000000 in
set_option maxRecDepth 100000 in
theorem spec_DrawStorePut.calls (k : Nat) (A0 : Option Addr) (c0 : Nat) (l0 : List Int) (r1 : List (S41)) (r2 : List (S68)) (r3 : List (S28)) (w : World) (hr0 : Kd.C (Kd.int .u8) w A0 l0.length l0) (hc0 : l0.length ≤ c0) (h : spec_DrawStorePut.f k l0 = some (r1, r2, r3)) :
  Calls Try.prog 29 #[.slice A0 l0.length c0] w fun e w' => ∃ v0_ v1_ v2_ : Value, e = .returned (.tuple #[v0_, v1_, v2_]) ∧ Kd.N k41 41 w' w.heap.size (fun k_ => (w.heap.size ≤ k_) ∧ some k_ ≠ (v1_ : Value).ownBlock ∧ some k_ ≠ (v2_ : Value).ownBlock) v0_ r1 ∧ Kd.R k68 68 w' w.heap.size (fun k_ => (w.heap.size ≤ k_)) v1_ r2 ∧ Kd.R k28 28 w' w.heap.size (fun k_ => (w.heap.size ≤ k_)) v2_ r3 ∧ Below w.heap.size w w' := by
 have HR0 := A_ hr0
 have HC0 := A_ hc0
 clear hr0 hc0
 have HB := A_ (Below.refl w.heap.size w)
 have H : ((spec_newSource.f l0).bind fun bt438 => ((spec_DrawStoreGet.f k l0).bind fun bt442 => ((spec_source_pick.f k bt438.1 bt438.2.1 bt438.2.2 2).bind fun bt448 => ((spec_source_pick.f k bt438.1 bt448.2.1 bt448.2.2 4).bind fun bt451 => ((spec_source_rarely.f k bt438.1 bt451.2.1 bt451.2.2).bind fun bt454 => (if bt454.1 = true then ((spec_source_goods.f k bt438.1 bt454.2.1 bt454.2.2 4).bind fun bt457 => (some (bt442.1, bt442.2, bt457.1))) else ((spec_source_goods.f k bt438.1 bt454.2.1 bt454.2.2 bt451.1).bind fun bt462 => (some (bt442.1, bt442.2, bt462.1))))))))) = some (r1, r2, r3) := h
 clear h
 replace H := Option.bind_eq_some_iff.mp H
 obtain ⟨⟨t438, t439, t440⟩, A20, H⟩ := H
 replace H : ((spec_DrawStoreGet.f k l0).bind fun bt442 => ((spec_source_pick.f k t438 t439 t440 2).bind fun bt448 => ((spec_source_pick.f k t438 bt448.2.1 bt448.2.2 4).bind fun bt451 => ((spec_source_rarely.f k t438 bt451.2.1 bt451.2.2).bind fun bt454 => (if bt454.1 = true then ((spec_source_goods.f k t438 bt454.2.1 bt454.2.2 4).bind fun bt457 => (some (bt442.1, bt442.2, bt457.1))) else ((spec_source_goods.f k t438 bt454.2.1 bt454.2.2 bt451.1).bind fun bt462 => (some (bt442.1, bt442.2, bt462.1)))))))) = some (r1, r2, r3) := H
 have A2 := A_ A20
 clear A20
 replace H := Option.bind_eq_some_iff.mp H
 obtain ⟨⟨t442, t445⟩, A30, H⟩ := H
 replace H : ((spec_source_pick.f k t438 t439 t440 2).bind fun bt448 => ((spec_source_pick.f k t438 bt448.2.1 bt448.2.2 4).bind fun bt451 => ((spec_source_rarely.f k t438 bt451.2.1 bt451.2.2).bind fun bt454 => (if bt454.1 = true then ((spec_source_goods.f k t438 bt454.2.1 bt454.2.2 4).bind fun bt457 => (some (t442, t445, bt457.1))) else ((spec_source_goods.f k t438 bt454.2.1 bt454.2.2 bt451.1).bind fun bt462 => (some (t442, t445, bt462.1))))))) = some (r1, r2, r3) := H
 have A3 := A_ A30
 clear A30
 replace H := Option.bind_eq_some_iff.mp H
 obtain ⟨⟨t448, t449, t450⟩, A40, H⟩ := H
 replace H : ((spec_source_pick.f k t438 t449 t450 4).bind fun bt451 => ((spec_source_rarely.f k t438 bt451.2.1 bt451.2.2).bind fun bt454 => (if bt454.1 = true then ((spec_source_goods.f k t438 bt454.2.1 bt454.2.2 4).bind fun bt457 => (some (t442, t445, bt457.1))) else ((spec_source_goods.f k t438 bt454.2.1 bt454.2.2 bt451.1).bind fun bt462 => (some (t442, t445, bt462.1)))))) = some (r1, r2, r3) := H
 have A4 := A_ A40
 clear A40
 replace H := Option.bind_eq_some_iff.mp H
 obtain ⟨⟨t451, t452, t453⟩, A50, H⟩ := H
 replace H : ((spec_source_rarely.f k t438 t452 t453).bind fun bt454 => (if bt454.1 = true then ((spec_source_goods.f k t438 bt454.2.1 bt454.2.2 4).bind fun bt457 => (some (t442, t445, bt457.1))) else ((spec_source_goods.f k t438 bt454.2.1 bt454.2.2 t451).bind fun bt462 => (some (t442, t445, bt462.1))))) = some (r1, r2, r3) := H
 have A5 := A_ A50
 clear A50
 replace H := Option.bind_eq_some_iff.mp H
 obtain ⟨⟨t454, t455, t456⟩, A60, H⟩ := H
 replace H : (if t454 = true then ((spec_source_goods.f k t438 t455 t456 4).bind fun bt457 => (some (t442, t445, bt457.1))) else ((spec_source_goods.f k t438 t455 t456 t451).bind fun bt462 => (some (t442, t445, bt462.1)))) = some (r1, r2, r3) := H
 have A6 := A_ A60
 clear A60
 by_cases c7 : t454 = true
 ·subst c7
  have H1 : ((spec_source_goods.f k t438 t455 t456 4).bind fun bt457 => (some (t442, t445, bt457.1))) = some (r1, r2, r3) := by rw [if_pos rfl] at H; exact H
  clear H
  have H := H1
  clear H1
  replace H := Option.bind_eq_some_iff.mp H
  obtain ⟨⟨t457, t460, t461⟩, A80, H⟩ := H
  replace H : (some (t442, t445, t457)) = some (r1, r2, r3) := H
  have A8 := A_ A80
  clear A80
  simp only [Option.some.injEq, Prod.mk.injEq] at H
  obtain ⟨rfl, rfl, rfl⟩ := H
  go_enter Try.func29, Try.ntmps29
  go_wp2_with (first | ((with_reducible refine gate_callee (f := 32) rfl ?_); refine goesL_ (some 10) rfl rfl Try.func32 (by kernel_rfl) rfl #[.slice A0 l0.length c0] rfl Z3 ?_; (with_reducible refine (spec_newSource.calls _ _ l0 t438 t439 t440 w _ ?side1 ?side2 ?side3 A2.out).mono ?_); (case side1 => exact Z1); (case side2 => exact HR0.out); (case side3 => exact HC0.out); rintro e w9 ⟨g441, rfl, hi, hb, hb2⟩; refine ⟨_, rfl, ?_⟩; have n0_ := A_ (hb); have n1_ := A_ (hi); clear HB; have HB := n0_; have HI441 := n1_; clear n0_ n1_; (try clear hb); (try clear hb2); (try clear hk); (try clear hi)) | ((with_reducible refine gate_callee (f := 26) rfl ?_); refine goesL_ (some 13) rfl rfl Try.func26 (by kernel_rfl) rfl #[.slice A0 l0.length c0] rfl Z3 ?_; (with_reducible refine (spec_DrawStoreGet.calls k _ _ l0 t442 t445 _ ?side1 ?side2 A3.out).mono ?_); (case side1 => exact Z5 HR0.out); (case side2 => exact HC0.out); rintro e w10 ⟨v443, v446, rfl, ho0, ho1, hb⟩; refine ⟨_, rfl, ?_⟩; have n0_ := A_ (Kd.N_lower (Kd.N_mono (ok' := fun k_ => (w.heap.size ≤ k_) ∧ some k_ ≠ (v446 : Value).ownBlock ∧ k_ ≠ g441) ho0 (fun k_ hk_ => ⟨(Nat.le_trans (below_size (Z4 HI441.out)) hk_.1), hk_.2, (IsS77.fresh (Z8 HI441.out) k_ hk_.1)⟩)) (below_size (Z4 HI441.out))); have n1_ := A_ (Kd.R_lower (Kd.R_newM (M := fun k_ => (w.heap.size ≤ k_)) (Kd.R_mono (ok' := fun k_ => True) ho1 (fun _ hk_ => trivial)) (below_size (Z4 HI441.out)) (fun k_ h_ => h_)) (below_size (Z4 HI441.out))); have n2_ := A_ (IsS77.below (Z8 HI441.out) hb); have n3_ := A_ (below_step (Z4 HI441.out) hb); clear HI441; clear HB; have HO444 := n0_; have HO447 := n1_; have HI441 := n2_; have HB := n3_; clear n0_ n1_ n2_ n3_; (try clear hb); (try clear hb2); (try clear hk); (try clear hi); (try clear ho0); (try clear ho1)) | ((with_reducible refine gate_callee (f := 38) rfl ?_); refine goesL_ (some 17) rfl rfl Try.func38 (by kernel_rfl) rfl #[.pointer (some ⟨g441, 0, none⟩), .int .i64 2] rfl Z3 ?_; (with_reducible refine (spec_source_pick.calls k g441 t438 t439 t440 2 t448 t449 t450 w _ ?side1 ?side2 A4.out).mono ?_); (case side1 => exact Z8 HI441.out); (case side2 => exact Z4 HI441.out); rintro e w11 ⟨rfl, hi, hb, hk⟩; refine ⟨_, rfl, ?_⟩; have n0_ := A_ (Kd.N_mono (Kd.N_keep (Kd.N_mono (ok := fun k_ => (((w.heap.size ≤ k_)) ∧ (some k_ ≠ (v446 : Value).ownBlock ∧ k_ ≠ g441))) (Z18 HO444.out) (fun k_ hk_ => (⟨hk_, hk_.2.2⟩ : _ ∧ k_ ≠ g441))) hk (fun _ h => h.2)) (fun _ h => h.1)); have n1_ := A_ (Kd.R_mono (Kd.R_keep (IsS77.apart (show IsS77 w _ g441 t438 t439 t440 from by repeat (first | (with_reducible first | exact HI441.out | apply IsS77.alloc | apply IsS77.drewN | apply IsS77.drew | apply IsS77.set_1 | apply IsS77.set_2) | exact HI441.out)) (Z13 HO447.out) (by decide)) hk (fun _ h => h.2)) (fun _ h => h.1)); have n2_ := A_ (hb); have n3_ := A_ (hi); clear HO444; clear HO447; clear HB; clear HI441; have HO444 := n0_; have HO447 := n1_; have HB := n2_; have HI441 := n3_; clear n0_ n1_ n2_ n3_; (try clear hb); (try clear hb2); (try clear hk); (try clear hi)) | ((with_reducible refine gate_callee (f := 38) rfl ?_); refine goesL_ (some 19) rfl rfl Try.func38 (by kernel_rfl) rfl #[.pointer (some ⟨g441, 0, none⟩), .int .i64 4] rfl Z3 ?_; (with_reducible refine (spec_source_pick.calls k g441 t438 t449 t450 4 t451 t452 t453 w _ ?side1 ?side2 A5.out).mono ?_); (case side1 => exact Z8 HI441.out); (case side2 => exact Z4 HI441.out); rintro e w12 ⟨rfl, hi, hb, hk⟩; refine ⟨_, rfl, ?_⟩; have n0_ := A_ (Kd.N_mono (Kd.N_keep (Kd.N_mono (ok := fun k_ => (((w.heap.size ≤ k_)) ∧ (some k_ ≠ (v446 : Value).ownBlock ∧ k_ ≠ g441))) (Z18 HO444.out) (fun k_ hk_ => (⟨hk_, hk_.2.2⟩ : _ ∧ k_ ≠ g441))) hk (fun _ h => h.2)) (fun _ h => h.1)); have n1_ := A_ (Kd.R_mono (Kd.R_keep (IsS77.apart (show IsS77 w _ g441 t438 t449 t450 from by repeat (first | (with_reducible first | exact HI441.out | apply IsS77.alloc | apply IsS77.drewN | apply IsS77.drew | apply IsS77.set_1 | apply IsS77.set_2) | exact HI441.out)) (Z13 HO447.out) (by decide)) hk (fun _ h => h.2)) (fun _ h => h.1)); have n2_ := A_ (hb); have n3_ := A_ (hi); clear HO444; clear HO447; clear HB; clear HI441; have HO444 := n0_; have HO447 := n1_; have HB := n2_; have HI441 := n3_; clear n0_ n1_ n2_ n3_; (try clear hb); (try clear hb2); (try clear hk); (try clear hi)) | ((with_reducible refine gate_callee (f := 58) rfl ?_); refine goesL_ (some 21) rfl rfl Try.func58 (by kernel_rfl) rfl #[.pointer (some ⟨g441, 0, none⟩)] rfl Z3 ?_; (with_reducible refine (spec_source_rarely.calls k g441 t438 t452 t453 true t455 t456 w _ ?side1 ?side2 A6.out).mono ?_); (case side1 => exact Z8 HI441.out); (case side2 => exact Z4 HI441.out); rintro e w13 ⟨rfl, hi, hb, hk⟩; refine ⟨_, rfl, ?_⟩; have n0_ := A_ (Kd.N_mono (Kd.N_keep (Kd.N_mono (ok := fun k_ => (((w.heap.size ≤ k_)) ∧ (some k_ ≠ (v446 : Value).ownBlock ∧ k_ ≠ g441))) (Z18 HO444.out) (fun k_ hk_ => (⟨hk_, hk_.2.2⟩ : _ ∧ k_ ≠ g441))) hk (fun _ h => h.2)) (fun _ h => h.1)); have n1_ := A_ (Kd.R_mono (Kd.R_keep (IsS77.apart (show IsS77 w _ g441 t438 t452 t453 from by repeat (first | (with_reducible first | exact HI441.out | apply IsS77.alloc | apply IsS77.drewN | apply IsS77.drew | apply IsS77.set_1 | apply IsS77.set_2) | exact HI441.out)) (Z13 HO447.out) (by decide)) hk (fun _ h => h.2)) (fun _ h => h.1)); have n2_ := A_ (hb); have n3_ := A_ (hi); clear HO444; clear HO447; clear HB; clear HI441; have HO444 := n0_; have HO447 := n1_; have HB := n2_; have HI441 := n3_; clear n0_ n1_ n2_ n3_; (try clear hb); (try clear hb2); (try clear hk); (try clear hi)) | ((with_reducible refine gate_callee (f := 59) rfl ?_); refine goesL_ (some 26) rfl rfl Try.func59 (by kernel_rfl) rfl #[.pointer (some ⟨g441, 0, none⟩), .int .i64 4] rfl Z3 ?_; (with_reducible refine (spec_source_goods.calls k g441 t438 t455 t456 4 t457 t460 t461 w _ ?side1 ?side2 A8.out).mono ?_); (case side1 => exact Z8 HI441.out); (case side2 => exact Z4 HI441.out); rintro e w14 ⟨v458, rfl, ho0, hi, hb, hk⟩; refine ⟨_, rfl, ?_⟩; have n0_ := A_ (Kd.N_mono (Kd.N_told (Kd.N_oldK (Kd.N_mono (ok := fun k_ => (((w.heap.size ≤ k_)) ∧ (some k_ ≠ (v446 : Value).ownBlock ∧ k_ ≠ g441))) (Z18 HO444.out) (fun k_ hk_ => (⟨hk_, hk_.2.2⟩ : _ ∧ k_ ≠ g441))) hk) (Kd.R_base ho0)) (fun _ h_ => h_.1)); have n1_ := A_ (Kd.R_mono (Kd.R_keep (IsS77.apart (show IsS77 w _ g441 t438 t455 t456 from by repeat (first | (with_reducible first | exact HI441.out | apply IsS77.alloc | apply IsS77.drewN | apply IsS77.drew | apply IsS77.set_1 | apply IsS77.set_2) | exact HI441.out)) (Z13 HO447.out) (by decide)) hk (fun _ h => h.2)) (fun _ h => h.1)); have n2_ := A_ (Kd.R_lower (Kd.R_newM (M := fun k_ => (w.heap.size ≤ k_)) ho0 (below_size (Z4 HI441.out)) (fun k_ h_ => h_)) (below_size (Z4 HI441.out))); have n3_ := A_ (hb); have n4_ := A_ (hi); clear HO444; clear HO447; clear HB; clear HI441; have HO444 := n0_; have HO447 := n1_; have HO459 := n2_; have HB := n3_; have HI441 := n4_; clear n0_ n1_ n2_ n3_ n4_; (try clear hb); (try clear hb2); (try clear hk); (try clear hi); (try clear ho0)))
  go_ret3
  exact ⟨_, _, _, Z16, by (with_reducible repeat (first | apply Kd.N_alloc | apply Kd.N_drewN | apply Kd.N_drew)); exact Kd.N_mono HO444.out (fun _ hk => ⟨hk.1.1, ⟨hk.1.2.1, hk.2⟩⟩), Z40 HO447.out, Z40 HO459.out, Z4 HI441.out⟩
 ·replace c7 := Bool.eq_false_iff.mpr c7
  subst c7
  have H1 : ((spec_source_goods.f k t438 t455 t456 t451).bind fun bt462 => (some (t442, t445, bt462.1))) = some (r1, r2, r3) := by rw [if_neg (show ¬ (false = true) by decide)] at H; exact H
  clear H
  have H := H1
  clear H1
  replace H := Option.bind_eq_some_iff.mp H
  obtain ⟨⟨t462, t465, t466⟩, A150, H⟩ := H
  replace H : (some (t442, t445, t462)) = some (r1, r2, r3) := H
  have A15 := A_ A150
  clear A150
  simp only [Option.some.injEq, Prod.mk.injEq] at H
  obtain ⟨rfl, rfl, rfl⟩ := H
  go_enter Try.func29, Try.ntmps29
  go_wp2_with (first | ((with_reducible refine gate_callee (f := 32) rfl ?_); refine goesL_ (some 10) rfl rfl Try.func32 (by kernel_rfl) rfl #[.slice A0 l0.length c0] rfl Z3 ?_; (with_reducible refine (spec_newSource.calls _ _ l0 t438 t439 t440 w _ ?side1 ?side2 ?side3 A2.out).mono ?_); (case side1 => exact Z1); (case side2 => exact HR0.out); (case side3 => exact HC0.out); rintro e w16 ⟨g441, rfl, hi, hb, hb2⟩; refine ⟨_, rfl, ?_⟩; have n0_ := A_ (hb); have n1_ := A_ (hi); clear HB; have HB := n0_; have HI441 := n1_; clear n0_ n1_; (try clear hb); (try clear hb2); (try clear hk); (try clear hi)) | ((with_reducible refine gate_callee (f := 26) rfl ?_); refine goesL_ (some 13) rfl rfl Try.func26 (by kernel_rfl) rfl #[.slice A0 l0.length c0] rfl Z3 ?_; (with_reducible refine (spec_DrawStoreGet.calls k _ _ l0 t442 t445 _ ?side1 ?side2 A3.out).mono ?_); (case side1 => exact Z5 HR0.out); (case side2 => exact HC0.out); rintro e w17 ⟨v443, v446, rfl, ho0, ho1, hb⟩; refine ⟨_, rfl, ?_⟩; have n0_ := A_ (Kd.N_lower (Kd.N_mono (ok' := fun k_ => (w.heap.size ≤ k_) ∧ some k_ ≠ (v446 : Value).ownBlock ∧ k_ ≠ g441) ho0 (fun k_ hk_ => ⟨(Nat.le_trans (below_size (Z4 HI441.out)) hk_.1), hk_.2, (IsS77.fresh (Z8 HI441.out) k_ hk_.1)⟩)) (below_size (Z4 HI441.out))); have n1_ := A_ (Kd.R_lower (Kd.R_newM (M := fun k_ => (w.heap.size ≤ k_)) (Kd.R_mono (ok' := fun k_ => True) ho1 (fun _ hk_ => trivial)) (below_size (Z4 HI441.out)) (fun k_ h_ => h_)) (below_size (Z4 HI441.out))); have n2_ := A_ (IsS77.below (Z8 HI441.out) hb); have n3_ := A_ (below_step (Z4 HI441.out) hb); clear HI441; clear HB; have HO444 := n0_; have HO447 := n1_; have HI441 := n2_; have HB := n3_; clear n0_ n1_ n2_ n3_; (try clear hb); (try clear hb2); (try clear hk); (try clear hi); (try clear ho0); (try clear ho1)) | ((with_reducible refine gate_callee (f := 38) rfl ?_); refine goesL_ (some 17) rfl rfl Try.func38 (by kernel_rfl) rfl #[.pointer (some ⟨g441, 0, none⟩), .int .i64 2] rfl Z3 ?_; (with_reducible refine (spec_source_pick.calls k g441 t438 t439 t440 2 t448 t449 t450 w _ ?side1 ?side2 A4.out).mono ?_); (case side1 => exact Z8 HI441.out); (case side2 => exact Z4 HI441.out); rintro e w18 ⟨rfl, hi, hb, hk⟩; refine ⟨_, rfl, ?_⟩; have n0_ := A_ (Kd.N_mono (Kd.N_keep (Kd.N_mono (ok := fun k_ => (((w.heap.size ≤ k_)) ∧ (some k_ ≠ (v446 : Value).ownBlock ∧ k_ ≠ g441))) (Z18 HO444.out) (fun k_ hk_ => (⟨hk_, hk_.2.2⟩ : _ ∧ k_ ≠ g441))) hk (fun _ h => h.2)) (fun _ h => h.1)); have n1_ := A_ (Kd.R_mono (Kd.R_keep (IsS77.apart (show IsS77 w _ g441 t438 t439 t440 from by repeat (first | (with_reducible first | exact HI441.out | apply IsS77.alloc | apply IsS77.drewN | apply IsS77.drew | apply IsS77.set_1 | apply IsS77.set_2) | exact HI441.out)) (Z13 HO447.out) (by decide)) hk (fun _ h => h.2)) (fun _ h => h.1)); have n2_ := A_ (hb); have n3_ := A_ (hi); clear HO444; clear HO447; clear HB; clear HI441; have HO444 := n0_; have HO447 := n1_; have HB := n2_; have HI441 := n3_; clear n0_ n1_ n2_ n3_; (try clear hb); (try clear hb2); (try clear hk); (try clear hi)) | ((with_reducible refine gate_callee (f := 38) rfl ?_); refine goesL_ (some 19) rfl rfl Try.func38 (by kernel_rfl) rfl #[.pointer (some ⟨g441, 0, none⟩), .int .i64 4] rfl Z3 ?_; (with_reducible refine (spec_source_pick.calls k g441 t438 t449 t450 4 t451 t452 t453 w _ ?side1 ?side2 A5.out).mono ?_); (case side1 => exact Z8 HI441.out); (case side2 => exact Z4 HI441.out); rintro e w19 ⟨rfl, hi, hb, hk⟩; refine ⟨_, rfl, ?_⟩; have n0_ := A_ (Kd.N_mono (Kd.N_keep (Kd.N_mono (ok := fun k_ => (((w.heap.size ≤ k_)) ∧ (some k_ ≠ (v446 : Value).ownBlock ∧ k_ ≠ g441))) (Z18 HO444.out) (fun k_ hk_ => (⟨hk_, hk_.2.2⟩ : _ ∧ k_ ≠ g441))) hk (fun _ h => h.2)) (fun _ h => h.1)); have n1_ := A_ (Kd.R_mono (Kd.R_keep (IsS77.apart (show IsS77 w _ g441 t438 t449 t450 from by repeat (first | (with_reducible first | exact HI441.out | apply IsS77.alloc | apply IsS77.drewN | apply IsS77.drew | apply IsS77.set_1 | apply IsS77.set_2) | exact HI441.out)) (Z13 HO447.out) (by decide)) hk (fun _ h => h.2)) (fun _ h => h.1)); have n2_ := A_ (hb); have n3_ := A_ (hi); clear HO444; clear HO447; clear HB; clear HI441; have HO444 := n0_; have HO447 := n1_; have HB := n2_; have HI441 := n3_; clear n0_ n1_ n2_ n3_; (try clear hb); (try clear hb2); (try clear hk); (try clear hi)) | ((with_reducible refine gate_callee (f := 58) rfl ?_); refine goesL_ (some 21) rfl rfl Try.func58 (by kernel_rfl) rfl #[.pointer (some ⟨g441, 0, none⟩)] rfl Z3 ?_; (with_reducible refine (spec_source_rarely.calls k g441 t438 t452 t453 false t455 t456 w _ ?side1 ?side2 A6.out).mono ?_); (case side1 => exact Z8 HI441.out); (case side2 => exact Z4 HI441.out); rintro e w20 ⟨rfl, hi, hb, hk⟩; refine ⟨_, rfl, ?_⟩; have n0_ := A_ (Kd.N_mono (Kd.N_keep (Kd.N_mono (ok := fun k_ => (((w.heap.size ≤ k_)) ∧ (some k_ ≠ (v446 : Value).ownBlock ∧ k_ ≠ g441))) (Z18 HO444.out) (fun k_ hk_ => (⟨hk_, hk_.2.2⟩ : _ ∧ k_ ≠ g441))) hk (fun _ h => h.2)) (fun _ h => h.1)); have n1_ := A_ (Kd.R_mono (Kd.R_keep (IsS77.apart (show IsS77 w _ g441 t438 t452 t453 from by repeat (first | (with_reducible first | exact HI441.out | apply IsS77.alloc | apply IsS77.drewN | apply IsS77.drew | apply IsS77.set_1 | apply IsS77.set_2) | exact HI441.out)) (Z13 HO447.out) (by decide)) hk (fun _ h => h.2)) (fun _ h => h.1)); have n2_ := A_ (hb); have n3_ := A_ (hi); clear HO444; clear HO447; clear HB; clear HI441; have HO444 := n0_; have HO447 := n1_; have HB := n2_; have HI441 := n3_; clear n0_ n1_ n2_ n3_; (try clear hb); (try clear hb2); (try clear hk); (try clear hi)) | ((with_reducible refine gate_callee (f := 59) rfl ?_); refine goesL_ (some 26) rfl rfl Try.func59 (by kernel_rfl) rfl #[.pointer (some ⟨g441, 0, none⟩), .int .i64 t451] rfl Z3 ?_; (with_reducible refine (spec_source_goods.calls k g441 t438 t455 t456 t451 t462 t465 t466 w _ ?side1 ?side2 A15.out).mono ?_); (case side1 => exact Z8 HI441.out); (case side2 => exact Z4 HI441.out); rintro e w21 ⟨v463, rfl, ho0, hi, hb, hk⟩; refine ⟨_, rfl, ?_⟩; have n0_ := A_ (Kd.N_mono (Kd.N_told (Kd.N_oldK (Kd.N_mono (ok := fun k_ => (((w.heap.size ≤ k_)) ∧ (some k_ ≠ (v446 : Value).ownBlock ∧ k_ ≠ g441))) (Z18 HO444.out) (fun k_ hk_ => (⟨hk_, hk_.2.2⟩ : _ ∧ k_ ≠ g441))) hk) (Kd.R_base ho0)) (fun _ h_ => h_.1)); have n1_ := A_ (Kd.R_mono (Kd.R_keep (IsS77.apart (show IsS77 w _ g441 t438 t455 t456 from by repeat (first | (with_reducible first | exact HI441.out | apply IsS77.alloc | apply IsS77.drewN | apply IsS77.drew | apply IsS77.set_1 | apply IsS77.set_2) | exact HI441.out)) (Z13 HO447.out) (by decide)) hk (fun _ h => h.2)) (fun _ h => h.1)); have n2_ := A_ (Kd.R_lower (Kd.R_newM (M := fun k_ => (w.heap.size ≤ k_)) ho0 (below_size (Z4 HI441.out)) (fun k_ h_ => h_)) (below_size (Z4 HI441.out))); have n3_ := A_ (hb); have n4_ := A_ (hi); clear HO444; clear HO447; clear HB; clear HI441; have HO444 := n0_; have HO447 := n1_; have HO464 := n2_; have HB := n3_; have HI441 := n4_; clear n0_ n1_ n2_ n3_ n4_; (try clear hb); (try clear hb2); (try clear hk); (try clear hi); (try clear ho0)))
  go_ret3
  exact ⟨_, _, _, Z16, by (with_reducible repeat (first | apply Kd.N_alloc | apply Kd.N_drewN | apply Kd.N_drew)); exact Kd.N_mono HO444.out (fun _ hk => ⟨hk.1.1, ⟨hk.1.2.1, hk.2⟩⟩), Z40 HO447.out, Z40 HO464.out, Z4 HI441.out⟩
def spec_validValues.l0 : Nat → List (S28) → Int → Option (Bool)
 | 0, _, _ => none
 | k + 1, x0, x3 => if x3 < (x0.length : Int) then (if 0 ≤ x3 then ((spec_validValue.f k ((rd_T28 x0 x3).f0) ((rd_T28 x0 x3).f1) ((rd_T28 x0 x3).f2)).bind fun t468 => (if t468 = true then (spec_validValues.l0 k x0 (wrap64 (x3 + 1))) else (some false))) else (none)) else (some true)
def spec_validValues.f (k : Nat) (l0 : List (S28)) : Option (Bool) := spec_validValues.l0 k l0 0
theorem spec_validValues.mono_l : ∀ k, (∀ y0 y1, LeO (spec_validValues.l0 k y0 y1) (spec_validValues.l0 (k + 1) y0 y1))
 | 0 => fun _ _ r h => by simp [spec_validValues.l0] at h
 | k + 1 => by
  have ih0 := spec_validValues.mono_l k
  ·intro y0 y1
   unfold spec_validValues.l0
   repeat' first
   | (with_reducible exact ih0 _ _)
   | (with_reducible exact spec_validValue.mono _ _ _ _)
   | (with_reducible exact LeO.refl _)
   | (with_reducible exact LeO.none _)
   | (with_reducible refine LeO.ite ?_ ?_)
   | (with_reducible refine LeO.bind ?_ (fun _ => ?_))
   | exact ih0 _ _
   | exact spec_validValue.mono _ _ _ _
   | exact LeO.none _
   | refine LeO.ite ?_ ?_
   | refine LeO.bind ?_ (fun _ => ?_)
theorem spec_validValues.mono : ∀ a0 k, LeO (spec_validValues.f k a0) (spec_validValues.f (k + 1) a0) := by
 intro a0 k
 have ih0 := spec_validValues.mono_l k
 unfold spec_validValues.f
 repeat' first
   | (with_reducible exact ih0 _ _)
   | (with_reducible exact spec_validValue.mono _ _ _ _)
   | (with_reducible exact LeO.refl _)
   | (with_reducible exact LeO.none _)
   | (with_reducible refine LeO.ite ?_ ?_)
   | (with_reducible refine LeO.bind ?_ (fun _ => ?_))
   | exact ih0 _ _
   | exact spec_validValue.mono _ _ _ _
   | exact LeO.none _
   | refine LeO.ite ?_ ?_
   | refine LeO.bind ?_ (fun _ => ?_)
set_option maxHeartbeats 8000000 in
set_option maxRecDepth 100000 in
theorem spec_validValues.calls (k : Nat) (A0 : Option Addr) (c0 : Nat) (l0 : List (S28)) (r : Bool) (w : World) (hr0 : Kd.C k28 w A0 l0.length l0) (hc0 : l0.length ≤ c0) (h : spec_validValues.f k l0 = some r) :
  Calls Try.prog 60 #[.slice A0 l0.length c0] w fun e w' => e = .returned (.bool r) ∧ Below w.heap.size w w' := by
 have hu28 := Try.underlying28
 have HR0 := A_ hr0
 have HC0 := A_ hc0
 clear hr0 hc0
 have HB := A_ (Below.refl w.heap.size w)
 have H : (spec_validValues.l0 k l0 0) = some r := h
 clear h
 have H' := A_ H
 clear H
 go_enter Try.func60, Try.ntmps60
 go_wp2
 go_loopg [3] k (fun kq v3 w' => ∃ (x3_1 : Int), v3 = .int .i64 x3_1 ∧ Aside0 (spec_validValues.l0 kq l0 x3_1 = some r) ∧ Aside0 (kq ≤ k) ∧ Aside0 (Below w.heap.size w w'))
 case atStart => exact ⟨(0), Z21, H', ⟨Nat.le_refl _⟩, ⟨Z1⟩⟩
 case round =>
  clear H'
  obtain ⟨x3_1, rfl, HA, HK1, HB⟩ := hrel
  cases gk with
  | zero => exact absurd HA.out (by simp [spec_validValues.l0])
  | succ k1 =>
   have H := HA.out
   clear HA
   simp only [spec_validValues.l0] at H
   by_cases c2 : x3_1 < (l0.length : Int)
   ·rw [if_pos c2] at H
    have c2b0 : decide (x3_1 < (l0.length : Int)) = true := decide_eq_true c2
    clear c2
    by_cases c3 : 0 ≤ x3_1
    ·rw [if_pos c3] at H
     have c3b0 : decide (0 ≤ x3_1) = true := decide_eq_true c3
     clear c3
     replace H := Option.bind_eq_some_iff.mp H
     obtain ⟨t468, A40, H⟩ := H
     replace H : (if t468 = true then (spec_validValues.l0 k1 l0 (wrap64 (x3_1 + 1))) else (some false)) = some r := H
     have A4 := A_ A40
     clear A40
     by_cases c5 : t468 = true
     ·subst c5
      have H1 : (spec_validValues.l0 k1 l0 (wrap64 (x3_1 + 1))) = some r := by rw [if_pos rfl] at H; exact H
      clear H
      have H := H1
      clear H1
      have H' := A_ H
      clear H
      have p467 : 0 ≤ (x3_1 : Int) := of_decide_eq_true Z14
      have q467 : x3_1 < (l0.length : Int) := of_decide_eq_true Z14
      obtain ⟨ad467, e467, hx467_0, hx467_1, hx467_2⟩ := at_T28 HR0.out x3_1 p467 q467
      cases e467
      replace hx467_0 := ZC HB.out hx467_0
      replace hx467_1 := ZC HB.out hx467_1
      replace hx467_2 := ZC HB.out hx467_2
      replace p467 := eq_true p467
      replace q467 := eq_true q467
      go_wp2_with (first | ((with_reducible refine gate_callee (f := 66) rfl ?_); refine goesL_ (some 14) rfl rfl Try.func66 (by kernel_rfl) rfl #[.agg #[.int .i64 ((rd_T28 l0 x3_1).f0), .int .i64 ((rd_T28 l0 x3_1).f1), .string ((rd_T28 l0 x3_1).f2)]] rfl Z3 ?_; (with_reducible refine (spec_validValue.calls k1 ((rd_T28 l0 x3_1).f0) ((rd_T28 l0 x3_1).f1) ((rd_T28 l0 x3_1).f2) true _ A4.out).mono ?_); rintro e w6 ⟨rfl, hb⟩; refine ⟨_, rfl, ?_⟩; have n0_ := A_ (below_step Z1 hb); clear HB; have HB := n0_; clear n0_; (try clear hb); (try clear hb2); (try clear hk); (try clear hi)))
      go_roundg k1
      case measure => have := HK1.out; omega
      case rel => exact ⟨(wrap64 (x3_1 + 1)), Z21, H', ⟨by have := HK1.out; omega⟩, ⟨Z1⟩⟩
     ·replace c5 := Bool.eq_false_iff.mpr c5
      subst c5
      have H1 : (some false) = some r := by rw [if_neg (show ¬ (false = true) by decide)] at H; exact H
      clear H
      have H := H1
      clear H1
      obtain rfl := Option.some.inj H
      have p467 : 0 ≤ (x3_1 : Int) := of_decide_eq_true Z14
      have q467 : x3_1 < (l0.length : Int) := of_decide_eq_true Z14
      obtain ⟨ad467, e467, hx467_0, hx467_1, hx467_2⟩ := at_T28 HR0.out x3_1 p467 q467
      cases e467
      replace hx467_0 := ZC HB.out hx467_0
      replace hx467_1 := ZC HB.out hx467_1
      replace hx467_2 := ZC HB.out hx467_2
      replace p467 := eq_true p467
      replace q467 := eq_true q467
      go_wp2_with (first | ((with_reducible refine gate_callee (f := 66) rfl ?_); refine goesL_ (some 14) rfl rfl Try.func66 (by kernel_rfl) rfl #[.agg #[.int .i64 ((rd_T28 l0 x3_1).f0), .int .i64 ((rd_T28 l0 x3_1).f1), .string ((rd_T28 l0 x3_1).f2)]] rfl Z3 ?_; (with_reducible refine (spec_validValue.calls k1 ((rd_T28 l0 x3_1).f0) ((rd_T28 l0 x3_1).f1) ((rd_T28 l0 x3_1).f2) false _ A4.out).mono ?_); rintro e w7 ⟨rfl, hb⟩; refine ⟨_, rfl, ?_⟩; have n0_ := A_ (below_step Z1 hb); clear HB; have HB := n0_; clear n0_; (try clear hb); (try clear hb2); (try clear hk); (try clear hi)))
      go_ret
      exact ⟨Z16, Z1⟩
    ·rw [if_neg c3] at H
     exact absurd H (by simp)
   ·rw [if_neg c2] at H
    have c2b0 : decide (x3_1 < (l0.length : Int)) = false := decide_eq_false c2
    clear c2
    obtain rfl := Option.some.inj H
    go_wp2
    go_ret
    exact ⟨Z16, Z1⟩
end Go.Proofs.Ytheifobeaemegaa.PFnStorePut
