/- Walks of the functions that the law 'FnStoreGet' reaches, part 11: for each a Lean function and the proof that Go's comes to just its answer (lines of the print, under own names; no condition). -/
import Derived.Test.YtheifobeaemegaaZFnStoreGetQFnStoreGetx0
import Derived.Test.YtheifobeaemegaaZFnStoreGetQFnStoreGetx7
import Derived.Test.YtheifobeaemegaaZFnStoreGetQFnStoreGetx8
import Derived.Test.YtheifobeaemegaaZFnStoreGetQFnStoreGetx9
import Derived.Test.YtheifobeaemegaaZFnStoreGetQFnStoreGetx10
namespace Go.Proofs.Ytheifobeaemegaa.PFnStoreGet
open Go.RowKit Go.Proofs.YtheifobeaemegaaW.PrintWords Go.Proofs.YtheifobeaemegaaW.PrintLast Go.Proofs.YtheifobeaemegaaW.PrintMore
attribute [local go_sem] max2_int min2_int max_two min_two max_three min_three max_four min_four
set_option linter.unusedVariables false
set_option linter.unusedSimpArgs false
def spec_source_cells.l0 : Nat → List (S41) → Int → List Int → Int → Int → Option ((List (S41)) × Int × Int)
 | 0, _, _, _, _, _ => none
 | k + 1, x3, x4, x1000, x1001, x1002 => if x4 > 0 then ((spec_source_slots.f k x1000 x1001 x1002).bind fun bt334 => ((spec_source_pick.f k x1000 bt334.2.1 bt334.2.2 4).bind fun bt339 => ((spec_source_goods.f k x1000 bt339.2.1 bt339.2.2 bt339.1).bind fun bt342 => ((spec_validPlace.f k bt334.1).bind fun t348 => (if t348 = true then ((spec_put.f k x3 bt334.1 bt342.1).bind fun t349 => (spec_source_cells.l0 k t349 (wrap64 (x4 - 1)) x1000 bt342.2.1 bt342.2.2)) else (spec_source_cells.l0 k x3 (wrap64 (x4 - 1)) x1000 bt342.2.1 bt342.2.2)))))) else (some (x3, x1001, x1002))
def spec_source_cells.f (k : Nat) (s0_0 : List Int) (s0_1 : Int) (s0_2 : Int) : Option ((List (S41)) × Int × Int) := (spec_source_pick.f k s0_0 s0_1 s0_2 5).bind fun bt331 => (spec_source_cells.l0 k (([] : List (S41))) bt331.1 s0_0 bt331.2.1 bt331.2.2)
theorem spec_source_cells.mono_l : ∀ k, (∀ y0 y1 y2 y3 y4, LeO (spec_source_cells.l0 k y0 y1 y2 y3 y4) (spec_source_cells.l0 (k + 1) y0 y1 y2 y3 y4))
 | 0 => fun _ _ _ _ _ r h => by simp [spec_source_cells.l0] at h
 | k + 1 => by
  have ih0 := spec_source_cells.mono_l k
  ·intro y0 y1 y2 y3 y4
   unfold spec_source_cells.l0
   repeat' first
   | (with_reducible exact ih0 _ _ _ _ _)
   | (with_reducible exact spec_put.mono _ _ _ _)
   | (with_reducible exact spec_source_goods.mono _ _ _ _ _)
   | (with_reducible exact spec_source_pick.mono _ _ _ _ _)
   | (with_reducible exact spec_source_slots.mono _ _ _ _)
   | (with_reducible exact spec_validPlace.mono _ _)
   | (with_reducible exact LeO.refl _)
   | (with_reducible exact LeO.none _)
   | (with_reducible refine LeO.ite ?_ ?_)
   | (with_reducible refine LeO.bind ?_ (fun _ => ?_))
   | exact ih0 _ _ _ _ _
   | exact spec_put.mono _ _ _ _
   | exact spec_source_goods.mono _ _ _ _ _
   | exact spec_source_pick.mono _ _ _ _ _
   | exact spec_source_slots.mono _ _ _ _
   | exact spec_validPlace.mono _ _
   | exact LeO.none _
   | refine LeO.ite ?_ ?_
   | refine LeO.bind ?_ (fun _ => ?_)
theorem spec_source_cells.mono : ∀ a0 a1 a2 k, LeO (spec_source_cells.f k a0 a1 a2) (spec_source_cells.f (k + 1) a0 a1 a2) := by
 intro a0 a1 a2 k
 have ih0 := spec_source_cells.mono_l k
 unfold spec_source_cells.f
 repeat' first
   | (with_reducible exact ih0 _ _ _ _ _)
   | (with_reducible exact spec_put.mono _ _ _ _)
   | (with_reducible exact spec_source_goods.mono _ _ _ _ _)
   | (with_reducible exact spec_source_pick.mono _ _ _ _ _)
   | (with_reducible exact spec_source_slots.mono _ _ _ _)
   | (with_reducible exact spec_validPlace.mono _ _)
   | (with_reducible exact LeO.refl _)
   | (with_reducible exact LeO.none _)
   | (with_reducible refine LeO.ite ?_ ?_)
   | (with_reducible refine LeO.bind ?_ (fun _ => ?_))
   | exact ih0 _ _ _ _ _
   | exact spec_put.mono _ _ _ _
   | exact spec_source_goods.mono _ _ _ _ _
   | exact spec_source_pick.mono _ _ _ _ _
   | exact spec_source_slots.mono _ _ _ _
   | exact spec_validPlace.mono _ _
   | exact LeO.none _
   | refine LeO.ite ?_ ?_
   | refine LeO.bind ?_ (fun _ => ?_)
set_option maxHeartbeats 8000000 in
set_option maxRecDepth 100000 in
theorem spec_source_cells.calls (k : Nat) (g : Nat) (s0_0 : List Int) (s0_1 : Int) (s0_2 : Int) (r1 : List (S41)) (r2 : Int) (r3 : Int) (w0 w : World) (hI : IsS77 w0 w g s0_0 s0_1 s0_2) (hB : Below w0.heap.size w0 w) (h : spec_source_cells.f k s0_0 s0_1 s0_2 = some (r1, r2, r3)) :
  Calls Try.prog 42 #[.pointer (some ⟨g, 0, none⟩)] w fun e w' => ∃ v0_ : Value, e = .returned (v0_) ∧ Kd.N k41 41 w' w.heap.size (fun k_ => (w.heap.size ≤ k_)) v0_ r1 ∧ IsS77 w0 w' g s0_0 r2 r3 ∧ Below w0.heap.size w0 w' ∧ KeepBut w w' g none := by
 have hu41 := Try.underlying41
 have HI0 := A_ hI
 have HK := A_ (KeepBut.refl w g none)
 have HL := A_ hB.size
 clear hI
 have HW0 := A_ hB.size
 have HB := A_ hB
 clear hB
 have H : ((spec_source_pick.f k s0_0 s0_1 s0_2 5).bind fun bt331 => (spec_source_cells.l0 k (([] : List (S41))) bt331.1 s0_0 bt331.2.1 bt331.2.2)) = some (r1, r2, r3) := h
 clear h
 obtain ⟨y328, hy328⟩ : ∃ y_ : List (S41), y_ = (([] : List (S41))) := ⟨_, rfl⟩
 replace H : ((spec_source_pick.f k s0_0 s0_1 s0_2 5).bind fun bt331 => (spec_source_cells.l0 k y328 bt331.1 s0_0 bt331.2.1 bt331.2.2)) = some (r1, r2, r3) := by first | (rw [hy328]; with_reducible exact H) | (have H2_ := (Option.bind_some _ _).symm.trans H; rw [hy328]; with_reducible exact H2_) | (have H2_ := (Option.bind_some _ _).symm.trans H; with_reducible exact H2_) | with_reducible exact H | (rw [hy328]; exact H) | exact H
 have Ny328 := A_ hy328
 clear hy328
 replace H := Option.bind_eq_some_iff.mp H
 obtain ⟨⟨t331, t332, t333⟩, A20, H⟩ := H
 replace H : (spec_source_cells.l0 k y328 t331 s0_0 t332 t333) = some (r1, r2, r3) := H
 have A2 := A_ A20
 clear A20
 have H' := A_ H
 clear H
 go_enter Try.func42, Try.ntmps42
 go_wp2_with (first | ((with_reducible refine gate_dst (N := 6) rfl ?_); refine Kd.N_lit k41 _ 41 ?hg (N' := 6) ?hd (xs := ([] : List (S41))) (inner := []) (ok := (fun k_ => (w.heap.size ≤ k_) ∧ k_ ≠ g)) (okp := (fun k_ => (w.heap.size ≤ k_) ∧ k_ ≠ g)) ?hr ?hp (fun _ hk => hk) ((show ∀ k_, w.heap.size ≤ k_ → (fun k_ => (w.heap.size ≤ k_) ∧ k_ ≠ g) k_ from fun k_ hk => ⟨(Nat.le_trans (keep_size (w := w) (g := g) (row := none) Z6) hk), IsS77.fresh (Z12 HI0.out) k_ hk⟩) _ (Nat.le_refl _)) (Below.refl _ _) (Nat.le_refl _) (by simp) ?_; (case hd => rfl); (case hg => rfl); (case hr => exact Z27); (case hp => exact (Reps.none _ _)); intro v329 w3 ho4 hb hg_ hnew_; clear hg_ hnew_; (first | rw [← Ny328.out] at ho4 | (simp only [Int.reduceToNat] at ho4; rw [← Ny328.out] at ho4)); have n0_ := A_ (Kd.N_lower ho4 (keep_size (w := w) (g := g) (row := none) Z6)); have n1_ := A_ (IsS77.below (Z12 HI0.out) hb); have n2_ := A_ (KeepBut.trans Z6 (KeepBut.of_below hb g none) (.inl rfl)); have n3_ := A_ (below_step (Z7 HI0.out) hb); clear HI0; clear HK; clear HB; have HO330 := n0_; have HI0 := n1_; have HK := n2_; have HB := n3_; clear n0_ n1_ n2_ n3_; clear hb ho4) | ((with_reducible refine gate_callee (f := 38) rfl ?_); refine goesL_ (some 8) rfl rfl Try.func38 (by kernel_rfl) rfl #[.pointer (some ⟨g, 0, none⟩), .int .i64 5] rfl Z3 ?_; (with_reducible refine (spec_source_pick.calls k g s0_0 s0_1 s0_2 5 t331 t332 t333 w0 _ ?side1 ?side2 A2.out).mono ?_); (case side1 => exact Z12 HI0.out); (case side2 => exact Z7 HI0.out); rintro e w5 ⟨rfl, hi, hb, hk⟩; refine ⟨_, rfl, ?_⟩; have n0_ := A_ (Kd.N_mono (Kd.N_keep (Kd.N_mono (ok := fun k_ => (((w.heap.size ≤ k_)) ∧ k_ ≠ g)) (Z23 HO330.out) (fun k_ hk_ => (⟨hk_, hk_.2⟩ : _ ∧ k_ ≠ g))) hk (fun _ h => h.2)) (fun _ h => h.1)); have n1_ := A_ (KeepBut.trans Z6 hk (.inl rfl)); have n2_ := A_ (hb); have n3_ := A_ (hi); clear HO330; clear HK; clear HB; clear HI0; have HO330 := n0_; have HK := n1_; have HB := n2_; have HI0 := n3_; clear n0_ n1_ n2_ n3_; (try clear hb); (try clear hb2); (try clear hk); (try clear hi)))
 go_loopg [3, 4] k (fun kq v3 v4 w' => ∃ (x3_1 : List (S41)) (x4_1 : Int) (x1001_1 : Int) (x1002_1 : Int), v4 = .int .i64 x4_1 ∧ Aside0 (spec_source_cells.l0 kq x3_1 x4_1 s0_0 x1001_1 x1002_1 = some (r1, r2, r3)) ∧ Aside0 (kq ≤ k) ∧ Aside0 (Kd.N k41 41 w' w.heap.size (fun k_ => (w.heap.size ≤ k_) ∧ k_ ≠ g) v3 x3_1) ∧ Aside0 (IsS77 w0 w' g s0_0 x1001_1 x1002_1) ∧ Aside0 (KeepBut w w' g none) ∧ Aside0 (Below w0.heap.size w0 w'))
 case atStart => exact ⟨(y328), (t331), (t332), (t333), Z20, H', ⟨Nat.le_refl _⟩, ⟨Z23 HO330.out⟩, ⟨Z12 HI0.out⟩, ⟨Z6⟩, ⟨Z7 HI0.out⟩⟩
 case round =>
  clear H'
  try clear p2
  try clear c3
  try clear c4
  obtain ⟨x3_1, x4_1, x1001_1, x1002_1, rfl, HA, HK1, HO_3, HI0, HK, HB⟩ := hrel
  cases gk with
  | zero => exact absurd HA.out (by simp [spec_source_cells.l0])
  | succ k1 =>
   have H := HA.out
   clear HA
   simp only [spec_source_cells.l0] at H
   by_cases c6 : x4_1 > 0
   ·rw [if_pos c6] at H
    have c6b0 : decide (0 < x4_1) = true := decide_eq_true c6
    clear c6
    replace H := Option.bind_eq_some_iff.mp H
    obtain ⟨⟨t334, t337, t338⟩, A70, H⟩ := H
    replace H : ((spec_source_pick.f k1 s0_0 t337 t338 4).bind fun bt339 => ((spec_source_goods.f k1 s0_0 bt339.2.1 bt339.2.2 bt339.1).bind fun bt342 => ((spec_validPlace.f k1 t334).bind fun t348 => (if t348 = true then ((spec_put.f k1 x3_1 t334 bt342.1).bind fun t349 => (spec_source_cells.l0 k1 t349 (wrap64 (x4_1 - 1)) s0_0 bt342.2.1 bt342.2.2)) else (spec_source_cells.l0 k1 x3_1 (wrap64 (x4_1 - 1)) s0_0 bt342.2.1 bt342.2.2))))) = some (r1, r2, r3) := H
    have A7 := A_ A70
    clear A70
    replace H := Option.bind_eq_some_iff.mp H
    obtain ⟨⟨t339, t340, t341⟩, A80, H⟩ := H
    replace H : ((spec_source_goods.f k1 s0_0 t340 t341 t339).bind fun bt342 => ((spec_validPlace.f k1 t334).bind fun t348 => (if t348 = true then ((spec_put.f k1 x3_1 t334 bt342.1).bind fun t349 => (spec_source_cells.l0 k1 t349 (wrap64 (x4_1 - 1)) s0_0 bt342.2.1 bt342.2.2)) else (spec_source_cells.l0 k1 x3_1 (wrap64 (x4_1 - 1)) s0_0 bt342.2.1 bt342.2.2)))) = some (r1, r2, r3) := H
    have A8 := A_ A80
    clear A80
    replace H := Option.bind_eq_some_iff.mp H
    obtain ⟨⟨t342, t345, t346⟩, A90, H⟩ := H
    replace H : ((spec_validPlace.f k1 t334).bind fun t348 => (if t348 = true then ((spec_put.f k1 x3_1 t334 t342).bind fun t349 => (spec_source_cells.l0 k1 t349 (wrap64 (x4_1 - 1)) s0_0 t345 t346)) else (spec_source_cells.l0 k1 x3_1 (wrap64 (x4_1 - 1)) s0_0 t345 t346))) = some (r1, r2, r3) := H
    have A9 := A_ A90
    clear A90
    replace H := Option.bind_eq_some_iff.mp H
    obtain ⟨t348, A100, H⟩ := H
    replace H : (if t348 = true then ((spec_put.f k1 x3_1 t334 t342).bind fun t349 => (spec_source_cells.l0 k1 t349 (wrap64 (x4_1 - 1)) s0_0 t345 t346)) else (spec_source_cells.l0 k1 x3_1 (wrap64 (x4_1 - 1)) s0_0 t345 t346)) = some (r1, r2, r3) := H
    have A10 := A_ A100
    clear A100
    by_cases c11 : t348 = true
    ·subst c11
     have H1 : ((spec_put.f k1 x3_1 t334 t342).bind fun t349 => (spec_source_cells.l0 k1 t349 (wrap64 (x4_1 - 1)) s0_0 t345 t346)) = some (r1, r2, r3) := by rw [if_pos rfl] at H; exact H
     clear H
     have H := H1
     clear H1
     replace H := Option.bind_eq_some_iff.mp H
     obtain ⟨t349, A120, H⟩ := H
     replace H : (spec_source_cells.l0 k1 t349 (wrap64 (x4_1 - 1)) s0_0 t345 t346) = some (r1, r2, r3) := H
     have A12 := A_ A120
     clear A120
     have H' := A_ H
     clear H
     go_wp2_with (first | ((with_reducible refine gate_callee (f := 55) rfl ?_); refine goesL_ (some 14) rfl rfl Try.func55 (by kernel_rfl) rfl #[.pointer (some ⟨g, 0, none⟩)] rfl Z3 ?_; (with_reducible refine (spec_source_slots.calls k1 g s0_0 x1001_1 x1002_1 t334 t337 t338 w0 _ ?side1 ?side2 A7.out).mono ?_); (case side1 => exact Z12 HI0.out); (case side2 => exact Z7 HI0.out); rintro e w13 ⟨v335, rfl, ho0, hi, hb, hk⟩; refine ⟨_, rfl, ?_⟩; have n0_ := A_ (Kd.N_mono (Kd.N_told (Kd.N_oldK (Kd.N_mono (ok := fun k_ => (((w.heap.size ≤ k_)) ∧ k_ ≠ g)) (Z23 HO_3.out) (fun k_ hk_ => (⟨hk_, hk_.2⟩ : _ ∧ k_ ≠ g))) hk) (Kd.R_base ho0)) (fun _ h_ => h_.1)); have n1_ := A_ (Kd.R_lower (Kd.R_newM (M := fun k_ => (w.heap.size ≤ k_)) ho0 (keep_size (w := w) (g := g) (row := none) Z6) (fun k_ h_ => h_)) (keep_size (w := w) (g := g) (row := none) Z6)); have n2_ := A_ (KeepBut.trans Z6 hk (.inl rfl)); have n3_ := A_ (hb); have n4_ := A_ (hi); clear HO_3; clear HK; clear HB; clear HI0; have HO_3 := n0_; have HO336 := n1_; have HK := n2_; have HB := n3_; have HI0 := n4_; clear n0_ n1_ n2_ n3_ n4_; (try clear hb); (try clear hb2); (try clear hk); (try clear hi); (try clear ho0)) | ((with_reducible refine gate_callee (f := 38) rfl ?_); refine goesL_ (some 17) rfl rfl Try.func38 (by kernel_rfl) rfl #[.pointer (some ⟨g, 0, none⟩), .int .i64 4] rfl Z3 ?_; (with_reducible refine (spec_source_pick.calls k1 g s0_0 t337 t338 4 t339 t340 t341 w0 _ ?side1 ?side2 A8.out).mono ?_); (case side1 => exact Z12 HI0.out); (case side2 => exact Z7 HI0.out); rintro e w14 ⟨rfl, hi, hb, hk⟩; refine ⟨_, rfl, ?_⟩; have n0_ := A_ (Kd.N_mono (Kd.N_keep (Kd.N_mono (ok := fun k_ => ((((w.heap.size ≤ k_)) ∧ k_ ≠ g) ∧ some k_ ≠ (v335 : Value).ownBlock)) (Z23 HO_3.out) (fun k_ hk_ => (⟨hk_, hk_.1.2⟩ : _ ∧ k_ ≠ g))) hk (fun _ h => h.2)) (fun _ h => h.1)); have n1_ := A_ (Kd.R_mono (Kd.R_keep (IsS77.apart (show IsS77 w0 _ g s0_0 t337 t338 from by repeat (first | (with_reducible first | exact HI0.out | apply IsS77.alloc | apply IsS77.drewN | apply IsS77.drew | apply IsS77.set_1 | apply IsS77.set_2) | exact HI0.out)) (Z13 HO336.out) (by decide)) hk (fun _ h => h.2)) (fun _ h => h.1)); have n2_ := A_ (KeepBut.trans Z6 hk (.inl rfl)); have n3_ := A_ (hb); have n4_ := A_ (hi); clear HO_3; clear HO336; clear HK; clear HB; clear HI0; have HO_3 := n0_; have HO336 := n1_; have HK := n2_; have HB := n3_; have HI0 := n4_; clear n0_ n1_ n2_ n3_ n4_; (try clear hb); (try clear hb2); (try clear hk); (try clear hi)) | ((with_reducible refine gate_callee (f := 59) rfl ?_); refine goesL_ (some 18) rfl rfl Try.func59 (by kernel_rfl) rfl #[.pointer (some ⟨g, 0, none⟩), .int .i64 t339] rfl Z3 ?_; (with_reducible refine (spec_source_goods.calls k1 g s0_0 t340 t341 t339 t342 t345 t346 w0 _ ?side1 ?side2 A9.out).mono ?_); (case side1 => exact Z12 HI0.out); (case side2 => exact Z7 HI0.out); rintro e w15 ⟨v343, rfl, ho0, hi, hb, hk⟩; refine ⟨_, rfl, ?_⟩; have n0_ := A_ (Kd.N_mono (Kd.N_told (Kd.N_oldK (Kd.N_mono (ok := fun k_ => ((((w.heap.size ≤ k_)) ∧ k_ ≠ g) ∧ some k_ ≠ (v335 : Value).ownBlock)) (Z23 HO_3.out) (fun k_ hk_ => (⟨hk_, hk_.1.2⟩ : _ ∧ k_ ≠ g))) hk) (Kd.R_base ho0)) (fun _ h_ => h_.1)); have n1_ := A_ (Kd.R_mono (Kd.R_keep (IsS77.apart (show IsS77 w0 _ g s0_0 t340 t341 from by repeat (first | (with_reducible first | exact HI0.out | apply IsS77.alloc | apply IsS77.drewN | apply IsS77.drew | apply IsS77.set_1 | apply IsS77.set_2) | exact HI0.out)) (Z13 HO336.out) (by decide)) hk (fun _ h => h.2)) (fun _ h => h.1)); have n2_ := A_ (Kd.R_lower (Kd.R_newM (M := fun k_ => (w.heap.size ≤ k_)) ho0 (keep_size (w := w) (g := g) (row := none) Z6) (fun k_ h_ => h_)) (keep_size (w := w) (g := g) (row := none) Z6)); have n3_ := A_ (KeepBut.trans Z6 hk (.inl rfl)); have n4_ := A_ (hb); have n5_ := A_ (hi); clear HO_3; clear HO336; clear HK; clear HB; clear HI0; have HO_3 := n0_; have HO336 := n1_; have HO344 := n2_; have HK := n3_; have HB := n4_; have HI0 := n5_; clear n0_ n1_ n2_ n3_ n4_ n5_; (try clear hb); (try clear hb2); (try clear hk); (try clear hi); (try clear ho0); obtain ⟨Ao16, co16, eo16⟩ := Kd.R_slice HO344.out; subst eo16; obtain ⟨Ao17, co17, eo17⟩ := Kd.R_slice HO336.out; subst eo17) | ((with_reducible refine gate_dst (N := 5) rfl ?_); refine box_event ?hg (N := 5) ?hd (cs := #[.slice none 0 0, .slice none 0 0]) (t := 41) ?hr ?_; (case hd => rfl); (case hg => rfl); (case hr => exact Z27); intro gb347 hg w18 hbox hb; have n0_ := A_ (Kd.N_below (Kd.N_elderB (Z23 HO_3.out) gb347 (Nat.le_of_eq hg.symm)) hb); have n1_ := A_ (Kd.R_below (Z13 HO336.out) hb); have n2_ := A_ (Kd.R_below (Z13 HO344.out) hb); have n3_ := A_ (IsS77.below (Z12 HI0.out) hb); have n4_ := A_ (KeepBut.trans Z6 (KeepBut.of_below hb g none) (.inl rfl)); have n5_ := A_ (below_step (Z7 HI0.out) hb); have n6_ := A_ (hbox); have n7_ := A_ ((by rw [hg]; exact (keep_size (w := w) (g := g) (row := none) Z6) : w.heap.size ≤ gb347)); have n8_ := A_ ((Nat.le_trans HW0.out (by rw [hg]; exact (keep_size (w := w) (g := g) (row := none) Z6) : w.heap.size ≤ gb347) : w0.heap.size ≤ gb347)); have n9_ := A_ ((by rw [hg]; exact Nat.ne_of_lt (IsS77.lt (show IsS77 w0 _ g s0_0 t345 t346 from by repeat (first | (with_reducible first | exact HI0.out | apply IsS77.alloc | apply IsS77.drewN | apply IsS77.drew | apply IsS77.set_1 | apply IsS77.set_2) | exact HI0.out))) : g ≠ gb347)); have n10_ := A_ ((by rw [hg]; exact Nat.ne_of_gt (IsS77.lt (show IsS77 w0 _ g s0_0 t345 t346 from by repeat (first | (with_reducible first | exact HI0.out | apply IsS77.alloc | apply IsS77.drewN | apply IsS77.drew | apply IsS77.set_1 | apply IsS77.set_2) | exact HI0.out))) : gb347 ≠ g)); clear HO_3; clear HO336; clear HO344; clear HI0; clear HK; clear HB; have HO_3 := n0_; have HO336 := n1_; have HO344 := n2_; have HI0 := n3_; have HK := n4_; have HB := n5_; have BK347 := n6_; have GW347 := n7_; have GE347 := n8_; have NB0_347 := n9_; have NB347_0 := n10_; clear n0_ n1_ n2_ n3_ n4_ n5_ n6_ n7_ n8_ n9_ n10_; clear hb hbox hg; have hnb19 := NB347_0.out; have hnc19 := NB0_347.out; have hcz20_0 : w18.cell? ⟨gb347, 0, none⟩ = some (.slice none 0 0) := (blk_cell BK347.out 0).trans rfl; have hcz20_1 : w18.cell? ⟨gb347, 1, none⟩ = some (.slice none 0 0) := (blk_cell BK347.out 1).trans rfl; have hfz20_0 := blk_frozen BK347.out 0; have hfz20_1 := blk_frozen BK347.out 1) | ((with_reducible refine gate_callee (f := 51) rfl ?_); refine goesL_ (some 22) rfl rfl Try.func51 (by kernel_rfl) rfl #[.slice Ao17 t334.length co17] rfl Z3 ?_; (with_reducible refine (spec_validPlace.calls k1 _ _ t334 true _ ?side1 ?side2 A10.out).mono ?_); (case side1 => refine (Kd.R_reads' (e := 68) (base := w.heap.size) (ok := fun k_ => ((w.heap.size ≤ k_) ∧ True)) (n := t334.length) (c := co17) ?_).2.2; exact (by (with_reducible repeat (first | apply Kd.R_alloc | apply Kd.R_drewN | apply Kd.R_drew)); exact (Kd.R_mono (Kd.R_far (p := ⟨gb347, 1, none⟩) (Kd.R_far (p := ⟨gb347, 0, none⟩) (Kd.R_types HO336.out BK347.out (by decide)) (fun _ hk => hk.2) (.slice Ao17 t334.length co17)) (fun _ hk => hk.2) (.slice Ao16 t342.length co16)) (fun _ h_ => h_.1)))); (case side2 => exact (Kd.R_reads' HO336.out).2.1); rintro e w21 ⟨rfl, hb⟩; refine ⟨_, rfl, ?_⟩; have n0_ := A_ (Kd.N_below (by (with_reducible repeat (first | apply Kd.N_alloc | apply Kd.N_drewN | apply Kd.N_drew)); exact (Kd.N_mono (Kd.N_far (p := ⟨gb347, 1, none⟩) (Kd.N_far (p := ⟨gb347, 0, none⟩) (Kd.N_mono HO_3.out (fun k_ hk => (⟨hk, hk.2⟩ : _ ∧ k_ ≠ gb347))) (fun _ hk => hk.2) (.slice Ao17 t334.length co17)) (fun _ hk => hk.2) (.slice Ao16 t342.length co16)) (fun _ h_ => h_.1))) hb); have n1_ := A_ (Kd.R_below (by (with_reducible repeat (first | apply Kd.R_alloc | apply Kd.R_drewN | apply Kd.R_drew)); exact (Kd.R_mono (Kd.R_far (p := ⟨gb347, 1, none⟩) (Kd.R_far (p := ⟨gb347, 0, none⟩) (Kd.R_types HO336.out BK347.out (by decide)) (fun _ hk => hk.2) (.slice Ao17 t334.length co17)) (fun _ hk => hk.2) (.slice Ao16 t342.length co16)) (fun _ h_ => h_.1))) hb); have n2_ := A_ (Kd.R_below (by (with_reducible repeat (first | apply Kd.R_alloc | apply Kd.R_drewN | apply Kd.R_drew)); exact (Kd.R_mono (Kd.R_far (p := ⟨gb347, 1, none⟩) (Kd.R_far (p := ⟨gb347, 0, none⟩) (Kd.R_types HO344.out BK347.out (by decide)) (fun _ hk => hk.2) (.slice Ao17 t334.length co17)) (fun _ hk => hk.2) (.slice Ao16 t342.length co16)) (fun _ h_ => h_.1))) hb); have n3_ := A_ (IsS77.below (show IsS77 w0 ((w18.setCell ⟨gb347, 0, none⟩ (.slice Ao17 t334.length co17)).setCell ⟨gb347, 1, none⟩ (.slice Ao16 t342.length co16)) g s0_0 t345 t346 from by repeat (first | (with_reducible first | exact HI0.out | apply IsS77.alloc | apply IsS77.drewN | apply IsS77.drew | apply IsS77.set_1 | apply IsS77.set_2 | refine IsS77.far ?_ NB0_347.out _) | exact HI0.out)) hb); have n4_ := A_ (blk_below (g := gb347) (o := .cells #[.slice Ao17 t334.length co17, .slice Ao16 t342.length co16] 41 (0, 0)) (by (with_reducible repeat (first | refine blk_drewN ?_ _ | refine blk_drew ?_ | refine blk_alloc ?_ _)); refine blk_put (cs := #[.slice Ao17 t334.length co17, .slice none 0 0]) ?_ 1 _ rfl; (with_reducible repeat (first | refine blk_drewN ?_ _ | refine blk_drew ?_ | refine blk_alloc ?_ _)); refine blk_put (cs := #[.slice none 0 0, .slice none 0 0]) ?_ 0 _ rfl; (with_reducible repeat (first | refine blk_drewN ?_ _ | refine blk_drew ?_ | refine blk_alloc ?_ _)); exact BK347.out) hb); have n5_ := A_ (KeepBut.trans (Z19 GW347.out) (KeepBut.of_below hb g none) (.inl rfl)); have n6_ := A_ (below_step (Z21 HI0.out GE347.out) hb); clear HO_3; clear HO336; clear HO344; clear HI0; clear BK347; clear HK; clear HB; have HO_3 := n0_; have HO336 := n1_; have HO344 := n2_; have HI0 := n3_; have BK347 := n4_; have HK := n5_; have HB := n6_; clear n0_ n1_ n2_ n3_ n4_ n5_ n6_; (try clear hb); (try clear hb2); (try clear hk); (try clear hi); have hcz22_0 : w21.cell? ⟨gb347, 0, none⟩ = some (.slice Ao17 t334.length co17) := (blk_cell BK347.out 0).trans rfl; have hcz22_1 : w21.cell? ⟨gb347, 1, none⟩ = some (.slice Ao16 t342.length co16) := (blk_cell BK347.out 1).trans rfl; have hfz22_0 := blk_frozen BK347.out 0; have hfz22_1 := blk_frozen BK347.out 1; obtain ⟨Ao23, co23, eo23⟩ := Kd.N_slice HO_3.out; subst eo23) | ((with_reducible refine gate_callee (f := 61) rfl ?_); refine goesL_ (some 25) rfl rfl Try.func61 (by kernel_rfl) rfl #[.slice Ao23 x3_1.length co23, .agg #[.slice Ao17 t334.length co17, .slice Ao16 t342.length co16]] rfl Z3 ?_; (with_reducible refine (spec_put.calls k1 _ _ x3_1 _ _ t334 _ _ t342 t349 _ ?side1 ?side2 ?side3 ?side4 ?side5 ?side6 A12.out).mono ?_); (case side1 => exact Z33 HO_3.out); (case side2 => exact (Kd.N_reads' HO_3.out).2.1); (case side3 => exact Z25 HO336.out); (case side4 => exact (Kd.R_reads' HO336.out).2.1); (case side5 => exact Z25 HO344.out); (case side6 => exact (Kd.R_reads' HO344.out).2.1); rintro e w24 ⟨v350, rfl, ho0, hb⟩; refine ⟨_, rfl, ?_⟩; have n0_ := A_ (Kd.N_elder' (Z23 HO_3.out) (by first | exact Kd.N_base ho0 | exact Kd.S_base ho0) hb); have n1_ := A_ (Kd.R_below (Z13 HO336.out) hb); have n2_ := A_ (Kd.R_below (Z13 HO344.out) hb); have n3_ := A_ (Kd.N_lower (Kd.N_mono (ok' := fun k_ => (w.heap.size ≤ k_) ∧ some k_ ≠ (.slice Ao23 x3_1.length co23 : Value).ownBlock ∧ some k_ ≠ (.slice Ao17 t334.length co17 : Value).ownBlock ∧ some k_ ≠ (.slice Ao16 t342.length co16 : Value).ownBlock ∧ k_ ≠ gb347 ∧ k_ ≠ g) ho0 (fun k_ hk_ => ⟨(Nat.le_trans (keep_size (w := w) (g := g) (row := none) (Z19 GW347.out)) hk_), (Kd.fresh' (Kd.N_lt (Z23 HO_3.out)) k_ hk_), (Kd.fresh' (Kd.R_lt (Z13 HO336.out)) k_ hk_), (Kd.fresh' (Kd.R_lt (Z13 HO344.out)) k_ hk_), (Kd.freshB (g := gb347) (o := .cells #[.slice Ao17 t334.length co17, .slice Ao16 t342.length co16] 41 (0, 0)) (Z4 BK347.out) k_ hk_), (IsS77.fresh (Z22 HI0.out NB0_347.out) k_ hk_)⟩)) (keep_size (w := w) (g := g) (row := none) (Z19 GW347.out))); have n4_ := A_ (IsS77.below (Z22 HI0.out NB0_347.out) hb); have n5_ := A_ (blk_below (g := gb347) (o := .cells #[.slice Ao17 t334.length co17, .slice Ao16 t342.length co16] 41 (0, 0)) (Z4 BK347.out) hb); have n6_ := A_ (KeepBut.trans (Z19 GW347.out) (KeepBut.of_below hb g none) (.inl rfl)); have n7_ := A_ (below_step (Z21 HI0.out GE347.out) hb); clear HO_3; clear HO336; clear HO344; clear HI0; clear BK347; clear HK; clear HB; have HO_3 := n0_; have HO336 := n1_; have HO344 := n2_; have HO351 := n3_; have HI0 := n4_; have BK347 := n5_; have HK := n6_; have HB := n7_; clear n0_ n1_ n2_ n3_ n4_ n5_ n6_ n7_; (try clear hb); (try clear hb2); (try clear hk); (try clear hi); (try clear ho0)))
     go_roundg k1
     case measure => have := HK1.out; omega
     case rel => exact ⟨(t349), (wrap64 (x4_1 - 1)), (t345), (t346), Z20, H', ⟨by have := HK1.out; omega⟩, ⟨by (with_reducible repeat (first | apply Kd.N_alloc | apply Kd.N_drewN | apply Kd.N_drew)); exact Kd.N_mono HO351.out (fun _ hk => ⟨hk.1, hk.2.2.2.2.2⟩)⟩, ⟨Z22 HI0.out NB0_347.out⟩, ⟨Z19 GW347.out⟩, ⟨Z21 HI0.out GE347.out⟩⟩
    ·replace c11 := Bool.eq_false_iff.mpr c11
     subst c11
     have H1 : (spec_source_cells.l0 k1 x3_1 (wrap64 (x4_1 - 1)) s0_0 t345 t346) = some (r1, r2, r3) := by rw [if_neg (show ¬ (false = true) by decide)] at H; exact H
     clear H
     have H := H1
     clear H1
     have H' := A_ H
     clear H
     go_wp2_with (first | ((with_reducible refine gate_callee (f := 55) rfl ?_); refine goesL_ (some 14) rfl rfl Try.func55 (by kernel_rfl) rfl #[.pointer (some ⟨g, 0, none⟩)] rfl Z3 ?_; (with_reducible refine (spec_source_slots.calls k1 g s0_0 x1001_1 x1002_1 t334 t337 t338 w0 _ ?side1 ?side2 A7.out).mono ?_); (case side1 => exact Z12 HI0.out); (case side2 => exact Z7 HI0.out); rintro e w25 ⟨v335, rfl, ho0, hi, hb, hk⟩; refine ⟨_, rfl, ?_⟩; have n0_ := A_ (Kd.N_mono (Kd.N_told (Kd.N_oldK (Kd.N_mono (ok := fun k_ => (((w.heap.size ≤ k_)) ∧ k_ ≠ g)) (Z23 HO_3.out) (fun k_ hk_ => (⟨hk_, hk_.2⟩ : _ ∧ k_ ≠ g))) hk) (Kd.R_base ho0)) (fun _ h_ => h_.1)); have n1_ := A_ (Kd.R_lower (Kd.R_newM (M := fun k_ => (w.heap.size ≤ k_)) ho0 (keep_size (w := w) (g := g) (row := none) Z6) (fun k_ h_ => h_)) (keep_size (w := w) (g := g) (row := none) Z6)); have n2_ := A_ (KeepBut.trans Z6 hk (.inl rfl)); have n3_ := A_ (hb); have n4_ := A_ (hi); clear HO_3; clear HK; clear HB; clear HI0; have HO_3 := n0_; have HO336 := n1_; have HK := n2_; have HB := n3_; have HI0 := n4_; clear n0_ n1_ n2_ n3_ n4_; (try clear hb); (try clear hb2); (try clear hk); (try clear hi); (try clear ho0)) | ((with_reducible refine gate_callee (f := 38) rfl ?_); refine goesL_ (some 17) rfl rfl Try.func38 (by kernel_rfl) rfl #[.pointer (some ⟨g, 0, none⟩), .int .i64 4] rfl Z3 ?_; (with_reducible refine (spec_source_pick.calls k1 g s0_0 t337 t338 4 t339 t340 t341 w0 _ ?side1 ?side2 A8.out).mono ?_); (case side1 => exact Z12 HI0.out); (case side2 => exact Z7 HI0.out); rintro e w26 ⟨rfl, hi, hb, hk⟩; refine ⟨_, rfl, ?_⟩; have n0_ := A_ (Kd.N_mono (Kd.N_keep (Kd.N_mono (ok := fun k_ => ((((w.heap.size ≤ k_)) ∧ k_ ≠ g) ∧ some k_ ≠ (v335 : Value).ownBlock)) (Z23 HO_3.out) (fun k_ hk_ => (⟨hk_, hk_.1.2⟩ : _ ∧ k_ ≠ g))) hk (fun _ h => h.2)) (fun _ h => h.1)); have n1_ := A_ (Kd.R_mono (Kd.R_keep (IsS77.apart (show IsS77 w0 _ g s0_0 t337 t338 from by repeat (first | (with_reducible first | exact HI0.out | apply IsS77.alloc | apply IsS77.drewN | apply IsS77.drew | apply IsS77.set_1 | apply IsS77.set_2) | exact HI0.out)) (Z13 HO336.out) (by decide)) hk (fun _ h => h.2)) (fun _ h => h.1)); have n2_ := A_ (KeepBut.trans Z6 hk (.inl rfl)); have n3_ := A_ (hb); have n4_ := A_ (hi); clear HO_3; clear HO336; clear HK; clear HB; clear HI0; have HO_3 := n0_; have HO336 := n1_; have HK := n2_; have HB := n3_; have HI0 := n4_; clear n0_ n1_ n2_ n3_ n4_; (try clear hb); (try clear hb2); (try clear hk); (try clear hi)) | ((with_reducible refine gate_callee (f := 59) rfl ?_); refine goesL_ (some 18) rfl rfl Try.func59 (by kernel_rfl) rfl #[.pointer (some ⟨g, 0, none⟩), .int .i64 t339] rfl Z3 ?_; (with_reducible refine (spec_source_goods.calls k1 g s0_0 t340 t341 t339 t342 t345 t346 w0 _ ?side1 ?side2 A9.out).mono ?_); (case side1 => exact Z12 HI0.out); (case side2 => exact Z7 HI0.out); rintro e w27 ⟨v343, rfl, ho0, hi, hb, hk⟩; refine ⟨_, rfl, ?_⟩; have n0_ := A_ (Kd.N_mono (Kd.N_told (Kd.N_oldK (Kd.N_mono (ok := fun k_ => ((((w.heap.size ≤ k_)) ∧ k_ ≠ g) ∧ some k_ ≠ (v335 : Value).ownBlock)) (Z23 HO_3.out) (fun k_ hk_ => (⟨hk_, hk_.1.2⟩ : _ ∧ k_ ≠ g))) hk) (Kd.R_base ho0)) (fun _ h_ => h_.1)); have n1_ := A_ (Kd.R_mono (Kd.R_keep (IsS77.apart (show IsS77 w0 _ g s0_0 t340 t341 from by repeat (first | (with_reducible first | exact HI0.out | apply IsS77.alloc | apply IsS77.drewN | apply IsS77.drew | apply IsS77.set_1 | apply IsS77.set_2) | exact HI0.out)) (Z13 HO336.out) (by decide)) hk (fun _ h => h.2)) (fun _ h => h.1)); have n2_ := A_ (Kd.R_lower (Kd.R_newM (M := fun k_ => (w.heap.size ≤ k_)) ho0 (keep_size (w := w) (g := g) (row := none) Z6) (fun k_ h_ => h_)) (keep_size (w := w) (g := g) (row := none) Z6)); have n3_ := A_ (KeepBut.trans Z6 hk (.inl rfl)); have n4_ := A_ (hb); have n5_ := A_ (hi); clear HO_3; clear HO336; clear HK; clear HB; clear HI0; have HO_3 := n0_; have HO336 := n1_; have HO344 := n2_; have HK := n3_; have HB := n4_; have HI0 := n5_; clear n0_ n1_ n2_ n3_ n4_ n5_; (try clear hb); (try clear hb2); (try clear hk); (try clear hi); (try clear ho0); obtain ⟨Ao28, co28, eo28⟩ := Kd.R_slice HO344.out; subst eo28; obtain ⟨Ao29, co29, eo29⟩ := Kd.R_slice HO336.out; subst eo29) | ((with_reducible refine gate_dst (N := 5) rfl ?_); refine box_event ?hg (N := 5) ?hd (cs := #[.slice none 0 0, .slice none 0 0]) (t := 41) ?hr ?_; (case hd => rfl); (case hg => rfl); (case hr => exact Z27); intro gb347 hg w30 hbox hb; have n0_ := A_ (Kd.N_below (Kd.N_elderB (Z23 HO_3.out) gb347 (Nat.le_of_eq hg.symm)) hb); have n1_ := A_ (Kd.R_below (Z13 HO336.out) hb); have n2_ := A_ (Kd.R_below (Z13 HO344.out) hb); have n3_ := A_ (IsS77.below (Z12 HI0.out) hb); have n4_ := A_ (KeepBut.trans Z6 (KeepBut.of_below hb g none) (.inl rfl)); have n5_ := A_ (below_step (Z7 HI0.out) hb); have n6_ := A_ (hbox); have n7_ := A_ ((by rw [hg]; exact (keep_size (w := w) (g := g) (row := none) Z6) : w.heap.size ≤ gb347)); have n8_ := A_ ((Nat.le_trans HW0.out (by rw [hg]; exact (keep_size (w := w) (g := g) (row := none) Z6) : w.heap.size ≤ gb347) : w0.heap.size ≤ gb347)); have n9_ := A_ ((by rw [hg]; exact Nat.ne_of_lt (IsS77.lt (show IsS77 w0 _ g s0_0 t345 t346 from by repeat (first | (with_reducible first | exact HI0.out | apply IsS77.alloc | apply IsS77.drewN | apply IsS77.drew | apply IsS77.set_1 | apply IsS77.set_2) | exact HI0.out))) : g ≠ gb347)); have n10_ := A_ ((by rw [hg]; exact Nat.ne_of_gt (IsS77.lt (show IsS77 w0 _ g s0_0 t345 t346 from by repeat (first | (with_reducible first | exact HI0.out | apply IsS77.alloc | apply IsS77.drewN | apply IsS77.drew | apply IsS77.set_1 | apply IsS77.set_2) | exact HI0.out))) : gb347 ≠ g)); clear HO_3; clear HO336; clear HO344; clear HI0; clear HK; clear HB; have HO_3 := n0_; have HO336 := n1_; have HO344 := n2_; have HI0 := n3_; have HK := n4_; have HB := n5_; have BK347 := n6_; have GW347 := n7_; have GE347 := n8_; have NB0_347 := n9_; have NB347_0 := n10_; clear n0_ n1_ n2_ n3_ n4_ n5_ n6_ n7_ n8_ n9_ n10_; clear hb hbox hg; have hnb31 := NB347_0.out; have hnc31 := NB0_347.out; have hcz32_0 : w30.cell? ⟨gb347, 0, none⟩ = some (.slice none 0 0) := (blk_cell BK347.out 0).trans rfl; have hcz32_1 : w30.cell? ⟨gb347, 1, none⟩ = some (.slice none 0 0) := (blk_cell BK347.out 1).trans rfl; have hfz32_0 := blk_frozen BK347.out 0; have hfz32_1 := blk_frozen BK347.out 1) | ((with_reducible refine gate_callee (f := 51) rfl ?_); refine goesL_ (some 22) rfl rfl Try.func51 (by kernel_rfl) rfl #[.slice Ao29 t334.length co29] rfl Z3 ?_; (with_reducible refine (spec_validPlace.calls k1 _ _ t334 false _ ?side1 ?side2 A10.out).mono ?_); (case side1 => refine (Kd.R_reads' (e := 68) (base := w.heap.size) (ok := fun k_ => ((w.heap.size ≤ k_) ∧ True)) (n := t334.length) (c := co29) ?_).2.2; exact (by (with_reducible repeat (first | apply Kd.R_alloc | apply Kd.R_drewN | apply Kd.R_drew)); exact (Kd.R_mono (Kd.R_far (p := ⟨gb347, 1, none⟩) (Kd.R_far (p := ⟨gb347, 0, none⟩) (Kd.R_types HO336.out BK347.out (by decide)) (fun _ hk => hk.2) (.slice Ao29 t334.length co29)) (fun _ hk => hk.2) (.slice Ao28 t342.length co28)) (fun _ h_ => h_.1)))); (case side2 => exact (Kd.R_reads' HO336.out).2.1); rintro e w33 ⟨rfl, hb⟩; refine ⟨_, rfl, ?_⟩; have n0_ := A_ (Kd.N_below (by (with_reducible repeat (first | apply Kd.N_alloc | apply Kd.N_drewN | apply Kd.N_drew)); exact (Kd.N_mono (Kd.N_far (p := ⟨gb347, 1, none⟩) (Kd.N_far (p := ⟨gb347, 0, none⟩) (Kd.N_mono HO_3.out (fun k_ hk => (⟨hk, hk.2⟩ : _ ∧ k_ ≠ gb347))) (fun _ hk => hk.2) (.slice Ao29 t334.length co29)) (fun _ hk => hk.2) (.slice Ao28 t342.length co28)) (fun _ h_ => h_.1))) hb); have n1_ := A_ (Kd.R_below (by (with_reducible repeat (first | apply Kd.R_alloc | apply Kd.R_drewN | apply Kd.R_drew)); exact (Kd.R_mono (Kd.R_far (p := ⟨gb347, 1, none⟩) (Kd.R_far (p := ⟨gb347, 0, none⟩) (Kd.R_types HO336.out BK347.out (by decide)) (fun _ hk => hk.2) (.slice Ao29 t334.length co29)) (fun _ hk => hk.2) (.slice Ao28 t342.length co28)) (fun _ h_ => h_.1))) hb); have n2_ := A_ (Kd.R_below (by (with_reducible repeat (first | apply Kd.R_alloc | apply Kd.R_drewN | apply Kd.R_drew)); exact (Kd.R_mono (Kd.R_far (p := ⟨gb347, 1, none⟩) (Kd.R_far (p := ⟨gb347, 0, none⟩) (Kd.R_types HO344.out BK347.out (by decide)) (fun _ hk => hk.2) (.slice Ao29 t334.length co29)) (fun _ hk => hk.2) (.slice Ao28 t342.length co28)) (fun _ h_ => h_.1))) hb); have n3_ := A_ (IsS77.below (show IsS77 w0 ((w30.setCell ⟨gb347, 0, none⟩ (.slice Ao29 t334.length co29)).setCell ⟨gb347, 1, none⟩ (.slice Ao28 t342.length co28)) g s0_0 t345 t346 from by repeat (first | (with_reducible first | exact HI0.out | apply IsS77.alloc | apply IsS77.drewN | apply IsS77.drew | apply IsS77.set_1 | apply IsS77.set_2 | refine IsS77.far ?_ NB0_347.out _) | exact HI0.out)) hb); have n4_ := A_ (blk_below (g := gb347) (o := .cells #[.slice Ao29 t334.length co29, .slice Ao28 t342.length co28] 41 (0, 0)) (by (with_reducible repeat (first | refine blk_drewN ?_ _ | refine blk_drew ?_ | refine blk_alloc ?_ _)); refine blk_put (cs := #[.slice Ao29 t334.length co29, .slice none 0 0]) ?_ 1 _ rfl; (with_reducible repeat (first | refine blk_drewN ?_ _ | refine blk_drew ?_ | refine blk_alloc ?_ _)); refine blk_put (cs := #[.slice none 0 0, .slice none 0 0]) ?_ 0 _ rfl; (with_reducible repeat (first | refine blk_drewN ?_ _ | refine blk_drew ?_ | refine blk_alloc ?_ _)); exact BK347.out) hb); have n5_ := A_ (KeepBut.trans (Z19 GW347.out) (KeepBut.of_below hb g none) (.inl rfl)); have n6_ := A_ (below_step (Z21 HI0.out GE347.out) hb); clear HO_3; clear HO336; clear HO344; clear HI0; clear BK347; clear HK; clear HB; have HO_3 := n0_; have HO336 := n1_; have HO344 := n2_; have HI0 := n3_; have BK347 := n4_; have HK := n5_; have HB := n6_; clear n0_ n1_ n2_ n3_ n4_ n5_ n6_; (try clear hb); (try clear hb2); (try clear hk); (try clear hi)))
     go_roundg k1
     case measure => have := HK1.out; omega
     case rel => exact ⟨(x3_1), (wrap64 (x4_1 - 1)), (t345), (t346), Z20, H', ⟨by have := HK1.out; omega⟩, ⟨by (with_reducible repeat (first | apply Kd.N_alloc | apply Kd.N_drewN | apply Kd.N_drew)); exact Kd.N_mono HO_3.out (fun _ hk => ⟨hk.1.1.1.1, hk.1.1.1.2⟩)⟩, ⟨Z22 HI0.out NB0_347.out⟩, ⟨Z19 GW347.out⟩, ⟨Z21 HI0.out GE347.out⟩⟩
   ·rw [if_neg c6] at H
    have c6b0 : decide (0 < x4_1) = false := decide_eq_false c6
    clear c6
    simp only [Option.some.injEq, Prod.mk.injEq] at H
    obtain ⟨rfl, rfl, rfl⟩ := H
    go_wp2
    go_ret
    exact ⟨_, Z17, by (with_reducible repeat (first | apply Kd.N_alloc | apply Kd.N_drewN | apply Kd.N_drew)); exact Kd.N_mono HO_3.out (fun _ hk => hk.1), Z12 HI0.out, Z7 HI0.out, Z6⟩
def spec_DrawStoreGet.j0 : Nat → List (S41) → Bool → List Int → Int → Int → Option ((List (S41)) × (List (S68)))
 | 0, _, _, _, _, _ => none
 | k + 1, x5, x17, x356000, x356001, x356002 => if x17 = true then ((some (([] : List (S68)) : List (S68))).bind fun y364 => ((spec_source_pick.f k x356000 x356001 x356002 (x5.length : Int)).bind fun bt367 => (if 0 ≤ bt367.1 then (if bt367.1 < (x5.length : Int) then (if y364.length + ((rd_T41 x5 bt367.1).f0).length < 8796093022208 then (some (x5, (y364 ++ ((rd_T41 x5 bt367.1).f0)))) else (none)) else (none)) else (none)))) else ((spec_source_slots.f k x356000 x356001 x356002).bind fun bt374 => (some (x5, bt374.1)))
def spec_DrawStoreGet.f (k : Nat) (l0 : List Int) : Option ((List (S41)) × (List (S68))) := (spec_newSource.f l0).bind fun bt352 => ((spec_source_cells.f k bt352.1 bt352.2.1 bt352.2.2).bind fun bt356 => (if (bt356.1.length : Int) > 0 then ((spec_source_pick.f k bt352.1 bt356.2.1 bt356.2.2 3).bind fun bt361 => (spec_DrawStoreGet.j0 k bt356.1 (decide (bt361.1 > 0)) bt352.1 bt361.2.1 bt361.2.2)) else (spec_DrawStoreGet.j0 k bt356.1 false bt352.1 bt356.2.1 bt356.2.2)))
theorem spec_DrawStoreGet.mono_l : ∀ k, (∀ y0 y1 y2 y3 y4, LeO (spec_DrawStoreGet.j0 k y0 y1 y2 y3 y4) (spec_DrawStoreGet.j0 (k + 1) y0 y1 y2 y3 y4))
 | 0 => fun _ _ _ _ _ r h => by simp [spec_DrawStoreGet.j0] at h
 | k + 1 => by
  have ih0 := spec_DrawStoreGet.mono_l k
  ·intro y0 y1 y2 y3 y4
   unfold spec_DrawStoreGet.j0
   repeat' first
   | (with_reducible exact ih0 _ _ _ _ _)
   | (with_reducible exact spec_source_cells.mono _ _ _ _)
   | (with_reducible exact spec_source_pick.mono _ _ _ _ _)
   | (with_reducible exact spec_source_slots.mono _ _ _ _)
   | (with_reducible exact LeO.refl _)
   | (with_reducible exact LeO.none _)
   | (with_reducible refine LeO.ite ?_ ?_)
   | (with_reducible refine LeO.bind ?_ (fun _ => ?_))
   | exact ih0 _ _ _ _ _
   | exact spec_source_cells.mono _ _ _ _
   | exact spec_source_pick.mono _ _ _ _ _
   | exact spec_source_slots.mono _ _ _ _
   | exact LeO.none _
   | refine LeO.ite ?_ ?_
   | refine LeO.bind ?_ (fun _ => ?_)
theorem spec_DrawStoreGet.mono : ∀ a0 k, LeO (spec_DrawStoreGet.f k a0) (spec_DrawStoreGet.f (k + 1) a0) := by
 intro a0 k
 have ih0 := spec_DrawStoreGet.mono_l k
 unfold spec_DrawStoreGet.f
 repeat' first
   | (with_reducible exact ih0 _ _ _ _ _)
   | (with_reducible exact spec_source_cells.mono _ _ _ _)
   | (with_reducible exact spec_source_pick.mono _ _ _ _ _)
   | (with_reducible exact spec_source_slots.mono _ _ _ _)
   | (with_reducible exact LeO.refl _)
   | (with_reducible exact LeO.none _)
   | (with_reducible refine LeO.ite ?_ ?_)
   | (with_reducible refine LeO.bind ?_ (fun _ => ?_))
   | exact ih0 _ _ _ _ _
   | exact spec_source_cells.mono _ _ _ _
   | exact spec_source_pick.mono _ _ _ _ _
   | exact spec_source_slots.mono _ _ _ _
   | exact LeO.none _
   | refine LeO.ite ?_ ?_
   | refine LeO.bind ?_ (fun _ => ?_)
set_option maxHeartbeats 8000000 in
set_option maxRecDepth 100000 in
theorem spec_DrawStoreGet.calls (k : Nat) (A0 : Option Addr) (c0 : Nat) (l0 : List Int) (r1 : List (S41)) (r2 : List (S68)) (w : World) (hr0 : Kd.C (Kd.int .u8) w A0 l0.length l0) (hc0 : l0.length ≤ c0) (h : spec_DrawStoreGet.f k l0 = some (r1, r2)) :
  Calls Try.prog 26 #[.slice A0 l0.length c0] w fun e w' => ∃ v0_ v1_ : Value, e = .returned (.tuple #[v0_, v1_]) ∧ Kd.N k41 41 w' w.heap.size (fun k_ => (w.heap.size ≤ k_) ∧ some k_ ≠ (v1_ : Value).ownBlock) v0_ r1 ∧ Kd.R k68 68 w' w.heap.size (fun k_ => (w.heap.size ≤ k_)) v1_ r2 ∧ Below w.heap.size w w' := by
 have HR0 := A_ hr0
 have HC0 := A_ hc0
 clear hr0 hc0
 have HB := A_ (Below.refl w.heap.size w)
 have H : ((spec_newSource.f l0).bind fun bt352 => ((spec_source_cells.f k bt352.1 bt352.2.1 bt352.2.2).bind fun bt356 => (if (bt356.1.length : Int) > 0 then ((spec_source_pick.f k bt352.1 bt356.2.1 bt356.2.2 3).bind fun bt361 => (spec_DrawStoreGet.j0 k bt356.1 (decide (bt361.1 > 0)) bt352.1 bt361.2.1 bt361.2.2)) else (spec_DrawStoreGet.j0 k bt356.1 false bt352.1 bt356.2.1 bt356.2.2)))) = some (r1, r2) := h
 clear h
 replace H := Option.bind_eq_some_iff.mp H
 obtain ⟨⟨t352, t353, t354⟩, A20, H⟩ := H
 replace H : ((spec_source_cells.f k t352 t353 t354).bind fun bt356 => (if (bt356.1.length : Int) > 0 then ((spec_source_pick.f k t352 bt356.2.1 bt356.2.2 3).bind fun bt361 => (spec_DrawStoreGet.j0 k bt356.1 (decide (bt361.1 > 0)) t352 bt361.2.1 bt361.2.2)) else (spec_DrawStoreGet.j0 k bt356.1 false t352 bt356.2.1 bt356.2.2))) = some (r1, r2) := H
 have A2 := A_ A20
 clear A20
 replace H := Option.bind_eq_some_iff.mp H
 obtain ⟨⟨t356, t359, t360⟩, A30, H⟩ := H
 replace H : (if (t356.length : Int) > 0 then ((spec_source_pick.f k t352 t359 t360 3).bind fun bt361 => (spec_DrawStoreGet.j0 k t356 (decide (bt361.1 > 0)) t352 bt361.2.1 bt361.2.2)) else (spec_DrawStoreGet.j0 k t356 false t352 t359 t360)) = some (r1, r2) := H
 have A3 := A_ A30
 clear A30
 have HC4 := A_ H
 clear H
 go_enter Try.func26, Try.ntmps26
 go_upto_region 3 with (first | ((with_reducible refine gate_callee (f := 32) rfl ?_); refine goesL_ (some 7) rfl rfl Try.func32 (by kernel_rfl) rfl #[.slice A0 l0.length c0] rfl Z3 ?_; (with_reducible refine (spec_newSource.calls _ _ l0 t352 t353 t354 w _ ?side1 ?side2 ?side3 A2.out).mono ?_); (case side1 => exact Z1); (case side2 => exact HR0.out); (case side3 => exact HC0.out); rintro e w5 ⟨g355, rfl, hi, hb, hb2⟩; refine ⟨_, rfl, ?_⟩; have n0_ := A_ (hb); have n1_ := A_ (hi); clear HB; have HB := n0_; have HI355 := n1_; clear n0_ n1_; (try clear hb); (try clear hb2); (try clear hk); (try clear hi)) | ((with_reducible refine gate_callee (f := 42) rfl ?_); refine goesL_ (some 9) rfl rfl Try.func42 (by kernel_rfl) rfl #[.pointer (some ⟨g355, 0, none⟩)] rfl Z3 ?_; (with_reducible refine (spec_source_cells.calls k g355 t352 t353 t354 t356 t359 t360 w _ ?side1 ?side2 A3.out).mono ?_); (case side1 => exact Z12 HI355.out); (case side2 => exact Z7 HI355.out); rintro e w6 ⟨v357, rfl, ho0, hi, hb, hk⟩; refine ⟨_, rfl, ?_⟩; have n0_ := A_ (Kd.N_lower (Kd.N_mono (ok' := fun k_ => (w.heap.size ≤ k_) ∧ k_ ≠ g355) ho0 (fun k_ hk_ => ⟨(Nat.le_trans (below_size (Z7 HI355.out)) hk_), (IsS77.fresh (Z12 HI355.out) k_ hk_)⟩)) (below_size (Z7 HI355.out))); have n1_ := A_ (hb); have n2_ := A_ (hi); clear HB; clear HI355; have HO358 := n0_; have HB := n1_; have HI355 := n2_; clear n0_ n1_ n2_; (try clear hb); (try clear hb2); (try clear hk); (try clear hi); (try clear ho0)))
 (try simp only [Act.put, List.setIfInBounds_toArray, List.set_cons_zero, List.set_cons_succ])
 go_cut [17] (fun v17 wc => ∃ (kq : Nat) (x17_3 : Bool) (x356001_3 : Int) (x356002_3 : Int), v17 = .bool x17_3 ∧ Aside0 (spec_DrawStoreGet.j0 kq t356 x17_3 t352 x356001_3 x356002_3 = some (r1, r2)) ∧ Aside0 (kq ≤ k) ∧ Aside0 (Kd.N k41 41 wc w.heap.size (fun k_ => (w.heap.size ≤ k_) ∧ k_ ≠ g355) v357 t356) ∧ Aside0 (IsS77 w wc g355 t352 x356001_3 x356002_3) ∧ Aside0 (Below w.heap.size w wc))
 case first =>
  have H := HC4.out
  clear HC4
  by_cases c7 : (t356.length : Int) > 0
  ·rw [if_pos c7] at H
   have c7b0 : decide (0 < (t356.length : Int)) = true := decide_eq_true c7
   have c7b1 : decide (0 < t356.length) = true := decide_eq_true (by omega)
   clear c7
   (first | rw [c7b0] | (simp only [i64_w, i32_w]; rw [c7b0]) | skip)
   replace H := Option.bind_eq_some_iff.mp H
   obtain ⟨⟨t361, t362, t363⟩, A80, H⟩ := H
   replace H : (spec_DrawStoreGet.j0 k t356 (decide (t361 > 0)) t352 t362 t363) = some (r1, r2) := H
   have A8 := A_ A80
   clear A80
   have H' := A_ H
   clear H
   obtain ⟨Ao9, co9, eo9⟩ := Kd.N_slice HO358.out
   subst eo9
   go_wp2_with (first | (go_at_call 38; (with_reducible refine (spec_source_pick.calls k g355 t352 t359 t360 3 t361 t362 t363 w _ ?side1 ?side2 A8.out).mono ?_); (case side1 => exact Z12 HI355.out); (case side2 => exact Z7 HI355.out); rintro e w10 ⟨rfl, hi, hb, hk⟩; have n0_ := A_ (Kd.N_mono (Kd.N_keep (Kd.N_mono (ok := fun k_ => (((w.heap.size ≤ k_)) ∧ k_ ≠ g355)) (Z23 HO358.out) (fun k_ hk_ => (⟨hk_, hk_.2⟩ : _ ∧ k_ ≠ g355))) hk (fun _ h => h.2)) (fun _ h => h.1)); have n1_ := A_ (hb); have n2_ := A_ (hi); clear HO358; clear HB; clear HI355; have HO358 := n0_; have HB := n1_; have HI355 := n2_; clear n0_ n1_ n2_; (try clear hb); (try clear hb2); (try clear hk); (try clear hi)))
   go_meet
   case rel => exact ⟨_, (decide (t361 > 0)), (t362), (t363), Z20, H', ⟨by first | omega | exact Nat.le_refl _⟩, ⟨Z23 HO358.out⟩, ⟨Z12 HI355.out⟩, ⟨Z7 HI355.out⟩⟩
  ·rw [if_neg c7] at H
   have c7b0 : decide (0 < (t356.length : Int)) = false := decide_eq_false c7
   have c7b1 : decide (0 < t356.length) = false := decide_eq_false (by omega)
   clear c7
   (first | rw [c7b0] | (simp only [i64_w, i32_w]; rw [c7b0]) | skip)
   have H' := A_ H
   clear H
   obtain ⟨Ao11, co11, eo11⟩ := Kd.N_slice HO358.out
   subst eo11
   go_wp2
   go_meet
   case rel => exact ⟨_, (false), (t359), (t360), Z20, H', ⟨by first | omega | exact Nat.le_refl _⟩, ⟨Z23 HO358.out⟩, ⟨Z12 HI355.out⟩, ⟨Z7 HI355.out⟩⟩
 case rest =>
  clear HC4
  try clear c2
  try clear p2
  try clear c3
  try clear c4
  try clear c7
  try clear c7b0
  try clear c7b1
  obtain ⟨kq, x17_3, x356001_3, x356002_3, rfl, HA, HJ3, HO_5, HI355, HB⟩ := hcut
  cases kq with
  | zero => exact absurd HA.out (by simp [spec_DrawStoreGet.j0])
  | succ kj3 =>
   have H := HA.out
   clear HA
   simp only [spec_DrawStoreGet.j0] at H
   by_cases c12 : x17_3 = true
   ·subst c12
    have H1 : ((some (([] : List (S68)) : List (S68))).bind fun y364 => ((spec_source_pick.f kj3 t352 x356001_3 x356002_3 (t356.length : Int)).bind fun bt367 => (if 0 ≤ bt367.1 then (if bt367.1 < (t356.length : Int) then (if y364.length + ((rd_T41 t356 bt367.1).f0).length < 8796093022208 then (some (t356, (y364 ++ ((rd_T41 t356 bt367.1).f0)))) else (none)) else (none)) else (none)))) = some (r1, r2) := by rw [if_pos rfl] at H; exact H
    clear H
    have H := H1
    clear H1
    obtain ⟨y364, hy364⟩ : ∃ y_ : List (S68), y_ = (([] : List (S68))) := ⟨_, rfl⟩
    replace H : ((spec_source_pick.f kj3 t352 x356001_3 x356002_3 (t356.length : Int)).bind fun bt367 => (if 0 ≤ bt367.1 then (if bt367.1 < (t356.length : Int) then (if y364.length + ((rd_T41 t356 bt367.1).f0).length < 8796093022208 then (some (t356, (y364 ++ ((rd_T41 t356 bt367.1).f0)))) else (none)) else (none)) else (none))) = some (r1, r2) := by first | (rw [hy364]; with_reducible exact H) | (have H2_ := (Option.bind_some _ _).symm.trans H; rw [hy364]; with_reducible exact H2_) | (have H2_ := (Option.bind_some _ _).symm.trans H; with_reducible exact H2_) | with_reducible exact H | (rw [hy364]; exact H) | exact H
    have Ny364 := A_ hy364
    clear hy364
    replace H := Option.bind_eq_some_iff.mp H
    obtain ⟨⟨t367, t368, t369⟩, A130, H⟩ := H
    replace H : (if 0 ≤ t367 then (if t367 < (t356.length : Int) then (if y364.length + ((rd_T41 t356 t367).f0).length < 8796093022208 then (some (t356, (y364 ++ ((rd_T41 t356 t367).f0)))) else (none)) else (none)) else (none)) = some (r1, r2) := H
    have A13 := A_ A130
    clear A130
    by_cases c14 : 0 ≤ t367
    ·rw [if_pos c14] at H
     have c14b0 : decide (0 ≤ t367) = true := decide_eq_true c14
     clear c14
     by_cases c15 : t367 < (t356.length : Int)
     ·rw [if_pos c15] at H
      have c15b0 : decide (t367 < (t356.length : Int)) = true := decide_eq_true c15
      clear c15
      by_cases c16 : y364.length + ((rd_T41 t356 t367).f0).length < 8796093022208
      ·rw [if_pos c16] at H
       have LMc16 := A_ c16
       clear c16
       obtain ⟨y371, hy371⟩ : ∃ y_ : List (S68), y_ = (y364 ++ ((rd_T41 t356 t367).f0)) := ⟨_, rfl⟩
       replace H : (some (t356, y371)) = some (r1, r2) := by first | (rw [hy371]; with_reducible exact H) | (have H2_ := (Option.bind_some _ _).symm.trans H; rw [hy371]; with_reducible exact H2_) | (have H2_ := (Option.bind_some _ _).symm.trans H; with_reducible exact H2_) | with_reducible exact H | (rw [hy371]; exact H) | exact H
       have Ny371 := A_ hy371
       clear hy371
       simp only [Option.some.injEq, Prod.mk.injEq] at H
       obtain ⟨rfl, rfl⟩ := H
       go_wp2_with (first | ((with_reducible refine gate_dst (N := 19) rfl ?_); refine Kd.R_lit k68 _ 68 ?hg (N := 19) ?hd (xs := ([] : List (S68))) (inner := []) (ok := fun _ => True) (okp := fun _ => True) ?hr ?hp (fun _ hk => hk) trivial (Below.refl _ _) (Nat.le_refl _) (by simp) ?_; (case hd => rfl); (case hg => rfl); (case hr => exact Z27); (case hp => exact (Reps.none _ _)); intro v365 w17 ho18 hb hg_ hnew_; clear hg_ hnew_; (first | rw [← Ny364.out] at ho18 | (simp only [Int.reduceToNat] at ho18; rw [← Ny364.out] at ho18)); have n0_ := A_ (Kd.N_elder' (Z23 HO_5.out) (Kd.R_base ho18) hb); have n1_ := A_ (Kd.R_lower (Kd.R_newM (M := fun k_ => (w.heap.size ≤ k_)) ho18 (below_size (Z7 HI355.out)) (fun k_ h_ => h_)) (below_size (Z7 HI355.out))); have n2_ := A_ (IsS77.below (Z12 HI355.out) hb); have n3_ := A_ (below_step (Z7 HI355.out) hb); clear HO_5; clear HI355; clear HB; have HO_5 := n0_; have HO366 := n1_; have HI355 := n2_; have HB := n3_; clear n0_ n1_ n2_ n3_; clear hb ho18; obtain ⟨Ao19, co19, eo19⟩ := Kd.N_slice HO_5.out; subst eo19) | ((with_reducible refine gate_callee (f := 38) rfl ?_); refine goesL_ (some 24) rfl rfl Try.func38 (by kernel_rfl) rfl #[.pointer (some ⟨g355, 0, none⟩), .int .i64 (t356.length : Int)] rfl Z3 ?_; (with_reducible refine (spec_source_pick.calls kj3 g355 t352 x356001_3 x356002_3 (t356.length : Int) t367 t368 t369 w _ ?side1 ?side2 A13.out).mono ?_); (case side1 => exact Z12 HI355.out); (case side2 => exact Z7 HI355.out); rintro e w20 ⟨rfl, hi, hb, hk⟩; refine ⟨_, rfl, ?_⟩; have n0_ := A_ (Kd.N_mono (Kd.N_keep (Kd.N_mono (ok := fun k_ => ((((w.heap.size ≤ k_)) ∧ k_ ≠ g355) ∧ some k_ ≠ (v365 : Value).ownBlock)) (Z23 HO_5.out) (fun k_ hk_ => (⟨hk_, hk_.1.2⟩ : _ ∧ k_ ≠ g355))) hk (fun _ h => h.2)) (fun _ h => h.1)); have n1_ := A_ (Kd.R_mono (Kd.R_keep (IsS77.apart (show IsS77 w _ g355 t352 x356001_3 x356002_3 from by repeat (first | (with_reducible first | exact HI355.out | apply IsS77.alloc | apply IsS77.drewN | apply IsS77.drew | apply IsS77.set_1 | apply IsS77.set_2) | exact HI355.out)) (Z13 HO366.out) (by decide)) hk (fun _ h => h.2)) (fun _ h => h.1)); have n2_ := A_ (hb); have n3_ := A_ (hi); clear HO_5; clear HO366; clear HB; clear HI355; have HO_5 := n0_; have HO366 := n1_; have HB := n2_; have HI355 := n3_; clear n0_ n1_ n2_ n3_; (try clear hb); (try clear hb2); (try clear hk); (try clear hi); have p370 : 0 ≤ (t367 : Int) := of_decide_eq_true Z14; have q370 : t367 < (t356.length : Int) := of_decide_eq_true Z14; obtain ⟨ad370, A370_0, c370_0, A370_1, c370_1, e370, hx370_0, hx370_1, hl370_0, hi370_0, hl370_1, hi370_1⟩ := at_T41 (Kd.N_reads' HO_5.out).2.2 t367 p370 q370; cases e370; obtain ⟨ce370, hce370, hMe370, hcc370⟩ := Kd.N_get HO_5.out z41 t367 p370 (by first | exact q370 | exact of_decide_eq_true Z14 | (have e_ := (Kd.N_reads' HO_5.out).1; omega)); obtain ⟨ua370_0, uc370_0, ua370_1, uc370_1, rfl, ul370_0, ge370_0, ul370_1, ge370_1⟩ := k41_openF hMe370; have hv370_0 := hcc370 0 _ rfl; rw [Nat.add_zero] at hv370_0; replace hv370_0 := Option.some.inj (hv370_0.symm.trans hx370_0); injection hv370_0 with hva_ hvn_ hvc_; rw [hva_] at ge370_0; rw [hvc_] at ul370_0; have HL370_0 := A_ (show Kd.V k68 68 _ w.heap.size _ _ ((rd_T41 t356 t367).f0) from Kd.V_mk ul370_0 ge370_0); clear hva_ hvn_ hvc_ ge370_0 ul370_0; have hv370_1 := hcc370 1 _ rfl; rw [add_field _ _ 1 (by omega)] at hv370_1; replace hv370_1 := Option.some.inj (hv370_1.symm.trans hx370_1); injection hv370_1 with hva_ hvn_ hvc_; rw [hva_] at ge370_1; rw [hvc_] at ul370_1; have HL370_1 := A_ (show Kd.V k28 28 _ w.heap.size _ _ ((rd_T41 t356 t367).f1) from Kd.V_mk ul370_1 ge370_1); clear hva_ hvn_ hvc_ ge370_1 ul370_1; clear hcc370 hce370; have HR370_0 := A_ hi370_0; have HC370_0 := A_ hl370_0; clear hi370_0 hl370_0; have HR370_1 := A_ hi370_1; have HC370_1 := A_ hl370_1; clear hi370_1 hl370_1; replace p370 := eq_true p370; replace q370 := eq_true q370) | ((with_reducible refine gate_builtin (b := .append) (xs := #[.tmp 19, .tmp 27]) rfl ?_); at_builtin; refine Kd.R_append_rows k68 (w0 := w) w.heap.size rfl (.tmp 19) (.tmp 27) 39 68 (.agg #[(.int .i64 0), (.int .i64 0)]) 16 rfl Try.underlying39 info68 rfl (by decide) (by omega) v365 y364 ((rd_T41 t356 t367).f0) _ _ _ (fun k_ => (w.heap.size ≤ k_)) (fun _ => False) rfl rfl ?aO ?aR (fun _ _ h => h) (fun _ h => h.elim) ?aF ?aB ?aS ?aL ?_; (case aR => repeat (first | exact (by repeat (first | (with_reducible exact HR370_0.out) | (with_reducible refine Kd.C_alloc ?_ _) | (with_reducible refine Kd.C_drewN ?_ _) | (with_reducible refine Kd.C_drew ?_) | exact HR370_0.out)) | (with_reducible refine Kd.C_alloc ?_ _) | (with_reducible refine Kd.C_drewN ?_ _) | (with_reducible refine Kd.C_drew ?_))); (case aB => exact (Z7 HI355.out)); (case aF => exact (fun k_ hk => (Nat.le_trans (below_size (Z7 HI355.out)) hk))); (case aO => exact (by (with_reducible repeat (first | apply Kd.R_alloc | apply Kd.R_drewN | apply Kd.R_drew)); exact Kd.R_mono HO366.out (fun _ hk => hk.1))); (case aS => exact (below_size (Z7 HI355.out))); (case aL => have := LMc16.out; omega); intro v372 w21 ho hb hg hat; rw [← Ny371.out] at ho; have n0_ := A_ (Kd.N_afterv (ok := (fun k_ => (w.heap.size ≤ k_) ∧ k_ ≠ g355)) (Z23 HO_5.out) hg hat); have n1_ := A_ (IsS77.grown (Z12 HI355.out) hg (IsS77.own_ne HI355.out HO366.out (by decide))); have n2_ := A_ (Kd.V_afterv (ok := (fun k_ => (w.heap.size ≤ k_) ∧ some k_ ≠ (.slice (some ad370) t356.length co19 : Value).ownBlock ∧ k_ ≠ g355)) (by (with_reducible repeat (first | apply Kd.V_alloc | apply Kd.V_drewN | apply Kd.V_drew)); exact Kd.V_mono HL370_0.out (fun _ hk => ⟨⟨hk.1.1.1, ⟨hk.2, hk.1.1.2⟩⟩, hk.1.2⟩)) hg hat); have n3_ := A_ (Kd.V_afterv (ok := (fun k_ => (w.heap.size ≤ k_) ∧ some k_ ≠ (.slice (some ad370) t356.length co19 : Value).ownBlock ∧ k_ ≠ g355)) (by (with_reducible repeat (first | apply Kd.V_alloc | apply Kd.V_drewN | apply Kd.V_drew)); exact Kd.V_mono HL370_1.out (fun _ hk => ⟨⟨hk.1.1.1, ⟨hk.2, hk.1.1.2⟩⟩, hk.1.2⟩)) hg hat); have n4_ := A_ (hb); have n5_ := A_ (ho); clear HO_5; clear HI355; clear HL370_0; clear HL370_1; clear HB; clear HO366; have HO_5 := n0_; have HI355 := n1_; have HL370_0 := n2_; have HL370_1 := n3_; have HB := n4_; have HO373 := n5_; clear n0_ n1_ n2_ n3_ n4_ n5_; clear ho hb hg hat))
       go_ret2
       exact ⟨_, _, Z17, by (with_reducible repeat (first | apply Kd.N_alloc | apply Kd.N_drewN | apply Kd.N_drew)); exact Kd.N_mono HO_5.out (fun _ hk => ⟨hk.1.1, hk.2⟩), Z13 HO373.out, Z7 HI355.out⟩
      ·rw [if_neg c16] at H
       exact absurd H (by simp)
     ·rw [if_neg c15] at H
      exact absurd H (by simp)
    ·rw [if_neg c14] at H
     exact absurd H (by simp)
   ·replace c12 := Bool.eq_false_iff.mpr c12
    subst c12
    have H1 : ((spec_source_slots.f kj3 t352 x356001_3 x356002_3).bind fun bt374 => (some (t356, bt374.1))) = some (r1, r2) := by rw [if_neg (show ¬ (false = true) by decide)] at H; exact H
    clear H
    have H := H1
    clear H1
    replace H := Option.bind_eq_some_iff.mp H
    obtain ⟨⟨t374, t377, t378⟩, A220, H⟩ := H
    replace H : (some (t356, t374)) = some (r1, r2) := H
    have A22 := A_ A220
    clear A220
    simp only [Option.some.injEq, Prod.mk.injEq] at H
    obtain ⟨rfl, rfl⟩ := H
    go_wp2_with (first | ((with_reducible refine gate_callee (f := 55) rfl ?_); refine goesL_ (some 31) rfl rfl Try.func55 (by kernel_rfl) rfl #[.pointer (some ⟨g355, 0, none⟩)] rfl Z3 ?_; (with_reducible refine (spec_source_slots.calls kj3 g355 t352 x356001_3 x356002_3 t374 t377 t378 w _ ?side1 ?side2 A22.out).mono ?_); (case side1 => exact Z12 HI355.out); (case side2 => exact Z7 HI355.out); rintro e w23 ⟨v375, rfl, ho0, hi, hb, hk⟩; refine ⟨_, rfl, ?_⟩; have n0_ := A_ (Kd.N_mono (Kd.N_told (Kd.N_oldK (Kd.N_mono (ok := fun k_ => (((w.heap.size ≤ k_)) ∧ k_ ≠ g355)) (Z23 HO_5.out) (fun k_ hk_ => (⟨hk_, hk_.2⟩ : _ ∧ k_ ≠ g355))) hk) (Kd.R_base ho0)) (fun _ h_ => h_.1)); have n1_ := A_ (Kd.R_lower (Kd.R_newM (M := fun k_ => (w.heap.size ≤ k_)) ho0 (below_size (Z7 HI355.out)) (fun k_ h_ => h_)) (below_size (Z7 HI355.out))); have n2_ := A_ (hb); have n3_ := A_ (hi); clear HO_5; clear HB; clear HI355; have HO_5 := n0_; have HO376 := n1_; have HB := n2_; have HI355 := n3_; clear n0_ n1_ n2_ n3_; (try clear hb); (try clear hb2); (try clear hk); (try clear hi); (try clear ho0)))
    go_ret2
    exact ⟨_, _, Z17, by (with_reducible repeat (first | apply Kd.N_alloc | apply Kd.N_drewN | apply Kd.N_drew)); exact Kd.N_mono HO_5.out (fun _ hk => ⟨hk.1.1, hk.2⟩), by (with_reducible repeat (first | apply Kd.R_alloc | apply Kd.R_drewN | apply Kd.R_drew)); exact Kd.R_mono HO376.out (fun _ hk => hk.1), Z7 HI355.out⟩
def spec_validValues.l0 : Nat → List (S28) → Int → Option (Bool)
 | 0, _, _ => none
 | k + 1, x0, x3 => if x3 < (x0.length : Int) then (if 0 ≤ x3 then ((spec_validValue.f k ((rd_T28 x0 x3).f0) ((rd_T28 x0 x3).f1) ((rd_T28 x0 x3).f2)).bind fun t380 => (if t380 = true then (spec_validValues.l0 k x0 (wrap64 (x3 + 1))) else (some false))) else (none)) else (some true)
def spec_validValues.f (k : Nat) (l0 : List (S28)) : Option (Bool) := spec_validValues.l0 k l0 0
theorem spec_validValues.mono_l : ∀ k, (∀ y0 y1, LeO (spec_validValues.l0 k y0 y1) (spec_validValues.l0 (k + 1) y0 y1))
 | 0 => fun _ _ r h => by simp [spec_validValues.l0] at h
 | k + 1 => by
  have ih0 := spec_validValues.mono_l k
  ·intro y0 y1
   unfold spec_validValues.l0
   repeat' first
   | (with_reducible exact ih0 _ _)
   | (with_reducible exact spec_validValue.mono _ _ _ _)
   | (with_reducible exact LeO.refl _)
   | (with_reducible exact LeO.none _)
   | (with_reducible refine LeO.ite ?_ ?_)
   | (with_reducible refine LeO.bind ?_ (fun _ => ?_))
   | exact ih0 _ _
   | exact spec_validValue.mono _ _ _ _
   | exact LeO.none _
   | refine LeO.ite ?_ ?_
   | refine LeO.bind ?_ (fun _ => ?_)
theorem spec_validValues.mono : ∀ a0 k, LeO (spec_validValues.f k a0) (spec_validValues.f (k + 1) a0) := by
 intro a0 k
 have ih0 := spec_validValues.mono_l k
 unfold spec_validValues.f
 repeat' first
   | (with_reducible exact ih0 _ _)
   | (with_reducible exact spec_validValue.mono _ _ _ _)
   | (with_reducible exact LeO.refl _)
   | (with_reducible exact LeO.none _)
   | (with_reducible refine LeO.ite ?_ ?_)
   | (with_reducible refine LeO.bind ?_ (fun _ => ?_))
   | exact ih0 _ _
   | exact spec_validValue.mono _ _ _ _
   | exact LeO.none _
   | refine LeO.ite ?_ ?_
   | refine LeO.bind ?_ (fun _ => ?_)
set_option maxHeartbeats 8000000 in
set_option maxRecDepth 100000 in
theorem spec_validValues.calls (k : Nat) (A0 : Option Addr) (c0 : Nat) (l0 : List (S28)) (r : Bool) (w : World) (hr0 : Kd.C k28 w A0 l0.length l0) (hc0 : l0.length ≤ c0) (h : spec_validValues.f k l0 = some r) :
  Calls Try.prog 60 #[.slice A0 l0.length c0] w fun e w' => e = .returned (.bool r) ∧ Below w.heap.size w w' := by
 have hu28 := Try.underlying28
 have HR0 := A_ hr0
 have HC0 := A_ hc0
 clear hr0 hc0
 have HB := A_ (Below.refl w.heap.size w)
 have H : (spec_validValues.l0 k l0 0) = some r := h
 clear h
 have H' := A_ H
 clear H
 go_enter Try.func60, Try.ntmps60
 go_wp2
 go_loopg [3] k (fun kq v3 w' => ∃ (x3_1 : Int), v3 = .int .i64 x3_1 ∧ Aside0 (spec_validValues.l0 kq l0 x3_1 = some r) ∧ Aside0 (kq ≤ k) ∧ Aside0 (Below w.heap.size w w'))
 case atStart => exact ⟨(0), Z20, H', ⟨Nat.le_refl _⟩, ⟨Z1⟩⟩
 case round =>
  clear H'
  obtain ⟨x3_1, rfl, HA, HK1, HB⟩ := hrel
  cases gk with
  | zero => exact absurd HA.out (by simp [spec_validValues.l0])
  | succ k1 =>
   have H := HA.out
   clear HA
   simp only [spec_validValues.l0] at H
   by_cases c2 : x3_1 < (l0.length : Int)
   ·rw [if_pos c2] at H
    have c2b0 : decide (x3_1 < (l0.length : Int)) = true := decide_eq_true c2
    clear c2
    by_cases c3 : 0 ≤ x3_1
    ·rw [if_pos c3] at H
     have c3b0 : decide (0 ≤ x3_1) = true := decide_eq_true c3
     clear c3
     replace H := Option.bind_eq_some_iff.mp H
     obtain ⟨t380, A40, H⟩ := H
     replace H : (if t380 = true then (spec_validValues.l0 k1 l0 (wrap64 (x3_1 + 1))) else (some false)) = some r := H
     have A4 := A_ A40
     clear A40
     by_cases c5 : t380 = true
     ·subst c5
      have H1 : (spec_validValues.l0 k1 l0 (wrap64 (x3_1 + 1))) = some r := by rw [if_pos rfl] at H; exact H
      clear H
      have H := H1
      clear H1
      have H' := A_ H
      clear H
      have p379 : 0 ≤ (x3_1 : Int) := of_decide_eq_true Z14
      have q379 : x3_1 < (l0.length : Int) := of_decide_eq_true Z14
      obtain ⟨ad379, e379, hx379_0, hx379_1, hx379_2⟩ := at_T28 HR0.out x3_1 p379 q379
      cases e379
      replace hx379_0 := ZC HB.out hx379_0
      replace hx379_1 := ZC HB.out hx379_1
      replace hx379_2 := ZC HB.out hx379_2
      replace p379 := eq_true p379
      replace q379 := eq_true q379
      go_wp2_with (first | ((with_reducible refine gate_callee (f := 66) rfl ?_); refine goesL_ (some 14) rfl rfl Try.func66 (by kernel_rfl) rfl #[.agg #[.int .i64 ((rd_T28 l0 x3_1).f0), .int .i64 ((rd_T28 l0 x3_1).f1), .string ((rd_T28 l0 x3_1).f2)]] rfl Z3 ?_; (with_reducible refine (spec_validValue.calls k1 ((rd_T28 l0 x3_1).f0) ((rd_T28 l0 x3_1).f1) ((rd_T28 l0 x3_1).f2) true _ A4.out).mono ?_); rintro e w6 ⟨rfl, hb⟩; refine ⟨_, rfl, ?_⟩; have n0_ := A_ (below_step Z1 hb); clear HB; have HB := n0_; clear n0_; (try clear hb); (try clear hb2); (try clear hk); (try clear hi)))
      go_roundg k1
      case measure => have := HK1.out; omega
      case rel => exact ⟨(wrap64 (x3_1 + 1)), Z20, H', ⟨by have := HK1.out; omega⟩, ⟨Z1⟩⟩
     ·replace c5 := Bool.eq_false_iff.mpr c5
      subst c5
      have H1 : (some false) = some r := by rw [if_neg (show ¬ (false = true) by decide)] at H; exact H
      clear H
      have H := H1
      clear H1
      obtain rfl := Option.some.inj H
      have p379 : 0 ≤ (x3_1 : Int) := of_decide_eq_true Z14
      have q379 : x3_1 < (l0.length : Int) := of_decide_eq_true Z14
      obtain ⟨ad379, e379, hx379_0, hx379_1, hx379_2⟩ := at_T28 HR0.out x3_1 p379 q379
      cases e379
      replace hx379_0 := ZC HB.out hx379_0
      replace hx379_1 := ZC HB.out hx379_1
      replace hx379_2 := ZC HB.out hx379_2
      replace p379 := eq_true p379
      replace q379 := eq_true q379
      go_wp2_with (first | ((with_reducible refine gate_callee (f := 66) rfl ?_); refine goesL_ (some 14) rfl rfl Try.func66 (by kernel_rfl) rfl #[.agg #[.int .i64 ((rd_T28 l0 x3_1).f0), .int .i64 ((rd_T28 l0 x3_1).f1), .string ((rd_T28 l0 x3_1).f2)]] rfl Z3 ?_; (with_reducible refine (spec_validValue.calls k1 ((rd_T28 l0 x3_1).f0) ((rd_T28 l0 x3_1).f1) ((rd_T28 l0 x3_1).f2) false _ A4.out).mono ?_); rintro e w7 ⟨rfl, hb⟩; refine ⟨_, rfl, ?_⟩; have n0_ := A_ (below_step Z1 hb); clear HB; have HB := n0_; clear n0_; (try clear hb); (try clear hb2); (try clear hk); (try clear hi)))
      go_ret
      exact ⟨Z17, Z1⟩
    ·rw [if_neg c3] at H
     exact absurd H (by simp)
   ·rw [if_neg c2] at H
    have c2b0 : decide (x3_1 < (l0.length : Int)) = false := decide_eq_false c2
    clear c2
    obtain rfl := Option.some.inj H
    go_wp2
    go_ret
    exact ⟨Z17, Z1⟩
end Go.Proofs.Ytheifobeaemegaa.PFnStoreGet
