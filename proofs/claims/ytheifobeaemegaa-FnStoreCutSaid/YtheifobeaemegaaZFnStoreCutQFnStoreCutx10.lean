/- Walks of the functions that the law 'FnStoreCut' reaches, part 10: for each a Lean function and the proof that Go's comes to just its answer (lines of the print, under own names; no condition). -/
import Derived.Test.YtheifobeaemegaaZFnStoreCutQFnStoreCutx0
import Derived.Test.YtheifobeaemegaaZFnStoreCutQFnStoreCutx3
import Derived.Test.YtheifobeaemegaaZFnStoreCutQFnStoreCutx4
import Derived.Test.YtheifobeaemegaaZFnStoreCutQFnStoreCutx5
import Derived.Test.YtheifobeaemegaaZFnStoreCutQFnStoreCutx6
import Derived.Test.YtheifobeaemegaaZFnStoreCutQFnStoreCutx9
namespace Go.Proofs.Ytheifobeaemegaa.PFnStoreCut
open Go.RowKit Go.Proofs.YtheifobeaemegaaW.PrintWords Go.Proofs.YtheifobeaemegaaW.PrintLast Go.Proofs.YtheifobeaemegaaW.PrintMore
attribute [local go_sem] max2_int min2_int max_two min_two max_three min_three max_four min_four
set_option linter.unusedVariables false
set_option linter.unusedSimpArgs false
def spec_DrawStoreCut.f (k : Nat) (l0 : List Int) : Option ((List (S41)) × (List (S68))) := (spec_newSource.f l0).bind fun bt356 => ((spec_DrawStoreGet.f k l0).bind fun bt360 => ((spec_source_pick.f k bt356.1 bt356.2.1 bt356.2.2 (wrap64 ((bt360.2.length : Int) + 1))).bind fun bt366 => (if 0 ≤ bt366.1 then (if bt366.1 ≤ (bt360.2.length : Int) then (some (bt360.1, (bt360.2.take (bt366.1 : Int).toNat))) else (none)) else (none))))
theorem spec_DrawStoreCut.mono : ∀ a0 k, LeO (spec_DrawStoreCut.f k a0) (spec_DrawStoreCut.f (k + 1) a0) := by
 intro a0 k
 unfold spec_DrawStoreCut.f
 repeat' first
   | (with_reducible exact spec_DrawStoreGet.mono _ _)
   | (with_reducible exact spec_source_pick.mono _ _ _ _ _)
   | (with_reducible exact LeO.refl _)
   | (with_reducible exact LeO.none _)
   | (with_reducible refine LeO.ite ?_ ?_)
   | (with_reducible refine LeO.bind ?_ (fun _ => ?_))
   | exact spec_DrawStoreGet.mono _ _
   | exact spec_source_pick.mono _ _ _ _ _
   | exact LeO.none _
   | refine LeO.ite ?_ ?_
   | refine LeO.bind ?_ (fun _ => ?_)
def spec_DrawStoreCut.T3 : Bool × List (List Nat × List Nat) := (true, [([], []), ([], []), ([], []), ([], []), ([3], [3]), ([4], [4]), ([2, 5], [2, 5]), ([1, 6], [1, 6]), ([0, 6, 0], [0]), ([7, 8, 0, 1, 2, 3, 4, 5, 6, 7, 8], [7])])
def spec_DrawStoreCut.B3 : List Nat := [0, 0, 0, 0, 8, 24, 60, 126, 125, 511]
theorem spec_DrawStoreCut.tab3 : rtab .any (opsOf Try.f20 3) = spec_DrawStoreCut.T3 := by kernel_rfl
theorem spec_DrawStoreCut.bits3 : waitsOk spec_DrawStoreCut.T3.2 spec_DrawStoreCut.B3 = true := by kernel_rfl
set_option maxHeartbeats 8000000 in
set_option maxRecDepth 100000 in
theorem spec_DrawStoreCut.calls (k : Nat) (A0 : Option Addr) (c0 : Nat) (l0 : List Int) (r1 : List (S41)) (r2 : List (S68)) (w : World) (hr0 : Kd.C (Kd.int .u8) w A0 l0.length l0) (hc0 : l0.length ≤ c0) (h : spec_DrawStoreCut.f k l0 = some (r1, r2)) :
  Calls Try.prog 20 #[.slice A0 l0.length c0] w fun e w' => ∃ v0_ v1_ : Value, e = .returned (.tuple #[v0_, v1_]) ∧ Kd.N k41 41 w' w.heap.size (fun k_ => (w.heap.size ≤ k_) ∧ some k_ ≠ (v1_ : Value).ownBlock) v0_ r1 ∧ Kd.R k68 68 w' w.heap.size (fun k_ => (w.heap.size ≤ k_)) v1_ r2 ∧ Below w.heap.size w w' := by
 have HR0 := A_ hr0
 have HC0 := A_ hc0
 clear hr0 hc0
 have HB := A_ (Below.refl w.heap.size w)
 have H : ((spec_newSource.f l0).bind fun bt356 => ((spec_DrawStoreGet.f k l0).bind fun bt360 => ((spec_source_pick.f k bt356.1 bt356.2.1 bt356.2.2 (wrap64 ((bt360.2.length : Int) + 1))).bind fun bt366 => (if 0 ≤ bt366.1 then (if bt366.1 ≤ (bt360.2.length : Int) then (some (bt360.1, (bt360.2.take (bt366.1 : Int).toNat))) else (none)) else (none))))) = some (r1, r2) := h
 clear h
 replace H := Option.bind_eq_some_iff.mp H
 obtain ⟨⟨t356, t357, t358⟩, A20, H⟩ := H
 replace H : ((spec_DrawStoreGet.f k l0).bind fun bt360 => ((spec_source_pick.f k t356 t357 t358 (wrap64 ((bt360.2.length : Int) + 1))).bind fun bt366 => (if 0 ≤ bt366.1 then (if bt366.1 ≤ (bt360.2.length : Int) then (some (bt360.1, (bt360.2.take (bt366.1 : Int).toNat))) else (none)) else (none)))) = some (r1, r2) := H
 have A2 := A_ A20
 clear A20
 replace H := Option.bind_eq_some_iff.mp H
 obtain ⟨⟨t360, t363⟩, A30, H⟩ := H
 replace H : ((spec_source_pick.f k t356 t357 t358 (wrap64 ((t363.length : Int) + 1))).bind fun bt366 => (if 0 ≤ bt366.1 then (if bt366.1 ≤ (t363.length : Int) then (some (t360, (t363.take (bt366.1 : Int).toNat))) else (none)) else (none))) = some (r1, r2) := H
 have A3 := A_ A30
 clear A30
 replace H := Option.bind_eq_some_iff.mp H
 obtain ⟨⟨t366, t367, t368⟩, A40, H⟩ := H
 replace H : (if 0 ≤ t366 then (if t366 ≤ (t363.length : Int) then (some (t360, (t363.take (t366 : Int).toNat))) else (none)) else (none)) = some (r1, r2) := H
 have A4 := A_ A40
 clear A40
 by_cases c5 : 0 ≤ t366
 ·rw [if_pos c5] at H
  have c5b0 := eq_true c5
  have c5b1 : decide (0 ≤ t366) = true := decide_eq_true c5
  clear c5
  by_cases c6 : t366 ≤ (t363.length : Int)
  ·rw [if_pos c6] at H
   have c6b0 := eq_true c6
   have c6b1 : decide (t366 ≤ (t363.length : Int)) = true := decide_eq_true c6
   clear c6
   obtain ⟨y369, hy369⟩ : ∃ y_ : List (S68), y_ = (t363.take (t366 : Int).toNat) := ⟨_, rfl⟩
   replace H : (some (t360, y369)) = some (r1, r2) := by first | (rw [hy369]; with_reducible exact H) | (have H2_ := (Option.bind_some _ _).symm.trans H; rw [hy369]; with_reducible exact H2_) | (have H2_ := (Option.bind_some _ _).symm.trans H; with_reducible exact H2_) | with_reducible exact H | (rw [hy369]; exact H) | exact H
   have Ny369 := A_ hy369
   clear hy369
   simp only [Option.some.injEq, Prod.mk.injEq] at H
   obtain ⟨rfl, rfl⟩ := H
   go_enter Try.func20, Try.ntmps20
   try go_wp2_with (first | ((with_reducible refine gate_callee (f := 32) rfl ?_); refine goesL_ (some 8) rfl rfl Try.func32 (by kernel_rfl) rfl #[.slice A0 l0.length c0] rfl Z3 ?_; (with_reducible refine (spec_newSource.calls _ _ l0 t356 t357 t358 w _ ?side1 ?side2 ?side3 A2.out).mono ?_); (case side1 => exact Z1); (case side2 => exact HR0.out); (case side3 => exact HC0.out); rintro e w7 ⟨g359, rfl, hi, hb, hb2⟩; refine ⟨_, rfl, ?_⟩; have n0_ := A_ (hb); have n1_ := A_ (hi); clear HB; have HB := n0_; have HI359 := n1_; clear n0_ n1_; (try clear hb); (try clear hb2); (try clear hk); (try clear hi)) | ((with_reducible refine gate_callee (f := 26) rfl ?_); refine goesL_ (some 11) rfl rfl Try.func26 (by kernel_rfl) rfl #[.slice A0 l0.length c0] rfl Z3 ?_; (with_reducible refine (spec_DrawStoreGet.calls k _ _ l0 t360 t363 _ ?side1 ?side2 A3.out).mono ?_); (case side1 => exact Z12 HR0.out); (case side2 => exact HC0.out); rintro e w8 ⟨v361, v364, rfl, ho0, ho1, hb⟩; refine ⟨_, rfl, ?_⟩; have n0_ := A_ (Kd.N_lower (Kd.N_mono (ok' := fun k_ => (w.heap.size ≤ k_) ∧ some k_ ≠ (v364 : Value).ownBlock ∧ k_ ≠ g359) ho0 (fun k_ hk_ => ⟨(Nat.le_trans (below_size (Z4 HI359.out)) hk_.1), hk_.2, (IsS77.fresh (Z11 HI359.out) k_ hk_.1)⟩)) (below_size (Z4 HI359.out))); have n1_ := A_ (Kd.R_lower (Kd.R_newM (M := fun k_ => (w.heap.size ≤ k_)) (Kd.R_mono (ok' := fun k_ => True) ho1 (fun _ hk_ => trivial)) (below_size (Z4 HI359.out)) (fun k_ h_ => h_)) (below_size (Z4 HI359.out))); have n2_ := A_ (IsS77.below (Z11 HI359.out) hb); have n3_ := A_ (below_step (Z4 HI359.out) hb); clear HI359; clear HB; have HO362 := n0_; have HO365 := n1_; have HI359 := n2_; have HB := n3_; clear n0_ n1_ n2_ n3_; (try clear hb); (try clear hb2); (try clear hk); (try clear hi); (try clear ho0); (try clear ho1)))
   have n0_ := A_ (Kd.N_drew HO362.out)
   have n1_ := A_ (Kd.R_drew HO365.out)
   have n2_ := A_ (IsS77.drew HI359.out)
   have n3_ := A_ (below_drew1 HB.out)
   clear HO362
   clear HO365
   clear HI359
   clear HB
   have HO362 := n0_
   have HO365 := n1_
   have HI359 := n2_
   have HB := n3_
   clear n0_ n1_ n2_ n3_
   obtain ⟨Ao10, co10, eo10⟩ := Kd.R_slice HO365.out
   (first | subst eo10 | (injection eo10 with f1_ f2_ f3_; have f4_ := f1_.symm; have f5_ := f3_.symm; clear f1_ f2_ f3_; subst f4_; subst f5_))
   refine start_ (n := 10) (S := fun w' => True) (ds := []) #[F,F,F,F,F,F,F,F,F,F] (by kernel_rfl) rfl rfl trivial (fun hHeld => ?_); refine with_tabW spec_DrawStoreCut.tab3 spec_DrawStoreCut.bits3 (fun HT_ HW_ => ?_)
   generalize w8.drew = w9 at HO362 HO365 HI359 HB hHeld ⊢
   refine pure_ (i := 0) (N := some 14) (v := ?_) (a' := ?_) #[T,F,F,F,F,F,F,F,F,F] rfl rfl ZA ZF (Or.inl ⟨by rfl, ?_⟩) ?_ ?_
   rotate_left
   ·exact Z16
   rotate_left
   ·exact Z0
   refine pure_ (i := 1) (N := some 15) (v := ?_) (a' := ?_) #[T,T,F,F,F,F,F,F,F,F] rfl rfl ZA ZF (Or.inl ⟨by rfl, ?_⟩) ?_ ?_
   rotate_left
   ·exact Z16
   rotate_left
   ·exact Z0
   refine pure_ (i := 2) (N := some 16) (v := ?_) (a' := ?_) #[T,T,T,F,F,F,F,F,F,F] rfl rfl ZA ZF (Or.inl ⟨by rfl, ?_⟩) ?_ ?_
   rotate_left
   ·exact Z16
   rotate_left
   ·exact Z0
   refine pure_ (i := 3) (N := some 17) (v := ?_) (a' := ?_) #[T,T,T,T,F,F,F,F,F,F] rfl rfl ZA ZF (Or.inl ⟨by rfl, ?_⟩) ?_ ?_
   rotate_left
   ·exact Z16
   rotate_left
   ·exact Z0
   refine pure_ (i := 4) (N := some 18) (v := ?_) (a' := ?_) #[T,T,T,T,T,F,F,F,F,F] rfl rfl ZA ZF (Or.inl ⟨by rfl, ?_⟩) ?_ ?_
   rotate_left
   ·exact Z16
   rotate_left
   ·exact Z0
   refine pure_ (i := 5) (N := some 19) (v := ?_) (a' := ?_) #[T,T,T,T,T,T,F,F,F,F] rfl rfl ZA ZF (Or.inl ⟨by rfl, ?_⟩) ?_ ?_
   rotate_left
   ·exact Z16
   rotate_left
   ·exact Z0
   refine one_ (i := 6) (N := some 20) #[T,T,T,T,T,T,T,F,F,F] rfl rfl (one_of HT_.out (by kernel_rfl)) (by decide) (fun K hK => ?_)
   refine goes_ Try.func38 (by kernel_rfl) rfl #[.pointer (some ⟨g359, 0, none⟩), .int .i64 (wrap64 ((t363.length : Int) + 1))] (by rfl) rfl rfl Z3 ?_
   with_reducible refine (spec_source_pick.calls k g359 t356 t357 t358 (wrap64 ((t363.length : Int) + 1)) t366 t367 t368 w _ ?side1 ?side2 A4.out).mono ?_
   (case side1 => exact Z11 HI359.out)
   (case side2 => exact Z4 HI359.out)
   rintro e w11 ⟨rfl, hi, hb, hk⟩
   refine ⟨_, rfl, ?_⟩
   have n0_ := A_ (Kd.N_mono (Kd.N_keep (Kd.N_mono (ok := fun k_ => (((w.heap.size ≤ k_)) ∧ (some k_ ≠ (.slice Ao10 t363.length co10 : Value).ownBlock ∧ k_ ≠ g359))) (Z20 HO362.out) (fun k_ hk_ => (⟨hk_, hk_.2.2⟩ : _ ∧ k_ ≠ g359))) hk (fun _ h => h.2)) (fun _ h => h.1))
   have n1_ := A_ (Kd.R_mono (Kd.R_keep (IsS77.apart (show IsS77 w _ g359 t356 t357 t358 from by repeat (first | (with_reducible first | exact HI359.out | apply IsS77.alloc | apply IsS77.drewN | apply IsS77.drew | apply IsS77.set_1 | apply IsS77.set_2) | exact HI359.out)) (Z14 HO365.out) (by decide)) hk (fun _ h => h.2)) (fun _ h => h.1))
   have n2_ := A_ (hb)
   have n3_ := A_ (hi)
   clear HO362
   clear HO365
   clear HB
   clear HI359
   have HO362 := n0_
   have HO365 := n1_
   have HB := n2_
   have HI359 := n3_
   clear n0_ n1_ n2_ n3_
   (try clear hb)
   (try clear hb2)
   (try clear hk)
   (try clear hi)
   have q12 : (t366 : Int) ≤ ((t363.length : Int) : Int) := of_decide_eq_true Z13
   obtain ⟨i012, hi012, _, hsz12, _⟩ := info_parts info68
   have hcut12 := cut_to (P := Try.prog) 39 68 .i64 Try.underlying39 hi012 Ao10 t363.length co10 t366 (of_decide_eq_true Z13) q12 (Kd.R_reads' HO365.out).2.1
   have hr12 := Kd.R_take (m := (t366 : Int).toNat) HO365.out (by omega)
   have hy12 : y369.length = (t366 : Int).toNat := (by rw [Ny369.out, List.length_take]; omega)
   rw [← Ny369.out] at hr12
   rw [← hy12] at hr12 hcut12
   clear hy12 hi012 hsz12 HO365
   have HO371 := A_ hr12
   clear hr12
   replace q12 := eq_true q12
   refine hK.out _ _ trivial (fun hHeld => ?_)
   clear hK K
   refine norm_ (a' := ?_) ?_ ?_
   rotate_left
   ·show Act.put _ (some 20) _ = _
    simp only [Act.put, List.setIfInBounds_toArray, List.set_cons_zero, List.set_cons_succ, i64_w, i32_w]
    rfl
   refine pure_ (i := 7) (N := some 21) (v := ?_) (a' := ?_) #[T,T,T,T,T,T,T,T,F,F] rfl rfl ZA ZF (Or.inl ⟨by rfl, ?_⟩) ?_ ?_
   rotate_left
   ·exact Z16
   rotate_left
   ·exact Z0
   refine pure_ (i := 8) (N := some 2) (v := ?_) (a' := ?_) #[T,T,T,T,T,T,T,T,T,F] rfl rfl ZA ZF (Or.inl ⟨by rfl, ?_⟩) ?_ ?_
   rotate_left
   ·exact Z16
   rotate_left
   ·exact Z0
   refine pure_ (i := 9) (N := some 3) (v := ?_) (a' := ?_) #[T,T,T,T,T,T,T,T,T,T] rfl rfl ZA ZF (Or.inl ⟨by rfl, ?_⟩) ?_ ?_
   rotate_left
   ·exact Z16
   rotate_left
   ·exact Z0
   refine done_ (done_of HT_.out (by kernel_rfl)) ?_
   try go_wp2
   go_ret2
   exact ⟨_, _, Z18, by (with_reducible repeat (first | apply Kd.N_alloc | apply Kd.N_drewN | apply Kd.N_drew)); exact Kd.N_mono HO362.out (fun _ hk => ⟨hk.1, by first | exact hk.2.1 | (intro e_; apply hk.2.1; rw [e_]; first | rfl | (cases Ao10 <;> rfl) | (cases Ao27 <;> rfl) | (cases Ao28 <;> rfl) | (cases Ao9 <;> rfl))⟩), by (with_reducible repeat (first | apply Kd.R_alloc | apply Kd.R_drewN | apply Kd.R_drew)); exact Kd.R_mono HO371.out (fun _ hk => hk.1), Z4 HI359.out⟩
  ·rw [if_neg c6] at H
   exact absurd H (by simp)
 ·rw [if_neg c5] at H
  exact absurd H (by simp)
def impl_placeUnder.f (k : Nat) (l0 : List (S68)) (l1 : List (S68)) : Option (Bool) := if (l0.length : Int) ≥ (l1.length : Int) then (if 0 ≤ (l1.length : Int) then (if (l1.length : Int) ≤ (l0.length : Int) then ((impl_placeCmp.f k (l0.take ((l1.length : Int) : Int).toNat) l1).bind fun t376 => (some (t376 == 0))) else (none)) else (none)) else (some false)
theorem impl_placeUnder.mono : ∀ a0 a1 k, LeO (impl_placeUnder.f k a0 a1) (impl_placeUnder.f (k + 1) a0 a1) := by
 intro a0 a1 k
 unfold impl_placeUnder.f
 repeat' first
   | (with_reducible exact impl_placeCmp.mono _ _ _)
   | (with_reducible exact LeO.refl _)
   | (with_reducible exact LeO.none _)
   | (with_reducible refine LeO.ite ?_ ?_)
   | (with_reducible refine LeO.bind ?_ (fun _ => ?_))
   | exact impl_placeCmp.mono _ _ _
   | exact LeO.none _
   | refine LeO.ite ?_ ?_
   | refine LeO.bind ?_ (fun _ => ?_)
set_option maxHeartbeats 8000000 in
set_option maxRecDepth 100000 in
theorem impl_placeUnder.calls (k : Nat) (A0 : Option Addr) (c0 : Nat) (l0 : List (S68)) (A1 : Option Addr) (c1 : Nat) (l1 : List (S68)) (r : Bool) (w : World) (hr0 : Kd.C k68 w A0 l0.length l0) (hc0 : l0.length ≤ c0) (hr1 : Kd.C k68 w A1 l1.length l1) (hc1 : l1.length ≤ c1) (h : impl_placeUnder.f k l0 l1 = some r) :
  Calls Try.prog 49 #[.slice A0 l0.length c0, .slice A1 l1.length c1] w fun e w' => e = .returned (.bool r) ∧ Below w.heap.size w w' := by
 have HR0 := A_ hr0
 have HC0 := A_ hc0
 clear hr0 hc0
 have HR1 := A_ hr1
 have HC1 := A_ hc1
 clear hr1 hc1
 have HB := A_ (Below.refl w.heap.size w)
 have H : (if (l0.length : Int) ≥ (l1.length : Int) then (if 0 ≤ (l1.length : Int) then (if (l1.length : Int) ≤ (l0.length : Int) then ((impl_placeCmp.f k (l0.take ((l1.length : Int) : Int).toNat) l1).bind fun t376 => (some (t376 == 0))) else (none)) else (none)) else (some false)) = some r := h
 clear h
 by_cases c3 : (l0.length : Int) ≥ (l1.length : Int)
 ·rw [if_pos c3] at H
  have c3b0 : decide ((l1.length : Int) ≤ (l0.length : Int)) = true := decide_eq_true c3
  have c3b1 : decide (l1.length ≤ l0.length) = true := decide_eq_true (Int.ofNat_le.mp c3)
  clear c3
  by_cases c4 : 0 ≤ (l1.length : Int)
  ·rw [if_pos c4] at H
   have c4b0 := eq_true c4
   have c4b1 : decide (0 ≤ (l1.length : Int)) = true := decide_eq_true c4
   clear c4
   by_cases c5 : (l1.length : Int) ≤ (l0.length : Int)
   ·rw [if_pos c5] at H
    have c5b0 := eq_true c5
    have c5b1 : decide ((l1.length : Int) ≤ (l0.length : Int)) = true := decide_eq_true c5
    clear c5
    obtain ⟨y372, hy372⟩ : ∃ y_ : List (S68), y_ = (l0.take ((l1.length : Int) : Int).toNat) := ⟨_, rfl⟩
    replace H : ((impl_placeCmp.f k y372 l1).bind fun t376 => (some (t376 == 0))) = some r := by first | (rw [hy372]; with_reducible exact H) | (have H2_ := (Option.bind_some _ _).symm.trans H; rw [hy372]; with_reducible exact H2_) | (have H2_ := (Option.bind_some _ _).symm.trans H; with_reducible exact H2_) | with_reducible exact H | (rw [hy372]; exact H) | exact H
    have Ny372 := A_ hy372
    clear hy372
    replace H := Option.bind_eq_some_iff.mp H
    obtain ⟨t376, A60, H⟩ := H
    replace H : (some (t376 == 0)) = some r := H
    have A6 := A_ A60
    clear A60
    obtain rfl := Option.some.inj H
    have q7 : ((l1.length : Int) : Int) ≤ ((l0.length : Int) : Int) := of_decide_eq_true Z13
    obtain ⟨i07, hi07, _, hsz7, _⟩ := info_parts info68
    have hroom7 : l0.length ≤ c0 := HC0.out
    have hC7 : Kd.C k68 _ A0 l0.length l0 := HR0.out
    have hcut7 := cut_to (P := Try.prog) 39 68 .i64 Try.underlying39 hi07 A0 l0.length c0 (l1.length : Int) (of_decide_eq_true Z13) q7 hroom7
    have hr7 := Kd.C_take (m := ((l1.length : Int) : Int).toNat) hC7 (by omega)
    have hy7 : y372.length = ((l1.length : Int) : Int).toNat := (by rw [Ny372.out, List.length_take]; omega)
    rw [← Ny372.out] at hr7
    rw [← hy7] at hcut7
    have HR375 := A_ hr7
    have HC375 := A_ (show y372.length ≤ c0 from by omega)
    clear hr7 hC7 hroom7 hi07 hsz7
    have KY7 := A_ hy7
    clear hy7
    replace q7 := eq_true q7
    go_enter Try.func49, Try.ntmps49
    go_wp2_with (first | (go_at_call 44; (with_reducible refine (impl_placeCmp.calls k _ _ y372 _ _ l1 t376 _ ?side1 ?side2 ?side3 ?side4 A6.out).mono ?_); (case side1 => exact Z17 HR375.out); (case side2 => exact HC375.out); (case side3 => exact Z17 HR1.out); (case side4 => exact HC1.out); rintro e w8 ⟨rfl, hb⟩; have n0_ := A_ (below_step Z1 hb); clear HB; have HB := n0_; clear n0_; (try clear hb); (try clear hb2); (try clear hk); (try clear hi)))
    go_ret
    exact ⟨Z18, Z1⟩
   ·rw [if_neg c5] at H
    exact absurd H (by simp)
  ·rw [if_neg c4] at H
   exact absurd H (by simp)
 ·rw [if_neg c3] at H
  have c3b0 : decide ((l1.length : Int) ≤ (l0.length : Int)) = false := decide_eq_false c3
  have c3b1 : decide (l1.length ≤ l0.length) = false := decide_eq_false (fun h => c3 (Int.ofNat_le.mpr h))
  clear c3
  obtain rfl := Option.some.inj H
  go_enter Try.func49, Try.ntmps49
  go_wp2
  go_ret
  exact ⟨Z18, Z1⟩
def impl_valsCopy.f (l0 : List (S28)) : Option ((List (S28))) := if ([] : List (S28)).length + l0.length < 4398046511104 then (some (([] : List (S28)) ++ l0)) else (none)
set_option maxHeartbeats 8000000 in
set_option maxRecDepth 100000 in
theorem impl_valsCopy.calls (A0 : Option Addr) (c0 : Nat) (l0 : List (S28)) (r : List (S28)) (w : World) (hr0 : Kd.C k28 w A0 l0.length l0) (hc0 : l0.length ≤ c0) (h : impl_valsCopy.f l0 = some r) :
  Calls Try.prog 47 #[.slice A0 l0.length c0] w fun e w' => ∃ v0_ : Value, e = .returned (v0_) ∧ Kd.R k28 28 w' w.heap.size (fun _ => True) v0_ r ∧ Below w.heap.size w w' := by
 have HR0 := A_ hr0
 have HC0 := A_ hc0
 clear hr0 hc0
 have HB := A_ (Below.refl w.heap.size w)
 have H : (if ([] : List (S28)).length + l0.length < 4398046511104 then (some (([] : List (S28)) ++ l0)) else (none)) = some r := h
 clear h
 by_cases c2 : ([] : List (S28)).length + l0.length < 4398046511104
 ·rw [if_pos c2] at H
  have LMc2 := A_ c2
  clear c2
  obtain ⟨y377, hy377⟩ : ∃ y_ : List (S28), y_ = (([] : List (S28)) ++ l0) := ⟨_, rfl⟩
  replace H : (some y377) = some r := by first | (rw [hy377]; with_reducible exact H) | (have H2_ := (Option.bind_some _ _).symm.trans H; rw [hy377]; with_reducible exact H2_) | (have H2_ := (Option.bind_some _ _).symm.trans H; with_reducible exact H2_) | with_reducible exact H | (rw [hy377]; exact H) | exact H
  have Ny377 := A_ hy377
  clear hy377
  obtain rfl := Option.some.inj H
  go_enter Try.func47, Try.ntmps47
  go_wp2_with (first | ((with_reducible refine gate_builtin (b := .append) (xs := #[.const (.slice none 0 0), .tmp 3]) rfl ?_); at_builtin; refine Kd.R_append_rows k28 (w0 := w) w.heap.size rfl (.const (.slice none 0 0)) (.tmp 3) 36 28 (.agg #[(.int .i64 0), (.int .i64 0), (.string ⟨#[]⟩)]) 32 rfl Try.underlying36 info28 rfl (by decide) (by omega) (.slice none 0 0) ([] : List (S28)) l0 _ _ _ (fun _ => True) (fun _ => False) rfl rfl ?aO ?aR (fun _ _ h => h) (fun _ h => h.elim) ?aF ?aB ?aS ?aL ?_; (case aR => exact Z17 HR0.out); (case aB => exact Z1); (case aF => exact (fun _ _ => trivial)); (case aO => exact ((Kd.R_nil _ _ _ _ (fun _ => True)))); (case aS => exact (below_size Z1)); (case aL => have := LMc2.out; omega); intro v378 w3 ho hb hg hat; rw [← Ny377.out] at ho; have n0_ := A_ (hb); have n1_ := A_ (ho); clear HB; have HB := n0_; have HO379 := n1_; clear n0_ n1_; clear ho hb hg hat))
  go_ret
  exact ⟨_, Z18, Z14 HO379.out, Z1⟩
 ·rw [if_neg c2] at H
  exact absurd H (by simp)
def impl_placeCopy.f (l0 : List (S68)) : Option ((List (S68))) := if ([] : List (S68)).length + l0.length < 8796093022208 then (some (([] : List (S68)) ++ l0)) else (none)
set_option maxHeartbeats 8000000 in
set_option maxRecDepth 100000 in
theorem impl_placeCopy.calls (A0 : Option Addr) (c0 : Nat) (l0 : List (S68)) (r : List (S68)) (w : World) (hr0 : Kd.C k68 w A0 l0.length l0) (hc0 : l0.length ≤ c0) (h : impl_placeCopy.f l0 = some r) :
  Calls Try.prog 67 #[.slice A0 l0.length c0] w fun e w' => ∃ v0_ : Value, e = .returned (v0_) ∧ Kd.R k68 68 w' w.heap.size (fun _ => True) v0_ r ∧ Below w.heap.size w w' := by
 have HR0 := A_ hr0
 have HC0 := A_ hc0
 clear hr0 hc0
 have HB := A_ (Below.refl w.heap.size w)
 have H : (if ([] : List (S68)).length + l0.length < 8796093022208 then (some (([] : List (S68)) ++ l0)) else (none)) = some r := h
 clear h
 by_cases c2 : ([] : List (S68)).length + l0.length < 8796093022208
 ·rw [if_pos c2] at H
  have LMc2 := A_ c2
  clear c2
  obtain ⟨y380, hy380⟩ : ∃ y_ : List (S68), y_ = (([] : List (S68)) ++ l0) := ⟨_, rfl⟩
  replace H : (some y380) = some r := by first | (rw [hy380]; with_reducible exact H) | (have H2_ := (Option.bind_some _ _).symm.trans H; rw [hy380]; with_reducible exact H2_) | (have H2_ := (Option.bind_some _ _).symm.trans H; with_reducible exact H2_) | with_reducible exact H | (rw [hy380]; exact H) | exact H
  have Ny380 := A_ hy380
  clear hy380
  obtain rfl := Option.some.inj H
  go_enter Try.func67, Try.ntmps67
  go_wp2_with (first | ((with_reducible refine gate_builtin (b := .append) (xs := #[.const (.slice none 0 0), .tmp 3]) rfl ?_); at_builtin; refine Kd.R_append_rows k68 (w0 := w) w.heap.size rfl (.const (.slice none 0 0)) (.tmp 3) 39 68 (.agg #[(.int .i64 0), (.int .i64 0)]) 16 rfl Try.underlying39 info68 rfl (by decide) (by omega) (.slice none 0 0) ([] : List (S68)) l0 _ _ _ (fun _ => True) (fun _ => False) rfl rfl ?aO ?aR (fun _ _ h => h) (fun _ h => h.elim) ?aF ?aB ?aS ?aL ?_; (case aR => exact Z17 HR0.out); (case aB => exact Z1); (case aF => exact (fun _ _ => trivial)); (case aO => exact ((Kd.R_nil _ _ _ _ (fun _ => True)))); (case aS => exact (below_size Z1)); (case aL => have := LMc2.out; omega); intro v381 w3 ho hb hg hat; rw [← Ny380.out] at ho; have n0_ := A_ (hb); have n1_ := A_ (ho); clear HB; have HB := n0_; have HO382 := n1_; clear n0_ n1_; clear ho hb hg hat))
  go_ret
  exact ⟨_, Z18, Z14 HO382.out, Z1⟩
 ·rw [if_neg c2] at H
  exact absurd H (by simp)
def impl_cellCopy.f (l0_0 : List (S68)) (l0_1 : List (S28)) : Option ((List (S68)) × (List (S28))) := (impl_placeCopy.f l0_0).bind fun t385 => ((impl_valsCopy.f l0_1).bind fun t388 => (some (t385, t388)))
def impl_cellCopy.T1 : Bool × List (List Nat × List Nat) := (true, [([], []), ([0], [0]), ([1], [1]), ([], []), ([3], [3]), ([4, 2], [4]), ([2, 5], [2, 5]), ([6, 5, 0, 1, 2, 3, 4, 5, 6], [6])])
def impl_cellCopy.B1 : List Nat := [0, 1, 3, 0, 8, 31, 63, 127]
theorem impl_cellCopy.tab1 : rtab .any (opsOf Try.f50 1) = impl_cellCopy.T1 := by kernel_rfl
theorem impl_cellCopy.bits1 : waitsOk impl_cellCopy.T1.2 impl_cellCopy.B1 = true := by kernel_rfl
set_option maxHeartbeats 8000000 in
set_option maxRecDepth 100000 in
theorem impl_cellCopy.calls (A0_0 : Option Addr) (c0_0 : Nat) (l0_0 : List (S68)) (A0_1 : Option Addr) (c0_1 : Nat) (l0_1 : List (S28)) (r1 : List (S68)) (r2 : List (S28)) (w : World) (hr0_0 : Kd.C k68 w A0_0 l0_0.length l0_0) (hc0_0 : l0_0.length ≤ c0_0) (hr0_1 : Kd.C k28 w A0_1 l0_1.length l0_1) (hc0_1 : l0_1.length ≤ c0_1) (h : impl_cellCopy.f l0_0 l0_1 = some (r1, r2)) :
  Calls Try.prog 50 #[.agg #[.slice A0_0 l0_0.length c0_0, .slice A0_1 l0_1.length c0_1]] w fun e w' => ∃ v0_ v1_ : Value, e = .returned (.agg #[v0_, v1_]) ∧ Kd.R k68 68 w' w.heap.size (fun _ => True) v0_ r1 ∧ Kd.R k28 28 w' w.heap.size (fun _ => True) v1_ r2 ∧ Below w.heap.size w w' := by
 have hu41 := Try.underlying41
 have HR0_0 := A_ hr0_0
 have HC0_0 := A_ hc0_0
 clear hr0_0 hc0_0
 have HR0_1 := A_ hr0_1
 have HC0_1 := A_ hc0_1
 clear hr0_1 hc0_1
 have HB := A_ (Below.refl w.heap.size w)
 have H : ((impl_placeCopy.f l0_0).bind fun t385 => ((impl_valsCopy.f l0_1).bind fun t388 => (some (t385, t388)))) = some (r1, r2) := h
 clear h
 replace H := Option.bind_eq_some_iff.mp H
 obtain ⟨t385, A20, H⟩ := H
 replace H : ((impl_valsCopy.f l0_1).bind fun t388 => (some (t385, t388))) = some (r1, r2) := H
 have A2 := A_ A20
 clear A20
 replace H := Option.bind_eq_some_iff.mp H
 obtain ⟨t388, A30, H⟩ := H
 replace H : (some (t385, t388)) = some (r1, r2) := H
 have A3 := A_ A30
 clear A30
 simp only [Option.some.injEq, Prod.mk.injEq] at H
 obtain ⟨rfl, rfl⟩ := H
 go_enter Try.func50, Try.ntmps50
 try go_wp2_with (first | ((with_reducible refine gate_dst (N := 1) rfl ?_); refine box_event ?hg (N := 1) ?hd (cs := #[.slice A0_0 l0_0.length c0_0, .slice A0_1 l0_1.length c0_1]) (t := 41) ?hr ?_; (case hd => rfl); (case hg => rfl); (case hr => exact Z26); intro gb383 hg w4 hbox hb; have n0_ := A_ (below_step Z1 hb); have n1_ := A_ (hbox); have n2_ := A_ ((by rw [hg]; exact (below_size Z1) : w.heap.size ≤ gb383)); have n3_ := A_ ((by rw [hg]; exact (below_size Z1) : w.heap.size ≤ gb383)); clear HB; have HB := n0_; have BK383 := n1_; have GW383 := n2_; have GE383 := n3_; clear n0_ n1_ n2_ n3_; clear hb hbox hg) | ((with_reducible refine gate_dst (N := 2) rfl ?_); refine box_event ?hg (N := 2) ?hd (cs := #[.slice none 0 0, .slice none 0 0]) (t := 41) ?hr ?_; (case hd => rfl); (case hg => rfl); (case hr => exact Z26); intro gb384 hg w5 hbox hb; have n0_ := A_ (blk_below (g := gb383) (o := .cells #[.slice A0_0 l0_0.length c0_0, .slice A0_1 l0_1.length c0_1] 41 (0, 0)) (Z5 BK383.out) hb); have n1_ := A_ (below_step (Z2 GE383.out) hb); have n2_ := A_ (hbox); have n3_ := A_ ((by rw [hg]; exact (below_size (Z2 GE383.out)) : w.heap.size ≤ gb384)); have n4_ := A_ ((by rw [hg]; exact (below_size (Z2 GE383.out)) : w.heap.size ≤ gb384)); have n5_ := A_ ((by rw [hg]; exact Nat.ne_of_lt (blk_lt (g := gb383) (o := .cells #[.slice A0_0 l0_0.length c0_0, .slice A0_1 l0_1.length c0_1] 41 (0, 0)) (Z5 BK383.out)) : gb383 ≠ gb384)); have n6_ := A_ ((by rw [hg]; exact Nat.ne_of_gt (blk_lt (g := gb383) (o := .cells #[.slice A0_0 l0_0.length c0_0, .slice A0_1 l0_1.length c0_1] 41 (0, 0)) (Z5 BK383.out)) : gb384 ≠ gb383)); clear BK383; clear HB; have BK383 := n0_; have HB := n1_; have BK384 := n2_; have GW384 := n3_; have GE384 := n4_; have NB383_384 := n5_; have NB384_383 := n6_; clear n0_ n1_ n2_ n3_ n4_ n5_ n6_; clear hb hbox hg))
 have n0_ := A_ (blk_drew BK383.out)
 have n1_ := A_ (blk_drew BK384.out)
 have n2_ := A_ (below_drew1 HB.out)
 clear BK383
 clear BK384
 clear HB
 have BK383 := n0_
 have BK384 := n1_
 have HB := n2_
 clear n0_ n1_ n2_
 refine start_ (n := 8) (S := fun w' => w'.cell? ⟨gb383, 0, none⟩ = some (.slice A0_0 l0_0.length c0_0) ∧ w'.cell? ⟨gb383, 1, none⟩ = some (.slice A0_1 l0_1.length c0_1)) (ds := []) #[F,F,F,F,F,F,F,F] (by kernel_rfl) rfl rfl ⟨(blk_cell BK383.out 0).trans rfl, (blk_cell BK383.out 1).trans rfl⟩ (fun hHeld => ?_); refine with_tabW impl_cellCopy.tab1 impl_cellCopy.bits1 (fun HT_ HW_ => ?_)
 generalize w5.drew = w6 at BK383 BK384 HB hHeld ⊢
 refine pure_ (i := 0) (N := some 3) (v := ?_) (a' := ?_) #[T,F,F,F,F,F,F,F] rfl rfl ZA ZF (Or.inl ⟨by rfl, ?_⟩) ?_ ?_
 rotate_left
 ·exact Z16
 rotate_left
 ·exact Z0
 refine pure_ (i := 3) (N := some 6) (v := ?_) (a' := ?_) #[T,F,F,T,F,F,F,F] rfl rfl ZA ZF (Or.inl ⟨by rfl, ?_⟩) ?_ ?_
 rotate_left
 ·exact Z16
 rotate_left
 ·exact Z0
 refine take_ (i := 1) (N := some 4) (v := ?_) (a' := ?_) #[T,T,F,T,F,F,F,F] rfl rfl (take_ofW HT_.out HW_.out (by kernel_rfl)) ZF (Or.inl ⟨by rfl, ?_⟩) hHeld ?_ ?_
 rotate_left
 ·exact Z43
 rotate_left
 ·exact Z0
 refine take_ (i := 4) (N := some 7) (v := ?_) (a' := ?_) #[T,T,F,T,T,F,F,F] rfl rfl (take_ofW HT_.out HW_.out (by kernel_rfl)) ZF (Or.inl ⟨by rfl, ?_⟩) hHeld ?_ ?_
 rotate_left
 ·exact Z43
 rotate_left
 ·exact Z0
 refine one_ (i := 2) (N := some 5) #[T,T,T,T,T,F,F,F] rfl rfl (one_of HT_.out (by kernel_rfl)) (by decide) (fun K hK => ?_)
 refine goes_ Try.func67 (by kernel_rfl) rfl #[.slice A0_0 l0_0.length c0_0] (by rfl) rfl rfl Z3 ?_
 with_reducible refine (impl_placeCopy.calls _ _ l0_0 t385 _ ?side1 ?side2 A2.out).mono ?_
 (case side1 => exact Z12 HR0_0.out)
 (case side2 => exact HC0_0.out)
 rintro e w7 ⟨v386, rfl, ho0, hb⟩
 refine ⟨_, rfl, ?_⟩
 have n0_ := A_ (Kd.R_lower ho0 (below_size (Z15 GE383.out GE384.out)))
 have n1_ := A_ (blk_below (g := gb383) (o := .cells #[.slice A0_0 l0_0.length c0_0, .slice A0_1 l0_1.length c0_1] 41 (0, 0)) (Z5 BK383.out) hb)
 have n2_ := A_ (blk_below (g := gb384) (o := .cells #[.slice none 0 0, .slice none 0 0] 41 (0, 0)) (Z5 BK384.out) hb)
 have n3_ := A_ (below_step (Z15 GE383.out GE384.out) hb)
 clear BK383
 clear BK384
 clear HB
 have HO387 := n0_
 have BK383 := n1_
 have BK384 := n2_
 have HB := n3_
 clear n0_ n1_ n2_ n3_
 (try clear hb)
 (try clear hb2)
 (try clear hk)
 (try clear hi)
 (try clear ho0)
 refine hK.out _ _ ⟨(blk_cell BK383.out 0).trans rfl, (blk_cell BK383.out 1).trans rfl⟩ (fun hHeld => ?_)
 clear hK K
 refine norm_ (a' := ?_) ?_ ?_
 rotate_left
 ·show Act.put _ (some 5) _ = _
  simp only [Act.put, List.setIfInBounds_toArray, List.set_cons_zero, List.set_cons_succ, i64_w, i32_w]
  rfl
 refine one_ (i := 5) (N := some 8) #[T,T,T,T,T,T,F,F] rfl rfl (one_of HT_.out (by kernel_rfl)) (by decide) (fun K hK => ?_)
 refine goes_ Try.func47 (by kernel_rfl) rfl #[.slice A0_1 l0_1.length c0_1] (by rfl) rfl rfl Z3 ?_
 with_reducible refine (impl_valsCopy.calls _ _ l0_1 t388 _ ?side1 ?side2 A3.out).mono ?_
 (case side1 => exact Z12 HR0_1.out)
 (case side2 => exact HC0_1.out)
 rintro e w8 ⟨v389, rfl, ho0, hb⟩
 refine ⟨_, rfl, ?_⟩
 have n0_ := A_ (Kd.R_below (Z14 HO387.out) hb)
 have n1_ := A_ (Kd.R_lower ho0 (below_size (Z15 GE383.out GE384.out)))
 have n2_ := A_ (blk_below (g := gb383) (o := .cells #[.slice A0_0 l0_0.length c0_0, .slice A0_1 l0_1.length c0_1] 41 (0, 0)) (Z5 BK383.out) hb)
 have n3_ := A_ (blk_below (g := gb384) (o := .cells #[.slice none 0 0, .slice none 0 0] 41 (0, 0)) (Z5 BK384.out) hb)
 have n4_ := A_ (below_step (Z15 GE383.out GE384.out) hb)
 clear HO387
 clear BK383
 clear BK384
 clear HB
 have HO387 := n0_
 have HO390 := n1_
 have BK383 := n2_
 have BK384 := n3_
 have HB := n4_
 clear n0_ n1_ n2_ n3_ n4_
 (try clear hb)
 (try clear hb2)
 (try clear hk)
 (try clear hi)
 (try clear ho0)
 obtain ⟨Ao9, co9, eo9⟩ := Kd.R_slice HO390.out
 (first | subst eo9 | (injection eo9 with f1_ f2_ f3_; have f4_ := f1_.symm; have f5_ := f3_.symm; clear f1_ f2_ f3_; subst f4_; subst f5_))
 obtain ⟨Ao10, co10, eo10⟩ := Kd.R_slice HO387.out
 (first | subst eo10 | (injection eo10 with f1_ f2_ f3_; have f4_ := f1_.symm; have f5_ := f3_.symm; clear f1_ f2_ f3_; subst f4_; subst f5_))
 refine hK.out _ _ ⟨(blk_cell BK383.out 0).trans rfl, (blk_cell BK383.out 1).trans rfl⟩ (fun hHeld => ?_)
 clear hK K
 refine norm_ (a' := ?_) ?_ ?_
 rotate_left
 ·show Act.put _ (some 8) _ = _
  simp only [Act.put, List.setIfInBounds_toArray, List.set_cons_zero, List.set_cons_succ, i64_w, i32_w]
  rfl
 refine pure_ (i := 6) (N := some 9) (v := ?_) (a' := ?_) #[T,T,T,T,T,T,T,F] rfl rfl ZA ZF (Or.inl ⟨by rfl, ?_⟩) ?_ ?_
 rotate_left
 ·exact Z16
 rotate_left
 ·exact Z0
 refine one_ (i := 7) (N := none) #[T,T,T,T,T,T,T,T] rfl rfl (one_of HT_.out (by kernel_rfl)) (by decide) (fun K hK => ?_)
 have hs11 : w8.cell? ⟨gb384, 0, none⟩ = some (.slice none 0 0) := (blk_cell BK384.out 0).trans rfl
 have hfs11 := blk_frozen BK384.out 0
 have hns11_0 := NB383_384.out
 have hms11_0 := NB384_383.out
 have hs12 : w8.cell? ⟨gb384, 1, none⟩ = some (.slice none 0 0) := (blk_cell BK384.out 1).trans rfl
 have hfs12 := blk_frozen BK384.out 1
 have hns12_0 := NB383_384.out
 have hms12_0 := NB384_383.out
 refine skip_ (w1 := ?_) (by rfl) rfl ?_ ?_
 rotate_left
 ·go_simp
  rfl
 refine hK.out _ _ ⟨((cell_far (p := ⟨gb384, _, none⟩) NB383_384.out _).trans (((cell_far (p := ⟨gb384, _, none⟩) NB383_384.out _).trans (hHeld.1)))), ((cell_far (p := ⟨gb384, _, none⟩) NB383_384.out _).trans (((cell_far (p := ⟨gb384, _, none⟩) NB383_384.out _).trans (hHeld.2))))⟩ (fun hHeld => ?_)
 clear hK K
 refine done_ (done_of HT_.out (by kernel_rfl)) ?_
 try go_wp2
 refine bodyPost_ret (results_cell_row rfl _ _ gb384 41 #[.slice Ao10 t385.length co10, .slice Ao9 t388.length co9] (0, 0) _ rfl (by (with_reducible repeat (first | refine blk_drewN ?_ _ | refine blk_drew ?_ | refine blk_alloc ?_ _)); refine blk_put (cs := #[.slice Ao10 t385.length co10, .slice none 0 0]) ?_ 1 _ rfl; (with_reducible repeat (first | refine blk_drewN ?_ _ | refine blk_drew ?_ | refine blk_alloc ?_ _)); refine blk_put (cs := #[.slice none 0 0, .slice none 0 0]) ?_ 0 _ rfl; (with_reducible repeat (first | refine blk_drewN ?_ _ | refine blk_drew ?_ | refine blk_alloc ?_ _)); exact BK384.out) Try.underlying41 rfl (by kernel_rfl)) rfl ?_
 exact ⟨_, _, Z18, by (with_reducible repeat (first | apply Kd.R_alloc | apply Kd.R_drewN | apply Kd.R_drew)); exact Kd.R_mono (Kd.R_far (p := ⟨gb384, 1, none⟩) (Kd.R_far (p := ⟨gb384, 0, none⟩) (Kd.R_types HO387.out BK384.out (by decide)) (fun _ hk => hk.2) (.slice Ao10 t385.length co10)) (fun _ hk => hk.2) (.slice Ao9 t388.length co9)) (fun _ hk => trivial), by (with_reducible repeat (first | apply Kd.R_alloc | apply Kd.R_drewN | apply Kd.R_drew)); exact Kd.R_mono (Kd.R_far (p := ⟨gb384, 1, none⟩) (Kd.R_far (p := ⟨gb384, 0, none⟩) (Kd.R_types HO390.out BK384.out (by decide)) (fun _ hk => hk.2) (.slice Ao10 t385.length co10)) (fun _ hk => hk.2) (.slice Ao9 t388.length co9)) (fun _ hk => trivial), Z15 GE383.out GE384.out⟩
mutual
def impl_StoreCut.j0 : Nat → List (S41) → List (S68) → Bool → Option ((List (S41)))
 | 0, _, _, _ => none
 | k + 1, x0, x1, x15 => if x15 = true then (some ([] : List (S41))) else (impl_StoreCut.l0 k x1 ([] : List (S41)) x0 (x0.length : Int) 0)
def impl_StoreCut.l0 : Nat → List (S68) → List (S41) → List (S41) → Int → Int → Option ((List (S41)))
 | 0, _, _, _, _, _ => none
 | k + 1, x1, x5, x16, x17, x18 => if x18 < x17 then (if 0 ≤ x18 then (if x18 < (x16.length : Int) then ((impl_placeUnder.f k ((rd_T41 x16 x18).f0) x1).bind fun t395 => (if t395 = true then (impl_StoreCut.l0 k x1 x5 x16 x17 (wrap64 (x18 + 1))) else ((impl_cellCopy.f ((rd_T41 x16 x18).f0) ((rd_T41 x16 x18).f1)).bind fun bt396 => (if x5.length < 2932031007402 then (impl_StoreCut.l0 k x1 (x5 ++ [(⟨bt396.1, bt396.2⟩ : S41)]) x16 x17 (wrap64 (x18 + 1))) else (none))))) else (none)) else (none)) else (some x5)
end
def impl_StoreCut.f (k : Nat) (l0 : List (S41)) (l1 : List (S68)) : Option ((List (S41))) := (impl_StoreOk.f k l0).bind fun t391 => (if t391 = true then ((impl_PlaceOk.f k l1).bind fun t392 => (impl_StoreCut.j0 k l0 l1 (!t392))) else (impl_StoreCut.j0 k l0 l1 true))
theorem impl_StoreCut.mono_l : ∀ k, (∀ y0 y1 y2, LeO (impl_StoreCut.j0 k y0 y1 y2) (impl_StoreCut.j0 (k + 1) y0 y1 y2)) ∧ (∀ y0 y1 y2 y3 y4, LeO (impl_StoreCut.l0 k y0 y1 y2 y3 y4) (impl_StoreCut.l0 (k + 1) y0 y1 y2 y3 y4))
 | 0 => ⟨fun _ _ _ r h => by simp [impl_StoreCut.j0] at h, fun _ _ _ _ _ r h => by simp [impl_StoreCut.l0] at h⟩
 | k + 1 => by
  obtain ⟨ih0, ih1⟩ := impl_StoreCut.mono_l k
  refine ⟨?_, ?_⟩
  ·intro y0 y1 y2
   unfold impl_StoreCut.j0
   repeat' first
   | (with_reducible exact ih0 _ _ _)
   | (with_reducible exact ih1 _ _ _ _ _)
   | (with_reducible exact impl_PlaceOk.mono _ _)
   | (with_reducible exact impl_StoreOk.mono _ _)
   | (with_reducible exact impl_placeUnder.mono _ _ _)
   | (with_reducible exact LeO.refl _)
   | (with_reducible exact LeO.none _)
   | (with_reducible refine LeO.ite ?_ ?_)
   | (with_reducible refine LeO.bind ?_ (fun _ => ?_))
   | exact ih0 _ _ _
   | exact ih1 _ _ _ _ _
   | exact impl_PlaceOk.mono _ _
   | exact impl_StoreOk.mono _ _
   | exact impl_placeUnder.mono _ _ _
   | exact LeO.none _
   | refine LeO.ite ?_ ?_
   | refine LeO.bind ?_ (fun _ => ?_)
  ·intro y0 y1 y2 y3 y4
   unfold impl_StoreCut.l0
   repeat' first
   | (with_reducible exact ih0 _ _ _)
   | (with_reducible exact ih1 _ _ _ _ _)
   | (with_reducible exact impl_PlaceOk.mono _ _)
   | (with_reducible exact impl_StoreOk.mono _ _)
   | (with_reducible exact impl_placeUnder.mono _ _ _)
   | (with_reducible exact LeO.refl _)
   | (with_reducible exact LeO.none _)
   | (with_reducible refine LeO.ite ?_ ?_)
   | (with_reducible refine LeO.bind ?_ (fun _ => ?_))
   | exact ih0 _ _ _
   | exact ih1 _ _ _ _ _
   | exact impl_PlaceOk.mono _ _
   | exact impl_StoreOk.mono _ _
   | exact impl_placeUnder.mono _ _ _
   | exact LeO.none _
   | refine LeO.ite ?_ ?_
   | refine LeO.bind ?_ (fun _ => ?_)
theorem impl_StoreCut.mono : ∀ a0 a1 k, LeO (impl_StoreCut.f k a0 a1) (impl_StoreCut.f (k + 1) a0 a1) := by
 intro a0 a1 k
 obtain ⟨ih0, ih1⟩ := impl_StoreCut.mono_l k
 unfold impl_StoreCut.f
 repeat' first
   | (with_reducible exact ih0 _ _ _)
   | (with_reducible exact ih1 _ _ _ _ _)
   | (with_reducible exact impl_PlaceOk.mono _ _)
   | (with_reducible exact impl_StoreOk.mono _ _)
   | (with_reducible exact impl_placeUnder.mono _ _ _)
   | (with_reducible exact LeO.refl _)
   | (with_reducible exact LeO.none _)
   | (with_reducible refine LeO.ite ?_ ?_)
   | (with_reducible refine LeO.bind ?_ (fun _ => ?_))
   | exact ih0 _ _ _
   | exact ih1 _ _ _ _ _
   | exact impl_PlaceOk.mono _ _
   | exact impl_StoreOk.mono _ _
   | exact impl_placeUnder.mono _ _ _
   | exact LeO.none _
   | refine LeO.ite ?_ ?_
   | refine LeO.bind ?_ (fun _ => ?_)
set_option maxHeartbeats 8000000 in
set_option maxRecDepth 100000 in
theorem impl_StoreCut.calls (k : Nat) (A0 : Option Addr) (c0 : Nat) (l0 : List (S41)) (A1 : Option Addr) (c1 : Nat) (l1 : List (S68)) (r : List (S41)) (w : World) (hr0 : Kd.C k41 w A0 l0.length l0) (hc0 : l0.length ≤ c0) (hr1 : Kd.C k68 w A1 l1.length l1) (hc1 : l1.length ≤ c1) (h : impl_StoreCut.f k l0 l1 = some r) :
  Calls Try.prog 21 #[.slice A0 l0.length c0, .slice A1 l1.length c1] w fun e w' => ∃ v0_ : Value, e = .returned (v0_) ∧ Kd.S k41 41 w' w.heap.size (fun _ => True) v0_ r ∧ Below w.heap.size w w' := by
 have hu41 := Try.underlying41
 have HR0 := A_ hr0
 have HC0 := A_ hc0
 clear hr0 hc0
 have HR1 := A_ hr1
 have HC1 := A_ hc1
 clear hr1 hc1
 have HB := A_ (Below.refl w.heap.size w)
 have H : ((impl_StoreOk.f k l0).bind fun t391 => (if t391 = true then ((impl_PlaceOk.f k l1).bind fun t392 => (impl_StoreCut.j0 k l0 l1 (!t392))) else (impl_StoreCut.j0 k l0 l1 true))) = some r := h
 clear h
 have HC3 := A_ H
 clear H
 go_enter Try.func21, Try.ntmps21
 go_upto_region 1 with (fail)
 go_cut [15] (fun v15 wc => ∃ (kq : Nat) (x15_2 : Bool), v15 = .bool x15_2 ∧ Aside0 (impl_StoreCut.j0 kq l0 l1 x15_2 = some r) ∧ Aside0 (kq ≤ k) ∧ Aside0 (Below w.heap.size w wc))
 case first =>
  have H := HC3.out
  clear HC3
  replace H := Option.bind_eq_some_iff.mp H
  obtain ⟨t391, A40, H⟩ := H
  replace H : (if t391 = true then ((impl_PlaceOk.f k l1).bind fun t392 => (impl_StoreCut.j0 k l0 l1 (!t392))) else (impl_StoreCut.j0 k l0 l1 true)) = some r := H
  have A4 := A_ A40
  clear A40
  by_cases c5 : t391 = true
  ·subst c5
   have H1 : ((impl_PlaceOk.f k l1).bind fun t392 => (impl_StoreCut.j0 k l0 l1 (!t392))) = some r := by rw [if_pos rfl] at H; exact H
   clear H
   have H := H1
   clear H1
   replace H := Option.bind_eq_some_iff.mp H
   obtain ⟨t392, A60, H⟩ := H
   replace H : (impl_StoreCut.j0 k l0 l1 (!t392)) = some r := H
   have A6 := A_ A60
   clear A60
   have H' := A_ H
   clear H
   go_wp2_with (first | ((with_reducible refine gate_callee (f := 16) rfl ?_); refine goesL_ (some 9) rfl rfl Try.func16 (by kernel_rfl) rfl #[.slice A0 l0.length c0] rfl Z3 ?_; (with_reducible refine (impl_StoreOk.calls k _ _ l0 true _ ?side1 ?side2 A4.out).mono ?_); (case side1 => exact Z12 HR0.out); (case side2 => exact HC0.out); rintro e w7 ⟨rfl, hb⟩; refine ⟨_, rfl, ?_⟩; have n0_ := A_ (below_step Z1 hb); clear HB; have HB := n0_; clear n0_; (try clear hb); (try clear hb2); (try clear hk); (try clear hi)) | (go_at_call 24; (with_reducible refine (impl_PlaceOk.calls k _ _ l1 t392 _ ?side1 ?side2 A6.out).mono ?_); (case side1 => exact Z12 HR1.out); (case side2 => exact HC1.out); rintro e w8 ⟨rfl, hb⟩; have n0_ := A_ (below_step Z1 hb); clear HB; have HB := n0_; clear n0_; (try clear hb); (try clear hb2); (try clear hk); (try clear hi)))
   go_meet
   case rel => exact ⟨_, (!t392), Z22, H', ⟨by first | omega | exact Nat.le_refl _⟩, ⟨Z1⟩⟩
  ·replace c5 := Bool.eq_false_iff.mpr c5
   subst c5
   have H1 : (impl_StoreCut.j0 k l0 l1 true) = some r := by rw [if_neg (show ¬ (false = true) by decide)] at H; exact H
   clear H
   have H := H1
   clear H1
   have H' := A_ H
   clear H
   go_wp2_with (first | ((with_reducible refine gate_callee (f := 16) rfl ?_); refine goesL_ (some 9) rfl rfl Try.func16 (by kernel_rfl) rfl #[.slice A0 l0.length c0] rfl Z3 ?_; (with_reducible refine (impl_StoreOk.calls k _ _ l0 false _ ?side1 ?side2 A4.out).mono ?_); (case side1 => exact Z12 HR0.out); (case side2 => exact HC0.out); rintro e w9 ⟨rfl, hb⟩; refine ⟨_, rfl, ?_⟩; have n0_ := A_ (below_step Z1 hb); clear HB; have HB := n0_; clear n0_; (try clear hb); (try clear hb2); (try clear hk); (try clear hi)))
   go_meet
   case rel => exact ⟨_, (true), Z22, H', ⟨by first | omega | exact Nat.le_refl _⟩, ⟨Z1⟩⟩
 case rest =>
  clear HC3
  try clear c1
  try clear c2
  try clear p2
  try clear c5
  obtain ⟨kq, x15_2, rfl, HA, HJ2, HB⟩ := hcut
  cases kq with
  | zero => exact absurd HA.out (by simp [impl_StoreCut.j0])
  | succ kj2 =>
   have H := HA.out
   clear HA
   simp only [impl_StoreCut.j0] at H
   by_cases c10 : x15_2 = true
   ·subst c10
    have H1 : (some ([] : List (S41))) = some r := by rw [if_pos rfl] at H; exact H
    clear H
    have H := H1
    clear H1
    obtain rfl := Option.some.inj H
    go_wp2
    go_ret
    exact ⟨_, Z18, by first | exact Kd.S_nil _ _ _ _ _ | exact Kd.N_nil _ _ _ _ _ | exact Kd.V_nil _ _ _ _ _ | exact Kd.Q_nil _ _ _ _ _ | exact Kd.R_nil _ _ _ _ _, Z1⟩
   ·replace c10 := Bool.eq_false_iff.mpr c10
    subst c10
    have H1 : (impl_StoreCut.l0 kj2 l1 ([] : List (S41)) l0 (l0.length : Int) 0) = some r := by rw [if_neg (show ¬ (false = true) by decide)] at H; exact H
    clear H
    have H := H1
    clear H1
    have H' := A_ H
    clear H
    go_wp2
    go_loopg [5, 18] kj2 (fun kq v5 v18 w' => ∃ (x5_2 : List (S41)) (x18_2 : Int), v18 = .int .i64 x18_2 ∧ Aside0 (impl_StoreCut.l0 kq l1 x5_2 l0 (l0.length : Int) x18_2 = some r) ∧ Aside0 (kq ≤ kj2) ∧ Aside0 (Kd.S k41 41 w' w.heap.size (fun _ => True) v5 x5_2) ∧ Aside0 (Below w.heap.size w w'))
    case atStart => exact ⟨(([] : List (S41))), (0), Z22, H', ⟨Nat.le_refl _⟩, ⟨by first | exact Kd.S_nil _ _ _ _ _ | exact Kd.N_nil _ _ _ _ _ | exact Kd.V_nil _ _ _ _ _ | exact Kd.Q_nil _ _ _ _ _ | exact Kd.R_nil _ _ _ _ _⟩, ⟨Z1⟩⟩
    case round =>
     clear H'
     try clear c1
     try clear c2
     try clear p2
     try clear c5
     try clear c10
     try clear p2
     obtain ⟨x5_2, x18_2, rfl, HA, HK2, HO_5, HB⟩ := hrel
     cases gk with
     | zero => exact absurd HA.out (by simp [impl_StoreCut.l0])
     | succ k2 =>
      have H := HA.out
      clear HA
      simp only [impl_StoreCut.l0] at H
      by_cases c11 : x18_2 < (l0.length : Int)
      ·rw [if_pos c11] at H
       have c11b0 : decide (x18_2 < (l0.length : Int)) = true := decide_eq_true c11
       clear c11
       by_cases c12 : 0 ≤ x18_2
       ·rw [if_pos c12] at H
        have c12b0 : decide (0 ≤ x18_2) = true := decide_eq_true c12
        clear c12
        by_cases c13 : x18_2 < (l0.length : Int)
        ·rw [if_pos c13] at H
         have c13b0 : decide (x18_2 < (l0.length : Int)) = true := decide_eq_true c13
         clear c13
         replace H := Option.bind_eq_some_iff.mp H
         obtain ⟨t395, A140, H⟩ := H
         replace H : (if t395 = true then (impl_StoreCut.l0 k2 l1 x5_2 l0 (l0.length : Int) (wrap64 (x18_2 + 1))) else ((impl_cellCopy.f ((rd_T41 l0 x18_2).f0) ((rd_T41 l0 x18_2).f1)).bind fun bt396 => (if x5_2.length < 2932031007402 then (impl_StoreCut.l0 k2 l1 (x5_2 ++ [(⟨bt396.1, bt396.2⟩ : S41)]) l0 (l0.length : Int) (wrap64 (x18_2 + 1))) else (none)))) = some r := H
         have A14 := A_ A140
         clear A140
         by_cases c15 : t395 = true
         ·subst c15
          have H1 : (impl_StoreCut.l0 k2 l1 x5_2 l0 (l0.length : Int) (wrap64 (x18_2 + 1))) = some r := by rw [if_pos rfl] at H; exact H
          clear H
          have H := H1
          clear H1
          have H' := A_ H
          clear H
          have p393 : 0 ≤ (x18_2 : Int) := of_decide_eq_true Z13
          have q393 : x18_2 < (l0.length : Int) := of_decide_eq_true Z13
          obtain ⟨ad393, A393_0, c393_0, A393_1, c393_1, e393, hx393_0, hx393_1, hl393_0, hi393_0, hl393_1, hi393_1⟩ := at_T41 HR0.out x18_2 p393 q393
          cases e393
          replace hx393_0 := ZC HB.out hx393_0
          replace hx393_1 := ZC HB.out hx393_1
          have HR393_0 := A_ hi393_0
          have HC393_0 := A_ hl393_0
          clear hi393_0 hl393_0
          have HR393_1 := A_ hi393_1
          have HC393_1 := A_ hl393_1
          clear hi393_1 hl393_1
          replace p393 := eq_true p393
          replace q393 := eq_true q393
          go_wp2_with (first | ((with_reducible refine gate_dst (N := 7) rfl ?_); refine box_event ?hg (N := 7) ?hd (cs := #[.slice none 0 0, .slice none 0 0]) (t := 41) ?hr ?_; (case hd => rfl); (case hg => rfl); (case hr => exact Z26); intro gb394 hg w16 hbox hb; have n0_ := A_ (Kd.S_below (Kd.S_elderB (Z31 HO_5.out) gb394 (Nat.le_of_eq hg.symm)) hb); have n1_ := A_ (below_step Z1 hb); have n2_ := A_ (hbox); have n3_ := A_ ((by rw [hg]; exact (below_size Z1) : w.heap.size ≤ gb394)); have n4_ := A_ ((by rw [hg]; exact (below_size Z1) : w.heap.size ≤ gb394)); clear HO_5; clear HB; have HO_5 := n0_; have HB := n1_; have BK394 := n2_; have GW394 := n3_; have GE394 := n4_; clear n0_ n1_ n2_ n3_ n4_; clear hb hbox hg; have hcz17_0 : w16.cell? ⟨gb394, 0, none⟩ = some (.slice none 0 0) := (blk_cell BK394.out 0).trans rfl; have hcz17_1 : w16.cell? ⟨gb394, 1, none⟩ = some (.slice none 0 0) := (blk_cell BK394.out 1).trans rfl; have hfz17_0 := blk_frozen BK394.out 0; have hfz17_1 := blk_frozen BK394.out 1) | ((with_reducible refine gate_callee (f := 49) rfl ?_); refine goesL_ (some 25) rfl rfl Try.func49 (by kernel_rfl) rfl #[.slice A393_0 ((rd_T41 l0 x18_2).f0).length c393_0, .slice A1 l1.length c1] rfl Z3 ?_; (with_reducible refine (impl_placeUnder.calls k2 _ _ ((rd_T41 l0 x18_2).f0) _ _ l1 true _ ?side1 ?side2 ?side3 ?side4 A14.out).mono ?_); (case side1 => exact Kd.C_below HR393_0.out (Z2 GE394.out)); (case side2 => exact HC393_0.out); (case side3 => exact Kd.C_below HR1.out (Z2 GE394.out)); (case side4 => exact HC1.out); rintro e w18 ⟨rfl, hb⟩; refine ⟨_, rfl, ?_⟩; have n0_ := A_ (Kd.S_below (by (with_reducible repeat (first | apply Kd.S_alloc | apply Kd.S_drewN | apply Kd.S_drew)); exact (Kd.S_mono (Kd.S_far (p := ⟨gb394, 1, none⟩) (Kd.S_far (p := ⟨gb394, 0, none⟩) (Kd.S_mono HO_5.out (fun k_ hk => (⟨hk, hk.2⟩ : _ ∧ k_ ≠ gb394))) (fun _ hk => hk.2) (.slice A393_0 ((rd_T41 l0 x18_2).f0).length c393_0)) (fun _ hk => hk.2) (.slice A393_1 ((rd_T41 l0 x18_2).f1).length c393_1)) (fun _ h_ => h_.1))) hb); have n1_ := A_ (blk_below (g := gb394) (o := .cells #[.slice A393_0 ((rd_T41 l0 x18_2).f0).length c393_0, .slice A393_1 ((rd_T41 l0 x18_2).f1).length c393_1] 41 (0, 0)) (by (with_reducible repeat (first | refine blk_drewN ?_ _ | refine blk_drew ?_ | refine blk_alloc ?_ _)); refine blk_put (cs := #[.slice A393_0 ((rd_T41 l0 x18_2).f0).length c393_0, .slice none 0 0]) ?_ 1 _ rfl; (with_reducible repeat (first | refine blk_drewN ?_ _ | refine blk_drew ?_ | refine blk_alloc ?_ _)); refine blk_put (cs := #[.slice none 0 0, .slice none 0 0]) ?_ 0 _ rfl; (with_reducible repeat (first | refine blk_drewN ?_ _ | refine blk_drew ?_ | refine blk_alloc ?_ _)); exact BK394.out) hb); have n2_ := A_ (below_step (Z2 GE394.out) hb); clear HO_5; clear BK394; clear HB; have HO_5 := n0_; have BK394 := n1_; have HB := n2_; clear n0_ n1_ n2_; (try clear hb); (try clear hb2); (try clear hk); (try clear hi)))
          go_roundg k2
          case measure => have := HJ2.out; have := HK2.out; omega
          case rel => exact ⟨(x5_2), (wrap64 (x18_2 + 1)), Z22, H', ⟨by have := HJ2.out; have := HK2.out; omega⟩, ⟨by (with_reducible repeat (first | apply Kd.S_alloc | apply Kd.S_drewN | apply Kd.S_drew)); exact Kd.S_mono HO_5.out (fun _ hk => trivial)⟩, ⟨Z2 GE394.out⟩⟩
         ·replace c15 := Bool.eq_false_iff.mpr c15
          subst c15
          have H1 : ((impl_cellCopy.f ((rd_T41 l0 x18_2).f0) ((rd_T41 l0 x18_2).f1)).bind fun bt396 => (if x5_2.length < 2932031007402 then (impl_StoreCut.l0 k2 l1 (x5_2 ++ [(⟨bt396.1, bt396.2⟩ : S41)]) l0 (l0.length : Int) (wrap64 (x18_2 + 1))) else (none))) = some r := by rw [if_neg (show ¬ (false = true) by decide)] at H; exact H
          clear H
          have H := H1
          clear H1
          replace H := Option.bind_eq_some_iff.mp H
          obtain ⟨⟨t396, t399⟩, A190, H⟩ := H
          replace H : (if x5_2.length < 2932031007402 then (impl_StoreCut.l0 k2 l1 (x5_2 ++ [(⟨t396, t399⟩ : S41)]) l0 (l0.length : Int) (wrap64 (x18_2 + 1))) else (none)) = some r := H
          have A19 := A_ A190
          clear A190
          by_cases c20 : x5_2.length < 2932031007402
          ·rw [if_pos c20] at H
           have LMc20 := A_ c20
           clear c20
           obtain ⟨y402, hy402⟩ : ∃ y_ : List (S41), y_ = (x5_2 ++ [(⟨t396, t399⟩ : S41)]) := ⟨_, rfl⟩
           replace H : (impl_StoreCut.l0 k2 l1 y402 l0 (l0.length : Int) (wrap64 (x18_2 + 1))) = some r := by first | (rw [hy402]; with_reducible exact H) | (have H2_ := (Option.bind_some _ _).symm.trans H; rw [hy402]; with_reducible exact H2_) | (have H2_ := (Option.bind_some _ _).symm.trans H; with_reducible exact H2_) | with_reducible exact H | (rw [hy402]; exact H) | exact H
           have Ny402 := A_ hy402
           clear hy402
           have H' := A_ H
           clear H
           have p393 : 0 ≤ (x18_2 : Int) := of_decide_eq_true Z13
           have q393 : x18_2 < (l0.length : Int) := of_decide_eq_true Z13
           obtain ⟨ad393, A393_0, c393_0, A393_1, c393_1, e393, hx393_0, hx393_1, hl393_0, hi393_0, hl393_1, hi393_1⟩ := at_T41 HR0.out x18_2 p393 q393
           cases e393
           replace hx393_0 := ZC HB.out hx393_0
           replace hx393_1 := ZC HB.out hx393_1
           have HR393_0 := A_ hi393_0
           have HC393_0 := A_ hl393_0
           clear hi393_0 hl393_0
           have HR393_1 := A_ hi393_1
           have HC393_1 := A_ hl393_1
           clear hi393_1 hl393_1
           replace p393 := eq_true p393
           replace q393 := eq_true q393
           go_wp2_with (first | ((with_reducible refine gate_dst (N := 7) rfl ?_); refine box_event ?hg (N := 7) ?hd (cs := #[.slice none 0 0, .slice none 0 0]) (t := 41) ?hr ?_; (case hd => rfl); (case hg => rfl); (case hr => exact Z26); intro gb394 hg w21 hbox hb; have n0_ := A_ (Kd.S_below (Kd.S_elderB (Z31 HO_5.out) gb394 (Nat.le_of_eq hg.symm)) hb); have n1_ := A_ (below_step Z1 hb); have n2_ := A_ (hbox); have n3_ := A_ ((by rw [hg]; exact (below_size Z1) : w.heap.size ≤ gb394)); have n4_ := A_ ((by rw [hg]; exact (below_size Z1) : w.heap.size ≤ gb394)); clear HO_5; clear HB; have HO_5 := n0_; have HB := n1_; have BK394 := n2_; have GW394 := n3_; have GE394 := n4_; clear n0_ n1_ n2_ n3_ n4_; clear hb hbox hg; have hcz22_0 : w21.cell? ⟨gb394, 0, none⟩ = some (.slice none 0 0) := (blk_cell BK394.out 0).trans rfl; have hcz22_1 : w21.cell? ⟨gb394, 1, none⟩ = some (.slice none 0 0) := (blk_cell BK394.out 1).trans rfl; have hfz22_0 := blk_frozen BK394.out 0; have hfz22_1 := blk_frozen BK394.out 1) | ((with_reducible refine gate_callee (f := 49) rfl ?_); refine goesL_ (some 25) rfl rfl Try.func49 (by kernel_rfl) rfl #[.slice A393_0 ((rd_T41 l0 x18_2).f0).length c393_0, .slice A1 l1.length c1] rfl Z3 ?_; (with_reducible refine (impl_placeUnder.calls k2 _ _ ((rd_T41 l0 x18_2).f0) _ _ l1 false _ ?side1 ?side2 ?side3 ?side4 A14.out).mono ?_); (case side1 => exact Kd.C_below HR393_0.out (Z2 GE394.out)); (case side2 => exact HC393_0.out); (case side3 => exact Kd.C_below HR1.out (Z2 GE394.out)); (case side4 => exact HC1.out); rintro e w23 ⟨rfl, hb⟩; refine ⟨_, rfl, ?_⟩; have n0_ := A_ (Kd.S_below (by (with_reducible repeat (first | apply Kd.S_alloc | apply Kd.S_drewN | apply Kd.S_drew)); exact (Kd.S_mono (Kd.S_far (p := ⟨gb394, 1, none⟩) (Kd.S_far (p := ⟨gb394, 0, none⟩) (Kd.S_mono HO_5.out (fun k_ hk => (⟨hk, hk.2⟩ : _ ∧ k_ ≠ gb394))) (fun _ hk => hk.2) (.slice A393_0 ((rd_T41 l0 x18_2).f0).length c393_0)) (fun _ hk => hk.2) (.slice A393_1 ((rd_T41 l0 x18_2).f1).length c393_1)) (fun _ h_ => h_.1))) hb); have n1_ := A_ (blk_below (g := gb394) (o := .cells #[.slice A393_0 ((rd_T41 l0 x18_2).f0).length c393_0, .slice A393_1 ((rd_T41 l0 x18_2).f1).length c393_1] 41 (0, 0)) (by (with_reducible repeat (first | refine blk_drewN ?_ _ | refine blk_drew ?_ | refine blk_alloc ?_ _)); refine blk_put (cs := #[.slice A393_0 ((rd_T41 l0 x18_2).f0).length c393_0, .slice none 0 0]) ?_ 1 _ rfl; (with_reducible repeat (first | refine blk_drewN ?_ _ | refine blk_drew ?_ | refine blk_alloc ?_ _)); refine blk_put (cs := #[.slice none 0 0, .slice none 0 0]) ?_ 0 _ rfl; (with_reducible repeat (first | refine blk_drewN ?_ _ | refine blk_drew ?_ | refine blk_alloc ?_ _)); exact BK394.out) hb); have n2_ := A_ (below_step (Z2 GE394.out) hb); clear HO_5; clear BK394; clear HB; have HO_5 := n0_; have BK394 := n1_; have HB := n2_; clear n0_ n1_ n2_; (try clear hb); (try clear hb2); (try clear hk); (try clear hi); have hcz24_0 : w23.cell? ⟨gb394, 0, none⟩ = some (.slice A393_0 ((rd_T41 l0 x18_2).f0).length c393_0) := (blk_cell BK394.out 0).trans rfl; have hcz24_1 : w23.cell? ⟨gb394, 1, none⟩ = some (.slice A393_1 ((rd_T41 l0 x18_2).f1).length c393_1) := (blk_cell BK394.out 1).trans rfl; have hfz24_0 := blk_frozen BK394.out 0; have hfz24_1 := blk_frozen BK394.out 1) | ((with_reducible refine gate_callee (f := 50) rfl ?_); refine goesL_ (some 29) rfl rfl Try.func50 (by kernel_rfl) rfl #[.agg #[.slice A393_0 ((rd_T41 l0 x18_2).f0).length c393_0, .slice A393_1 ((rd_T41 l0 x18_2).f1).length c393_1]] rfl Z3 ?_; (with_reducible refine (impl_cellCopy.calls _ _ ((rd_T41 l0 x18_2).f0) _ _ ((rd_T41 l0 x18_2).f1) t396 t399 _ ?side1 ?side2 ?side3 ?side4 A19.out).mono ?_); (case side1 => exact Z12 HR393_0.out); (case side2 => exact HC393_0.out); (case side3 => exact Z12 HR393_1.out); (case side4 => exact HC393_1.out); rintro e w25 ⟨v397, v400, rfl, ho0, ho1, hb⟩; refine ⟨_, rfl, ?_⟩; have n0_ := A_ (Kd.S_mono (Kd.S_told (Kd.S_told (Kd.S_old (Z31 HO_5.out) hb) (Kd.R_base ho0)) (Kd.R_base ho1)) (fun _ h_ => h_.1)); have n1_ := A_ (Kd.R_lower ho0 (below_size (Z2 GE394.out))); have n2_ := A_ (Kd.R_lower ho1 (below_size (Z2 GE394.out))); have n3_ := A_ (blk_below (g := gb394) (o := .cells #[.slice A393_0 ((rd_T41 l0 x18_2).f0).length c393_0, .slice A393_1 ((rd_T41 l0 x18_2).f1).length c393_1] 41 (0, 0)) (Z5 BK394.out) hb); have n4_ := A_ (below_step (Z2 GE394.out) hb); clear HO_5; clear BK394; clear HB; have HO_5 := n0_; have HO398 := n1_; have HO401 := n2_; have BK394 := n3_; have HB := n4_; clear n0_ n1_ n2_ n3_ n4_; (try clear hb); (try clear hb2); (try clear hk); (try clear hi); (try clear ho0); (try clear ho1); obtain ⟨Ao27, co27, eo27⟩ := Kd.R_slice HO398.out; subst eo27; obtain ⟨Ao28, co28, eo28⟩ := Kd.R_slice HO401.out; subst eo28) | ((with_reducible refine gate_builtin (b := .append) (xs := #[.tmp 27, .tmp 30]) rfl ?_); at_builtin; refine Kd.S_append k41 (w0 := w) w.heap.size rfl (.tmp 27) (.tmp 30) 33 41 (.agg #[(.slice none 0 0), (.slice none 0 0)]) 48 rfl Try.underlying33 info41 rfl (by decide) (by omega) u5 x5_2 (⟨t396, t399⟩ : S41) [.slice Ao27 t396.length co27, .slice Ao28 t399.length co28] (fun k_ => k_ ≠ gb394) (fun k_ => some k_ = (.slice Ao27 t396.length co27 : Value).ownBlock ∨ some k_ = (.slice Ao28 t399.length co28 : Value).ownBlock) rfl rfl ?aP (fun k_ hk_ => hk_.elim (fun h_ => ((Kd.R_mono (ok' := fun k_ => ((fun k_ => k_ ≠ gb394)) k_ ∧ some k_ ≠ (u5 : Value).ownBlock) (Kd.R_types (Kd.R_apart' (HO398.out) (Kd.S_typed HO_5.out) (by decide)) BK394.out (by decide)) (fun k_ hk => ⟨hk.2, hk.1.2⟩))).1 k_ h_.symm) (fun h_ => ((Kd.R_mono (ok' := fun k_ => ((fun k_ => k_ ≠ gb394)) k_ ∧ some k_ ≠ (u5 : Value).ownBlock) (Kd.R_types (Kd.R_apart' (HO401.out) (Kd.S_typed HO_5.out) (by decide)) BK394.out (by decide)) (fun k_ hk => ⟨hk.2, hk.1.2⟩))).1 k_ h_.symm)) ?aF ?aO ?aB ?aS ?aL ?_; (case aP => exact k41_mkM _ _ _ (⟨t396, t399⟩ : S41) (Kd.R_mono (Kd.R_tight rfl (Kd.R_mono (ok' := fun k_ => ((fun k_ => k_ ≠ gb394)) k_ ∧ some k_ ≠ (u5 : Value).ownBlock) (Kd.R_types (Kd.R_apart' (HO398.out) (Kd.S_typed HO_5.out) (by decide)) BK394.out (by decide)) (fun k_ hk => ⟨hk.2, hk.1.2⟩))) (fun _ h_ => Or.inl h_)) (Kd.R_mono (Kd.R_tight rfl (Kd.R_mono (ok' := fun k_ => ((fun k_ => k_ ≠ gb394)) k_ ∧ some k_ ≠ (u5 : Value).ownBlock) (Kd.R_types (Kd.R_apart' (HO401.out) (Kd.S_typed HO_5.out) (by decide)) BK394.out (by decide)) (fun k_ hk => ⟨hk.2, hk.1.2⟩))) (fun _ h_ => Or.inr (h_)))); (case aB => exact (Z2 GE394.out)); (case aF => exact (fun k_ hk => Kd.freshB (g := gb394) (o := .cells #[.slice A393_0 ((rd_T41 l0 x18_2).f0).length c393_0, .slice A393_1 ((rd_T41 l0 x18_2).f1).length c393_1] 41 (0, 0)) (Z5 BK394.out) k_ hk)); (case aO => exact (by (with_reducible repeat (first | apply Kd.S_alloc | apply Kd.S_drewN | apply Kd.S_drew)); exact Kd.S_mono HO_5.out (fun k_ hk => ⟨hk.1.1.2, fun e_ => e_.elim (fun h_ => hk.1.2 h_) (fun h_ => hk.2 h_)⟩))); (case aS => exact (below_size (Z2 GE394.out))); (case aL => have := LMc20.out; omega); intro v403 w26 ho hb hg hat; rw [← Ny402.out] at ho; have n0_ := A_ (blk_grown (g := gb394) (o := .cells #[.slice A393_0 ((rd_T41 l0 x18_2).f0).length c393_0, .slice A393_1 ((rd_T41 l0 x18_2).f1).length c393_1] 41 (0, 0)) (Z5 BK394.out) hg (Kd.S_away HO_5.out (fun _ hk => hk.1.1.2))); have n1_ := A_ (hb); have n2_ := A_ (ho); clear BK394; clear HB; clear HO_5; clear HO398; clear HO401; have BK394 := n0_; have HB := n1_; have HO404 := n2_; clear n0_ n1_ n2_; clear ho hb hg hat))
           go_roundg k2
           case measure => have := HJ2.out; have := HK2.out; omega
           case rel => exact ⟨(y402), (wrap64 (x18_2 + 1)), Z22, H', ⟨by have := HJ2.out; have := HK2.out; omega⟩, ⟨by (with_reducible repeat (first | apply Kd.S_alloc | apply Kd.S_drewN | apply Kd.S_drew)); exact Kd.S_mono HO404.out (fun _ hk => trivial)⟩, ⟨Z2 GE394.out⟩⟩
          ·rw [if_neg c20] at H
           exact absurd H (by simp)
        ·rw [if_neg c13] at H
         exact absurd H (by simp)
       ·rw [if_neg c12] at H
        exact absurd H (by simp)
      ·rw [if_neg c11] at H
       have c11b0 : decide (x18_2 < (l0.length : Int)) = false := decide_eq_false c11
       clear c11
       obtain rfl := Option.some.inj H
       go_wp2
       go_ret
       exact ⟨_, Z18, Z31 HO_5.out, Z1⟩
end Go.Proofs.Ytheifobeaemegaa.PFnStoreCut
