/- Walks of the functions that the law 'FnStoreGet' reaches, part 13: for each a Lean function and the proof that Go's comes to just its answer (lines of the print, under own names; no condition). -/
import Derived.Test.YtheifobeaemegaaZFnStoreGetQFnStoreGetx0
import Derived.Test.YtheifobeaemegaaZFnStoreGetQFnStoreGetx4
import Derived.Test.YtheifobeaemegaaZFnStoreGetQFnStoreGetx6
import Derived.Test.YtheifobeaemegaaZFnStoreGetQFnStoreGetx8
import Derived.Test.YtheifobeaemegaaZFnStoreGetQFnStoreGetx10
import Derived.Test.YtheifobeaemegaaZFnStoreGetQFnStoreGetx12
namespace Go.Proofs.Ytheifobeaemegaa.PFnStoreGet
open Go.RowKit Go.Proofs.YtheifobeaemegaaW.PrintWords Go.Proofs.YtheifobeaemegaaW.PrintLast Go.Proofs.YtheifobeaemegaaW.PrintMore
attribute [local go_sem] max2_int min2_int max_two min_two max_three min_three max_four min_four
set_option linter.unusedVariables false
set_option linter.unusedSimpArgs false
def spec_StoreGet.j0 : Nat → List (S41) → List (S68) → Bool → Option ((List (S28)) × Bool)
 | 0, _, _, _ => none
 | k + 1, x0, x1, x15 => if x15 = true then (some (([] : List (S28)), false)) else ((spec_cellAt.f k x0 x1).bind fun bt391 => (if bt391.2 = true then ((some (([] : List (S28)) : List (S28))).bind fun y393 => (if 0 ≤ bt391.1 then (if bt391.1 < (x0.length : Int) then (if y393.length + ((rd_T41 x0 bt391.1).f1).length < 4398046511104 then (some ((y393 ++ ((rd_T41 x0 bt391.1).f1)), true)) else (none)) else (none)) else (none))) else (some (([] : List (S28)), false))))
def spec_StoreGet.f (k : Nat) (l0 : List (S41)) (l1 : List (S68)) : Option ((List (S28)) × Bool) := (spec_validStore.f k l0).bind fun t389 => (if t389 = true then ((spec_validPlace.f k l1).bind fun t390 => (spec_StoreGet.j0 k l0 l1 (!t390))) else (spec_StoreGet.j0 k l0 l1 true))
theorem spec_StoreGet.mono_l : ∀ k, (∀ y0 y1 y2, LeO (spec_StoreGet.j0 k y0 y1 y2) (spec_StoreGet.j0 (k + 1) y0 y1 y2))
 | 0 => fun _ _ _ r h => by simp [spec_StoreGet.j0] at h
 | k + 1 => by
  have ih0 := spec_StoreGet.mono_l k
  ·intro y0 y1 y2
   unfold spec_StoreGet.j0
   repeat' first
   | (with_reducible exact ih0 _ _ _)
   | (with_reducible exact spec_cellAt.mono _ _ _)
   | (with_reducible exact spec_validPlace.mono _ _)
   | (with_reducible exact spec_validStore.mono _ _)
   | (with_reducible exact LeO.refl _)
   | (with_reducible exact LeO.none _)
   | (with_reducible refine LeO.ite ?_ ?_)
   | (with_reducible refine LeO.bind ?_ (fun _ => ?_))
   | exact ih0 _ _ _
   | exact spec_cellAt.mono _ _ _
   | exact spec_validPlace.mono _ _
   | exact spec_validStore.mono _ _
   | exact LeO.none _
   | refine LeO.ite ?_ ?_
   | refine LeO.bind ?_ (fun _ => ?_)
theorem spec_StoreGet.mono : ∀ a0 a1 k, LeO (spec_StoreGet.f k a0 a1) (spec_StoreGet.f (k + 1) a0 a1) := by
 intro a0 a1 k
 have ih0 := spec_StoreGet.mono_l k
 unfold spec_StoreGet.f
 repeat' first
   | (with_reducible exact ih0 _ _ _)
   | (with_reducible exact spec_cellAt.mono _ _ _)
   | (with_reducible exact spec_validPlace.mono _ _)
   | (with_reducible exact spec_validStore.mono _ _)
   | (with_reducible exact LeO.refl _)
   | (with_reducible exact LeO.none _)
   | (with_reducible refine LeO.ite ?_ ?_)
   | (with_reducible refine LeO.bind ?_ (fun _ => ?_))
   | exact ih0 _ _ _
   | exact spec_cellAt.mono _ _ _
   | exact spec_validPlace.mono _ _
   | exact spec_validStore.mono _ _
   | exact LeO.none _
   | refine LeO.ite ?_ ?_
   | refine LeO.bind ?_ (fun _ => ?_)
set_option maxHeartbeats 8000000 in
set_option maxRecDepth 100000 in
theorem spec_StoreGet.calls (k : Nat) (A0 : Option Addr) (c0 : Nat) (l0 : List (S41)) (A1 : Option Addr) (c1 : Nat) (l1 : List (S68)) (r1 : List (S28)) (r2 : Bool) (w : World) (hr0 : Kd.C k41 w A0 l0.length l0) (hc0 : l0.length ≤ c0) (hr1 : Kd.C k68 w A1 l1.length l1) (hc1 : l1.length ≤ c1) (h : spec_StoreGet.f k l0 l1 = some (r1, r2)) :
  Calls Try.prog 27 #[.slice A0 l0.length c0, .slice A1 l1.length c1] w fun e w' => ∃ v0_ : Value, e = .returned (.tuple #[v0_, .bool r2]) ∧ Kd.R k28 28 w' w.heap.size (fun _ => True) v0_ r1 ∧ Below w.heap.size w w' := by
 have HR0 := A_ hr0
 have HC0 := A_ hc0
 clear hr0 hc0
 have HR1 := A_ hr1
 have HC1 := A_ hc1
 clear hr1 hc1
 have HB := A_ (Below.refl w.heap.size w)
 have H : ((spec_validStore.f k l0).bind fun t389 => (if t389 = true then ((spec_validPlace.f k l1).bind fun t390 => (spec_StoreGet.j0 k l0 l1 (!t390))) else (spec_StoreGet.j0 k l0 l1 true))) = some (r1, r2) := h
 clear h
 have HC3 := A_ H
 clear H
 go_enter Try.func27, Try.ntmps27
 go_upto_region 1 with (fail)
 go_cut [15] (fun v15 wc => ∃ (kq : Nat) (x15_2 : Bool), v15 = .bool x15_2 ∧ Aside0 (spec_StoreGet.j0 kq l0 l1 x15_2 = some (r1, r2)) ∧ Aside0 (kq ≤ k) ∧ Aside0 (Below w.heap.size w wc))
 case first =>
  have H := HC3.out
  clear HC3
  replace H := Option.bind_eq_some_iff.mp H
  obtain ⟨t389, A40, H⟩ := H
  replace H : (if t389 = true then ((spec_validPlace.f k l1).bind fun t390 => (spec_StoreGet.j0 k l0 l1 (!t390))) else (spec_StoreGet.j0 k l0 l1 true)) = some (r1, r2) := H
  have A4 := A_ A40
  clear A40
  by_cases c5 : t389 = true
  ·subst c5
   have H1 : ((spec_validPlace.f k l1).bind fun t390 => (spec_StoreGet.j0 k l0 l1 (!t390))) = some (r1, r2) := by rw [if_pos rfl] at H; exact H
   clear H
   have H := H1
   clear H1
   replace H := Option.bind_eq_some_iff.mp H
   obtain ⟨t390, A60, H⟩ := H
   replace H : (spec_StoreGet.j0 k l0 l1 (!t390)) = some (r1, r2) := H
   have A6 := A_ A60
   clear A60
   have H' := A_ H
   clear H
   go_wp2_with (first | ((with_reducible refine gate_callee (f := 45) rfl ?_); refine goesL_ (some 9) rfl rfl Try.func45 (by kernel_rfl) rfl #[.slice A0 l0.length c0] rfl Z3 ?_; (with_reducible refine (spec_validStore.calls k _ _ l0 true _ ?side1 ?side2 A4.out).mono ?_); (case side1 => exact Z5 HR0.out); (case side2 => exact HC0.out); rintro e w7 ⟨rfl, hb⟩; refine ⟨_, rfl, ?_⟩; have n0_ := A_ (below_step Z1 hb); clear HB; have HB := n0_; clear n0_; (try clear hb); (try clear hb2); (try clear hk); (try clear hi)) | (go_at_call 51; (with_reducible refine (spec_validPlace.calls k _ _ l1 t390 _ ?side1 ?side2 A6.out).mono ?_); (case side1 => exact Z5 HR1.out); (case side2 => exact HC1.out); rintro e w8 ⟨rfl, hb⟩; have n0_ := A_ (below_step Z1 hb); clear HB; have HB := n0_; clear n0_; (try clear hb); (try clear hb2); (try clear hk); (try clear hi)))
   go_meet
   case rel => exact ⟨_, (!t390), Z20, H', ⟨by first | omega | exact Nat.le_refl _⟩, ⟨Z1⟩⟩
  ·replace c5 := Bool.eq_false_iff.mpr c5
   subst c5
   have H1 : (spec_StoreGet.j0 k l0 l1 true) = some (r1, r2) := by rw [if_neg (show ¬ (false = true) by decide)] at H; exact H
   clear H
   have H := H1
   clear H1
   have H' := A_ H
   clear H
   go_wp2_with (first | ((with_reducible refine gate_callee (f := 45) rfl ?_); refine goesL_ (some 9) rfl rfl Try.func45 (by kernel_rfl) rfl #[.slice A0 l0.length c0] rfl Z3 ?_; (with_reducible refine (spec_validStore.calls k _ _ l0 false _ ?side1 ?side2 A4.out).mono ?_); (case side1 => exact Z5 HR0.out); (case side2 => exact HC0.out); rintro e w9 ⟨rfl, hb⟩; refine ⟨_, rfl, ?_⟩; have n0_ := A_ (below_step Z1 hb); clear HB; have HB := n0_; clear n0_; (try clear hb); (try clear hb2); (try clear hk); (try clear hi)))
   go_meet
   case rel => exact ⟨_, (true), Z20, H', ⟨by first | omega | exact Nat.le_refl _⟩, ⟨Z1⟩⟩
 case rest =>
  clear HC3
  try clear c1
  try clear c2
  try clear p2
  try clear c4
  try clear c5
  obtain ⟨kq, x15_2, rfl, HA, HJ2, HB⟩ := hcut
  cases kq with
  | zero => exact absurd HA.out (by simp [spec_StoreGet.j0])
  | succ kj2 =>
   have H := HA.out
   clear HA
   simp only [spec_StoreGet.j0] at H
   by_cases c10 : x15_2 = true
   ·subst c10
    have H1 : (some (([] : List (S28)), false)) = some (r1, r2) := by rw [if_pos rfl] at H; exact H
    clear H
    have H := H1
    clear H1
    simp only [Option.some.injEq, Prod.mk.injEq] at H
    obtain ⟨rfl, rfl⟩ := H
    go_wp2
    go_ret2
    exact ⟨_, Z17, Z45, Z1⟩
   ·replace c10 := Bool.eq_false_iff.mpr c10
    subst c10
    have H1 : ((spec_cellAt.f kj2 l0 l1).bind fun bt391 => (if bt391.2 = true then ((some (([] : List (S28)) : List (S28))).bind fun y393 => (if 0 ≤ bt391.1 then (if bt391.1 < (l0.length : Int) then (if y393.length + ((rd_T41 l0 bt391.1).f1).length < 4398046511104 then (some ((y393 ++ ((rd_T41 l0 bt391.1).f1)), true)) else (none)) else (none)) else (none))) else (some (([] : List (S28)), false)))) = some (r1, r2) := by rw [if_neg (show ¬ (false = true) by decide)] at H; exact H
    clear H
    have H := H1
    clear H1
    replace H := Option.bind_eq_some_iff.mp H
    obtain ⟨⟨t391, t392⟩, A110, H⟩ := H
    replace H : (if t392 = true then ((some (([] : List (S28)) : List (S28))).bind fun y393 => (if 0 ≤ t391 then (if t391 < (l0.length : Int) then (if y393.length + ((rd_T41 l0 t391).f1).length < 4398046511104 then (some ((y393 ++ ((rd_T41 l0 t391).f1)), true)) else (none)) else (none)) else (none))) else (some (([] : List (S28)), false))) = some (r1, r2) := H
    have A11 := A_ A110
    clear A110
    by_cases c12 : t392 = true
    ·subst c12
     have H1 : ((some (([] : List (S28)) : List (S28))).bind fun y393 => (if 0 ≤ t391 then (if t391 < (l0.length : Int) then (if y393.length + ((rd_T41 l0 t391).f1).length < 4398046511104 then (some ((y393 ++ ((rd_T41 l0 t391).f1)), true)) else (none)) else (none)) else (none))) = some (r1, r2) := by rw [if_pos rfl] at H; exact H
     clear H
     have H := H1
     clear H1
     obtain ⟨y393, hy393⟩ : ∃ y_ : List (S28), y_ = (([] : List (S28))) := ⟨_, rfl⟩
     replace H : (if 0 ≤ t391 then (if t391 < (l0.length : Int) then (if y393.length + ((rd_T41 l0 t391).f1).length < 4398046511104 then (some ((y393 ++ ((rd_T41 l0 t391).f1)), true)) else (none)) else (none)) else (none)) = some (r1, r2) := by first | (rw [hy393]; with_reducible exact H) | (have H2_ := (Option.bind_some _ _).symm.trans H; rw [hy393]; with_reducible exact H2_) | (have H2_ := (Option.bind_some _ _).symm.trans H; with_reducible exact H2_) | with_reducible exact H | (rw [hy393]; exact H) | exact H
     have Ny393 := A_ hy393
     clear hy393
     by_cases c13 : 0 ≤ t391
     ·rw [if_pos c13] at H
      have c13b0 : decide (0 ≤ t391) = true := decide_eq_true c13
      clear c13
      by_cases c14 : t391 < (l0.length : Int)
      ·rw [if_pos c14] at H
       have c14b0 : decide (t391 < (l0.length : Int)) = true := decide_eq_true c14
       clear c14
       by_cases c15 : y393.length + ((rd_T41 l0 t391).f1).length < 4398046511104
       ·rw [if_pos c15] at H
        have LMc15 := A_ c15
        clear c15
        obtain ⟨y397, hy397⟩ : ∃ y_ : List (S28), y_ = (y393 ++ ((rd_T41 l0 t391).f1)) := ⟨_, rfl⟩
        replace H : (some (y397, true)) = some (r1, r2) := by first | (rw [hy397]; with_reducible exact H) | (have H2_ := (Option.bind_some _ _).symm.trans H; rw [hy397]; with_reducible exact H2_) | (have H2_ := (Option.bind_some _ _).symm.trans H; with_reducible exact H2_) | with_reducible exact H | (rw [hy397]; exact H) | exact H
        have Ny397 := A_ hy397
        clear hy397
        simp only [Option.some.injEq, Prod.mk.injEq] at H
        obtain ⟨rfl, rfl⟩ := H
        go_wp2_with (first | ((with_reducible refine gate_callee (f := 56) rfl ?_); refine goesL_ (some 19) rfl rfl Try.func56 (by kernel_rfl) rfl #[.slice A0 l0.length c0, .slice A1 l1.length c1] rfl Z3 ?_; (with_reducible refine (spec_cellAt.calls kj2 _ _ l0 _ _ l1 t391 true _ ?side1 ?side2 ?side3 ?side4 A11.out).mono ?_); (case side1 => exact Z5 HR0.out); (case side2 => exact HC0.out); (case side3 => exact Z5 HR1.out); (case side4 => exact HC1.out); rintro e w' ⟨rfl, ⟨nd, rfl⟩⟩; refine ⟨_, rfl, ?_⟩) | ((with_reducible refine gate_dst (N := 24) rfl ?_); refine Kd.R_lit k28 _ 28 ?hg (N := 24) ?hd (xs := ([] : List (S28))) (inner := []) (ok := fun _ => True) (okp := fun _ => True) ?hr ?hp (fun _ hk => hk) trivial (Below.refl _ _) (Nat.le_refl _) (by simp) ?_; (case hd => rfl); (case hg => rfl); (case hr => exact Z27); (case hp => exact (Reps.none _ _)); intro v394 w16 ho17 hb hg_ hnew_; clear hg_ hnew_; (first | rw [← Ny393.out] at ho17 | (simp only [Int.reduceToNat] at ho17; rw [← Ny393.out] at ho17)); have n0_ := A_ (Kd.R_lower ho17 (below_size Z1)); have n1_ := A_ (below_step Z1 hb); clear HB; have HO395 := n0_; have HB := n1_; clear n0_ n1_; clear hb ho17; have p396 : 0 ≤ (t391 : Int) := of_decide_eq_true Z14; have q396 : t391 < (l0.length : Int) := of_decide_eq_true Z14; obtain ⟨ad396, A396_0, c396_0, A396_1, c396_1, e396, hx396_0, hx396_1, hl396_0, hi396_0, hl396_1, hi396_1⟩ := at_T41 HR0.out t391 p396 q396; cases e396; replace hx396_0 := ZC HB.out hx396_0; replace hx396_1 := ZC HB.out hx396_1; have HR396_0 := A_ hi396_0; have HC396_0 := A_ hl396_0; clear hi396_0 hl396_0; have HR396_1 := A_ hi396_1; have HC396_1 := A_ hl396_1; clear hi396_1 hl396_1; replace p396 := eq_true p396; replace q396 := eq_true q396) | ((with_reducible refine gate_builtin (b := .append) (xs := #[.tmp 24, .tmp 29]) rfl ?_); at_builtin; refine Kd.R_append_rows k28 (w0 := w) w.heap.size rfl (.tmp 24) (.tmp 29) 36 28 (.agg #[(.int .i64 0), (.int .i64 0), (.string ⟨#[]⟩)]) 32 rfl Try.underlying36 info28 rfl (by decide) (by omega) v394 y393 ((rd_T41 l0 t391).f1) _ _ _ (fun _ => True) (fun _ => False) rfl rfl ?aO ?aR (fun _ _ h => h) (fun _ h => h.elim) ?aF ?aB ?aS ?aL ?_; (case aR => exact Z5 HR396_1.out); (case aB => exact Z1); (case aF => exact (fun _ _ => trivial)); (case aO => exact (Z13 HO395.out)); (case aS => exact (below_size Z1)); (case aL => have := LMc15.out; omega); intro v398 w18 ho hb hg hat; rw [← Ny397.out] at ho; have n0_ := A_ (hb); have n1_ := A_ (ho); clear HB; clear HO395; have HB := n0_; have HO399 := n1_; clear n0_ n1_; clear ho hb hg hat))
        go_ret2
        exact ⟨_, Z17, Z13 HO399.out, Z1⟩
       ·rw [if_neg c15] at H
        exact absurd H (by simp)
      ·rw [if_neg c14] at H
       exact absurd H (by simp)
     ·rw [if_neg c13] at H
      exact absurd H (by simp)
    ·replace c12 := Bool.eq_false_iff.mpr c12
     subst c12
     have H1 : (some (([] : List (S28)), false)) = some (r1, r2) := by rw [if_neg (show ¬ (false = true) by decide)] at H; exact H
     clear H
     have H := H1
     clear H1
     simp only [Option.some.injEq, Prod.mk.injEq] at H
     obtain ⟨rfl, rfl⟩ := H
     go_wp2_with (first | ((with_reducible refine gate_callee (f := 56) rfl ?_); refine goesL_ (some 19) rfl rfl Try.func56 (by kernel_rfl) rfl #[.slice A0 l0.length c0, .slice A1 l1.length c1] rfl Z3 ?_; (with_reducible refine (spec_cellAt.calls kj2 _ _ l0 _ _ l1 t391 false _ ?side1 ?side2 ?side3 ?side4 A11.out).mono ?_); (case side1 => exact Z5 HR0.out); (case side2 => exact HC0.out); (case side3 => exact Z5 HR1.out); (case side4 => exact HC1.out); rintro e w' ⟨rfl, ⟨nd, rfl⟩⟩; refine ⟨_, rfl, ?_⟩))
     go_ret2
     exact ⟨_, Z17, Z45, Z1⟩
def impl_placeCopy.f (l0 : List (S68)) : Option ((List (S68))) := if ([] : List (S68)).length + l0.length < 8796093022208 then (some (([] : List (S68)) ++ l0)) else (none)
set_option maxHeartbeats 8000000 in
set_option maxRecDepth 100000 in
theorem impl_placeCopy.calls (A0 : Option Addr) (c0 : Nat) (l0 : List (S68)) (r : List (S68)) (w : World) (hr0 : Kd.C k68 w A0 l0.length l0) (hc0 : l0.length ≤ c0) (h : impl_placeCopy.f l0 = some r) :
  Calls Try.prog 67 #[.slice A0 l0.length c0] w fun e w' => ∃ v0_ : Value, e = .returned (v0_) ∧ Kd.R k68 68 w' w.heap.size (fun _ => True) v0_ r ∧ Below w.heap.size w w' := by
 have HR0 := A_ hr0
 have HC0 := A_ hc0
 clear hr0 hc0
 have HB := A_ (Below.refl w.heap.size w)
 have H : (if ([] : List (S68)).length + l0.length < 8796093022208 then (some (([] : List (S68)) ++ l0)) else (none)) = some r := h
 clear h
 by_cases c2 : ([] : List (S68)).length + l0.length < 8796093022208
 ·rw [if_pos c2] at H
  have LMc2 := A_ c2
  clear c2
  obtain ⟨y400, hy400⟩ : ∃ y_ : List (S68), y_ = (([] : List (S68)) ++ l0) := ⟨_, rfl⟩
  replace H : (some y400) = some r := by first | (rw [hy400]; with_reducible exact H) | (have H2_ := (Option.bind_some _ _).symm.trans H; rw [hy400]; with_reducible exact H2_) | (have H2_ := (Option.bind_some _ _).symm.trans H; with_reducible exact H2_) | with_reducible exact H | (rw [hy400]; exact H) | exact H
  have Ny400 := A_ hy400
  clear hy400
  obtain rfl := Option.some.inj H
  go_enter Try.func67, Try.ntmps67
  go_wp2_with (first | ((with_reducible refine gate_builtin (b := .append) (xs := #[.const (.slice none 0 0), .tmp 3]) rfl ?_); at_builtin; refine Kd.R_append_rows k68 (w0 := w) w.heap.size rfl (.const (.slice none 0 0)) (.tmp 3) 39 68 (.agg #[(.int .i64 0), (.int .i64 0)]) 16 rfl Try.underlying39 info68 rfl (by decide) (by omega) (.slice none 0 0) ([] : List (S68)) l0 _ _ _ (fun _ => True) (fun _ => False) rfl rfl ?aO ?aR (fun _ _ h => h) (fun _ h => h.elim) ?aF ?aB ?aS ?aL ?_; (case aR => exact Z18 HR0.out); (case aB => exact Z1); (case aF => exact (fun _ _ => trivial)); (case aO => exact ((Kd.R_nil _ _ _ _ (fun _ => True)))); (case aS => exact (below_size Z1)); (case aL => have := LMc2.out; omega); intro v401 w3 ho hb hg hat; rw [← Ny400.out] at ho; have n0_ := A_ (hb); have n1_ := A_ (ho); clear HB; have HB := n0_; have HO402 := n1_; clear n0_ n1_; clear ho hb hg hat))
  go_ret
  exact ⟨_, Z17, Z13 HO402.out, Z1⟩
 ·rw [if_neg c2] at H
  exact absurd H (by simp)
def impl_cellCopy.f (l0_0 : List (S68)) (l0_1 : List (S28)) : Option ((List (S68)) × (List (S28))) := (impl_placeCopy.f l0_0).bind fun t405 => ((impl_valsCopy.f l0_1).bind fun t408 => (some (t405, t408)))
def impl_cellCopy.T1 : Bool × List (List Nat × List Nat) := (true, [([], []), ([0], [0]), ([1], [1]), ([], []), ([3], [3]), ([4, 2], [4]), ([2, 5], [2, 5]), ([6, 5, 0, 1, 2, 3, 4, 5, 6], [6])])
def impl_cellCopy.B1 : List Nat := [0, 1, 3, 0, 8, 31, 63, 127]
theorem impl_cellCopy.tab1 : rtab .any (opsOf Try.f50 1) = impl_cellCopy.T1 := by kernel_rfl
theorem impl_cellCopy.bits1 : waitsOk impl_cellCopy.T1.2 impl_cellCopy.B1 = true := by kernel_rfl
set_option maxHeartbeats 8000000 in
set_option maxRecDepth 100000 in
theorem impl_cellCopy.calls (A0_0 : Option Addr) (c0_0 : Nat) (l0_0 : List (S68)) (A0_1 : Option Addr) (c0_1 : Nat) (l0_1 : List (S28)) (r1 : List (S68)) (r2 : List (S28)) (w : World) (hr0_0 : Kd.C k68 w A0_0 l0_0.length l0_0) (hc0_0 : l0_0.length ≤ c0_0) (hr0_1 : Kd.C k28 w A0_1 l0_1.length l0_1) (hc0_1 : l0_1.length ≤ c0_1) (h : impl_cellCopy.f l0_0 l0_1 = some (r1, r2)) :
  Calls Try.prog 50 #[.agg #[.slice A0_0 l0_0.length c0_0, .slice A0_1 l0_1.length c0_1]] w fun e w' => ∃ v0_ v1_ : Value, e = .returned (.agg #[v0_, v1_]) ∧ Kd.R k68 68 w' w.heap.size (fun _ => True) v0_ r1 ∧ Kd.R k28 28 w' w.heap.size (fun _ => True) v1_ r2 ∧ Below w.heap.size w w' := by
 have hu41 := Try.underlying41
 have HR0_0 := A_ hr0_0
 have HC0_0 := A_ hc0_0
 clear hr0_0 hc0_0
 have HR0_1 := A_ hr0_1
 have HC0_1 := A_ hc0_1
 clear hr0_1 hc0_1
 have HB := A_ (Below.refl w.heap.size w)
 have H : ((impl_placeCopy.f l0_0).bind fun t405 => ((impl_valsCopy.f l0_1).bind fun t408 => (some (t405, t408)))) = some (r1, r2) := h
 clear h
 replace H := Option.bind_eq_some_iff.mp H
 obtain ⟨t405, A20, H⟩ := H
 replace H : ((impl_valsCopy.f l0_1).bind fun t408 => (some (t405, t408))) = some (r1, r2) := H
 have A2 := A_ A20
 clear A20
 replace H := Option.bind_eq_some_iff.mp H
 obtain ⟨t408, A30, H⟩ := H
 replace H : (some (t405, t408)) = some (r1, r2) := H
 have A3 := A_ A30
 clear A30
 simp only [Option.some.injEq, Prod.mk.injEq] at H
 obtain ⟨rfl, rfl⟩ := H
 go_enter Try.func50, Try.ntmps50
 try go_wp2_with (first | ((with_reducible refine gate_dst (N := 1) rfl ?_); refine box_event ?hg (N := 1) ?hd (cs := #[.slice A0_0 l0_0.length c0_0, .slice A0_1 l0_1.length c0_1]) (t := 41) ?hr ?_; (case hd => rfl); (case hg => rfl); (case hr => exact Z27); intro gb403 hg w4 hbox hb; have n0_ := A_ (below_step Z1 hb); have n1_ := A_ (hbox); have n2_ := A_ ((by rw [hg]; exact (below_size Z1) : w.heap.size ≤ gb403)); have n3_ := A_ ((by rw [hg]; exact (below_size Z1) : w.heap.size ≤ gb403)); clear HB; have HB := n0_; have BK403 := n1_; have GW403 := n2_; have GE403 := n3_; clear n0_ n1_ n2_ n3_; clear hb hbox hg) | ((with_reducible refine gate_dst (N := 2) rfl ?_); refine box_event ?hg (N := 2) ?hd (cs := #[.slice none 0 0, .slice none 0 0]) (t := 41) ?hr ?_; (case hd => rfl); (case hg => rfl); (case hr => exact Z27); intro gb404 hg w5 hbox hb; have n0_ := A_ (blk_below (g := gb403) (o := .cells #[.slice A0_0 l0_0.length c0_0, .slice A0_1 l0_1.length c0_1] 41 (0, 0)) (Z4 BK403.out) hb); have n1_ := A_ (below_step (Z2 GE403.out) hb); have n2_ := A_ (hbox); have n3_ := A_ ((by rw [hg]; exact (below_size (Z2 GE403.out)) : w.heap.size ≤ gb404)); have n4_ := A_ ((by rw [hg]; exact (below_size (Z2 GE403.out)) : w.heap.size ≤ gb404)); have n5_ := A_ ((by rw [hg]; exact Nat.ne_of_lt (blk_lt (g := gb403) (o := .cells #[.slice A0_0 l0_0.length c0_0, .slice A0_1 l0_1.length c0_1] 41 (0, 0)) (Z4 BK403.out)) : gb403 ≠ gb404)); have n6_ := A_ ((by rw [hg]; exact Nat.ne_of_gt (blk_lt (g := gb403) (o := .cells #[.slice A0_0 l0_0.length c0_0, .slice A0_1 l0_1.length c0_1] 41 (0, 0)) (Z4 BK403.out)) : gb404 ≠ gb403)); clear BK403; clear HB; have BK403 := n0_; have HB := n1_; have BK404 := n2_; have GW404 := n3_; have GE404 := n4_; have NB403_404 := n5_; have NB404_403 := n6_; clear n0_ n1_ n2_ n3_ n4_ n5_ n6_; clear hb hbox hg))
 have n0_ := A_ (blk_drew BK403.out)
 have n1_ := A_ (blk_drew BK404.out)
 have n2_ := A_ (below_drew1 HB.out)
 clear BK403
 clear BK404
 clear HB
 have BK403 := n0_
 have BK404 := n1_
 have HB := n2_
 clear n0_ n1_ n2_
 refine start_ (n := 8) (S := fun w' => w'.cell? ⟨gb403, 0, none⟩ = some (.slice A0_0 l0_0.length c0_0) ∧ w'.cell? ⟨gb403, 1, none⟩ = some (.slice A0_1 l0_1.length c0_1)) (ds := []) #[F,F,F,F,F,F,F,F] (by kernel_rfl) rfl rfl ⟨(blk_cell BK403.out 0).trans rfl, (blk_cell BK403.out 1).trans rfl⟩ (fun hHeld => ?_); refine with_tabW impl_cellCopy.tab1 impl_cellCopy.bits1 (fun HT_ HW_ => ?_)
 generalize w5.drew = w6 at BK403 BK404 HB hHeld ⊢
 refine pure_ (i := 0) (N := some 3) (v := ?_) (a' := ?_) #[T,F,F,F,F,F,F,F] rfl rfl ZA ZF (Or.inl ⟨by rfl, ?_⟩) ?_ ?_
 rotate_left
 ·exact Z16
 rotate_left
 ·exact Z0
 refine pure_ (i := 3) (N := some 6) (v := ?_) (a' := ?_) #[T,F,F,T,F,F,F,F] rfl rfl ZA ZF (Or.inl ⟨by rfl, ?_⟩) ?_ ?_
 rotate_left
 ·exact Z16
 rotate_left
 ·exact Z0
 refine take_ (i := 1) (N := some 4) (v := ?_) (a' := ?_) #[T,T,F,T,F,F,F,F] rfl rfl (take_ofW HT_.out HW_.out (by kernel_rfl)) ZF (Or.inl ⟨by rfl, ?_⟩) hHeld ?_ ?_
 rotate_left
 ·exact Z44
 rotate_left
 ·exact Z0
 refine take_ (i := 4) (N := some 7) (v := ?_) (a' := ?_) #[T,T,F,T,T,F,F,F] rfl rfl (take_ofW HT_.out HW_.out (by kernel_rfl)) ZF (Or.inl ⟨by rfl, ?_⟩) hHeld ?_ ?_
 rotate_left
 ·exact Z44
 rotate_left
 ·exact Z0
 refine one_ (i := 2) (N := some 5) #[T,T,T,T,T,F,F,F] rfl rfl (one_of HT_.out (by kernel_rfl)) (by decide) (fun K hK => ?_)
 refine goes_ Try.func67 (by kernel_rfl) rfl #[.slice A0_0 l0_0.length c0_0] (by rfl) rfl rfl Z3 ?_
 with_reducible refine (impl_placeCopy.calls _ _ l0_0 t405 _ ?side1 ?side2 A2.out).mono ?_
 (case side1 => exact Z5 HR0_0.out)
 (case side2 => exact HC0_0.out)
 rintro e w7 ⟨v406, rfl, ho0, hb⟩
 refine ⟨_, rfl, ?_⟩
 have n0_ := A_ (Kd.R_lower ho0 (below_size (Z15 GE403.out GE404.out)))
 have n1_ := A_ (blk_below (g := gb403) (o := .cells #[.slice A0_0 l0_0.length c0_0, .slice A0_1 l0_1.length c0_1] 41 (0, 0)) (Z4 BK403.out) hb)
 have n2_ := A_ (blk_below (g := gb404) (o := .cells #[.slice none 0 0, .slice none 0 0] 41 (0, 0)) (Z4 BK404.out) hb)
 have n3_ := A_ (below_step (Z15 GE403.out GE404.out) hb)
 clear BK403
 clear BK404
 clear HB
 have HO407 := n0_
 have BK403 := n1_
 have BK404 := n2_
 have HB := n3_
 clear n0_ n1_ n2_ n3_
 (try clear hb)
 (try clear hb2)
 (try clear hk)
 (try clear hi)
 (try clear ho0)
 refine hK.out _ _ ⟨(blk_cell BK403.out 0).trans rfl, (blk_cell BK403.out 1).trans rfl⟩ (fun hHeld => ?_)
 clear hK K
 refine norm_ (a' := ?_) ?_ ?_
 rotate_left
 ·show Act.put _ (some 5) _ = _
  simp only [Act.put, List.setIfInBounds_toArray, List.set_cons_zero, List.set_cons_succ, i64_w, i32_w]
  rfl
 refine one_ (i := 5) (N := some 8) #[T,T,T,T,T,T,F,F] rfl rfl (one_of HT_.out (by kernel_rfl)) (by decide) (fun K hK => ?_)
 refine goes_ Try.func47 (by kernel_rfl) rfl #[.slice A0_1 l0_1.length c0_1] (by rfl) rfl rfl Z3 ?_
 with_reducible refine (impl_valsCopy.calls _ _ l0_1 t408 _ ?side1 ?side2 A3.out).mono ?_
 (case side1 => exact Z5 HR0_1.out)
 (case side2 => exact HC0_1.out)
 rintro e w8 ⟨v409, rfl, ho0, hb⟩
 refine ⟨_, rfl, ?_⟩
 have n0_ := A_ (Kd.R_below (Z13 HO407.out) hb)
 have n1_ := A_ (Kd.R_lower ho0 (below_size (Z15 GE403.out GE404.out)))
 have n2_ := A_ (blk_below (g := gb403) (o := .cells #[.slice A0_0 l0_0.length c0_0, .slice A0_1 l0_1.length c0_1] 41 (0, 0)) (Z4 BK403.out) hb)
 have n3_ := A_ (blk_below (g := gb404) (o := .cells #[.slice none 0 0, .slice none 0 0] 41 (0, 0)) (Z4 BK404.out) hb)
 have n4_ := A_ (below_step (Z15 GE403.out GE404.out) hb)
 clear HO407
 clear BK403
 clear BK404
 clear HB
 have HO407 := n0_
 have HO410 := n1_
 have BK403 := n2_
 have BK404 := n3_
 have HB := n4_
 clear n0_ n1_ n2_ n3_ n4_
 (try clear hb)
 (try clear hb2)
 (try clear hk)
 (try clear hi)
 (try clear ho0)
 obtain ⟨Ao9, co9, eo9⟩ := Kd.R_slice HO410.out
 (first | subst eo9 | (injection eo9 with f1_ f2_ f3_; have f4_ := f1_.symm; have f5_ := f3_.symm; clear f1_ f2_ f3_; subst f4_; subst f5_))
 obtain ⟨Ao10, co10, eo10⟩ := Kd.R_slice HO407.out
 (first | subst eo10 | (injection eo10 with f1_ f2_ f3_; have f4_ := f1_.symm; have f5_ := f3_.symm; clear f1_ f2_ f3_; subst f4_; subst f5_))
 refine hK.out _ _ ⟨(blk_cell BK403.out 0).trans rfl, (blk_cell BK403.out 1).trans rfl⟩ (fun hHeld => ?_)
 clear hK K
 refine norm_ (a' := ?_) ?_ ?_
 rotate_left
 ·show Act.put _ (some 8) _ = _
  simp only [Act.put, List.setIfInBounds_toArray, List.set_cons_zero, List.set_cons_succ, i64_w, i32_w]
  rfl
 refine pure_ (i := 6) (N := some 9) (v := ?_) (a' := ?_) #[T,T,T,T,T,T,T,F] rfl rfl ZA ZF (Or.inl ⟨by rfl, ?_⟩) ?_ ?_
 rotate_left
 ·exact Z16
 rotate_left
 ·exact Z0
 refine one_ (i := 7) (N := none) #[T,T,T,T,T,T,T,T] rfl rfl (one_of HT_.out (by kernel_rfl)) (by decide) (fun K hK => ?_)
 have hs11 : w8.cell? ⟨gb404, 0, none⟩ = some (.slice none 0 0) := (blk_cell BK404.out 0).trans rfl
 have hfs11 := blk_frozen BK404.out 0
 have hns11_0 := NB403_404.out
 have hms11_0 := NB404_403.out
 have hs12 : w8.cell? ⟨gb404, 1, none⟩ = some (.slice none 0 0) := (blk_cell BK404.out 1).trans rfl
 have hfs12 := blk_frozen BK404.out 1
 have hns12_0 := NB403_404.out
 have hms12_0 := NB404_403.out
 refine skip_ (w1 := ?_) (by rfl) rfl ?_ ?_
 rotate_left
 ·go_simp
  rfl
 refine hK.out _ _ ⟨((cell_far (p := ⟨gb404, _, none⟩) NB403_404.out _).trans (((cell_far (p := ⟨gb404, _, none⟩) NB403_404.out _).trans (hHeld.1)))), ((cell_far (p := ⟨gb404, _, none⟩) NB403_404.out _).trans (((cell_far (p := ⟨gb404, _, none⟩) NB403_404.out _).trans (hHeld.2))))⟩ (fun hHeld => ?_)
 clear hK K
 refine done_ (done_of HT_.out (by kernel_rfl)) ?_
 try go_wp2
 refine bodyPost_ret (results_cell_row rfl _ _ gb404 41 #[.slice Ao10 t405.length co10, .slice Ao9 t408.length co9] (0, 0) _ rfl (by (with_reducible repeat (first | refine blk_drewN ?_ _ | refine blk_drew ?_ | refine blk_alloc ?_ _)); refine blk_put (cs := #[.slice Ao10 t405.length co10, .slice none 0 0]) ?_ 1 _ rfl; (with_reducible repeat (first | refine blk_drewN ?_ _ | refine blk_drew ?_ | refine blk_alloc ?_ _)); refine blk_put (cs := #[.slice none 0 0, .slice none 0 0]) ?_ 0 _ rfl; (with_reducible repeat (first | refine blk_drewN ?_ _ | refine blk_drew ?_ | refine blk_alloc ?_ _)); exact BK404.out) Try.underlying41 rfl (by kernel_rfl)) rfl ?_
 exact ⟨_, _, Z17, by (with_reducible repeat (first | apply Kd.R_alloc | apply Kd.R_drewN | apply Kd.R_drew)); exact Kd.R_mono (Kd.R_far (p := ⟨gb404, 1, none⟩) (Kd.R_far (p := ⟨gb404, 0, none⟩) (Kd.R_types HO407.out BK404.out (by decide)) (fun _ hk => hk.2) (.slice Ao10 t405.length co10)) (fun _ hk => hk.2) (.slice Ao9 t408.length co9)) (fun _ hk => trivial), by (with_reducible repeat (first | apply Kd.R_alloc | apply Kd.R_drewN | apply Kd.R_drew)); exact Kd.R_mono (Kd.R_far (p := ⟨gb404, 1, none⟩) (Kd.R_far (p := ⟨gb404, 0, none⟩) (Kd.R_types HO410.out BK404.out (by decide)) (fun _ hk => hk.2) (.slice Ao10 t405.length co10)) (fun _ hk => hk.2) (.slice Ao9 t408.length co9)) (fun _ hk => trivial), Z15 GE403.out GE404.out⟩
mutual
def impl_storeSet.l0 : Nat → List (S68) → List (S28) → List (S41) → Bool → List (S41) → Int → Int → Option ((List (S41)))
 | 0, _, _, _, _, _, _, _ => none
 | k + 1, x1, x2, x7, x8, x13, x14, x15 => if x15 < x14 then (if 0 ≤ x15 then (if x15 < (x13.length : Int) then ((impl_placeCmp.f k x1 ((rd_T41 x13 x15).f0)).bind fun t416 => (if t416 ≤ 0 then (impl_storeSet.j1 k x1 x2 x7 x8 t416 x13 x14 x15 (!x8) ((rd_T41 x13 x15).f0) ((rd_T41 x13 x15).f1)) else (impl_storeSet.j1 k x1 x2 x7 x8 t416 x13 x14 x15 false ((rd_T41 x13 x15).f0) ((rd_T41 x13 x15).f1)))) else (none)) else (none)) else (if x8 = true then (some x7) else ((impl_placeCopy.f x1).bind fun t444 => ((impl_valsCopy.f x2).bind fun t447 => (if x7.length < 2932031007402 then (some (x7 ++ [(⟨t444, t447⟩ : S41)])) else (none)))))
def impl_storeSet.j1 : Nat → List (S68) → List (S28) → List (S41) → Bool → Int → List (S41) → Int → Int → Bool → List (S68) → List (S28) → Option ((List (S41)))
 | 0, _, _, _, _, _, _, _, _, _, _, _ => none
 | k + 1, x1, x2, x7, x8, x11, x13, x14, x15, x28, x416000, x416001 => if x28 = true then ((impl_placeCopy.f x1).bind fun t417 => ((impl_valsCopy.f x2).bind fun t420 => (if x7.length < 2932031007402 then ((some (x7 ++ [(⟨t417, t420⟩ : S41)] : List (S41))).bind fun y423 => (if x11 = 0 then (impl_storeSet.l0 k x1 x2 y423 true x13 x14 (wrap64 (x15 + 1))) else ((impl_cellCopy.f x416000 x416001).bind fun bt426 => (if y423.length < 2932031007402 then (impl_storeSet.l0 k x1 x2 (y423 ++ [(⟨bt426.1, bt426.2⟩ : S41)]) true x13 x14 (wrap64 (x15 + 1))) else (none))))) else (none)))) else ((impl_cellCopy.f x416000 x416001).bind fun bt435 => (if x7.length < 2932031007402 then (impl_storeSet.l0 k x1 x2 (x7 ++ [(⟨bt435.1, bt435.2⟩ : S41)]) x8 x13 x14 (wrap64 (x15 + 1))) else (none)))
end
def impl_storeSet.f (k : Nat) (l0 : List (S41)) (l1 : List (S68)) (l2 : List (S28)) : Option ((List (S41))) := impl_storeSet.l0 k l1 l2 (([] : List (S41))) false l0 (l0.length : Int) 0
theorem impl_storeSet.mono_l : ∀ k, (∀ y0 y1 y2 y3 y4 y5 y6, LeO (impl_storeSet.l0 k y0 y1 y2 y3 y4 y5 y6) (impl_storeSet.l0 (k + 1) y0 y1 y2 y3 y4 y5 y6)) ∧ (∀ y0 y1 y2 y3 y4 y5 y6 y7 y8 y9 y10, LeO (impl_storeSet.j1 k y0 y1 y2 y3 y4 y5 y6 y7 y8 y9 y10) (impl_storeSet.j1 (k + 1) y0 y1 y2 y3 y4 y5 y6 y7 y8 y9 y10))
 | 0 => ⟨fun _ _ _ _ _ _ _ r h => by simp [impl_storeSet.l0] at h, fun _ _ _ _ _ _ _ _ _ _ _ r h => by simp [impl_storeSet.j1] at h⟩
 | k + 1 => by
  obtain ⟨ih0, ih1⟩ := impl_storeSet.mono_l k
  refine ⟨?_, ?_⟩
  ·intro y0 y1 y2 y3 y4 y5 y6
   unfold impl_storeSet.l0
   repeat' first
   | (with_reducible exact ih0 _ _ _ _ _ _ _)
   | (with_reducible exact ih1 _ _ _ _ _ _ _ _ _ _ _)
   | (with_reducible exact impl_placeCmp.mono _ _ _)
   | (with_reducible exact LeO.refl _)
   | (with_reducible exact LeO.none _)
   | (with_reducible refine LeO.ite ?_ ?_)
   | (with_reducible refine LeO.bind ?_ (fun _ => ?_))
   | exact ih0 _ _ _ _ _ _ _
   | exact ih1 _ _ _ _ _ _ _ _ _ _ _
   | exact impl_placeCmp.mono _ _ _
   | exact LeO.none _
   | refine LeO.ite ?_ ?_
   | refine LeO.bind ?_ (fun _ => ?_)
  ·intro y0 y1 y2 y3 y4 y5 y6 y7 y8 y9 y10
   unfold impl_storeSet.j1
   repeat' first
   | (with_reducible exact ih0 _ _ _ _ _ _ _)
   | (with_reducible exact ih1 _ _ _ _ _ _ _ _ _ _ _)
   | (with_reducible exact impl_placeCmp.mono _ _ _)
   | (with_reducible exact LeO.refl _)
   | (with_reducible exact LeO.none _)
   | (with_reducible refine LeO.ite ?_ ?_)
   | (with_reducible refine LeO.bind ?_ (fun _ => ?_))
   | exact ih0 _ _ _ _ _ _ _
   | exact ih1 _ _ _ _ _ _ _ _ _ _ _
   | exact impl_placeCmp.mono _ _ _
   | exact LeO.none _
   | refine LeO.ite ?_ ?_
   | refine LeO.bind ?_ (fun _ => ?_)
theorem impl_storeSet.mono : ∀ a0 a1 a2 k, LeO (impl_storeSet.f k a0 a1 a2) (impl_storeSet.f (k + 1) a0 a1 a2) := by
 intro a0 a1 a2 k
 obtain ⟨ih0, ih1⟩ := impl_storeSet.mono_l k
 unfold impl_storeSet.f
 repeat' first
   | (with_reducible exact ih0 _ _ _ _ _ _ _)
   | (with_reducible exact ih1 _ _ _ _ _ _ _ _ _ _ _)
   | (with_reducible exact impl_placeCmp.mono _ _ _)
   | (with_reducible exact LeO.refl _)
   | (with_reducible exact LeO.none _)
   | (with_reducible refine LeO.ite ?_ ?_)
   | (with_reducible refine LeO.bind ?_ (fun _ => ?_))
   | exact ih0 _ _ _ _ _ _ _
   | exact ih1 _ _ _ _ _ _ _ _ _ _ _
   | exact impl_placeCmp.mono _ _ _
   | exact LeO.none _
   | refine LeO.ite ?_ ?_
   | refine LeO.bind ?_ (fun _ => ?_)
set_option maxHeartbeats 8000000 in
set_option maxRecDepth 100000 in
theorem impl_storeSet.calls (k : Nat) (A0 : Option Addr) (c0 : Nat) (l0 : List (S41)) (A1 : Option Addr) (c1 : Nat) (l1 : List (S68)) (A2 : Option Addr) (c2 : Nat) (l2 : List (S28)) (r : List (S41)) (w : World) (hr0 : Kd.C k41 w A0 l0.length l0) (hc0 : l0.length ≤ c0) (hr1 : Kd.C k68 w A1 l1.length l1) (hc1 : l1.length ≤ c1) (hr2 : Kd.C k28 w A2 l2.length l2) (hc2 : l2.length ≤ c2) (h : impl_storeSet.f k l0 l1 l2 = some r) :
  Calls Try.prog 57 #[.slice A0 l0.length c0, .slice A1 l1.length c1, .slice A2 l2.length c2] w fun e w' => ∃ v0_ : Value, e = .returned (v0_) ∧ Kd.S k41 41 w' w.heap.size (fun _ => True) v0_ r ∧ Below w.heap.size w w' := by
 have hu41 := Try.underlying41
 have HR0 := A_ hr0
 have HC0 := A_ hc0
 clear hr0 hc0
 have HR1 := A_ hr1
 have HC1 := A_ hc1
 clear hr1 hc1
 have HR2 := A_ hr2
 have HC2 := A_ hc2
 clear hr2 hc2
 have HB := A_ (Below.refl w.heap.size w)
 have H : (impl_storeSet.l0 k l1 l2 (([] : List (S41))) false l0 (l0.length : Int) 0) = some r := h
 clear h
 obtain ⟨y411, hy411⟩ : ∃ y_ : List (S41), y_ = (([] : List (S41))) := ⟨_, rfl⟩
 replace H : (impl_storeSet.l0 k l1 l2 y411 false l0 (l0.length : Int) 0) = some r := by first | (rw [hy411]; with_reducible exact H) | (have H2_ := (Option.bind_some _ _).symm.trans H; rw [hy411]; with_reducible exact H2_) | (have H2_ := (Option.bind_some _ _).symm.trans H; with_reducible exact H2_) | with_reducible exact H | (rw [hy411]; exact H) | exact H
 have Ny411 := A_ hy411
 clear hy411
 have H' := A_ H
 clear H
 go_enter Try.func57, Try.ntmps57
 go_wp2_with (first | ((with_reducible refine gate_dst (N := 12) rfl ?_); refine Kd.S_lit k41 _ 41 ?hg (N := 12) ?hd (xs := ([] : List (S41))) (inner := []) (ok := fun _ => True) (okp := fun _ => True) ?hr ?hp (fun _ hk => hk) trivial (Below.refl _ _) (Nat.le_refl _) (by simp) ?_; (case hd => rfl); (case hg => rfl); (case hr => exact Z27); (case hp => exact (Reps.none _ _)); intro v412 w4 ho5 hb hg_ hnew_; clear hg_ hnew_; (first | rw [← Ny411.out] at ho5 | (simp only [Int.reduceToNat] at ho5; rw [← Ny411.out] at ho5)); have n0_ := A_ (Kd.S_lower ho5 (below_size Z1)); have n1_ := A_ (below_step Z1 hb); clear HB; have HO413 := n0_; have HB := n1_; clear n0_ n1_; clear hb ho5))
 go_loopg [7, 8, 15] k (fun kq v7 v8 v15 w' => ∃ (x7_1 : List (S41)) (x8_1 : Bool) (x15_1 : Int), v8 = .bool x8_1 ∧ v15 = .int .i64 x15_1 ∧ Aside0 (impl_storeSet.l0 kq l1 l2 x7_1 x8_1 l0 (l0.length : Int) x15_1 = some r) ∧ Aside0 (kq ≤ k) ∧ Aside0 (Kd.S k41 41 w' w.heap.size (fun _ => True) v7 x7_1) ∧ Aside0 (Below w.heap.size w w'))
 case atStart => exact ⟨(y411), (false), (0), Z20, Z20, H', ⟨Nat.le_refl _⟩, ⟨Z30 HO413.out⟩, ⟨Z1⟩⟩
 case round =>
  clear H'
  try clear c1
  try clear c2
  try clear p2
  try clear c5
  obtain ⟨x7_1, x8_1, x15_1, rfl, rfl, HA, HK1, HO_7, HB⟩ := hrel
  cases gk with
  | zero => exact absurd HA.out (by simp [impl_storeSet.l0])
  | succ k1 =>
   have H := HA.out
   clear HA
   simp only [impl_storeSet.l0] at H
   by_cases c6 : x15_1 < (l0.length : Int)
   ·rw [if_pos c6] at H
    have c6b0 : decide (x15_1 < (l0.length : Int)) = true := decide_eq_true c6
    clear c6
    by_cases c7 : 0 ≤ x15_1
    ·rw [if_pos c7] at H
     have c7b0 : decide (0 ≤ x15_1) = true := decide_eq_true c7
     clear c7
     by_cases c8 : x15_1 < (l0.length : Int)
     ·rw [if_pos c8] at H
      have c8b0 : decide (x15_1 < (l0.length : Int)) = true := decide_eq_true c8
      clear c8
      replace H := Option.bind_eq_some_iff.mp H
      obtain ⟨t416, A90, H⟩ := H
      replace H : (if t416 ≤ 0 then (impl_storeSet.j1 k1 l1 l2 x7_1 x8_1 t416 l0 (l0.length : Int) x15_1 (!x8_1) ((rd_T41 l0 x15_1).f0) ((rd_T41 l0 x15_1).f1)) else (impl_storeSet.j1 k1 l1 l2 x7_1 x8_1 t416 l0 (l0.length : Int) x15_1 false ((rd_T41 l0 x15_1).f0) ((rd_T41 l0 x15_1).f1))) = some r := H
      have A9 := A_ A90
      clear A90
      have HC10 := A_ H
      clear H
      have p414 : 0 ≤ (x15_1 : Int) := of_decide_eq_true Z14
      have q414 : x15_1 < (l0.length : Int) := of_decide_eq_true Z14
      obtain ⟨ad414, A414_0, c414_0, A414_1, c414_1, e414, hx414_0, hx414_1, hl414_0, hi414_0, hl414_1, hi414_1⟩ := at_T41 HR0.out x15_1 p414 q414
      cases e414
      replace hx414_0 := ZC HB.out hx414_0
      replace hx414_1 := ZC HB.out hx414_1
      have HR414_0 := A_ hi414_0
      have HC414_0 := A_ hl414_0
      clear hi414_0 hl414_0
      have HR414_1 := A_ hi414_1
      have HC414_1 := A_ hl414_1
      clear hi414_1 hl414_1
      replace p414 := eq_true p414
      replace q414 := eq_true q414
      go_upto_region 7 with (first | ((with_reducible refine gate_dst (N := 10) rfl ?_); refine box_event ?hg (N := 10) ?hd (cs := #[.slice none 0 0, .slice none 0 0]) (t := 41) ?hr ?_; (case hd => rfl); (case hg => rfl); (case hr => exact Z27); intro gb415 hg w11 hbox hb; have n0_ := A_ (Kd.S_below (Kd.S_elderB (Z30 HO_7.out) gb415 (Nat.le_of_eq hg.symm)) hb); have n1_ := A_ (below_step Z1 hb); have n2_ := A_ (hbox); have n3_ := A_ ((by rw [hg]; exact (below_size Z1) : w.heap.size ≤ gb415)); have n4_ := A_ ((by rw [hg]; exact (below_size Z1) : w.heap.size ≤ gb415)); clear HO_7; clear HB; have HO_7 := n0_; have HB := n1_; have BK415 := n2_; have GW415 := n3_; have GE415 := n4_; clear n0_ n1_ n2_ n3_ n4_; clear hb hbox hg; have hcz12_0 : w11.cell? ⟨gb415, 0, none⟩ = some (.slice none 0 0) := (blk_cell BK415.out 0).trans rfl; have hcz12_1 : w11.cell? ⟨gb415, 1, none⟩ = some (.slice none 0 0) := (blk_cell BK415.out 1).trans rfl; have hfz12_0 := blk_frozen BK415.out 0; have hfz12_1 := blk_frozen BK415.out 1) | ((with_reducible refine gate_callee (f := 44) rfl ?_); refine goesL_ (some 22) rfl rfl Try.func44 (by kernel_rfl) rfl #[.slice A1 l1.length c1, .slice A414_0 ((rd_T41 l0 x15_1).f0).length c414_0] rfl Z3 ?_; (with_reducible refine (impl_placeCmp.calls k1 _ _ l1 _ _ ((rd_T41 l0 x15_1).f0) t416 _ ?side1 ?side2 ?side3 ?side4 A9.out).mono ?_); (case side1 => exact Kd.C_below HR1.out (Z2 GE415.out)); (case side2 => exact HC1.out); (case side3 => exact Kd.C_below HR414_0.out (Z2 GE415.out)); (case side4 => exact HC414_0.out); rintro e w13 ⟨rfl, hb⟩; refine ⟨_, rfl, ?_⟩; have n0_ := A_ (Kd.S_below (by (with_reducible repeat (first | apply Kd.S_alloc | apply Kd.S_drewN | apply Kd.S_drew)); exact (Kd.S_mono (Kd.S_far (p := ⟨gb415, 1, none⟩) (Kd.S_far (p := ⟨gb415, 0, none⟩) (Kd.S_mono HO_7.out (fun k_ hk => (⟨hk, hk.2⟩ : _ ∧ k_ ≠ gb415))) (fun _ hk => hk.2) (.slice A414_0 ((rd_T41 l0 x15_1).f0).length c414_0)) (fun _ hk => hk.2) (.slice A414_1 ((rd_T41 l0 x15_1).f1).length c414_1)) (fun _ h_ => h_.1))) hb); have n1_ := A_ (blk_below (g := gb415) (o := .cells #[.slice A414_0 ((rd_T41 l0 x15_1).f0).length c414_0, .slice A414_1 ((rd_T41 l0 x15_1).f1).length c414_1] 41 (0, 0)) (by (with_reducible repeat (first | refine blk_drewN ?_ _ | refine blk_drew ?_ | refine blk_alloc ?_ _)); refine blk_put (cs := #[.slice A414_0 ((rd_T41 l0 x15_1).f0).length c414_0, .slice none 0 0]) ?_ 1 _ rfl; (with_reducible repeat (first | refine blk_drewN ?_ _ | refine blk_drew ?_ | refine blk_alloc ?_ _)); refine blk_put (cs := #[.slice none 0 0, .slice none 0 0]) ?_ 0 _ rfl; (with_reducible repeat (first | refine blk_drewN ?_ _ | refine blk_drew ?_ | refine blk_alloc ?_ _)); exact BK415.out) hb); have n2_ := A_ (below_step (Z2 GE415.out) hb); clear HO_7; clear BK415; clear HB; have HO_7 := n0_; have BK415 := n1_; have HB := n2_; clear n0_ n1_ n2_; (try clear hb); (try clear hb2); (try clear hk); (try clear hi)))
      (try simp only [Act.put, List.setIfInBounds_toArray, List.set_cons_zero, List.set_cons_succ])
      go_cut [28] (fun v28 wc => ∃ (kq : Nat) (x28_9 : Bool), v28 = .bool x28_9 ∧ Aside0 (impl_storeSet.j1 kq l1 l2 x7_1 x8_1 t416 l0 (l0.length : Int) x15_1 x28_9 ((rd_T41 l0 x15_1).f0) ((rd_T41 l0 x15_1).f1) = some r) ∧ Aside0 (kq ≤ k1) ∧ Aside0 (Kd.S k41 41 wc w.heap.size (fun k_ => k_ ≠ gb415) u7 x7_1) ∧ Aside0 (wc.heap[gb415]? = some (.cells #[(.slice A414_0 ((rd_T41 l0 x15_1).f0).length c414_0), (.slice A414_1 ((rd_T41 l0 x15_1).f1).length c414_1)] 41 (0, 0))) ∧ Aside0 (Below w.heap.size w wc))
      case first =>
       have H := HC10.out
       clear HC10
       by_cases c14 : t416 ≤ 0
       ·rw [if_pos c14] at H
        have c14b0 : decide (t416 ≤ 0) = true := decide_eq_true c14
        clear c14
        (first | rw [c14b0] | (simp only [i64_w, i32_w]; rw [c14b0]) | skip)
        have H' := A_ H
        clear H
        go_wp2
        go_meet
        case rel => exact ⟨_, (!x8_1), Z20, H', ⟨by have := HK1.out; first | omega | exact Nat.le_refl _⟩, ⟨by (with_reducible repeat (first | apply Kd.S_alloc | apply Kd.S_drewN | apply Kd.S_drew)); exact Kd.S_mono HO_7.out (fun _ hk => hk.2)⟩, ⟨Z4 BK415.out⟩, ⟨Z2 GE415.out⟩⟩
       ·rw [if_neg c14] at H
        have c14b0 : decide (t416 ≤ 0) = false := decide_eq_false c14
        clear c14
        (first | rw [c14b0] | (simp only [i64_w, i32_w]; rw [c14b0]) | skip)
        have H' := A_ H
        clear H
        go_wp2
        go_meet
        case rel => exact ⟨_, (false), Z20, H', ⟨by have := HK1.out; first | omega | exact Nat.le_refl _⟩, ⟨by (with_reducible repeat (first | apply Kd.S_alloc | apply Kd.S_drewN | apply Kd.S_drew)); exact Kd.S_mono HO_7.out (fun _ hk => hk.2)⟩, ⟨Z4 BK415.out⟩, ⟨Z2 GE415.out⟩⟩
      case rest =>
       clear HC10
       try clear c1
       try clear c2
       try clear p2
       try clear c4
       try clear p4
       try clear q4
       try clear hx4
       try clear c5
       try clear c6
       try clear c6b0
       try clear c7
       try clear c7b0
       try clear c8
       try clear c8b0
       try clear c14
       try clear c14b0
       try clear hcz12_0
       try clear hcz12_1
       try clear hfz12_0
       try clear hfz12_1
       try clear hx414_0
       try clear hx414_1
       try clear p2
       try clear p414
       try clear q414
       obtain ⟨kq, x28_9, rfl, HA, HJ9, HO_7, BK415, HB⟩ := hcut
       cases kq with
       | zero => exact absurd HA.out (by simp [impl_storeSet.j1])
       | succ kj9 =>
        have H := HA.out
        clear HA
        simp only [impl_storeSet.j1] at H
        by_cases c15 : x28_9 = true
        ·subst c15
         have H1 : ((impl_placeCopy.f l1).bind fun t417 => ((impl_valsCopy.f l2).bind fun t420 => (if x7_1.length < 2932031007402 then ((some (x7_1 ++ [(⟨t417, t420⟩ : S41)] : List (S41))).bind fun y423 => (if t416 = 0 then (impl_storeSet.l0 kj9 l1 l2 y423 true l0 (l0.length : Int) (wrap64 (x15_1 + 1))) else ((impl_cellCopy.f ((rd_T41 l0 x15_1).f0) ((rd_T41 l0 x15_1).f1)).bind fun bt426 => (if y423.length < 2932031007402 then (impl_storeSet.l0 kj9 l1 l2 (y423 ++ [(⟨bt426.1, bt426.2⟩ : S41)]) true l0 (l0.length : Int) (wrap64 (x15_1 + 1))) else (none))))) else (none)))) = some r := by rw [if_pos rfl] at H; exact H
         clear H
         have H := H1
         clear H1
         replace H := Option.bind_eq_some_iff.mp H
         obtain ⟨t417, A160, H⟩ := H
         replace H : ((impl_valsCopy.f l2).bind fun t420 => (if x7_1.length < 2932031007402 then ((some (x7_1 ++ [(⟨t417, t420⟩ : S41)] : List (S41))).bind fun y423 => (if t416 = 0 then (impl_storeSet.l0 kj9 l1 l2 y423 true l0 (l0.length : Int) (wrap64 (x15_1 + 1))) else ((impl_cellCopy.f ((rd_T41 l0 x15_1).f0) ((rd_T41 l0 x15_1).f1)).bind fun bt426 => (if y423.length < 2932031007402 then (impl_storeSet.l0 kj9 l1 l2 (y423 ++ [(⟨bt426.1, bt426.2⟩ : S41)]) true l0 (l0.length : Int) (wrap64 (x15_1 + 1))) else (none))))) else (none))) = some r := H
         have A16 := A_ A160
         clear A160
         replace H := Option.bind_eq_some_iff.mp H
         obtain ⟨t420, A170, H⟩ := H
         replace H : (if x7_1.length < 2932031007402 then ((some (x7_1 ++ [(⟨t417, t420⟩ : S41)] : List (S41))).bind fun y423 => (if t416 = 0 then (impl_storeSet.l0 kj9 l1 l2 y423 true l0 (l0.length : Int) (wrap64 (x15_1 + 1))) else ((impl_cellCopy.f ((rd_T41 l0 x15_1).f0) ((rd_T41 l0 x15_1).f1)).bind fun bt426 => (if y423.length < 2932031007402 then (impl_storeSet.l0 kj9 l1 l2 (y423 ++ [(⟨bt426.1, bt426.2⟩ : S41)]) true l0 (l0.length : Int) (wrap64 (x15_1 + 1))) else (none))))) else (none)) = some r := H
         have A17 := A_ A170
         clear A170
         by_cases c18 : x7_1.length < 2932031007402
         ·rw [if_pos c18] at H
          have LMc18 := A_ c18
          clear c18
          obtain ⟨y423, hy423⟩ : ∃ y_ : List (S41), y_ = (x7_1 ++ [(⟨t417, t420⟩ : S41)]) := ⟨_, rfl⟩
          replace H : (if t416 = 0 then (impl_storeSet.l0 kj9 l1 l2 y423 true l0 (l0.length : Int) (wrap64 (x15_1 + 1))) else ((impl_cellCopy.f ((rd_T41 l0 x15_1).f0) ((rd_T41 l0 x15_1).f1)).bind fun bt426 => (if y423.length < 2932031007402 then (impl_storeSet.l0 kj9 l1 l2 (y423 ++ [(⟨bt426.1, bt426.2⟩ : S41)]) true l0 (l0.length : Int) (wrap64 (x15_1 + 1))) else (none)))) = some r := by first | (rw [hy423]; with_reducible exact H) | (have H2_ := (Option.bind_some _ _).symm.trans H; rw [hy423]; with_reducible exact H2_) | (have H2_ := (Option.bind_some _ _).symm.trans H; with_reducible exact H2_) | with_reducible exact H | (rw [hy423]; exact H) | exact H
          have Ny423 := A_ hy423
          clear hy423
          by_cases c19 : t416 = 0
          ·rw [if_pos c19] at H
           have c19b0 : (t416 == 0) = true := beq_iff_eq.mpr c19
           have c19b1 : (t416 != 0) = false := bne_eq_false_iff_eq.mpr c19
           clear c19
           have H' := A_ H
           clear H
           go_wp2_with (first | ((with_reducible refine gate_callee (f := 67) rfl ?_); refine goesL_ (some 31) rfl rfl Try.func67 (by kernel_rfl) rfl #[.slice A1 l1.length c1] rfl Z3 ?_; (with_reducible refine (impl_placeCopy.calls _ _ l1 t417 _ ?side1 ?side2 A16.out).mono ?_); (case side1 => exact Z5 HR1.out); (case side2 => exact HC1.out); rintro e w20 ⟨v418, rfl, ho0, hb⟩; refine ⟨_, rfl, ?_⟩; have n0_ := A_ (Kd.S_elder' (Z30 HO_7.out) (Kd.R_base ho0) hb); have n1_ := A_ (Kd.R_lower ho0 (below_size (Z2 GE415.out))); have n2_ := A_ (blk_below (g := gb415) (o := .cells #[.slice A414_0 ((rd_T41 l0 x15_1).f0).length c414_0, .slice A414_1 ((rd_T41 l0 x15_1).f1).length c414_1] 41 (0, 0)) (Z4 BK415.out) hb); have n3_ := A_ (below_step (Z2 GE415.out) hb); clear HO_7; clear BK415; clear HB; have HO_7 := n0_; have HO419 := n1_; have BK415 := n2_; have HB := n3_; clear n0_ n1_ n2_ n3_; (try clear hb); (try clear hb2); (try clear hk); (try clear hi); (try clear ho0)) | ((with_reducible refine gate_callee (f := 47) rfl ?_); refine goesL_ (some 33) rfl rfl Try.func47 (by kernel_rfl) rfl #[.slice A2 l2.length c2] rfl Z3 ?_; (with_reducible refine (impl_valsCopy.calls _ _ l2 t420 _ ?side1 ?side2 A17.out).mono ?_); (case side1 => exact Z5 HR2.out); (case side2 => exact HC2.out); rintro e w21 ⟨v421, rfl, ho0, hb⟩; refine ⟨_, rfl, ?_⟩; have n0_ := A_ (Kd.S_elder' (Z30 HO_7.out) (Kd.R_base ho0) hb); have n1_ := A_ (Kd.R_below (Z13 HO419.out) hb); have n2_ := A_ (Kd.R_lower ho0 (below_size (Z2 GE415.out))); have n3_ := A_ (blk_below (g := gb415) (o := .cells #[.slice A414_0 ((rd_T41 l0 x15_1).f0).length c414_0, .slice A414_1 ((rd_T41 l0 x15_1).f1).length c414_1] 41 (0, 0)) (Z4 BK415.out) hb); have n4_ := A_ (below_step (Z2 GE415.out) hb); clear HO_7; clear HO419; clear BK415; clear HB; have HO_7 := n0_; have HO419 := n1_; have HO422 := n2_; have BK415 := n3_; have HB := n4_; clear n0_ n1_ n2_ n3_ n4_; (try clear hb); (try clear hb2); (try clear hk); (try clear hi); (try clear ho0); obtain ⟨Ao22, co22, eo22⟩ := Kd.R_slice HO422.out; subst eo22; obtain ⟨Ao23, co23, eo23⟩ := Kd.R_slice HO419.out; subst eo23) | ((with_reducible refine gate_builtin (b := .append) (xs := #[.tmp 29, .tmp 35]) rfl ?_); at_builtin; refine Kd.S_append k41 (w0 := w) w.heap.size rfl (.tmp 29) (.tmp 35) 33 41 (.agg #[(.slice none 0 0), (.slice none 0 0)]) 48 rfl Try.underlying33 info41 rfl (by decide) (by omega) u7 x7_1 (⟨t417, t420⟩ : S41) [.slice Ao23 t417.length co23, .slice Ao22 t420.length co22] (fun k_ => k_ ≠ gb415) (fun k_ => some k_ = (.slice Ao23 t417.length co23 : Value).ownBlock ∨ some k_ = (.slice Ao22 t420.length co22 : Value).ownBlock) rfl rfl ?aP (fun k_ hk_ => hk_.elim (fun h_ => ((Kd.R_mono (ok' := fun k_ => ((fun k_ => k_ ≠ gb415)) k_ ∧ some k_ ≠ (u7 : Value).ownBlock) (Kd.R_types (Kd.R_apart' (HO419.out) (Kd.S_typed HO_7.out) (by decide)) BK415.out (by decide)) (fun k_ hk => ⟨hk.2, hk.1.2⟩))).1 k_ h_.symm) (fun h_ => ((Kd.R_mono (ok' := fun k_ => ((fun k_ => k_ ≠ gb415)) k_ ∧ some k_ ≠ (u7 : Value).ownBlock) (Kd.R_types (Kd.R_apart' (HO422.out) (Kd.S_typed HO_7.out) (by decide)) BK415.out (by decide)) (fun k_ hk => ⟨hk.2, hk.1.2⟩))).1 k_ h_.symm)) ?aF ?aO ?aB ?aS ?aL ?_; (case aP => exact k41_mkM _ _ _ (⟨t417, t420⟩ : S41) (Kd.R_mono (Kd.R_tight rfl (Kd.R_mono (ok' := fun k_ => ((fun k_ => k_ ≠ gb415)) k_ ∧ some k_ ≠ (u7 : Value).ownBlock) (Kd.R_types (Kd.R_apart' (HO419.out) (Kd.S_typed HO_7.out) (by decide)) BK415.out (by decide)) (fun k_ hk => ⟨hk.2, hk.1.2⟩))) (fun _ h_ => Or.inl h_)) (Kd.R_mono (Kd.R_tight rfl (Kd.R_mono (ok' := fun k_ => ((fun k_ => k_ ≠ gb415)) k_ ∧ some k_ ≠ (u7 : Value).ownBlock) (Kd.R_types (Kd.R_apart' (HO422.out) (Kd.S_typed HO_7.out) (by decide)) BK415.out (by decide)) (fun k_ hk => ⟨hk.2, hk.1.2⟩))) (fun _ h_ => Or.inr (h_)))); (case aB => exact (Z2 GE415.out)); (case aF => exact Z41 BK415.out); (case aO => exact Z39 HO_7.out); (case aS => exact (below_size (Z2 GE415.out))); (case aL => have := LMc18.out; omega); intro v424 w24 ho hb hg hat; rw [← Ny423.out] at ho; have n0_ := A_ (blk_grown (g := gb415) (o := .cells #[.slice A414_0 ((rd_T41 l0 x15_1).f0).length c414_0, .slice A414_1 ((rd_T41 l0 x15_1).f1).length c414_1] 41 (0, 0)) (Z4 BK415.out) hg (Kd.S_away HO_7.out (fun _ hk => hk.1.1))); have n1_ := A_ (hb); have n2_ := A_ (ho); clear BK415; clear HB; clear HO_7; clear HO419; clear HO422; have BK415 := n0_; have HB := n1_; have HO425 := n2_; clear n0_ n1_ n2_; clear ho hb hg hat))
           go_roundg kj9
           case measure => have := HK1.out; have := HJ9.out; omega
           case rel => exact ⟨(y423), (true), (wrap64 (x15_1 + 1)), Z20, Z20, H', ⟨by have := HK1.out; have := HJ9.out; omega⟩, ⟨by (with_reducible repeat (first | apply Kd.S_alloc | apply Kd.S_drewN | apply Kd.S_drew)); exact Kd.S_mono HO425.out (fun _ hk => trivial)⟩, ⟨Z2 GE415.out⟩⟩
          ·rw [if_neg c19] at H
           have c19b0 : (t416 == 0) = false := beq_eq_false_iff_ne.mpr c19
           have c19b1 : (t416 != 0) = true := bne_iff_ne.mpr c19
           replace H := Option.bind_eq_some_iff.mp H
           obtain ⟨⟨t426, t429⟩, A250, H⟩ := H
           replace H : (if y423.length < 2932031007402 then (impl_storeSet.l0 kj9 l1 l2 (y423 ++ [(⟨t426, t429⟩ : S41)]) true l0 (l0.length : Int) (wrap64 (x15_1 + 1))) else (none)) = some r := H
           have A25 := A_ A250
           clear A250
           by_cases c26 : y423.length < 2932031007402
           ·rw [if_pos c26] at H
            have LMc26 := A_ c26
            clear c26
            obtain ⟨y432, hy432⟩ : ∃ y_ : List (S41), y_ = (y423 ++ [(⟨t426, t429⟩ : S41)]) := ⟨_, rfl⟩
            replace H : (impl_storeSet.l0 kj9 l1 l2 y432 true l0 (l0.length : Int) (wrap64 (x15_1 + 1))) = some r := by first | (rw [hy432]; with_reducible exact H) | (have H2_ := (Option.bind_some _ _).symm.trans H; rw [hy432]; with_reducible exact H2_) | (have H2_ := (Option.bind_some _ _).symm.trans H; with_reducible exact H2_) | with_reducible exact H | (rw [hy432]; exact H) | exact H
            have Ny432 := A_ hy432
            clear hy432
            have H' := A_ H
            clear H
            go_wp2_with (first | ((with_reducible refine gate_callee (f := 67) rfl ?_); refine goesL_ (some 31) rfl rfl Try.func67 (by kernel_rfl) rfl #[.slice A1 l1.length c1] rfl Z3 ?_; (with_reducible refine (impl_placeCopy.calls _ _ l1 t417 _ ?side1 ?side2 A16.out).mono ?_); (case side1 => exact Z5 HR1.out); (case side2 => exact HC1.out); rintro e w27 ⟨v418, rfl, ho0, hb⟩; refine ⟨_, rfl, ?_⟩; have n0_ := A_ (Kd.S_elder' (Z30 HO_7.out) (Kd.R_base ho0) hb); have n1_ := A_ (Kd.R_lower ho0 (below_size (Z2 GE415.out))); have n2_ := A_ (blk_below (g := gb415) (o := .cells #[.slice A414_0 ((rd_T41 l0 x15_1).f0).length c414_0, .slice A414_1 ((rd_T41 l0 x15_1).f1).length c414_1] 41 (0, 0)) (Z4 BK415.out) hb); have n3_ := A_ (below_step (Z2 GE415.out) hb); clear HO_7; clear BK415; clear HB; have HO_7 := n0_; have HO419 := n1_; have BK415 := n2_; have HB := n3_; clear n0_ n1_ n2_ n3_; (try clear hb); (try clear hb2); (try clear hk); (try clear hi); (try clear ho0)) | ((with_reducible refine gate_callee (f := 47) rfl ?_); refine goesL_ (some 33) rfl rfl Try.func47 (by kernel_rfl) rfl #[.slice A2 l2.length c2] rfl Z3 ?_; (with_reducible refine (impl_valsCopy.calls _ _ l2 t420 _ ?side1 ?side2 A17.out).mono ?_); (case side1 => exact Z5 HR2.out); (case side2 => exact HC2.out); rintro e w28 ⟨v421, rfl, ho0, hb⟩; refine ⟨_, rfl, ?_⟩; have n0_ := A_ (Kd.S_elder' (Z30 HO_7.out) (Kd.R_base ho0) hb); have n1_ := A_ (Kd.R_below (Z13 HO419.out) hb); have n2_ := A_ (Kd.R_lower ho0 (below_size (Z2 GE415.out))); have n3_ := A_ (blk_below (g := gb415) (o := .cells #[.slice A414_0 ((rd_T41 l0 x15_1).f0).length c414_0, .slice A414_1 ((rd_T41 l0 x15_1).f1).length c414_1] 41 (0, 0)) (Z4 BK415.out) hb); have n4_ := A_ (below_step (Z2 GE415.out) hb); clear HO_7; clear HO419; clear BK415; clear HB; have HO_7 := n0_; have HO419 := n1_; have HO422 := n2_; have BK415 := n3_; have HB := n4_; clear n0_ n1_ n2_ n3_ n4_; (try clear hb); (try clear hb2); (try clear hk); (try clear hi); (try clear ho0); obtain ⟨Ao29, co29, eo29⟩ := Kd.R_slice HO422.out; subst eo29; obtain ⟨Ao30, co30, eo30⟩ := Kd.R_slice HO419.out; subst eo30) | ((with_reducible refine gate_builtin (b := .append) (xs := #[.tmp 29, .tmp 35]) rfl ?_); at_builtin; refine Kd.S_append k41 (w0 := w) w.heap.size rfl (.tmp 29) (.tmp 35) 33 41 (.agg #[(.slice none 0 0), (.slice none 0 0)]) 48 rfl Try.underlying33 info41 rfl (by decide) (by omega) u7 x7_1 (⟨t417, t420⟩ : S41) [.slice Ao30 t417.length co30, .slice Ao29 t420.length co29] (fun k_ => k_ ≠ gb415) (fun k_ => some k_ = (.slice Ao30 t417.length co30 : Value).ownBlock ∨ some k_ = (.slice Ao29 t420.length co29 : Value).ownBlock) rfl rfl ?aP (fun k_ hk_ => hk_.elim (fun h_ => ((Kd.R_mono (ok' := fun k_ => ((fun k_ => k_ ≠ gb415)) k_ ∧ some k_ ≠ (u7 : Value).ownBlock) (Kd.R_types (Kd.R_apart' (HO419.out) (Kd.S_typed HO_7.out) (by decide)) BK415.out (by decide)) (fun k_ hk => ⟨hk.2, hk.1.2⟩))).1 k_ h_.symm) (fun h_ => ((Kd.R_mono (ok' := fun k_ => ((fun k_ => k_ ≠ gb415)) k_ ∧ some k_ ≠ (u7 : Value).ownBlock) (Kd.R_types (Kd.R_apart' (HO422.out) (Kd.S_typed HO_7.out) (by decide)) BK415.out (by decide)) (fun k_ hk => ⟨hk.2, hk.1.2⟩))).1 k_ h_.symm)) ?aF ?aO ?aB ?aS ?aL ?_; (case aP => exact k41_mkM _ _ _ (⟨t417, t420⟩ : S41) (Kd.R_mono (Kd.R_tight rfl (Kd.R_mono (ok' := fun k_ => ((fun k_ => k_ ≠ gb415)) k_ ∧ some k_ ≠ (u7 : Value).ownBlock) (Kd.R_types (Kd.R_apart' (HO419.out) (Kd.S_typed HO_7.out) (by decide)) BK415.out (by decide)) (fun k_ hk => ⟨hk.2, hk.1.2⟩))) (fun _ h_ => Or.inl h_)) (Kd.R_mono (Kd.R_tight rfl (Kd.R_mono (ok' := fun k_ => ((fun k_ => k_ ≠ gb415)) k_ ∧ some k_ ≠ (u7 : Value).ownBlock) (Kd.R_types (Kd.R_apart' (HO422.out) (Kd.S_typed HO_7.out) (by decide)) BK415.out (by decide)) (fun k_ hk => ⟨hk.2, hk.1.2⟩))) (fun _ h_ => Or.inr (h_)))); (case aB => exact (Z2 GE415.out)); (case aF => exact Z41 BK415.out); (case aO => exact Z39 HO_7.out); (case aS => exact (below_size (Z2 GE415.out))); (case aL => have := LMc18.out; omega); intro v424 w31 ho hb hg hat; rw [← Ny423.out] at ho; have n0_ := A_ (blk_grown (g := gb415) (o := .cells #[.slice A414_0 ((rd_T41 l0 x15_1).f0).length c414_0, .slice A414_1 ((rd_T41 l0 x15_1).f1).length c414_1] 41 (0, 0)) (Z4 BK415.out) hg (Kd.S_away HO_7.out (fun _ hk => hk.1.1))); have n1_ := A_ (hb); have n2_ := A_ (ho); clear BK415; clear HB; clear HO_7; clear HO419; clear HO422; have BK415 := n0_; have HB := n1_; have HO425 := n2_; clear n0_ n1_ n2_; clear ho hb hg hat; have hcz32_0 : w31.cell? ⟨gb415, 0, none⟩ = some (.slice A414_0 ((rd_T41 l0 x15_1).f0).length c414_0) := (blk_cell BK415.out 0).trans rfl; have hcz32_1 : w31.cell? ⟨gb415, 1, none⟩ = some (.slice A414_1 ((rd_T41 l0 x15_1).f1).length c414_1) := (blk_cell BK415.out 1).trans rfl; have hfz32_0 := blk_frozen BK415.out 0; have hfz32_1 := blk_frozen BK415.out 1) | ((with_reducible refine gate_callee (f := 50) rfl ?_); refine goesL_ (some 41) rfl rfl Try.func50 (by kernel_rfl) rfl #[.agg #[.slice A414_0 ((rd_T41 l0 x15_1).f0).length c414_0, .slice A414_1 ((rd_T41 l0 x15_1).f1).length c414_1]] rfl Z3 ?_; (with_reducible refine (impl_cellCopy.calls _ _ ((rd_T41 l0 x15_1).f0) _ _ ((rd_T41 l0 x15_1).f1) t426 t429 _ ?side1 ?side2 ?side3 ?side4 A25.out).mono ?_); (case side1 => exact Z5 HR414_0.out); (case side2 => exact HC414_0.out); (case side3 => exact Z5 HR414_1.out); (case side4 => exact HC414_1.out); rintro e w33 ⟨v427, v430, rfl, ho0, ho1, hb⟩; refine ⟨_, rfl, ?_⟩; have n0_ := A_ (Kd.S_mono (Kd.S_told (Kd.S_told (Kd.S_old (Z30 HO425.out) hb) (Kd.R_base ho0)) (Kd.R_base ho1)) (fun _ h_ => h_.1)); have n1_ := A_ (Kd.R_lower ho0 (below_size (Z2 GE415.out))); have n2_ := A_ (Kd.R_lower ho1 (below_size (Z2 GE415.out))); have n3_ := A_ (blk_below (g := gb415) (o := .cells #[.slice A414_0 ((rd_T41 l0 x15_1).f0).length c414_0, .slice A414_1 ((rd_T41 l0 x15_1).f1).length c414_1] 41 (0, 0)) (Z4 BK415.out) hb); have n4_ := A_ (below_step (Z2 GE415.out) hb); clear HO425; clear BK415; clear HB; have HO425 := n0_; have HO428 := n1_; have HO431 := n2_; have BK415 := n3_; have HB := n4_; clear n0_ n1_ n2_ n3_ n4_; (try clear hb); (try clear hb2); (try clear hk); (try clear hi); (try clear ho0); (try clear ho1); obtain ⟨Ao35, co35, eo35⟩ := Kd.R_slice HO428.out; subst eo35; obtain ⟨Ao36, co36, eo36⟩ := Kd.R_slice HO431.out; subst eo36) | ((with_reducible refine gate_builtin (b := .append) (xs := #[.tmp 39, .tmp 42]) rfl ?_); at_builtin; refine Kd.S_append k41 (w0 := w) w.heap.size rfl (.tmp 39) (.tmp 42) 33 41 (.agg #[(.slice none 0 0), (.slice none 0 0)]) 48 rfl Try.underlying33 info41 rfl (by decide) (by omega) v424 y423 (⟨t426, t429⟩ : S41) [.slice Ao35 t426.length co35, .slice Ao36 t429.length co36] (fun k_ => k_ ≠ gb415) (fun k_ => some k_ = (.slice Ao35 t426.length co35 : Value).ownBlock ∨ some k_ = (.slice Ao36 t429.length co36 : Value).ownBlock) rfl rfl ?aP (fun k_ hk_ => hk_.elim (fun h_ => ((Kd.R_mono (ok' := fun k_ => ((fun k_ => k_ ≠ gb415)) k_ ∧ some k_ ≠ (v424 : Value).ownBlock) (Kd.R_types (Kd.R_apart' (HO428.out) (Kd.S_typed HO425.out) (by decide)) BK415.out (by decide)) (fun k_ hk => ⟨hk.2, hk.1.2⟩))).1 k_ h_.symm) (fun h_ => ((Kd.R_mono (ok' := fun k_ => ((fun k_ => k_ ≠ gb415)) k_ ∧ some k_ ≠ (v424 : Value).ownBlock) (Kd.R_types (Kd.R_apart' (HO431.out) (Kd.S_typed HO425.out) (by decide)) BK415.out (by decide)) (fun k_ hk => ⟨hk.2, hk.1.2⟩))).1 k_ h_.symm)) ?aF ?aO ?aB ?aS ?aL ?_; (case aP => exact k41_mkM _ _ _ (⟨t426, t429⟩ : S41) (Kd.R_mono (Kd.R_tight rfl (Kd.R_mono (ok' := fun k_ => ((fun k_ => k_ ≠ gb415)) k_ ∧ some k_ ≠ (v424 : Value).ownBlock) (Kd.R_types (Kd.R_apart' (HO428.out) (Kd.S_typed HO425.out) (by decide)) BK415.out (by decide)) (fun k_ hk => ⟨hk.2, hk.1.2⟩))) (fun _ h_ => Or.inl h_)) (Kd.R_mono (Kd.R_tight rfl (Kd.R_mono (ok' := fun k_ => ((fun k_ => k_ ≠ gb415)) k_ ∧ some k_ ≠ (v424 : Value).ownBlock) (Kd.R_types (Kd.R_apart' (HO431.out) (Kd.S_typed HO425.out) (by decide)) BK415.out (by decide)) (fun k_ hk => ⟨hk.2, hk.1.2⟩))) (fun _ h_ => Or.inr (h_)))); (case aB => exact (Z2 GE415.out)); (case aF => exact Z41 BK415.out); (case aO => exact Z39 HO425.out); (case aS => exact (below_size (Z2 GE415.out))); (case aL => have := LMc26.out; omega); intro v433 w34 ho hb hg hat; rw [← Ny432.out] at ho; have n0_ := A_ (blk_grown (g := gb415) (o := .cells #[.slice A414_0 ((rd_T41 l0 x15_1).f0).length c414_0, .slice A414_1 ((rd_T41 l0 x15_1).f1).length c414_1] 41 (0, 0)) (Z4 BK415.out) hg (Kd.S_away HO425.out (fun _ hk => hk.1.1))); have n1_ := A_ (hb); have n2_ := A_ (ho); clear BK415; clear HB; clear HO425; clear HO428; clear HO431; have BK415 := n0_; have HB := n1_; have HO434 := n2_; clear n0_ n1_ n2_; clear ho hb hg hat))
            go_roundg kj9
            case measure => have := HK1.out; have := HJ9.out; omega
            case rel => exact ⟨(y432), (true), (wrap64 (x15_1 + 1)), Z20, Z20, H', ⟨by have := HK1.out; have := HJ9.out; omega⟩, ⟨by (with_reducible repeat (first | apply Kd.S_alloc | apply Kd.S_drewN | apply Kd.S_drew)); exact Kd.S_mono HO434.out (fun _ hk => trivial)⟩, ⟨Z2 GE415.out⟩⟩
           ·rw [if_neg c26] at H
            exact absurd H (by simp)
         ·rw [if_neg c18] at H
          exact absurd H (by simp)
        ·replace c15 := Bool.eq_false_iff.mpr c15
         subst c15
         have H1 : ((impl_cellCopy.f ((rd_T41 l0 x15_1).f0) ((rd_T41 l0 x15_1).f1)).bind fun bt435 => (if x7_1.length < 2932031007402 then (impl_storeSet.l0 kj9 l1 l2 (x7_1 ++ [(⟨bt435.1, bt435.2⟩ : S41)]) x8_1 l0 (l0.length : Int) (wrap64 (x15_1 + 1))) else (none))) = some r := by rw [if_neg (show ¬ (false = true) by decide)] at H; exact H
         clear H
         have H := H1
         clear H1
         replace H := Option.bind_eq_some_iff.mp H
         obtain ⟨⟨t435, t438⟩, A370, H⟩ := H
         replace H : (if x7_1.length < 2932031007402 then (impl_storeSet.l0 kj9 l1 l2 (x7_1 ++ [(⟨t435, t438⟩ : S41)]) x8_1 l0 (l0.length : Int) (wrap64 (x15_1 + 1))) else (none)) = some r := H
         have A37 := A_ A370
         clear A370
         by_cases c38 : x7_1.length < 2932031007402
         ·rw [if_pos c38] at H
          have LMc38 := A_ c38
          clear c38
          obtain ⟨y441, hy441⟩ : ∃ y_ : List (S41), y_ = (x7_1 ++ [(⟨t435, t438⟩ : S41)]) := ⟨_, rfl⟩
          replace H : (impl_storeSet.l0 kj9 l1 l2 y441 x8_1 l0 (l0.length : Int) (wrap64 (x15_1 + 1))) = some r := by first | (rw [hy441]; with_reducible exact H) | (have H2_ := (Option.bind_some _ _).symm.trans H; rw [hy441]; with_reducible exact H2_) | (have H2_ := (Option.bind_some _ _).symm.trans H; with_reducible exact H2_) | with_reducible exact H | (rw [hy441]; exact H) | exact H
          have Ny441 := A_ hy441
          clear hy441
          have H' := A_ H
          clear H
          have hcz39_0 : wc.cell? ⟨gb415, 0, none⟩ = some (.slice A414_0 ((rd_T41 l0 x15_1).f0).length c414_0) := (blk_cell BK415.out 0).trans rfl
          have hcz39_1 : wc.cell? ⟨gb415, 1, none⟩ = some (.slice A414_1 ((rd_T41 l0 x15_1).f1).length c414_1) := (blk_cell BK415.out 1).trans rfl
          have hfz39_0 := blk_frozen BK415.out 0
          have hfz39_1 := blk_frozen BK415.out 1
          go_wp2_with (first | ((with_reducible refine gate_callee (f := 50) rfl ?_); refine goesL_ (some 41) rfl rfl Try.func50 (by kernel_rfl) rfl #[.agg #[.slice A414_0 ((rd_T41 l0 x15_1).f0).length c414_0, .slice A414_1 ((rd_T41 l0 x15_1).f1).length c414_1]] rfl Z3 ?_; (with_reducible refine (impl_cellCopy.calls _ _ ((rd_T41 l0 x15_1).f0) _ _ ((rd_T41 l0 x15_1).f1) t435 t438 _ ?side1 ?side2 ?side3 ?side4 A37.out).mono ?_); (case side1 => exact Z5 HR414_0.out); (case side2 => exact HC414_0.out); (case side3 => exact Z5 HR414_1.out); (case side4 => exact HC414_1.out); rintro e w40 ⟨v436, v439, rfl, ho0, ho1, hb⟩; refine ⟨_, rfl, ?_⟩; have n0_ := A_ (Kd.S_mono (Kd.S_told (Kd.S_told (Kd.S_old (Z30 HO_7.out) hb) (Kd.R_base ho0)) (Kd.R_base ho1)) (fun _ h_ => h_.1)); have n1_ := A_ (Kd.R_lower ho0 (below_size (Z2 GE415.out))); have n2_ := A_ (Kd.R_lower ho1 (below_size (Z2 GE415.out))); have n3_ := A_ (blk_below (g := gb415) (o := .cells #[.slice A414_0 ((rd_T41 l0 x15_1).f0).length c414_0, .slice A414_1 ((rd_T41 l0 x15_1).f1).length c414_1] 41 (0, 0)) (Z4 BK415.out) hb); have n4_ := A_ (below_step (Z2 GE415.out) hb); clear HO_7; clear BK415; clear HB; have HO_7 := n0_; have HO437 := n1_; have HO440 := n2_; have BK415 := n3_; have HB := n4_; clear n0_ n1_ n2_ n3_ n4_; (try clear hb); (try clear hb2); (try clear hk); (try clear hi); (try clear ho0); (try clear ho1); obtain ⟨Ao42, co42, eo42⟩ := Kd.R_slice HO437.out; subst eo42; obtain ⟨Ao43, co43, eo43⟩ := Kd.R_slice HO440.out; subst eo43) | ((with_reducible refine gate_builtin (b := .append) (xs := #[.tmp 39, .tmp 42]) rfl ?_); at_builtin; refine Kd.S_append k41 (w0 := w) w.heap.size rfl (.tmp 39) (.tmp 42) 33 41 (.agg #[(.slice none 0 0), (.slice none 0 0)]) 48 rfl Try.underlying33 info41 rfl (by decide) (by omega) u7 x7_1 (⟨t435, t438⟩ : S41) [.slice Ao42 t435.length co42, .slice Ao43 t438.length co43] (fun k_ => k_ ≠ gb415) (fun k_ => some k_ = (.slice Ao42 t435.length co42 : Value).ownBlock ∨ some k_ = (.slice Ao43 t438.length co43 : Value).ownBlock) rfl rfl ?aP (fun k_ hk_ => hk_.elim (fun h_ => ((Kd.R_mono (ok' := fun k_ => ((fun k_ => k_ ≠ gb415)) k_ ∧ some k_ ≠ (u7 : Value).ownBlock) (Kd.R_types (Kd.R_apart' (HO437.out) (Kd.S_typed HO_7.out) (by decide)) BK415.out (by decide)) (fun k_ hk => ⟨hk.2, hk.1.2⟩))).1 k_ h_.symm) (fun h_ => ((Kd.R_mono (ok' := fun k_ => ((fun k_ => k_ ≠ gb415)) k_ ∧ some k_ ≠ (u7 : Value).ownBlock) (Kd.R_types (Kd.R_apart' (HO440.out) (Kd.S_typed HO_7.out) (by decide)) BK415.out (by decide)) (fun k_ hk => ⟨hk.2, hk.1.2⟩))).1 k_ h_.symm)) ?aF ?aO ?aB ?aS ?aL ?_; (case aP => exact k41_mkM _ _ _ (⟨t435, t438⟩ : S41) (Kd.R_mono (Kd.R_tight rfl (Kd.R_mono (ok' := fun k_ => ((fun k_ => k_ ≠ gb415)) k_ ∧ some k_ ≠ (u7 : Value).ownBlock) (Kd.R_types (Kd.R_apart' (HO437.out) (Kd.S_typed HO_7.out) (by decide)) BK415.out (by decide)) (fun k_ hk => ⟨hk.2, hk.1.2⟩))) (fun _ h_ => Or.inl h_)) (Kd.R_mono (Kd.R_tight rfl (Kd.R_mono (ok' := fun k_ => ((fun k_ => k_ ≠ gb415)) k_ ∧ some k_ ≠ (u7 : Value).ownBlock) (Kd.R_types (Kd.R_apart' (HO440.out) (Kd.S_typed HO_7.out) (by decide)) BK415.out (by decide)) (fun k_ hk => ⟨hk.2, hk.1.2⟩))) (fun _ h_ => Or.inr (h_)))); (case aB => exact (Z2 GE415.out)); (case aF => exact Z41 BK415.out); (case aO => exact Z39 HO_7.out); (case aS => exact (below_size (Z2 GE415.out))); (case aL => have := LMc38.out; omega); intro v442 w41 ho hb hg hat; rw [← Ny441.out] at ho; have n0_ := A_ (blk_grown (g := gb415) (o := .cells #[.slice A414_0 ((rd_T41 l0 x15_1).f0).length c414_0, .slice A414_1 ((rd_T41 l0 x15_1).f1).length c414_1] 41 (0, 0)) (Z4 BK415.out) hg (Kd.S_away HO_7.out (fun _ hk => hk.1.1))); have n1_ := A_ (hb); have n2_ := A_ (ho); clear BK415; clear HB; clear HO_7; clear HO437; clear HO440; have BK415 := n0_; have HB := n1_; have HO443 := n2_; clear n0_ n1_ n2_; clear ho hb hg hat))
          go_roundg kj9
          case measure => have := HK1.out; have := HJ9.out; omega
          case rel => exact ⟨(y441), (x8_1), (wrap64 (x15_1 + 1)), Z20, Z20, H', ⟨by have := HK1.out; have := HJ9.out; omega⟩, ⟨by (with_reducible repeat (first | apply Kd.S_alloc | apply Kd.S_drewN | apply Kd.S_drew)); exact Kd.S_mono HO443.out (fun _ hk => trivial)⟩, ⟨Z2 GE415.out⟩⟩
         ·rw [if_neg c38] at H
          exact absurd H (by simp)
     ·rw [if_neg c8] at H
      exact absurd H (by simp)
    ·rw [if_neg c7] at H
     exact absurd H (by simp)
   ·rw [if_neg c6] at H
    have c6b0 : decide (x15_1 < (l0.length : Int)) = false := decide_eq_false c6
    clear c6
    by_cases c44 : x8_1 = true
    ·subst c44
     have H1 : (some x7_1) = some r := by rw [if_pos rfl] at H; exact H
     clear H
     have H := H1
     clear H1
     obtain rfl := Option.some.inj H
     go_wp2
     go_ret
     exact ⟨_, Z17, Z30 HO_7.out, Z1⟩
    ·replace c44 := Bool.eq_false_iff.mpr c44
     subst c44
     have H1 : ((impl_placeCopy.f l1).bind fun t444 => ((impl_valsCopy.f l2).bind fun t447 => (if x7_1.length < 2932031007402 then (some (x7_1 ++ [(⟨t444, t447⟩ : S41)])) else (none)))) = some r := by rw [if_neg (show ¬ (false = true) by decide)] at H; exact H
     clear H
     have H := H1
     clear H1
     replace H := Option.bind_eq_some_iff.mp H
     obtain ⟨t444, A450, H⟩ := H
     replace H : ((impl_valsCopy.f l2).bind fun t447 => (if x7_1.length < 2932031007402 then (some (x7_1 ++ [(⟨t444, t447⟩ : S41)])) else (none))) = some r := H
     have A45 := A_ A450
     clear A450
     replace H := Option.bind_eq_some_iff.mp H
     obtain ⟨t447, A460, H⟩ := H
     replace H : (if x7_1.length < 2932031007402 then (some (x7_1 ++ [(⟨t444, t447⟩ : S41)])) else (none)) = some r := H
     have A46 := A_ A460
     clear A460
     by_cases c47 : x7_1.length < 2932031007402
     ·rw [if_pos c47] at H
      have LMc47 := A_ c47
      clear c47
      obtain ⟨y450, hy450⟩ : ∃ y_ : List (S41), y_ = (x7_1 ++ [(⟨t444, t447⟩ : S41)]) := ⟨_, rfl⟩
      replace H : (some y450) = some r := by first | (rw [hy450]; with_reducible exact H) | (have H2_ := (Option.bind_some _ _).symm.trans H; rw [hy450]; with_reducible exact H2_) | (have H2_ := (Option.bind_some _ _).symm.trans H; with_reducible exact H2_) | with_reducible exact H | (rw [hy450]; exact H) | exact H
      have Ny450 := A_ hy450
      clear hy450
      obtain rfl := Option.some.inj H
      go_wp2_with (first | ((with_reducible refine gate_callee (f := 67) rfl ?_); refine goesL_ (some 49) rfl rfl Try.func67 (by kernel_rfl) rfl #[.slice A1 l1.length c1] rfl Z3 ?_; (with_reducible refine (impl_placeCopy.calls _ _ l1 t444 _ ?side1 ?side2 A45.out).mono ?_); (case side1 => exact Z5 HR1.out); (case side2 => exact HC1.out); rintro e w48 ⟨v445, rfl, ho0, hb⟩; refine ⟨_, rfl, ?_⟩; have n0_ := A_ (Kd.S_elder' (Z30 HO_7.out) (Kd.R_base ho0) hb); have n1_ := A_ (Kd.R_lower ho0 (below_size Z1)); have n2_ := A_ (below_step Z1 hb); clear HO_7; clear HB; have HO_7 := n0_; have HO446 := n1_; have HB := n2_; clear n0_ n1_ n2_; (try clear hb); (try clear hb2); (try clear hk); (try clear hi); (try clear ho0)) | ((with_reducible refine gate_callee (f := 47) rfl ?_); refine goesL_ (some 51) rfl rfl Try.func47 (by kernel_rfl) rfl #[.slice A2 l2.length c2] rfl Z3 ?_; (with_reducible refine (impl_valsCopy.calls _ _ l2 t447 _ ?side1 ?side2 A46.out).mono ?_); (case side1 => exact Z5 HR2.out); (case side2 => exact HC2.out); rintro e w49 ⟨v448, rfl, ho0, hb⟩; refine ⟨_, rfl, ?_⟩; have n0_ := A_ (Kd.S_elder' (Z30 HO_7.out) (Kd.R_base ho0) hb); have n1_ := A_ (Kd.R_below (Z13 HO446.out) hb); have n2_ := A_ (Kd.R_lower ho0 (below_size Z1)); have n3_ := A_ (below_step Z1 hb); clear HO_7; clear HO446; clear HB; have HO_7 := n0_; have HO446 := n1_; have HO449 := n2_; have HB := n3_; clear n0_ n1_ n2_ n3_; (try clear hb); (try clear hb2); (try clear hk); (try clear hi); (try clear ho0); obtain ⟨Ao50, co50, eo50⟩ := Kd.R_slice HO449.out; subst eo50; obtain ⟨Ao51, co51, eo51⟩ := Kd.R_slice HO446.out; subst eo51) | ((with_reducible refine gate_builtin (b := .append) (xs := #[.tmp 47, .tmp 53]) rfl ?_); at_builtin; refine Kd.S_append k41 (w0 := w) w.heap.size rfl (.tmp 47) (.tmp 53) 33 41 (.agg #[(.slice none 0 0), (.slice none 0 0)]) 48 rfl Try.underlying33 info41 rfl (by decide) (by omega) u7 x7_1 (⟨t444, t447⟩ : S41) [.slice Ao51 t444.length co51, .slice Ao50 t447.length co50] (fun _ => True) (fun k_ => some k_ = (.slice Ao51 t444.length co51 : Value).ownBlock ∨ some k_ = (.slice Ao50 t447.length co50 : Value).ownBlock) rfl rfl ?aP (fun k_ hk_ => hk_.elim (fun h_ => ((Kd.R_mono (ok' := fun k_ => ((fun _ => True)) k_ ∧ some k_ ≠ (u7 : Value).ownBlock) (Kd.R_apart' (HO446.out) (Kd.S_typed HO_7.out) (by decide)) (fun k_ hk => ⟨trivial, hk.2⟩))).1 k_ h_.symm) (fun h_ => ((Kd.R_mono (ok' := fun k_ => ((fun _ => True)) k_ ∧ some k_ ≠ (u7 : Value).ownBlock) (Kd.R_apart' (HO449.out) (Kd.S_typed HO_7.out) (by decide)) (fun k_ hk => ⟨trivial, hk.2⟩))).1 k_ h_.symm)) ?aF ?aO ?aB ?aS ?aL ?_; (case aP => exact k41_mkM _ _ _ (⟨t444, t447⟩ : S41) (Kd.R_mono (Kd.R_tight rfl (Kd.R_mono (ok' := fun k_ => ((fun _ => True)) k_ ∧ some k_ ≠ (u7 : Value).ownBlock) (Kd.R_apart' (HO446.out) (Kd.S_typed HO_7.out) (by decide)) (fun k_ hk => ⟨trivial, hk.2⟩))) (fun _ h_ => Or.inl h_)) (Kd.R_mono (Kd.R_tight rfl (Kd.R_mono (ok' := fun k_ => ((fun _ => True)) k_ ∧ some k_ ≠ (u7 : Value).ownBlock) (Kd.R_apart' (HO449.out) (Kd.S_typed HO_7.out) (by decide)) (fun k_ hk => ⟨trivial, hk.2⟩))) (fun _ h_ => Or.inr (h_)))); (case aB => exact Z1); (case aF => exact (fun _ _ => trivial)); (case aO => exact (by (with_reducible repeat (first | apply Kd.S_alloc | apply Kd.S_drewN | apply Kd.S_drew)); exact Kd.S_mono HO_7.out (fun k_ hk => ⟨trivial, fun e_ => e_.elim (fun h_ => hk.1.2 h_) (fun h_ => hk.2 h_)⟩))); (case aS => exact (below_size Z1)); (case aL => have := LMc47.out; omega); intro v451 w52 ho hb hg hat; rw [← Ny450.out] at ho; have n0_ := A_ (hb); have n1_ := A_ (ho); clear HB; clear HO_7; clear HO446; clear HO449; have HB := n0_; have HO452 := n1_; clear n0_ n1_; clear ho hb hg hat))
      go_ret
      exact ⟨_, Z17, Z30 HO452.out, Z1⟩
     ·rw [if_neg c47] at H
      exact absurd H (by simp)
end Go.Proofs.Ytheifobeaemegaa.PFnStoreGet
