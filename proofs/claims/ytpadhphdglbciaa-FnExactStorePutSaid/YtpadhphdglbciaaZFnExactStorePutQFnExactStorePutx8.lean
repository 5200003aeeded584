/- Walks of the functions that the law 'FnExactStorePut' reaches, part 8: for each a Lean function and the proof that Go's comes to just its answer (lines of the print, under own names; no condition). -/
import Derived.Test.YtpadhphdglbciaaZFnExactStorePutQFnExactStorePutx0
import Derived.Test.YtpadhphdglbciaaZFnExactStorePutQFnExactStorePutx5
import Derived.Test.YtpadhphdglbciaaZFnExactStorePutQFnExactStorePutx6
import Derived.Test.YtpadhphdglbciaaZFnExactStorePutQFnExactStorePutx7
namespace Go.Proofs.Ytpadhphdglbciaa.PFnExactStorePut
open Go.RowKit Go.Proofs.YtpadhphdglbciaaW.PrintWords Go.Proofs.YtpadhphdglbciaaW.PrintLast Go.Proofs.YtpadhphdglbciaaW.PrintMore
attribute [local go_sem] max2_int min2_int max_two min_two max_three min_three max_four min_four
set_option linter.unusedVariables false
set_option linter.unusedSimpArgs false
def spec_validStore.l0 : Nat → List (S89) → Int → Option (Bool)
 | 0, _, _ => none
 | k + 1, x0, x3 => if x3 < (x0.length : Int) then (if 0 ≤ x3 then ((spec_validPlace.f k ((rd_T89 x0 x3).f0)).bind fun t206 => (if t206 = true then (if (((rd_T89 x0 x3).f1).length : Int) > 3 then (some false) else ((spec_validValues.f k ((rd_T89 x0 x3).f1)).bind fun t209 => (if t209 = true then (if x3 > 0 then (if 0 ≤ (wrap64 (x3 - 1)) then (if (wrap64 (x3 - 1)) < (x0.length : Int) then ((spec_comparePlaces.f k ((rd_T89 x0 (wrap64 (x3 - 1))).f0) ((rd_T89 x0 x3).f0)).bind fun t212 => (if t212 ≥ 0 then (some false) else (spec_validStore.l0 k x0 (wrap64 (x3 + 1))))) else (none)) else (none)) else (spec_validStore.l0 k x0 (wrap64 (x3 + 1)))) else (some false)))) else (some false))) else (none)) else (some true)
def spec_validStore.f (k : Nat) (l0 : List (S89)) : Option (Bool) := if (l0.length : Int) > 200 then (some false) else (spec_validStore.l0 k l0 0)
theorem spec_validStore.mono_l : ∀ k, (∀ y0 y1, LeO (spec_validStore.l0 k y0 y1) (spec_validStore.l0 (k + 1) y0 y1))
 | 0 => fun _ _ r h => by simp [spec_validStore.l0] at h
 | k + 1 => by
  have ih0 := spec_validStore.mono_l k
  ·intro y0 y1
   unfold spec_validStore.l0
   repeat' first
   | (with_reducible exact ih0 _ _)
   | (with_reducible exact spec_comparePlaces.mono _ _ _)
   | (with_reducible exact spec_validPlace.mono _ _)
   | (with_reducible exact spec_validValues.mono _ _)
   | (with_reducible exact LeO.refl _)
   | (with_reducible exact LeO.none _)
   | (with_reducible refine LeO.ite ?_ ?_)
   | (with_reducible refine LeO.bind ?_ (fun _ => ?_))
   | exact ih0 _ _
   | exact spec_comparePlaces.mono _ _ _
   | exact spec_validPlace.mono _ _
   | exact spec_validValues.mono _ _
   | exact LeO.none _
   | refine LeO.ite ?_ ?_
   | refine LeO.bind ?_ (fun _ => ?_)
theorem spec_validStore.mono : ∀ a0 k, LeO (spec_validStore.f k a0) (spec_validStore.f (k + 1) a0) := by
 intro a0 k
 have ih0 := spec_validStore.mono_l k
 unfold spec_validStore.f
 repeat' first
   | (with_reducible exact ih0 _ _)
   | (with_reducible exact spec_comparePlaces.mono _ _ _)
   | (with_reducible exact spec_validPlace.mono _ _)
   | (with_reducible exact spec_validValues.mono _ _)
   | (with_reducible exact LeO.refl _)
   | (with_reducible exact LeO.none _)
   | (with_reducible refine LeO.ite ?_ ?_)
   | (with_reducible refine LeO.bind ?_ (fun _ => ?_))
   | exact ih0 _ _
   | exact spec_comparePlaces.mono _ _ _
   | exact spec_validPlace.mono _ _
   | exact spec_validValues.mono _ _
   | exact LeO.none _
   | refine LeO.ite ?_ ?_
   | refine LeO.bind ?_ (fun _ => ?_)
def spec_validStore.T6 : Bool × List (List Nat × List Nat) := (true, [([], []), ([], []), ([0, 1], [0, 1]), ([2], [2]), ([3], [3]), ([4], [4]), ([5], [5]), ([6, 5], [6]), ([7], [7]), ([7], [7]), ([8, 9, 7], [7, 8, 9]), ([10, 7], [7, 10]), ([11, 7], [7, 11]), ([12, 7], [7, 12]), ([13, 7], [7, 13]), ([7, 14], [7, 14]), ([15, 7], [15]), ([16], [16]), ([16], [16]), ([17, 18, 16], [16, 17, 18]), ([19, 16], [16, 19]), ([20, 16], [16, 20]), ([21, 16, 16], [16, 21]), ([22, 16], [16, 22]), ([16, 23], [16, 23]), ([24, 22], [24]), ([25], [25]), ([26, 25], [25, 26]), ([27, 25, 25], [25, 27]), ([28], [28]), ([28], [28]), ([30, 28], [28, 30]), ([29, 31, 28], [28, 29, 31]), ([32, 28], [28, 32]), ([33, 28], [28, 33]), ([28], [28]), ([28], [28]), ([35, 36, 28], [28, 35, 36]), ([37, 28], [28, 37]), ([38, 28], [28, 38]), ([34, 39, 28, 28], [28, 34, 39]), ([40, 28], [28, 40]), ([28, 41, 25], [25, 28, 41]), ([25, 42], [25, 42])])
def spec_validStore.B6 : List Nat := [0, 0, 3, 7, 15, 31, 63, 127, 255, 255, 1023, 2047, 4095, 8191, 16383, 32767, 65535, 131071, 131071, 524287, 1048575, 2097151, 4194303, 8388607, 16777215, 33554431, 67108863, 134217727, 268435455, 536870911, 536870911, 1610612735, 4294967295, 8589934591, 17179869183, 536870911, 536870911, 103616086015, 241055039487, 515932946431, 1099511627775, 2199023255551, 4398046511103, 8796093022207]
theorem spec_validStore.tab6 : rtab .any (opsOf Try.f59 6) = spec_validStore.T6 := by kernel_rfl
theorem spec_validStore.bits6 : waitsOk spec_validStore.T6.2 spec_validStore.B6 = true := by kernel_rfl
set_option maxHeartbeats 8000000 in
set_option maxRecDepth 100000 in
theorem spec_validStore.calls (k : Nat) (A0 : Option Addr) (c0 : Nat) (l0 : List (S89)) (r : Bool) (w : World) (hr0 : Kd.C k89 w A0 l0.length l0) (hc0 : l0.length ≤ c0) (h : spec_validStore.f k l0 = some r) :
  Calls Try.prog 59 #[.slice A0 l0.length c0] w fun e w' => e = .returned (.bool r) ∧ Below w.heap.size w w' := by
 have HR0 := A_ hr0
 have HC0 := A_ hc0
 clear hr0 hc0
 have HB := A_ (Below.refl w.heap.size w)
 have H : (if (l0.length : Int) > 200 then (some false) else (spec_validStore.l0 k l0 0)) = some r := h
 clear h
 by_cases c2 : (l0.length : Int) > 200
 ·rw [if_pos c2] at H
  have c2b0 : decide (200 < (l0.length : Int)) = true := decide_eq_true c2
  have c2b1 : decide (200 < l0.length) = true := decide_eq_true (by omega)
  clear c2
  obtain rfl := Option.some.inj H
  go_enter Try.func59, Try.ntmps59
  go_wp2
  go_ret
  exact ⟨Z14, Z0⟩
 ·rw [if_neg c2] at H
  have c2b0 : decide (200 < (l0.length : Int)) = false := decide_eq_false c2
  have c2b1 : decide (200 < l0.length) = false := decide_eq_false (by omega)
  clear c2
  have H' := A_ H
  clear H
  go_enter Try.func59, Try.ntmps59
  go_wp2
  go_loopg [3] k (fun kq v3 w' => ∃ (x3_1 : Int), v3 = .int .i64 x3_1 ∧ Aside0 (spec_validStore.l0 kq l0 x3_1 = some r) ∧ Aside0 (kq ≤ k) ∧ Aside0 (Below w.heap.size w w'))
  case atStart => exact ⟨(0), Z17, H', ⟨Nat.le_refl _⟩, ⟨Z0⟩⟩
  case round =>
   clear H'
   try clear c2
   try clear c2b0
   try clear c2b1
   try clear p2
   obtain ⟨x3_1, rfl, HA, HK1, HB⟩ := hrel
   cases gk with
   | zero => exact absurd HA.out (by simp [spec_validStore.l0])
   | succ k1 =>
    have H := HA.out
    clear HA
    simp only [spec_validStore.l0] at H
    by_cases c3 : x3_1 < (l0.length : Int)
    ·rw [if_pos c3] at H
     have c3b0 : decide (x3_1 < (l0.length : Int)) = true := decide_eq_true c3
     clear c3
     by_cases c4 : 0 ≤ x3_1
     ·rw [if_pos c4] at H
      have c4b0 : decide (0 ≤ x3_1) = true := decide_eq_true c4
      clear c4
      replace H := Option.bind_eq_some_iff.mp H
      obtain ⟨t206, A50, H⟩ := H
      replace H : (if t206 = true then (if (((rd_T89 l0 x3_1).f1).length : Int) > 3 then (some false) else ((spec_validValues.f k1 ((rd_T89 l0 x3_1).f1)).bind fun t209 => (if t209 = true then (if x3_1 > 0 then (if 0 ≤ (wrap64 (x3_1 - 1)) then (if (wrap64 (x3_1 - 1)) < (l0.length : Int) then ((spec_comparePlaces.f k1 ((rd_T89 l0 (wrap64 (x3_1 - 1))).f0) ((rd_T89 l0 x3_1).f0)).bind fun t212 => (if t212 ≥ 0 then (some false) else (spec_validStore.l0 k1 l0 (wrap64 (x3_1 + 1))))) else (none)) else (none)) else (spec_validStore.l0 k1 l0 (wrap64 (x3_1 + 1)))) else (some false)))) else (some false)) = some r := H
      have A5 := A_ A50
      clear A50
      by_cases c6 : t206 = true
      ·subst c6
       have H1 : (if (((rd_T89 l0 x3_1).f1).length : Int) > 3 then (some false) else ((spec_validValues.f k1 ((rd_T89 l0 x3_1).f1)).bind fun t209 => (if t209 = true then (if x3_1 > 0 then (if 0 ≤ (wrap64 (x3_1 - 1)) then (if (wrap64 (x3_1 - 1)) < (l0.length : Int) then ((spec_comparePlaces.f k1 ((rd_T89 l0 (wrap64 (x3_1 - 1))).f0) ((rd_T89 l0 x3_1).f0)).bind fun t212 => (if t212 ≥ 0 then (some false) else (spec_validStore.l0 k1 l0 (wrap64 (x3_1 + 1))))) else (none)) else (none)) else (spec_validStore.l0 k1 l0 (wrap64 (x3_1 + 1)))) else (some false)))) = some r := by rw [if_pos rfl] at H; exact H
       clear H
       have H := H1
       clear H1
       by_cases c7 : (((rd_T89 l0 x3_1).f1).length : Int) > 3
       ·rw [if_pos c7] at H
        have c7b0 : decide (3 < (((rd_T89 l0 x3_1).f1).length : Int)) = true := decide_eq_true c7
        have c7b1 : decide (3 < ((rd_T89 l0 x3_1).f1).length) = true := decide_eq_true (by omega)
        clear c7
        obtain rfl := Option.some.inj H
        try go_wp2
        have n0_ := A_ (below_drew1 HB.out)
        clear HB
        have HB := n0_
        clear n0_
        have p205 : 0 ≤ (x3_1 : Int) := of_decide_eq_true Z13
        have q205 : x3_1 < (l0.length : Int) := of_decide_eq_true Z13
        obtain ⟨ad205, A205_0, c205_0, A205_1, c205_1, e205, hx205_0, hx205_1, hl205_0, hi205_0, hl205_1, hi205_1⟩ := at_T89 HR0.out x3_1 p205 q205
        have hw205_1 := hx205_1
        have hw205_0 := hx205_0
        cases e205
        replace hx205_0 := ZC HB.out hx205_0
        replace hx205_1 := ZC HB.out hx205_1
        have HR205_0 := A_ hi205_0
        have HC205_0 := A_ hl205_0
        clear hi205_0 hl205_0
        have HR205_1 := A_ hi205_1
        have HC205_1 := A_ hl205_1
        clear hi205_1 hl205_1
        replace p205 := eq_true p205
        replace q205 := eq_true q205
        have p207 : 0 ≤ (x3_1 : Int) := of_decide_eq_true Z13
        have q207 : x3_1 < (l0.length : Int) := of_decide_eq_true Z13
        obtain ⟨ad207, A207_0, c207_0, A207_1, c207_1, e207, hx207_0, hx207_1, hl207_0, hi207_0, hl207_1, hi207_1⟩ := at_T89 HR0.out x3_1 p207 q207
        have hw207_1 := hx207_1
        have hw207_0 := hx207_0
        obtain rfl : ad205 = ad207 := (by injection e207)
        replace hx207_0 := ZC HB.out hx207_0
        replace hx207_1 := ZC HB.out hx207_1
        have HR207_0 := A_ hi207_0
        have HC207_0 := A_ hl207_0
        clear hi207_0 hl207_0
        have HR207_1 := A_ hi207_1
        have HC207_1 := A_ hl207_1
        clear hi207_1 hl207_1
        replace p207 := eq_true p207
        replace q207 := eq_true q207
        have ea_ := Option.some.inj (hw205_0.symm.trans hw207_0)
        injection ea_ with ea_ en_ ec_
        subst ea_
        subst ec_
        clear en_
        have ea_ := Option.some.inj (hw205_1.symm.trans hw207_1)
        injection ea_ with ea_ en_ ec_
        subst ea_
        subst ec_
        clear en_
        refine start_ (n := 44) (S := fun w' => w'.cell? (ad205.add ((x3_1).toNat * 2)) = some (.slice A205_0 ((rd_T89 l0 x3_1).f0).length c205_0) ∧ w'.cell? ⟨(ad205.add ((x3_1).toNat * 2)).block, (ad205.add ((x3_1).toNat * 2)).off + 1, none⟩ = some (.slice A205_1 ((rd_T89 l0 x3_1).f1).length c205_1) ∧ w'.cell? (ad205.add ((x3_1).toNat * 2)) = some (.slice A205_0 ((rd_T89 l0 x3_1).f0).length c205_0) ∧ w'.cell? ⟨(ad205.add ((x3_1).toNat * 2)).block, (ad205.add ((x3_1).toNat * 2)).off + 1, none⟩ = some (.slice A205_1 ((rd_T89 l0 x3_1).f1).length c205_1)) (ds := []) #[F,F,F,F,F,F,F,F,F,F,F,F,F,F,F,F,F,F,F,F,F,F,F,F,F,F,F,F,F,F,F,F,F,F,F,F,F,F,F,F,F,F,F,F] (by kernel_rfl) rfl rfl ⟨(ZC HB.out hw205_0 :), (ZC HB.out hw205_1 :), (ZC HB.out hw207_0 :), (ZC HB.out hw207_1 :)⟩ (fun hHeld => ?_); refine with_tabW spec_validStore.tab6 spec_validStore.bits6 (fun HT_ HW_ => ?_)
        generalize wr.drew = w8 at HB HR205_0 HR205_1 HR207_0 HR207_1 hx205_0 hx205_1 hx207_0 hx207_1 hHeld ⊢
        refine pure_ (i := 0) (N := some 13) (v := ?_) (a' := ?_) #[T,F,F,F,F,F,F,F,F,F,F,F,F,F,F,F,F,F,F,F,F,F,F,F,F,F,F,F,F,F,F,F,F,F,F,F,F,F,F,F,F,F,F,F] rfl rfl ZA ZF (Or.inl ⟨by rfl, ?_⟩) ?_ ?_
        rotate_left
        ·exact Z15
        rotate_left
        ·exact Z1
        refine pure_ (i := 1) (N := some 14) (v := ?_) (a' := ?_) #[T,T,F,F,F,F,F,F,F,F,F,F,F,F,F,F,F,F,F,F,F,F,F,F,F,F,F,F,F,F,F,F,F,F,F,F,F,F,F,F,F,F,F,F] rfl rfl ZA ZF (Or.inl ⟨by rfl, ?_⟩) ?_ ?_
        rotate_left
        ·exact Z15
        rotate_left
        ·exact Z1
        refine pure_ (i := 2) (N := some 15) (v := ?_) (a' := ?_) #[T,T,T,F,F,F,F,F,F,F,F,F,F,F,F,F,F,F,F,F,F,F,F,F,F,F,F,F,F,F,F,F,F,F,F,F,F,F,F,F,F,F,F,F] rfl rfl ZA ZF (Or.inl ⟨by rfl, ?_⟩) ?_ ?_
        rotate_left
        ·exact Z15
        rotate_left
        ·exact Z1
        refine pure_ (i := 3) (N := some 16) (v := ?_) (a' := ?_) #[T,T,T,T,F,F,F,F,F,F,F,F,F,F,F,F,F,F,F,F,F,F,F,F,F,F,F,F,F,F,F,F,F,F,F,F,F,F,F,F,F,F,F,F] rfl rfl ZA ZF (Or.inl ⟨by rfl, ?_⟩) ?_ ?_
        rotate_left
        ·exact Z15
        rotate_left
        ·exact Z1
        refine take_ (i := 4) (N := some 17) (v := ?_) (a' := ?_) #[T,T,T,T,T,F,F,F,F,F,F,F,F,F,F,F,F,F,F,F,F,F,F,F,F,F,F,F,F,F,F,F,F,F,F,F,F,F,F,F,F,F,F,F] rfl rfl (take_ofW HT_.out HW_.out (by kernel_rfl)) ZF (Or.inl ⟨by rfl, ?_⟩) hHeld ?_ ?_
        rotate_left
        ·exact Z28
        rotate_left
        ·exact Z1
        refine one_ (i := 5) (N := some 18) #[T,T,T,T,T,T,F,F,F,F,F,F,F,F,F,F,F,F,F,F,F,F,F,F,F,F,F,F,F,F,F,F,F,F,F,F,F,F,F,F,F,F,F,F] rfl rfl (one_of HT_.out (by kernel_rfl)) (by decide) (fun K hK => ?_)
        refine goes_ Try.func49 (by kernel_rfl) rfl #[.slice A205_0 ((rd_T89 l0 x3_1).f0).length c205_0] (by rfl) rfl rfl Z5 ?_
        with_reducible refine (spec_validPlace.calls k1 _ _ ((rd_T89 l0 x3_1).f0) true _ ?side1 ?side2 A5.out).mono ?_
        (case side1 => exact Z3 HR205_0.out)
        (case side2 => exact HC205_0.out)
        rintro e w9 ⟨rfl, hb⟩
        refine ⟨_, rfl, ?_⟩
        have n0_ := A_ (below_step Z0 hb)
        clear HB
        have HB := n0_
        clear n0_
        (try clear hb)
        (try clear hb2)
        (try clear hk)
        (try clear hi)
        refine hK.out _ _ ⟨(ZC HB.out hw205_0 :), (ZC HB.out hw205_1 :), (ZC HB.out hw207_0 :), (ZC HB.out hw207_1 :)⟩ (fun hHeld => ?_)
        clear hK K
        refine norm_ (a' := ?_) ?_ ?_
        rotate_left
        ·exact Z34
        refine pure_ (i := 6) (N := some 19) (v := ?_) (a' := ?_) #[T,T,T,T,T,T,T,F,F,F,F,F,F,F,F,F,F,F,F,F,F,F,F,F,F,F,F,F,F,F,F,F,F,F,F,F,F,F,F,F,F,F,F,F] rfl rfl ZA ZF (Or.inl ⟨by rfl, ?_⟩) ?_ ?_
        rotate_left
        ·exact Z15
        rotate_left
        ·exact Z1
        refine pure_ (i := 7) (N := some 20) (v := ?_) (a' := ?_) #[T,T,T,T,T,T,T,T,F,F,F,F,F,F,F,F,F,F,F,F,F,F,F,F,F,F,F,F,F,F,F,F,F,F,F,F,F,F,F,F,F,F,F,F] rfl rfl ZA ZF (Or.inl ⟨by rfl, ?_⟩) ?_ ?_
        rotate_left
        ·exact Z15
        rotate_left
        ·exact Z1
        refine pure_ (i := 8) (N := some 21) (v := ?_) (a' := ?_) #[T,T,T,T,T,T,T,T,T,F,F,F,F,F,F,F,F,F,F,F,F,F,F,F,F,F,F,F,F,F,F,F,F,F,F,F,F,F,F,F,F,F,F,F] rfl rfl ZA ZF (Or.inl ⟨by rfl, ?_⟩) ?_ ?_
        rotate_left
        ·exact Z15
        rotate_left
        ·exact Z1
        refine pure_ (i := 9) (N := some 22) (v := ?_) (a' := ?_) #[T,T,T,T,T,T,T,T,T,T,F,F,F,F,F,F,F,F,F,F,F,F,F,F,F,F,F,F,F,F,F,F,F,F,F,F,F,F,F,F,F,F,F,F] rfl rfl ZA ZF (Or.inl ⟨by rfl, ?_⟩) ?_ ?_
        rotate_left
        ·exact Z15
        rotate_left
        ·exact Z1
        refine pure_ (i := 10) (N := some 23) (v := ?_) (a' := ?_) #[T,T,T,T,T,T,T,T,T,T,T,F,F,F,F,F,F,F,F,F,F,F,F,F,F,F,F,F,F,F,F,F,F,F,F,F,F,F,F,F,F,F,F,F] rfl rfl ZA ZF (Or.inl ⟨by rfl, ?_⟩) ?_ ?_
        rotate_left
        ·exact Z15
        rotate_left
        ·exact Z1
        refine pure_ (i := 11) (N := some 24) (v := ?_) (a' := ?_) #[T,T,T,T,T,T,T,T,T,T,T,T,F,F,F,F,F,F,F,F,F,F,F,F,F,F,F,F,F,F,F,F,F,F,F,F,F,F,F,F,F,F,F,F] rfl rfl ZA ZF (Or.inl ⟨by rfl, ?_⟩) ?_ ?_
        rotate_left
        ·exact Z15
        rotate_left
        ·exact Z1
        refine take_ (i := 12) (N := some 25) (v := ?_) (a' := ?_) #[T,T,T,T,T,T,T,T,T,T,T,T,T,F,F,F,F,F,F,F,F,F,F,F,F,F,F,F,F,F,F,F,F,F,F,F,F,F,F,F,F,F,F,F] rfl rfl (take_ofW HT_.out HW_.out (by kernel_rfl)) ZF (Or.inl ⟨by rfl, ?_⟩) hHeld ?_ ?_
        rotate_left
        ·exact Z28
        rotate_left
        ·exact Z1
        refine pure_ (i := 13) (N := some 26) (v := ?_) (a' := ?_) #[T,T,T,T,T,T,T,T,T,T,T,T,T,T,F,F,F,F,F,F,F,F,F,F,F,F,F,F,F,F,F,F,F,F,F,F,F,F,F,F,F,F,F,F] rfl rfl ZA ZF (Or.inl ⟨by rfl, ?_⟩) ?_ ?_
        rotate_left
        ·exact Z15
        rotate_left
        ·exact Z1
        refine pure_ (i := 14) (N := some 27) (v := ?_) (a' := ?_) #[T,T,T,T,T,T,T,T,T,T,T,T,T,T,T,F,F,F,F,F,F,F,F,F,F,F,F,F,F,F,F,F,F,F,F,F,F,F,F,F,F,F,F,F] rfl rfl ZA ZF (Or.inl ⟨by rfl, ?_⟩) ?_ ?_
        rotate_left
        ·exact Z15
        rotate_left
        ·exact Z1
        refine pure_ (i := 15) (N := some 28) (v := ?_) (a' := ?_) #[T,T,T,T,T,T,T,T,T,T,T,T,T,T,T,T,F,F,F,F,F,F,F,F,F,F,F,F,F,F,F,F,F,F,F,F,F,F,F,F,F,F,F,F] rfl rfl ZA ZF (Or.inl ⟨by rfl, ?_⟩) ?_ ?_
        rotate_left
        ·exact Z15
        rotate_left
        ·exact Z1
        refine pure_ (i := 16) (N := some 29) (v := ?_) (a' := ?_) #[T,T,T,T,T,T,T,T,T,T,T,T,T,T,T,T,T,F,F,F,F,F,F,F,F,F,F,F,F,F,F,F,F,F,F,F,F,F,F,F,F,F,F,F] rfl rfl ZA ZF (Or.inl ⟨by rfl, ?_⟩) ?_ ?_
        rotate_left
        ·exact Z15
        rotate_left
        ·exact Z1
        refine pure_ (i := 17) (N := some 30) (v := undef) (a' := ?_) #[T,T,T,T,T,T,T,T,T,T,T,T,T,T,T,T,T,T,F,F,F,F,F,F,F,F,F,F,F,F,F,F,F,F,F,F,F,F,F,F,F,F,F,F] rfl rfl ZA ZF (Or.inr ⟨by rfl, rfl⟩) ?_ ?_
        rotate_left
        ·exact Z1
        refine pure_ (i := 18) (N := some 31) (v := undef) (a' := ?_) #[T,T,T,T,T,T,T,T,T,T,T,T,T,T,T,T,T,T,T,F,F,F,F,F,F,F,F,F,F,F,F,F,F,F,F,F,F,F,F,F,F,F,F,F] rfl rfl ZA ZF (Or.inr ⟨by rfl, rfl⟩) ?_ ?_
        rotate_left
        ·exact Z1
        refine pure_ (i := 19) (N := some 32) (v := undef) (a' := ?_) #[T,T,T,T,T,T,T,T,T,T,T,T,T,T,T,T,T,T,T,T,F,F,F,F,F,F,F,F,F,F,F,F,F,F,F,F,F,F,F,F,F,F,F,F] rfl rfl ZA ZF (Or.inr ⟨by rfl, rfl⟩) ?_ ?_
        rotate_left
        ·exact Z1
        refine pure_ (i := 20) (N := some 33) (v := undef) (a' := ?_) #[T,T,T,T,T,T,T,T,T,T,T,T,T,T,T,T,T,T,T,T,T,F,F,F,F,F,F,F,F,F,F,F,F,F,F,F,F,F,F,F,F,F,F,F] rfl rfl ZA ZF (Or.inr ⟨by rfl, rfl⟩) ?_ ?_
        rotate_left
        ·exact Z1
        refine pure_ (i := 21) (N := some 34) (v := undef) (a' := ?_) #[T,T,T,T,T,T,T,T,T,T,T,T,T,T,T,T,T,T,T,T,T,T,F,F,F,F,F,F,F,F,F,F,F,F,F,F,F,F,F,F,F,F,F,F] rfl rfl ZA ZF (Or.inr ⟨by rfl, rfl⟩) ?_ ?_
        rotate_left
        ·exact Z1
        refine pure_ (i := 22) (N := some 35) (v := undef) (a' := ?_) #[T,T,T,T,T,T,T,T,T,T,T,T,T,T,T,T,T,T,T,T,T,T,T,F,F,F,F,F,F,F,F,F,F,F,F,F,F,F,F,F,F,F,F,F] rfl rfl ZA ZF (Or.inr ⟨by rfl, rfl⟩) ?_ ?_
        rotate_left
        ·exact Z1
        refine pure_ (i := 23) (N := some 36) (v := undef) (a' := ?_) #[T,T,T,T,T,T,T,T,T,T,T,T,T,T,T,T,T,T,T,T,T,T,T,T,F,F,F,F,F,F,F,F,F,F,F,F,F,F,F,F,F,F,F,F] rfl rfl ZA ZF (Or.inr ⟨by rfl, rfl⟩) ?_ ?_
        rotate_left
        ·exact Z1
        refine pure_ (i := 24) (N := some 37) (v := ?_) (a' := ?_) #[T,T,T,T,T,T,T,T,T,T,T,T,T,T,T,T,T,T,T,T,T,T,T,T,T,F,F,F,F,F,F,F,F,F,F,F,F,F,F,F,F,F,F,F] rfl rfl ZA ZF (Or.inl ⟨by rfl, ?_⟩) ?_ ?_
        rotate_left
        ·exact Z15
        rotate_left
        ·exact Z1
        refine pure_ (i := 25) (N := some 38) (v := ?_) (a' := ?_) #[T,T,T,T,T,T,T,T,T,T,T,T,T,T,T,T,T,T,T,T,T,T,T,T,T,T,F,F,F,F,F,F,F,F,F,F,F,F,F,F,F,F,F,F] rfl rfl ZA ZF (Or.inl ⟨by rfl, ?_⟩) ?_ ?_
        rotate_left
        ·exact Z15
        rotate_left
        ·exact Z1
        refine pure_ (i := 26) (N := some 39) (v := undef) (a' := ?_) #[T,T,T,T,T,T,T,T,T,T,T,T,T,T,T,T,T,T,T,T,T,T,T,T,T,T,T,F,F,F,F,F,F,F,F,F,F,F,F,F,F,F,F,F] rfl rfl ZA ZF (Or.inr ⟨by rfl, rfl⟩) ?_ ?_
        rotate_left
        ·exact Z1
        refine pure_ (i := 27) (N := some 40) (v := undef) (a' := ?_) #[T,T,T,T,T,T,T,T,T,T,T,T,T,T,T,T,T,T,T,T,T,T,T,T,T,T,T,T,F,F,F,F,F,F,F,F,F,F,F,F,F,F,F,F] rfl rfl ZA ZF (Or.inr ⟨by rfl, rfl⟩) ?_ ?_
        rotate_left
        ·exact Z1
        refine pure_ (i := 28) (N := some 41) (v := undef) (a' := ?_) #[T,T,T,T,T,T,T,T,T,T,T,T,T,T,T,T,T,T,T,T,T,T,T,T,T,T,T,T,T,F,F,F,F,F,F,F,F,F,F,F,F,F,F,F] rfl rfl ZA ZF (Or.inr ⟨by rfl, rfl⟩) ?_ ?_
        rotate_left
        ·exact Z1
        refine pure_ (i := 29) (N := some 42) (v := undef) (a' := ?_) #[T,T,T,T,T,T,T,T,T,T,T,T,T,T,T,T,T,T,T,T,T,T,T,T,T,T,T,T,T,T,F,F,F,F,F,F,F,F,F,F,F,F,F,F] rfl rfl ZA ZF (Or.inr ⟨by rfl, rfl⟩) ?_ ?_
        rotate_left
        ·exact Z1
        refine pure_ (i := 30) (N := some 43) (v := undef) (a' := ?_) #[T,T,T,T,T,T,T,T,T,T,T,T,T,T,T,T,T,T,T,T,T,T,T,T,T,T,T,T,T,T,T,F,F,F,F,F,F,F,F,F,F,F,F,F] rfl rfl ZA ZF (Or.inr ⟨by rfl, rfl⟩) ?_ ?_
        rotate_left
        ·exact Z1
        refine pure_ (i := 31) (N := some 44) (v := undef) (a' := ?_) #[T,T,T,T,T,T,T,T,T,T,T,T,T,T,T,T,T,T,T,T,T,T,T,T,T,T,T,T,T,T,T,T,F,F,F,F,F,F,F,F,F,F,F,F] rfl rfl ZA ZF (Or.inr ⟨by rfl, rfl⟩) ?_ ?_
        rotate_left
        ·exact Z1
        refine pure_ (i := 32) (N := some 45) (v := undef) (a' := ?_) #[T,T,T,T,T,T,T,T,T,T,T,T,T,T,T,T,T,T,T,T,T,T,T,T,T,T,T,T,T,T,T,T,T,F,F,F,F,F,F,F,F,F,F,F] rfl rfl ZA ZF (Or.inr ⟨by rfl, rfl⟩) ?_ ?_
        rotate_left
        ·exact Z1
        refine pure_ (i := 33) (N := some 46) (v := undef) (a' := ?_) #[T,T,T,T,T,T,T,T,T,T,T,T,T,T,T,T,T,T,T,T,T,T,T,T,T,T,T,T,T,T,T,T,T,T,F,F,F,F,F,F,F,F,F,F] rfl rfl ZA ZF (Or.inr ⟨by rfl, rfl⟩) ?_ ?_
        rotate_left
        ·exact Z1
        refine pure_ (i := 34) (N := some 47) (v := undef) (a' := ?_) #[T,T,T,T,T,T,T,T,T,T,T,T,T,T,T,T,T,T,T,T,T,T,T,T,T,T,T,T,T,T,T,T,T,T,T,F,F,F,F,F,F,F,F,F] rfl rfl ZA ZF (Or.inr ⟨by rfl, rfl⟩) ?_ ?_
        rotate_left
        ·exact Z1
        refine pure_ (i := 35) (N := some 48) (v := undef) (a' := ?_) #[T,T,T,T,T,T,T,T,T,T,T,T,T,T,T,T,T,T,T,T,T,T,T,T,T,T,T,T,T,T,T,T,T,T,T,T,F,F,F,F,F,F,F,F] rfl rfl ZA ZF (Or.inr ⟨by rfl, rfl⟩) ?_ ?_
        rotate_left
        ·exact Z1
        refine pure_ (i := 36) (N := some 49) (v := undef) (a' := ?_) #[T,T,T,T,T,T,T,T,T,T,T,T,T,T,T,T,T,T,T,T,T,T,T,T,T,T,T,T,T,T,T,T,T,T,T,T,T,F,F,F,F,F,F,F] rfl rfl ZA ZF (Or.inr ⟨by rfl, rfl⟩) ?_ ?_
        rotate_left
        ·exact Z1
        refine pure_ (i := 37) (N := some 50) (v := undef) (a' := ?_) #[T,T,T,T,T,T,T,T,T,T,T,T,T,T,T,T,T,T,T,T,T,T,T,T,T,T,T,T,T,T,T,T,T,T,T,T,T,T,F,F,F,F,F,F] rfl rfl ZA ZF (Or.inr ⟨by rfl, rfl⟩) ?_ ?_
        rotate_left
        ·exact Z1
        refine pure_ (i := 38) (N := some 51) (v := undef) (a' := ?_) #[T,T,T,T,T,T,T,T,T,T,T,T,T,T,T,T,T,T,T,T,T,T,T,T,T,T,T,T,T,T,T,T,T,T,T,T,T,T,T,F,F,F,F,F] rfl rfl ZA ZF (Or.inr ⟨by rfl, rfl⟩) ?_ ?_
        rotate_left
        ·exact Z1
        refine pure_ (i := 39) (N := some 52) (v := undef) (a' := ?_) #[T,T,T,T,T,T,T,T,T,T,T,T,T,T,T,T,T,T,T,T,T,T,T,T,T,T,T,T,T,T,T,T,T,T,T,T,T,T,T,T,F,F,F,F] rfl rfl ZA ZF (Or.inr ⟨by rfl, rfl⟩) ?_ ?_
        rotate_left
        ·exact Z1
        refine pure_ (i := 40) (N := some 53) (v := undef) (a' := ?_) #[T,T,T,T,T,T,T,T,T,T,T,T,T,T,T,T,T,T,T,T,T,T,T,T,T,T,T,T,T,T,T,T,T,T,T,T,T,T,T,T,T,F,F,F] rfl rfl ZA ZF (Or.inr ⟨by rfl, rfl⟩) ?_ ?_
        rotate_left
        ·exact Z1
        refine pure_ (i := 41) (N := some 54) (v := undef) (a' := ?_) #[T,T,T,T,T,T,T,T,T,T,T,T,T,T,T,T,T,T,T,T,T,T,T,T,T,T,T,T,T,T,T,T,T,T,T,T,T,T,T,T,T,T,F,F] rfl rfl ZA ZF (Or.inr ⟨by rfl, rfl⟩) ?_ ?_
        rotate_left
        ·exact Z1
        refine pure_ (i := 42) (N := some 55) (v := undef) (a' := ?_) #[T,T,T,T,T,T,T,T,T,T,T,T,T,T,T,T,T,T,T,T,T,T,T,T,T,T,T,T,T,T,T,T,T,T,T,T,T,T,T,T,T,T,T,F] rfl rfl ZA ZF (Or.inr ⟨by rfl, rfl⟩) ?_ ?_
        rotate_left
        ·exact Z1
        refine pure_ (i := 43) (N := some 56) (v := ?_) (a' := ?_) #[T,T,T,T,T,T,T,T,T,T,T,T,T,T,T,T,T,T,T,T,T,T,T,T,T,T,T,T,T,T,T,T,T,T,T,T,T,T,T,T,T,T,T,T] rfl rfl ZA ZF (Or.inl ⟨by rfl, ?_⟩) ?_ ?_
        rotate_left
        ·exact Z15
        rotate_left
        ·exact Z1
        refine done_ (done_of HT_.out (by kernel_rfl)) ?_
        try go_wp2
        go_ret
        exact ⟨Z14, Z0⟩
       ·rw [if_neg c7] at H
        have c7b0 : decide (3 < (((rd_T89 l0 x3_1).f1).length : Int)) = false := decide_eq_false c7
        have c7b1 : decide (3 < ((rd_T89 l0 x3_1).f1).length) = false := decide_eq_false (by omega)
        clear c7
        replace H := Option.bind_eq_some_iff.mp H
        obtain ⟨t209, A100, H⟩ := H
        replace H : (if t209 = true then (if x3_1 > 0 then (if 0 ≤ (wrap64 (x3_1 - 1)) then (if (wrap64 (x3_1 - 1)) < (l0.length : Int) then ((spec_comparePlaces.f k1 ((rd_T89 l0 (wrap64 (x3_1 - 1))).f0) ((rd_T89 l0 x3_1).f0)).bind fun t212 => (if t212 ≥ 0 then (some false) else (spec_validStore.l0 k1 l0 (wrap64 (x3_1 + 1))))) else (none)) else (none)) else (spec_validStore.l0 k1 l0 (wrap64 (x3_1 + 1)))) else (some false)) = some r := H
        have A10 := A_ A100
        clear A100
        by_cases c11 : t209 = true
        ·subst c11
         have H1 : (if x3_1 > 0 then (if 0 ≤ (wrap64 (x3_1 - 1)) then (if (wrap64 (x3_1 - 1)) < (l0.length : Int) then ((spec_comparePlaces.f k1 ((rd_T89 l0 (wrap64 (x3_1 - 1))).f0) ((rd_T89 l0 x3_1).f0)).bind fun t212 => (if t212 ≥ 0 then (some false) else (spec_validStore.l0 k1 l0 (wrap64 (x3_1 + 1))))) else (none)) else (none)) else (spec_validStore.l0 k1 l0 (wrap64 (x3_1 + 1)))) = some r := by rw [if_pos rfl] at H; exact H
         clear H
         have H := H1
         clear H1
         by_cases c12 : x3_1 > 0
         ·rw [if_pos c12] at H
          have c12b0 : decide (0 < x3_1) = true := decide_eq_true c12
          clear c12
          obtain ⟨ji13, hji13⟩ : ∃ j_ : Int, (wrap64 (x3_1 - 1)) = j_ := ⟨_, rfl⟩
          replace H : (if 0 ≤ (ji13) then (if (ji13) < (l0.length : Int) then ((spec_comparePlaces.f k1 ((rd_T89 l0 (ji13)).f0) ((rd_T89 l0 x3_1).f0)).bind fun t212 => (if t212 ≥ 0 then (some false) else (spec_validStore.l0 k1 l0 (wrap64 (x3_1 + 1))))) else (none)) else (none)) = some r := by first | (rw [hji13] at H; exact H) | (simp only [hji13] at H ⊢; exact H)
          (try rw [hji13] at A5)
          (try rw [hji13] at A10)
          have hji13w : (IntKind.i64.wrap (x3_1 - 1)) = ji13 := (i64_w _).trans hji13
          by_cases c14 : 0 ≤ (ji13)
          ·rw [if_pos c14] at H
           have c14b0 : decide (0 ≤ (ji13)) = true := decide_eq_true c14
           clear c14
           by_cases c15 : (ji13) < (l0.length : Int)
           ·rw [if_pos c15] at H
            have c15b0 : decide ((ji13) < (l0.length : Int)) = true := decide_eq_true c15
            clear c15
            replace H := Option.bind_eq_some_iff.mp H
            obtain ⟨t212, A160, H⟩ := H
            replace H : (if t212 ≥ 0 then (some false) else (spec_validStore.l0 k1 l0 (wrap64 (x3_1 + 1)))) = some r := H
            have A16 := A_ A160
            clear A160
            by_cases c17 : t212 ≥ 0
            ·rw [if_pos c17] at H
             have c17b0 : decide (0 ≤ t212) = true := decide_eq_true c17
             clear c17
             obtain rfl := Option.some.inj H
             try go_wp2
             have n0_ := A_ (below_drew1 HB.out)
             clear HB
             have HB := n0_
             clear n0_
             have p205 : 0 ≤ (x3_1 : Int) := of_decide_eq_true Z13
             have q205 : x3_1 < (l0.length : Int) := of_decide_eq_true Z13
             obtain ⟨ad205, A205_0, c205_0, A205_1, c205_1, e205, hx205_0, hx205_1, hl205_0, hi205_0, hl205_1, hi205_1⟩ := at_T89 HR0.out x3_1 p205 q205
             have hw205_1 := hx205_1
             have hw205_0 := hx205_0
             cases e205
             replace hx205_0 := ZC HB.out hx205_0
             replace hx205_1 := ZC HB.out hx205_1
             have HR205_0 := A_ hi205_0
             have HC205_0 := A_ hl205_0
             clear hi205_0 hl205_0
             have HR205_1 := A_ hi205_1
             have HC205_1 := A_ hl205_1
             clear hi205_1 hl205_1
             replace p205 := eq_true p205
             replace q205 := eq_true q205
             have p207 : 0 ≤ (x3_1 : Int) := of_decide_eq_true Z13
             have q207 : x3_1 < (l0.length : Int) := of_decide_eq_true Z13
             obtain ⟨ad207, A207_0, c207_0, A207_1, c207_1, e207, hx207_0, hx207_1, hl207_0, hi207_0, hl207_1, hi207_1⟩ := at_T89 HR0.out x3_1 p207 q207
             have hw207_1 := hx207_1
             have hw207_0 := hx207_0
             obtain rfl : ad205 = ad207 := (by injection e207)
             replace hx207_0 := ZC HB.out hx207_0
             replace hx207_1 := ZC HB.out hx207_1
             have HR207_0 := A_ hi207_0
             have HC207_0 := A_ hl207_0
             clear hi207_0 hl207_0
             have HR207_1 := A_ hi207_1
             have HC207_1 := A_ hl207_1
             clear hi207_1 hl207_1
             replace p207 := eq_true p207
             replace q207 := eq_true q207
             have ea_ := Option.some.inj (hw205_0.symm.trans hw207_0)
             injection ea_ with ea_ en_ ec_
             subst ea_
             subst ec_
             clear en_
             have ea_ := Option.some.inj (hw205_1.symm.trans hw207_1)
             injection ea_ with ea_ en_ ec_
             subst ea_
             subst ec_
             clear en_
             have p208 : 0 ≤ (x3_1 : Int) := of_decide_eq_true Z13
             have q208 : x3_1 < (l0.length : Int) := of_decide_eq_true Z13
             obtain ⟨ad208, A208_0, c208_0, A208_1, c208_1, e208, hx208_0, hx208_1, hl208_0, hi208_0, hl208_1, hi208_1⟩ := at_T89 HR0.out x3_1 p208 q208
             have hw208_1 := hx208_1
             have hw208_0 := hx208_0
             obtain rfl : ad205 = ad208 := (by injection e208)
             replace hx208_0 := ZC HB.out hx208_0
             replace hx208_1 := ZC HB.out hx208_1
             have HR208_0 := A_ hi208_0
             have HC208_0 := A_ hl208_0
             clear hi208_0 hl208_0
             have HR208_1 := A_ hi208_1
             have HC208_1 := A_ hl208_1
             clear hi208_1 hl208_1
             replace p208 := eq_true p208
             replace q208 := eq_true q208
             have ea_ := Option.some.inj (hx207_0.symm.trans hx208_0)
             injection ea_ with ea_ en_ ec_
             subst ea_
             subst ec_
             clear en_
             have ea_ := Option.some.inj (hx207_1.symm.trans hx208_1)
             injection ea_ with ea_ en_ ec_
             subst ea_
             subst ec_
             clear en_
             have p210 : 0 ≤ ((ji13) : Int) := of_decide_eq_true Z13
             have q210 : (ji13) < (l0.length : Int) := of_decide_eq_true Z13
             obtain ⟨ad210, A210_0, c210_0, A210_1, c210_1, e210, hx210_0, hx210_1, hl210_0, hi210_0, hl210_1, hi210_1⟩ := at_T89 HR0.out (ji13) p210 q210
             have hw210_1 := hx210_1
             have hw210_0 := hx210_0
             obtain rfl : ad205 = ad210 := (by injection e210)
             replace hx210_0 := ZC HB.out hx210_0
             replace hx210_1 := ZC HB.out hx210_1
             have HR210_0 := A_ hi210_0
             have HC210_0 := A_ hl210_0
             clear hi210_0 hl210_0
             have HR210_1 := A_ hi210_1
             have HC210_1 := A_ hl210_1
             clear hi210_1 hl210_1
             replace p210 := eq_true p210
             replace q210 := eq_true q210
             have p211 : 0 ≤ (x3_1 : Int) := of_decide_eq_true Z13
             have q211 : x3_1 < (l0.length : Int) := of_decide_eq_true Z13
             obtain ⟨ad211, A211_0, c211_0, A211_1, c211_1, e211, hx211_0, hx211_1, hl211_0, hi211_0, hl211_1, hi211_1⟩ := at_T89 HR0.out x3_1 p211 q211
             have hw211_1 := hx211_1
             have hw211_0 := hx211_0
             obtain rfl : ad205 = ad211 := (by injection e211)
             replace hx211_0 := ZC HB.out hx211_0
             replace hx211_1 := ZC HB.out hx211_1
             have HR211_0 := A_ hi211_0
             have HC211_0 := A_ hl211_0
             clear hi211_0 hl211_0
             have HR211_1 := A_ hi211_1
             have HC211_1 := A_ hl211_1
             clear hi211_1 hl211_1
             replace p211 := eq_true p211
             replace q211 := eq_true q211
             have ea_ := Option.some.inj (hw205_0.symm.trans hw211_0)
             injection ea_ with ea_ en_ ec_
             subst ea_
             subst ec_
             clear en_
             have ea_ := Option.some.inj (hw205_1.symm.trans hw211_1)
             injection ea_ with ea_ en_ ec_
             subst ea_
             subst ec_
             clear en_
             refine start_ (n := 44) (S := fun w' => w'.cell? (ad205.add ((x3_1).toNat * 2)) = some (.slice A205_0 ((rd_T89 l0 x3_1).f0).length c205_0) ∧ w'.cell? ⟨(ad205.add ((x3_1).toNat * 2)).block, (ad205.add ((x3_1).toNat * 2)).off + 1, none⟩ = some (.slice A205_1 ((rd_T89 l0 x3_1).f1).length c205_1) ∧ w'.cell? (ad205.add ((x3_1).toNat * 2)) = some (.slice A205_0 ((rd_T89 l0 x3_1).f0).length c205_0) ∧ w'.cell? ⟨(ad205.add ((x3_1).toNat * 2)).block, (ad205.add ((x3_1).toNat * 2)).off + 1, none⟩ = some (.slice A205_1 ((rd_T89 l0 x3_1).f1).length c205_1) ∧ w'.cell? (ad205.add ((x3_1).toNat * 2)) = some (.slice A205_0 ((rd_T89 l0 x3_1).f0).length c205_0) ∧ w'.cell? ⟨(ad205.add ((x3_1).toNat * 2)).block, (ad205.add ((x3_1).toNat * 2)).off + 1, none⟩ = some (.slice A205_1 ((rd_T89 l0 x3_1).f1).length c205_1) ∧ w'.cell? (ad205.add (((ji13)).toNat * 2)) = some (.slice A210_0 ((rd_T89 l0 (ji13)).f0).length c210_0) ∧ w'.cell? ⟨(ad205.add (((ji13)).toNat * 2)).block, (ad205.add (((ji13)).toNat * 2)).off + 1, none⟩ = some (.slice A210_1 ((rd_T89 l0 (ji13)).f1).length c210_1) ∧ w'.cell? (ad205.add ((x3_1).toNat * 2)) = some (.slice A205_0 ((rd_T89 l0 x3_1).f0).length c205_0) ∧ w'.cell? ⟨(ad205.add ((x3_1).toNat * 2)).block, (ad205.add ((x3_1).toNat * 2)).off + 1, none⟩ = some (.slice A205_1 ((rd_T89 l0 x3_1).f1).length c205_1)) (ds := []) #[F,F,F,F,F,F,F,F,F,F,F,F,F,F,F,F,F,F,F,F,F,F,F,F,F,F,F,F,F,F,F,F,F,F,F,F,F,F,F,F,F,F,F,F] (by kernel_rfl) rfl rfl ⟨(ZC HB.out hw205_0 :), (ZC HB.out hw205_1 :), (ZC HB.out hw207_0 :), (ZC HB.out hw207_1 :), (ZC HB.out hw208_0 :), (ZC HB.out hw208_1 :), (ZC HB.out hw210_0 :), (ZC HB.out hw210_1 :), (ZC HB.out hw211_0 :), (ZC HB.out hw211_1 :)⟩ (fun hHeld => ?_); refine with_tabW spec_validStore.tab6 spec_validStore.bits6 (fun HT_ HW_ => ?_)
             generalize wr.drew = w18 at HB HR205_0 HR205_1 HR207_0 HR207_1 HR208_0 HR208_1 HR210_0 HR210_1 HR211_0 HR211_1 hx205_0 hx205_1 hx207_0 hx207_1 hx208_0 hx208_1 hx210_0 hx210_1 hx211_0 hx211_1 hHeld ⊢
             refine pure_ (i := 0) (N := some 13) (v := ?_) (a' := ?_) #[T,F,F,F,F,F,F,F,F,F,F,F,F,F,F,F,F,F,F,F,F,F,F,F,F,F,F,F,F,F,F,F,F,F,F,F,F,F,F,F,F,F,F,F] rfl rfl ZA ZF (Or.inl ⟨by rfl, ?_⟩) ?_ ?_
             rotate_left
             ·exact Z15
             rotate_left
             ·exact Z1
             refine pure_ (i := 1) (N := some 14) (v := ?_) (a' := ?_) #[T,T,F,F,F,F,F,F,F,F,F,F,F,F,F,F,F,F,F,F,F,F,F,F,F,F,F,F,F,F,F,F,F,F,F,F,F,F,F,F,F,F,F,F] rfl rfl ZA ZF (Or.inl ⟨by rfl, ?_⟩) ?_ ?_
             rotate_left
             ·exact Z15
             rotate_left
             ·exact Z1
             refine pure_ (i := 2) (N := some 15) (v := ?_) (a' := ?_) #[T,T,T,F,F,F,F,F,F,F,F,F,F,F,F,F,F,F,F,F,F,F,F,F,F,F,F,F,F,F,F,F,F,F,F,F,F,F,F,F,F,F,F,F] rfl rfl ZA ZF (Or.inl ⟨by rfl, ?_⟩) ?_ ?_
             rotate_left
             ·exact Z15
             rotate_left
             ·exact Z1
             refine pure_ (i := 3) (N := some 16) (v := ?_) (a' := ?_) #[T,T,T,T,F,F,F,F,F,F,F,F,F,F,F,F,F,F,F,F,F,F,F,F,F,F,F,F,F,F,F,F,F,F,F,F,F,F,F,F,F,F,F,F] rfl rfl ZA ZF (Or.inl ⟨by rfl, ?_⟩) ?_ ?_
             rotate_left
             ·exact Z15
             rotate_left
             ·exact Z1
             refine take_ (i := 4) (N := some 17) (v := ?_) (a' := ?_) #[T,T,T,T,T,F,F,F,F,F,F,F,F,F,F,F,F,F,F,F,F,F,F,F,F,F,F,F,F,F,F,F,F,F,F,F,F,F,F,F,F,F,F,F] rfl rfl (take_ofW HT_.out HW_.out (by kernel_rfl)) ZF (Or.inl ⟨by rfl, ?_⟩) hHeld ?_ ?_
             rotate_left
             ·exact Z36
             rotate_left
             ·exact Z1
             refine one_ (i := 5) (N := some 18) #[T,T,T,T,T,T,F,F,F,F,F,F,F,F,F,F,F,F,F,F,F,F,F,F,F,F,F,F,F,F,F,F,F,F,F,F,F,F,F,F,F,F,F,F] rfl rfl (one_of HT_.out (by kernel_rfl)) (by decide) (fun K hK => ?_)
             refine goes_ Try.func49 (by kernel_rfl) rfl #[.slice A205_0 ((rd_T89 l0 x3_1).f0).length c205_0] (by rfl) rfl rfl Z5 ?_
             with_reducible refine (spec_validPlace.calls k1 _ _ ((rd_T89 l0 x3_1).f0) true _ ?side1 ?side2 A5.out).mono ?_
             (case side1 => exact Z3 HR205_0.out)
             (case side2 => exact HC205_0.out)
             rintro e w19 ⟨rfl, hb⟩
             refine ⟨_, rfl, ?_⟩
             have n0_ := A_ (below_step Z0 hb)
             clear HB
             have HB := n0_
             clear n0_
             (try clear hb)
             (try clear hb2)
             (try clear hk)
             (try clear hi)
             refine hK.out _ _ ⟨(ZC HB.out hw205_0 :), (ZC HB.out hw205_1 :), (ZC HB.out hw207_0 :), (ZC HB.out hw207_1 :), (ZC HB.out hw208_0 :), (ZC HB.out hw208_1 :), (ZC HB.out hw210_0 :), (ZC HB.out hw210_1 :), (ZC HB.out hw211_0 :), (ZC HB.out hw211_1 :)⟩ (fun hHeld => ?_)
             clear hK K
             refine norm_ (a' := ?_) ?_ ?_
             rotate_left
             ·exact Z34
             refine pure_ (i := 6) (N := some 19) (v := ?_) (a' := ?_) #[T,T,T,T,T,T,T,F,F,F,F,F,F,F,F,F,F,F,F,F,F,F,F,F,F,F,F,F,F,F,F,F,F,F,F,F,F,F,F,F,F,F,F,F] rfl rfl ZA ZF (Or.inl ⟨by rfl, ?_⟩) ?_ ?_
             rotate_left
             ·exact Z15
             rotate_left
             ·exact Z1
             refine pure_ (i := 7) (N := some 20) (v := ?_) (a' := ?_) #[T,T,T,T,T,T,T,T,F,F,F,F,F,F,F,F,F,F,F,F,F,F,F,F,F,F,F,F,F,F,F,F,F,F,F,F,F,F,F,F,F,F,F,F] rfl rfl ZA ZF (Or.inl ⟨by rfl, ?_⟩) ?_ ?_
             rotate_left
             ·exact Z15
             rotate_left
             ·exact Z1
             refine pure_ (i := 8) (N := some 21) (v := ?_) (a' := ?_) #[T,T,T,T,T,T,T,T,T,F,F,F,F,F,F,F,F,F,F,F,F,F,F,F,F,F,F,F,F,F,F,F,F,F,F,F,F,F,F,F,F,F,F,F] rfl rfl ZA ZF (Or.inl ⟨by rfl, ?_⟩) ?_ ?_
             rotate_left
             ·exact Z15
             rotate_left
             ·exact Z1
             refine pure_ (i := 9) (N := some 22) (v := ?_) (a' := ?_) #[T,T,T,T,T,T,T,T,T,T,F,F,F,F,F,F,F,F,F,F,F,F,F,F,F,F,F,F,F,F,F,F,F,F,F,F,F,F,F,F,F,F,F,F] rfl rfl ZA ZF (Or.inl ⟨by rfl, ?_⟩) ?_ ?_
             rotate_left
             ·exact Z15
             rotate_left
             ·exact Z1
             refine pure_ (i := 10) (N := some 23) (v := ?_) (a' := ?_) #[T,T,T,T,T,T,T,T,T,T,T,F,F,F,F,F,F,F,F,F,F,F,F,F,F,F,F,F,F,F,F,F,F,F,F,F,F,F,F,F,F,F,F,F] rfl rfl ZA ZF (Or.inl ⟨by rfl, ?_⟩) ?_ ?_
             rotate_left
             ·exact Z15
             rotate_left
             ·exact Z1
             refine pure_ (i := 11) (N := some 24) (v := ?_) (a' := ?_) #[T,T,T,T,T,T,T,T,T,T,T,T,F,F,F,F,F,F,F,F,F,F,F,F,F,F,F,F,F,F,F,F,F,F,F,F,F,F,F,F,F,F,F,F] rfl rfl ZA ZF (Or.inl ⟨by rfl, ?_⟩) ?_ ?_
             rotate_left
             ·exact Z15
             rotate_left
             ·exact Z1
             refine take_ (i := 12) (N := some 25) (v := ?_) (a' := ?_) #[T,T,T,T,T,T,T,T,T,T,T,T,T,F,F,F,F,F,F,F,F,F,F,F,F,F,F,F,F,F,F,F,F,F,F,F,F,F,F,F,F,F,F,F] rfl rfl (take_ofW HT_.out HW_.out (by kernel_rfl)) ZF (Or.inl ⟨by rfl, ?_⟩) hHeld ?_ ?_
             rotate_left
             ·exact Z36
             rotate_left
             ·exact Z1
             refine pure_ (i := 13) (N := some 26) (v := ?_) (a' := ?_) #[T,T,T,T,T,T,T,T,T,T,T,T,T,T,F,F,F,F,F,F,F,F,F,F,F,F,F,F,F,F,F,F,F,F,F,F,F,F,F,F,F,F,F,F] rfl rfl ZA ZF (Or.inl ⟨by rfl, ?_⟩) ?_ ?_
             rotate_left
             ·exact Z15
             rotate_left
             ·exact Z1
             refine pure_ (i := 14) (N := some 27) (v := ?_) (a' := ?_) #[T,T,T,T,T,T,T,T,T,T,T,T,T,T,T,F,F,F,F,F,F,F,F,F,F,F,F,F,F,F,F,F,F,F,F,F,F,F,F,F,F,F,F,F] rfl rfl ZA ZF (Or.inl ⟨by rfl, ?_⟩) ?_ ?_
             rotate_left
             ·exact Z15
             rotate_left
             ·exact Z1
             refine pure_ (i := 15) (N := some 28) (v := ?_) (a' := ?_) #[T,T,T,T,T,T,T,T,T,T,T,T,T,T,T,T,F,F,F,F,F,F,F,F,F,F,F,F,F,F,F,F,F,F,F,F,F,F,F,F,F,F,F,F] rfl rfl ZA ZF (Or.inl ⟨by rfl, ?_⟩) ?_ ?_
             rotate_left
             ·exact Z15
             rotate_left
             ·exact Z1
             refine pure_ (i := 16) (N := some 29) (v := ?_) (a' := ?_) #[T,T,T,T,T,T,T,T,T,T,T,T,T,T,T,T,T,F,F,F,F,F,F,F,F,F,F,F,F,F,F,F,F,F,F,F,F,F,F,F,F,F,F,F] rfl rfl ZA ZF (Or.inl ⟨by rfl, ?_⟩) ?_ ?_
             rotate_left
             ·exact Z15
             rotate_left
             ·exact Z1
             refine pure_ (i := 17) (N := some 30) (v := ?_) (a' := ?_) #[T,T,T,T,T,T,T,T,T,T,T,T,T,T,T,T,T,T,F,F,F,F,F,F,F,F,F,F,F,F,F,F,F,F,F,F,F,F,F,F,F,F,F,F] rfl rfl ZA ZF (Or.inl ⟨by rfl, ?_⟩) ?_ ?_
             rotate_left
             ·exact Z15
             rotate_left
             ·exact Z1
             refine pure_ (i := 18) (N := some 31) (v := ?_) (a' := ?_) #[T,T,T,T,T,T,T,T,T,T,T,T,T,T,T,T,T,T,T,F,F,F,F,F,F,F,F,F,F,F,F,F,F,F,F,F,F,F,F,F,F,F,F,F] rfl rfl ZA ZF (Or.inl ⟨by rfl, ?_⟩) ?_ ?_
             rotate_left
             ·exact Z15
             rotate_left
             ·exact Z1
             refine pure_ (i := 19) (N := some 32) (v := ?_) (a' := ?_) #[T,T,T,T,T,T,T,T,T,T,T,T,T,T,T,T,T,T,T,T,F,F,F,F,F,F,F,F,F,F,F,F,F,F,F,F,F,F,F,F,F,F,F,F] rfl rfl ZA ZF (Or.inl ⟨by rfl, ?_⟩) ?_ ?_
             rotate_left
             ·exact Z15
             rotate_left
             ·exact Z1
             refine pure_ (i := 20) (N := some 33) (v := ?_) (a' := ?_) #[T,T,T,T,T,T,T,T,T,T,T,T,T,T,T,T,T,T,T,T,T,F,F,F,F,F,F,F,F,F,F,F,F,F,F,F,F,F,F,F,F,F,F,F] rfl rfl ZA ZF (Or.inl ⟨by rfl, ?_⟩) ?_ ?_
             rotate_left
             ·exact Z15
             rotate_left
             ·exact Z1
             refine take_ (i := 21) (N := some 34) (v := ?_) (a' := ?_) #[T,T,T,T,T,T,T,T,T,T,T,T,T,T,T,T,T,T,T,T,T,T,F,F,F,F,F,F,F,F,F,F,F,F,F,F,F,F,F,F,F,F,F,F] rfl rfl (take_ofW HT_.out HW_.out (by kernel_rfl)) ZF (Or.inl ⟨by rfl, ?_⟩) hHeld ?_ ?_
             rotate_left
             ·exact Z36
             rotate_left
             ·exact Z1
             refine one_ (i := 22) (N := some 35) #[T,T,T,T,T,T,T,T,T,T,T,T,T,T,T,T,T,T,T,T,T,T,T,F,F,F,F,F,F,F,F,F,F,F,F,F,F,F,F,F,F,F,F,F] rfl rfl (one_of HT_.out (by kernel_rfl)) (by decide) (fun K hK => ?_)
             refine goes_ Try.func75 (by kernel_rfl) rfl #[.slice A205_1 ((rd_T89 l0 x3_1).f1).length c205_1] (by rfl) rfl rfl Z5 ?_
             with_reducible refine (spec_validValues.calls k1 _ _ ((rd_T89 l0 x3_1).f1) true _ ?side1 ?side2 A10.out).mono ?_
             (case side1 => exact Z3 HR208_1.out)
             (case side2 => exact HC208_1.out)
             rintro e w20 ⟨rfl, hb⟩
             refine ⟨_, rfl, ?_⟩
             have n0_ := A_ (below_step Z0 hb)
             clear HB
             have HB := n0_
             clear n0_
             (try clear hb)
             (try clear hb2)
             (try clear hk)
             (try clear hi)
             refine hK.out _ _ ⟨(ZC HB.out hw205_0 :), (ZC HB.out hw205_1 :), (ZC HB.out hw207_0 :), (ZC HB.out hw207_1 :), (ZC HB.out hw208_0 :), (ZC HB.out hw208_1 :), (ZC HB.out hw210_0 :), (ZC HB.out hw210_1 :), (ZC HB.out hw211_0 :), (ZC HB.out hw211_1 :)⟩ (fun hHeld => ?_)
             clear hK K
             refine norm_ (a' := ?_) ?_ ?_
             rotate_left
             ·exact Z47
             refine pure_ (i := 23) (N := some 36) (v := ?_) (a' := ?_) #[T,T,T,T,T,T,T,T,T,T,T,T,T,T,T,T,T,T,T,T,T,T,T,T,F,F,F,F,F,F,F,F,F,F,F,F,F,F,F,F,F,F,F,F] rfl rfl ZA ZF (Or.inl ⟨by rfl, ?_⟩) ?_ ?_
             rotate_left
             ·exact Z15
             rotate_left
             ·exact Z1
             refine pure_ (i := 24) (N := some 37) (v := ?_) (a' := ?_) #[T,T,T,T,T,T,T,T,T,T,T,T,T,T,T,T,T,T,T,T,T,T,T,T,T,F,F,F,F,F,F,F,F,F,F,F,F,F,F,F,F,F,F,F] rfl rfl ZA ZF (Or.inl ⟨by rfl, ?_⟩) ?_ ?_
             rotate_left
             ·exact Z15
             rotate_left
             ·exact Z1
             refine pure_ (i := 25) (N := some 38) (v := ?_) (a' := ?_) #[T,T,T,T,T,T,T,T,T,T,T,T,T,T,T,T,T,T,T,T,T,T,T,T,T,T,F,F,F,F,F,F,F,F,F,F,F,F,F,F,F,F,F,F] rfl rfl ZA ZF (Or.inl ⟨by rfl, ?_⟩) ?_ ?_
             rotate_left
             ·exact Z15
             rotate_left
             ·exact Z1
             refine pure_ (i := 26) (N := some 39) (v := ?_) (a' := ?_) #[T,T,T,T,T,T,T,T,T,T,T,T,T,T,T,T,T,T,T,T,T,T,T,T,T,T,T,F,F,F,F,F,F,F,F,F,F,F,F,F,F,F,F,F] rfl rfl ZA ZF (Or.inl ⟨by rfl, ?_⟩) ?_ ?_
             rotate_left
             ·exact Z15
             rotate_left
             ·exact Z1
             refine pure_ (i := 27) (N := some 40) (v := ?_) (a' := ?_) #[T,T,T,T,T,T,T,T,T,T,T,T,T,T,T,T,T,T,T,T,T,T,T,T,T,T,T,T,F,F,F,F,F,F,F,F,F,F,F,F,F,F,F,F] rfl rfl ZA ZF (Or.inl ⟨by rfl, ?_⟩) ?_ ?_
             rotate_left
             ·exact Z15
             rotate_left
             ·exact Z1
             refine pure_ (i := 28) (N := some 41) (v := ?_) (a' := ?_) #[T,T,T,T,T,T,T,T,T,T,T,T,T,T,T,T,T,T,T,T,T,T,T,T,T,T,T,T,T,F,F,F,F,F,F,F,F,F,F,F,F,F,F,F] rfl rfl ZA ZF (Or.inl ⟨by rfl, ?_⟩) ?_ ?_
             rotate_left
             ·exact Z15
             rotate_left
             ·exact Z1
             refine pure_ (i := 29) (N := some 42) (v := ?_) (a' := ?_) #[T,T,T,T,T,T,T,T,T,T,T,T,T,T,T,T,T,T,T,T,T,T,T,T,T,T,T,T,T,T,F,F,F,F,F,F,F,F,F,F,F,F,F,F] rfl rfl ZA ZF (Or.inl ⟨by rfl, ?_⟩) ?_ ?_
             rotate_left
             ·exact Z15
             rotate_left
             ·exact Z1
             refine pure_ (i := 30) (N := some 43) (v := ?_) (a' := ?_) #[T,T,T,T,T,T,T,T,T,T,T,T,T,T,T,T,T,T,T,T,T,T,T,T,T,T,T,T,T,T,T,F,F,F,F,F,F,F,F,F,F,F,F,F] rfl rfl ZA ZF (Or.inl ⟨by rfl, ?_⟩) ?_ ?_
             rotate_left
             ·exact Z15
             rotate_left
             ·exact Z1
             refine pure_ (i := 31) (N := some 44) (v := ?_) (a' := ?_) #[T,T,T,T,T,T,T,T,T,T,T,T,T,T,T,T,T,T,T,T,T,T,T,T,T,T,T,T,T,T,T,T,F,F,F,F,F,F,F,F,F,F,F,F] rfl rfl ZA ZF (Or.inl ⟨by rfl, ?_⟩) ?_ ?_
             rotate_left
             ·exact Z15
             rotate_left
             ·exact Z1
             refine pure_ (i := 32) (N := some 45) (v := ?_) (a' := ?_) #[T,T,T,T,T,T,T,T,T,T,T,T,T,T,T,T,T,T,T,T,T,T,T,T,T,T,T,T,T,T,T,T,T,F,F,F,F,F,F,F,F,F,F,F] rfl rfl ZA ZF (Or.inl ⟨by rfl, ?_⟩) ?_ ?_
             rotate_left
             ·exact Z15
             rotate_left
             ·exact Z1
             refine pure_ (i := 33) (N := some 46) (v := ?_) (a' := ?_) #[T,T,T,T,T,T,T,T,T,T,T,T,T,T,T,T,T,T,T,T,T,T,T,T,T,T,T,T,T,T,T,T,T,T,F,F,F,F,F,F,F,F,F,F] rfl rfl ZA ZF (Or.inl ⟨by rfl, ?_⟩) ?_ ?_
             rotate_left
             ·exact Z15
             rotate_left
             ·exact Z1
             refine pure_ (i := 35) (N := some 48) (v := ?_) (a' := ?_) #[T,T,T,T,T,T,T,T,T,T,T,T,T,T,T,T,T,T,T,T,T,T,T,T,T,T,T,T,T,T,T,T,T,T,F,T,F,F,F,F,F,F,F,F] rfl rfl ZA ZF (Or.inl ⟨by rfl, ?_⟩) ?_ ?_
             rotate_left
             ·exact Z15
             rotate_left
             ·exact Z1
             refine pure_ (i := 36) (N := some 49) (v := ?_) (a' := ?_) #[T,T,T,T,T,T,T,T,T,T,T,T,T,T,T,T,T,T,T,T,T,T,T,T,T,T,T,T,T,T,T,T,T,T,F,T,T,F,F,F,F,F,F,F] rfl rfl ZA ZF (Or.inl ⟨by rfl, ?_⟩) ?_ ?_
             rotate_left
             ·exact Z15
             rotate_left
             ·exact Z1
             refine pure_ (i := 37) (N := some 50) (v := ?_) (a' := ?_) #[T,T,T,T,T,T,T,T,T,T,T,T,T,T,T,T,T,T,T,T,T,T,T,T,T,T,T,T,T,T,T,T,T,T,F,T,T,T,F,F,F,F,F,F] rfl rfl ZA ZF (Or.inl ⟨by rfl, ?_⟩) ?_ ?_
             rotate_left
             ·exact Z15
             rotate_left
             ·exact Z1
             refine pure_ (i := 38) (N := some 51) (v := ?_) (a' := ?_) #[T,T,T,T,T,T,T,T,T,T,T,T,T,T,T,T,T,T,T,T,T,T,T,T,T,T,T,T,T,T,T,T,T,T,F,T,T,T,T,F,F,F,F,F] rfl rfl ZA ZF (Or.inl ⟨by rfl, ?_⟩) ?_ ?_
             rotate_left
             ·exact Z15
             rotate_left
             ·exact Z1
             refine take_ (i := 34) (N := some 47) (v := ?_) (a' := ?_) #[T,T,T,T,T,T,T,T,T,T,T,T,T,T,T,T,T,T,T,T,T,T,T,T,T,T,T,T,T,T,T,T,T,T,T,T,T,T,T,F,F,F,F,F] rfl rfl (take_ofW HT_.out HW_.out (by kernel_rfl)) ZF (Or.inl ⟨by rfl, ?_⟩) hHeld ?_ ?_
             rotate_left
             ·exact Z36
             rotate_left
             ·exact Z1
             refine take_ (i := 39) (N := some 52) (v := ?_) (a' := ?_) #[T,T,T,T,T,T,T,T,T,T,T,T,T,T,T,T,T,T,T,T,T,T,T,T,T,T,T,T,T,T,T,T,T,T,T,T,T,T,T,T,F,F,F,F] rfl rfl (take_ofW HT_.out HW_.out (by kernel_rfl)) ZF (Or.inl ⟨by rfl, ?_⟩) hHeld ?_ ?_
             rotate_left
             ·exact Z36
             rotate_left
             ·exact Z1
             refine one_ (i := 40) (N := some 53) #[T,T,T,T,T,T,T,T,T,T,T,T,T,T,T,T,T,T,T,T,T,T,T,T,T,T,T,T,T,T,T,T,T,T,T,T,T,T,T,T,T,F,F,F] rfl rfl (one_of HT_.out (by kernel_rfl)) (by decide) (fun K hK => ?_)
             refine goes_ Try.func90 (by kernel_rfl) rfl #[.slice A210_0 ((rd_T89 l0 (ji13)).f0).length c210_0, .slice A205_0 ((rd_T89 l0 x3_1).f0).length c205_0] (by rfl) rfl rfl (by (try simp only [List.map_toArray, List.map_cons, List.map_nil]); first | done | (simp only [hji13]; rfl) | rfl | (simp only [List.length_drop, List.length_take]; rfl)) ?_
             with_reducible refine (spec_comparePlaces.calls k1 _ _ ((rd_T89 l0 (ji13)).f0) _ _ ((rd_T89 l0 x3_1).f0) t212 _ ?side1 ?side2 ?side3 ?side4 A16.out).mono ?_
             (case side1 => exact Z3 HR210_0.out)
             (case side2 => exact HC210_0.out)
             (case side3 => exact Z3 HR211_0.out)
             (case side4 => exact HC211_0.out)
             rintro e w' ⟨rfl, ⟨nd, rfl⟩⟩
             refine ⟨_, rfl, ?_⟩
             refine hK.out _ _ ⟨(ZC HB.out hw205_0 :), (ZC HB.out hw205_1 :), (ZC HB.out hw207_0 :), (ZC HB.out hw207_1 :), (ZC HB.out hw208_0 :), (ZC HB.out hw208_1 :), (ZC HB.out hw210_0 :), (ZC HB.out hw210_1 :), (ZC HB.out hw211_0 :), (ZC HB.out hw211_1 :)⟩ (fun hHeld => ?_)
             clear hK K
             refine norm_ (a' := ?_) ?_ ?_
             rotate_left
             ·show Act.put _ (some 53) _ = _
              simp only [Act.put, List.setIfInBounds_toArray, List.set_cons_zero, List.set_cons_succ, i64_w, i32_w]
              rfl
             refine pure_ (i := 41) (N := some 54) (v := ?_) (a' := ?_) #[T,T,T,T,T,T,T,T,T,T,T,T,T,T,T,T,T,T,T,T,T,T,T,T,T,T,T,T,T,T,T,T,T,T,T,T,T,T,T,T,T,T,F,F] rfl rfl ZA ZF (Or.inl ⟨by rfl, ?_⟩) ?_ ?_
             rotate_left
             ·exact Z15
             rotate_left
             ·exact Z1
             refine pure_ (i := 42) (N := some 55) (v := ?_) (a' := ?_) #[T,T,T,T,T,T,T,T,T,T,T,T,T,T,T,T,T,T,T,T,T,T,T,T,T,T,T,T,T,T,T,T,T,T,T,T,T,T,T,T,T,T,T,F] rfl rfl ZA ZF (Or.inl ⟨by rfl, ?_⟩) ?_ ?_
             rotate_left
             ·exact Z15
             rotate_left
             ·exact Z1
             refine pure_ (i := 43) (N := some 56) (v := ?_) (a' := ?_) #[T,T,T,T,T,T,T,T,T,T,T,T,T,T,T,T,T,T,T,T,T,T,T,T,T,T,T,T,T,T,T,T,T,T,T,T,T,T,T,T,T,T,T,T] rfl rfl ZA ZF (Or.inl ⟨by rfl, ?_⟩) ?_ ?_
             rotate_left
             ·exact Z15
             rotate_left
             ·exact Z1
             refine done_ (done_of HT_.out (by kernel_rfl)) ?_
             try go_wp2
             go_ret
             exact ⟨by first | rfl | (simp [errW_none, errW_some] <;> rfl) | (simp only [← hji13]; first | rfl | (simp [errW_none, errW_some] <;> rfl)) | (simp [*, errW_none, errW_some] <;> rfl), Z0⟩
            ·rw [if_neg c17] at H
             have c17b0 : decide (0 ≤ t212) = false := decide_eq_false c17
             clear c17
             have H' := A_ H
             clear H
             try go_wp2
             have n0_ := A_ (below_drew1 HB.out)
             clear HB
             have HB := n0_
             clear n0_
             have p205 : 0 ≤ (x3_1 : Int) := of_decide_eq_true Z13
             have q205 : x3_1 < (l0.length : Int) := of_decide_eq_true Z13
             obtain ⟨ad205, A205_0, c205_0, A205_1, c205_1, e205, hx205_0, hx205_1, hl205_0, hi205_0, hl205_1, hi205_1⟩ := at_T89 HR0.out x3_1 p205 q205
             have hw205_1 := hx205_1
             have hw205_0 := hx205_0
             cases e205
             replace hx205_0 := ZC HB.out hx205_0
             replace hx205_1 := ZC HB.out hx205_1
             have HR205_0 := A_ hi205_0
             have HC205_0 := A_ hl205_0
             clear hi205_0 hl205_0
             have HR205_1 := A_ hi205_1
             have HC205_1 := A_ hl205_1
             clear hi205_1 hl205_1
             replace p205 := eq_true p205
             replace q205 := eq_true q205
             have p207 : 0 ≤ (x3_1 : Int) := of_decide_eq_true Z13
             have q207 : x3_1 < (l0.length : Int) := of_decide_eq_true Z13
             obtain ⟨ad207, A207_0, c207_0, A207_1, c207_1, e207, hx207_0, hx207_1, hl207_0, hi207_0, hl207_1, hi207_1⟩ := at_T89 HR0.out x3_1 p207 q207
             have hw207_1 := hx207_1
             have hw207_0 := hx207_0
             obtain rfl : ad205 = ad207 := (by injection e207)
             replace hx207_0 := ZC HB.out hx207_0
             replace hx207_1 := ZC HB.out hx207_1
             have HR207_0 := A_ hi207_0
             have HC207_0 := A_ hl207_0
             clear hi207_0 hl207_0
             have HR207_1 := A_ hi207_1
             have HC207_1 := A_ hl207_1
             clear hi207_1 hl207_1
             replace p207 := eq_true p207
             replace q207 := eq_true q207
             have ea_ := Option.some.inj (hw205_0.symm.trans hw207_0)
             injection ea_ with ea_ en_ ec_
             subst ea_
             subst ec_
             clear en_
             have ea_ := Option.some.inj (hw205_1.symm.trans hw207_1)
             injection ea_ with ea_ en_ ec_
             subst ea_
             subst ec_
             clear en_
             have p208 : 0 ≤ (x3_1 : Int) := of_decide_eq_true Z13
             have q208 : x3_1 < (l0.length : Int) := of_decide_eq_true Z13
             obtain ⟨ad208, A208_0, c208_0, A208_1, c208_1, e208, hx208_0, hx208_1, hl208_0, hi208_0, hl208_1, hi208_1⟩ := at_T89 HR0.out x3_1 p208 q208
             have hw208_1 := hx208_1
             have hw208_0 := hx208_0
             obtain rfl : ad205 = ad208 := (by injection e208)
             replace hx208_0 := ZC HB.out hx208_0
             replace hx208_1 := ZC HB.out hx208_1
             have HR208_0 := A_ hi208_0
             have HC208_0 := A_ hl208_0
             clear hi208_0 hl208_0
             have HR208_1 := A_ hi208_1
             have HC208_1 := A_ hl208_1
             clear hi208_1 hl208_1
             replace p208 := eq_true p208
             replace q208 := eq_true q208
             have ea_ := Option.some.inj (hx207_0.symm.trans hx208_0)
             injection ea_ with ea_ en_ ec_
             subst ea_
             subst ec_
             clear en_
             have ea_ := Option.some.inj (hx207_1.symm.trans hx208_1)
             injection ea_ with ea_ en_ ec_
             subst ea_
             subst ec_
             clear en_
             have p210 : 0 ≤ ((ji13) : Int) := of_decide_eq_true Z13
             have q210 : (ji13) < (l0.length : Int) := of_decide_eq_true Z13
             obtain ⟨ad210, A210_0, c210_0, A210_1, c210_1, e210, hx210_0, hx210_1, hl210_0, hi210_0, hl210_1, hi210_1⟩ := at_T89 HR0.out (ji13) p210 q210
             have hw210_1 := hx210_1
             have hw210_0 := hx210_0
             obtain rfl : ad205 = ad210 := (by injection e210)
             replace hx210_0 := ZC HB.out hx210_0
             replace hx210_1 := ZC HB.out hx210_1
             have HR210_0 := A_ hi210_0
             have HC210_0 := A_ hl210_0
             clear hi210_0 hl210_0
             have HR210_1 := A_ hi210_1
             have HC210_1 := A_ hl210_1
             clear hi210_1 hl210_1
             replace p210 := eq_true p210
             replace q210 := eq_true q210
             have p211 : 0 ≤ (x3_1 : Int) := of_decide_eq_true Z13
             have q211 : x3_1 < (l0.length : Int) := of_decide_eq_true Z13
             obtain ⟨ad211, A211_0, c211_0, A211_1, c211_1, e211, hx211_0, hx211_1, hl211_0, hi211_0, hl211_1, hi211_1⟩ := at_T89 HR0.out x3_1 p211 q211
             have hw211_1 := hx211_1
             have hw211_0 := hx211_0
             obtain rfl : ad205 = ad211 := (by injection e211)
             replace hx211_0 := ZC HB.out hx211_0
             replace hx211_1 := ZC HB.out hx211_1
             have HR211_0 := A_ hi211_0
             have HC211_0 := A_ hl211_0
             clear hi211_0 hl211_0
             have HR211_1 := A_ hi211_1
             have HC211_1 := A_ hl211_1
             clear hi211_1 hl211_1
             replace p211 := eq_true p211
             replace q211 := eq_true q211
             have ea_ := Option.some.inj (hw205_0.symm.trans hw211_0)
             injection ea_ with ea_ en_ ec_
             subst ea_
             subst ec_
             clear en_
             have ea_ := Option.some.inj (hw205_1.symm.trans hw211_1)
             injection ea_ with ea_ en_ ec_
             subst ea_
             subst ec_
             clear en_
             refine start_ (n := 44) (S := fun w' => w'.cell? (ad205.add ((x3_1).toNat * 2)) = some (.slice A205_0 ((rd_T89 l0 x3_1).f0).length c205_0) ∧ w'.cell? ⟨(ad205.add ((x3_1).toNat * 2)).block, (ad205.add ((x3_1).toNat * 2)).off + 1, none⟩ = some (.slice A205_1 ((rd_T89 l0 x3_1).f1).length c205_1) ∧ w'.cell? (ad205.add ((x3_1).toNat * 2)) = some (.slice A205_0 ((rd_T89 l0 x3_1).f0).length c205_0) ∧ w'.cell? ⟨(ad205.add ((x3_1).toNat * 2)).block, (ad205.add ((x3_1).toNat * 2)).off + 1, none⟩ = some (.slice A205_1 ((rd_T89 l0 x3_1).f1).length c205_1) ∧ w'.cell? (ad205.add ((x3_1).toNat * 2)) = some (.slice A205_0 ((rd_T89 l0 x3_1).f0).length c205_0) ∧ w'.cell? ⟨(ad205.add ((x3_1).toNat * 2)).block, (ad205.add ((x3_1).toNat * 2)).off + 1, none⟩ = some (.slice A205_1 ((rd_T89 l0 x3_1).f1).length c205_1) ∧ w'.cell? (ad205.add (((ji13)).toNat * 2)) = some (.slice A210_0 ((rd_T89 l0 (ji13)).f0).length c210_0) ∧ w'.cell? ⟨(ad205.add (((ji13)).toNat * 2)).block, (ad205.add (((ji13)).toNat * 2)).off + 1, none⟩ = some (.slice A210_1 ((rd_T89 l0 (ji13)).f1).length c210_1) ∧ w'.cell? (ad205.add ((x3_1).toNat * 2)) = some (.slice A205_0 ((rd_T89 l0 x3_1).f0).length c205_0) ∧ w'.cell? ⟨(ad205.add ((x3_1).toNat * 2)).block, (ad205.add ((x3_1).toNat * 2)).off + 1, none⟩ = some (.slice A205_1 ((rd_T89 l0 x3_1).f1).length c205_1)) (ds := []) #[F,F,F,F,F,F,F,F,F,F,F,F,F,F,F,F,F,F,F,F,F,F,F,F,F,F,F,F,F,F,F,F,F,F,F,F,F,F,F,F,F,F,F,F] (by kernel_rfl) rfl rfl ⟨(ZC HB.out hw205_0 :), (ZC HB.out hw205_1 :), (ZC HB.out hw207_0 :), (ZC HB.out hw207_1 :), (ZC HB.out hw208_0 :), (ZC HB.out hw208_1 :), (ZC HB.out hw210_0 :), (ZC HB.out hw210_1 :), (ZC HB.out hw211_0 :), (ZC HB.out hw211_1 :)⟩ (fun hHeld => ?_); refine with_tabW spec_validStore.tab6 spec_validStore.bits6 (fun HT_ HW_ => ?_)
             generalize wr.drew = w21 at HB HR205_0 HR205_1 HR207_0 HR207_1 HR208_0 HR208_1 HR210_0 HR210_1 HR211_0 HR211_1 hx205_0 hx205_1 hx207_0 hx207_1 hx208_0 hx208_1 hx210_0 hx210_1 hx211_0 hx211_1 hHeld ⊢
             refine pure_ (i := 0) (N := some 13) (v := ?_) (a' := ?_) #[T,F,F,F,F,F,F,F,F,F,F,F,F,F,F,F,F,F,F,F,F,F,F,F,F,F,F,F,F,F,F,F,F,F,F,F,F,F,F,F,F,F,F,F] rfl rfl ZA ZF (Or.inl ⟨by rfl, ?_⟩) ?_ ?_
             rotate_left
             ·exact Z15
             rotate_left
             ·exact Z1
             refine pure_ (i := 1) (N := some 14) (v := ?_) (a' := ?_) #[T,T,F,F,F,F,F,F,F,F,F,F,F,F,F,F,F,F,F,F,F,F,F,F,F,F,F,F,F,F,F,F,F,F,F,F,F,F,F,F,F,F,F,F] rfl rfl ZA ZF (Or.inl ⟨by rfl, ?_⟩) ?_ ?_
             rotate_left
             ·exact Z15
             rotate_left
             ·exact Z1
             refine pure_ (i := 2) (N := some 15) (v := ?_) (a' := ?_) #[T,T,T,F,F,F,F,F,F,F,F,F,F,F,F,F,F,F,F,F,F,F,F,F,F,F,F,F,F,F,F,F,F,F,F,F,F,F,F,F,F,F,F,F] rfl rfl ZA ZF (Or.inl ⟨by rfl, ?_⟩) ?_ ?_
             rotate_left
             ·exact Z15
             rotate_left
             ·exact Z1
             refine pure_ (i := 3) (N := some 16) (v := ?_) (a' := ?_) #[T,T,T,T,F,F,F,F,F,F,F,F,F,F,F,F,F,F,F,F,F,F,F,F,F,F,F,F,F,F,F,F,F,F,F,F,F,F,F,F,F,F,F,F] rfl rfl ZA ZF (Or.inl ⟨by rfl, ?_⟩) ?_ ?_
             rotate_left
             ·exact Z15
             rotate_left
             ·exact Z1
             refine take_ (i := 4) (N := some 17) (v := ?_) (a' := ?_) #[T,T,T,T,T,F,F,F,F,F,F,F,F,F,F,F,F,F,F,F,F,F,F,F,F,F,F,F,F,F,F,F,F,F,F,F,F,F,F,F,F,F,F,F] rfl rfl (take_ofW HT_.out HW_.out (by kernel_rfl)) ZF (Or.inl ⟨by rfl, ?_⟩) hHeld ?_ ?_
             rotate_left
             ·exact Z36
             rotate_left
             ·exact Z1
             refine one_ (i := 5) (N := some 18) #[T,T,T,T,T,T,F,F,F,F,F,F,F,F,F,F,F,F,F,F,F,F,F,F,F,F,F,F,F,F,F,F,F,F,F,F,F,F,F,F,F,F,F,F] rfl rfl (one_of HT_.out (by kernel_rfl)) (by decide) (fun K hK => ?_)
             refine goes_ Try.func49 (by kernel_rfl) rfl #[.slice A205_0 ((rd_T89 l0 x3_1).f0).length c205_0] (by rfl) rfl rfl Z5 ?_
             with_reducible refine (spec_validPlace.calls k1 _ _ ((rd_T89 l0 x3_1).f0) true _ ?side1 ?side2 A5.out).mono ?_
             (case side1 => exact Z3 HR205_0.out)
             (case side2 => exact HC205_0.out)
             rintro e w22 ⟨rfl, hb⟩
             refine ⟨_, rfl, ?_⟩
             have n0_ := A_ (below_step Z0 hb)
             clear HB
             have HB := n0_
             clear n0_
             (try clear hb)
             (try clear hb2)
             (try clear hk)
             (try clear hi)
             refine hK.out _ _ ⟨(ZC HB.out hw205_0 :), (ZC HB.out hw205_1 :), (ZC HB.out hw207_0 :), (ZC HB.out hw207_1 :), (ZC HB.out hw208_0 :), (ZC HB.out hw208_1 :), (ZC HB.out hw210_0 :), (ZC HB.out hw210_1 :), (ZC HB.out hw211_0 :), (ZC HB.out hw211_1 :)⟩ (fun hHeld => ?_)
             clear hK K
             refine norm_ (a' := ?_) ?_ ?_
             rotate_left
             ·exact Z34
             refine pure_ (i := 6) (N := some 19) (v := ?_) (a' := ?_) #[T,T,T,T,T,T,T,F,F,F,F,F,F,F,F,F,F,F,F,F,F,F,F,F,F,F,F,F,F,F,F,F,F,F,F,F,F,F,F,F,F,F,F,F] rfl rfl ZA ZF (Or.inl ⟨by rfl, ?_⟩) ?_ ?_
             rotate_left
             ·exact Z15
             rotate_left
             ·exact Z1
             refine pure_ (i := 7) (N := some 20) (v := ?_) (a' := ?_) #[T,T,T,T,T,T,T,T,F,F,F,F,F,F,F,F,F,F,F,F,F,F,F,F,F,F,F,F,F,F,F,F,F,F,F,F,F,F,F,F,F,F,F,F] rfl rfl ZA ZF (Or.inl ⟨by rfl, ?_⟩) ?_ ?_
             rotate_left
             ·exact Z15
             rotate_left
             ·exact Z1
             refine pure_ (i := 8) (N := some 21) (v := ?_) (a' := ?_) #[T,T,T,T,T,T,T,T,T,F,F,F,F,F,F,F,F,F,F,F,F,F,F,F,F,F,F,F,F,F,F,F,F,F,F,F,F,F,F,F,F,F,F,F] rfl rfl ZA ZF (Or.inl ⟨by rfl, ?_⟩) ?_ ?_
             rotate_left
             ·exact Z15
             rotate_left
             ·exact Z1
             refine pure_ (i := 9) (N := some 22) (v := ?_) (a' := ?_) #[T,T,T,T,T,T,T,T,T,T,F,F,F,F,F,F,F,F,F,F,F,F,F,F,F,F,F,F,F,F,F,F,F,F,F,F,F,F,F,F,F,F,F,F] rfl rfl ZA ZF (Or.inl ⟨by rfl, ?_⟩) ?_ ?_
             rotate_left
             ·exact Z15
             rotate_left
             ·exact Z1
             refine pure_ (i := 10) (N := some 23) (v := ?_) (a' := ?_) #[T,T,T,T,T,T,T,T,T,T,T,F,F,F,F,F,F,F,F,F,F,F,F,F,F,F,F,F,F,F,F,F,F,F,F,F,F,F,F,F,F,F,F,F] rfl rfl ZA ZF (Or.inl ⟨by rfl, ?_⟩) ?_ ?_
             rotate_left
             ·exact Z15
             rotate_left
             ·exact Z1
             refine pure_ (i := 11) (N := some 24) (v := ?_) (a' := ?_) #[T,T,T,T,T,T,T,T,T,T,T,T,F,F,F,F,F,F,F,F,F,F,F,F,F,F,F,F,F,F,F,F,F,F,F,F,F,F,F,F,F,F,F,F] rfl rfl ZA ZF (Or.inl ⟨by rfl, ?_⟩) ?_ ?_
             rotate_left
             ·exact Z15
             rotate_left
             ·exact Z1
             refine take_ (i := 12) (N := some 25) (v := ?_) (a' := ?_) #[T,T,T,T,T,T,T,T,T,T,T,T,T,F,F,F,F,F,F,F,F,F,F,F,F,F,F,F,F,F,F,F,F,F,F,F,F,F,F,F,F,F,F,F] rfl rfl (take_ofW HT_.out HW_.out (by kernel_rfl)) ZF (Or.inl ⟨by rfl, ?_⟩) hHeld ?_ ?_
             rotate_left
             ·exact Z36
             rotate_left
             ·exact Z1
             refine pure_ (i := 13) (N := some 26) (v := ?_) (a' := ?_) #[T,T,T,T,T,T,T,T,T,T,T,T,T,T,F,F,F,F,F,F,F,F,F,F,F,F,F,F,F,F,F,F,F,F,F,F,F,F,F,F,F,F,F,F] rfl rfl ZA ZF (Or.inl ⟨by rfl, ?_⟩) ?_ ?_
             rotate_left
             ·exact Z15
             rotate_left
             ·exact Z1
             refine pure_ (i := 14) (N := some 27) (v := ?_) (a' := ?_) #[T,T,T,T,T,T,T,T,T,T,T,T,T,T,T,F,F,F,F,F,F,F,F,F,F,F,F,F,F,F,F,F,F,F,F,F,F,F,F,F,F,F,F,F] rfl rfl ZA ZF (Or.inl ⟨by rfl, ?_⟩) ?_ ?_
             rotate_left
             ·exact Z15
             rotate_left
             ·exact Z1
             refine pure_ (i := 15) (N := some 28) (v := ?_) (a' := ?_) #[T,T,T,T,T,T,T,T,T,T,T,T,T,T,T,T,F,F,F,F,F,F,F,F,F,F,F,F,F,F,F,F,F,F,F,F,F,F,F,F,F,F,F,F] rfl rfl ZA ZF (Or.inl ⟨by rfl, ?_⟩) ?_ ?_
             rotate_left
             ·exact Z15
             rotate_left
             ·exact Z1
             refine pure_ (i := 16) (N := some 29) (v := ?_) (a' := ?_) #[T,T,T,T,T,T,T,T,T,T,T,T,T,T,T,T,T,F,F,F,F,F,F,F,F,F,F,F,F,F,F,F,F,F,F,F,F,F,F,F,F,F,F,F] rfl rfl ZA ZF (Or.inl ⟨by rfl, ?_⟩) ?_ ?_
             rotate_left
             ·exact Z15
             rotate_left
             ·exact Z1
             refine pure_ (i := 17) (N := some 30) (v := ?_) (a' := ?_) #[T,T,T,T,T,T,T,T,T,T,T,T,T,T,T,T,T,T,F,F,F,F,F,F,F,F,F,F,F,F,F,F,F,F,F,F,F,F,F,F,F,F,F,F] rfl rfl ZA ZF (Or.inl ⟨by rfl, ?_⟩) ?_ ?_
             rotate_left
             ·exact Z15
             rotate_left
             ·exact Z1
             refine pure_ (i := 18) (N := some 31) (v := ?_) (a' := ?_) #[T,T,T,T,T,T,T,T,T,T,T,T,T,T,T,T,T,T,T,F,F,F,F,F,F,F,F,F,F,F,F,F,F,F,F,F,F,F,F,F,F,F,F,F] rfl rfl ZA ZF (Or.inl ⟨by rfl, ?_⟩) ?_ ?_
             rotate_left
             ·exact Z15
             rotate_left
             ·exact Z1
             refine pure_ (i := 19) (N := some 32) (v := ?_) (a' := ?_) #[T,T,T,T,T,T,T,T,T,T,T,T,T,T,T,T,T,T,T,T,F,F,F,F,F,F,F,F,F,F,F,F,F,F,F,F,F,F,F,F,F,F,F,F] rfl rfl ZA ZF (Or.inl ⟨by rfl, ?_⟩) ?_ ?_
             rotate_left
             ·exact Z15
             rotate_left
             ·exact Z1
             refine pure_ (i := 20) (N := some 33) (v := ?_) (a' := ?_) #[T,T,T,T,T,T,T,T,T,T,T,T,T,T,T,T,T,T,T,T,T,F,F,F,F,F,F,F,F,F,F,F,F,F,F,F,F,F,F,F,F,F,F,F] rfl rfl ZA ZF (Or.inl ⟨by rfl, ?_⟩) ?_ ?_
             rotate_left
             ·exact Z15
             rotate_left
             ·exact Z1
             refine take_ (i := 21) (N := some 34) (v := ?_) (a' := ?_) #[T,T,T,T,T,T,T,T,T,T,T,T,T,T,T,T,T,T,T,T,T,T,F,F,F,F,F,F,F,F,F,F,F,F,F,F,F,F,F,F,F,F,F,F] rfl rfl (take_ofW HT_.out HW_.out (by kernel_rfl)) ZF (Or.inl ⟨by rfl, ?_⟩) hHeld ?_ ?_
             rotate_left
             ·exact Z36
             rotate_left
             ·exact Z1
             refine one_ (i := 22) (N := some 35) #[T,T,T,T,T,T,T,T,T,T,T,T,T,T,T,T,T,T,T,T,T,T,T,F,F,F,F,F,F,F,F,F,F,F,F,F,F,F,F,F,F,F,F,F] rfl rfl (one_of HT_.out (by kernel_rfl)) (by decide) (fun K hK => ?_)
             refine goes_ Try.func75 (by kernel_rfl) rfl #[.slice A205_1 ((rd_T89 l0 x3_1).f1).length c205_1] (by rfl) rfl rfl Z5 ?_
             with_reducible refine (spec_validValues.calls k1 _ _ ((rd_T89 l0 x3_1).f1) true _ ?side1 ?side2 A10.out).mono ?_
             (case side1 => exact Z3 HR208_1.out)
             (case side2 => exact HC208_1.out)
             rintro e w23 ⟨rfl, hb⟩
             refine ⟨_, rfl, ?_⟩
             have n0_ := A_ (below_step Z0 hb)
             clear HB
             have HB := n0_
             clear n0_
             (try clear hb)
             (try clear hb2)
             (try clear hk)
             (try clear hi)
             refine hK.out _ _ ⟨(ZC HB.out hw205_0 :), (ZC HB.out hw205_1 :), (ZC HB.out hw207_0 :), (ZC HB.out hw207_1 :), (ZC HB.out hw208_0 :), (ZC HB.out hw208_1 :), (ZC HB.out hw210_0 :), (ZC HB.out hw210_1 :), (ZC HB.out hw211_0 :), (ZC HB.out hw211_1 :)⟩ (fun hHeld => ?_)
             clear hK K
             refine norm_ (a' := ?_) ?_ ?_
             rotate_left
             ·exact Z47
             refine pure_ (i := 23) (N := some 36) (v := ?_) (a' := ?_) #[T,T,T,T,T,T,T,T,T,T,T,T,T,T,T,T,T,T,T,T,T,T,T,T,F,F,F,F,F,F,F,F,F,F,F,F,F,F,F,F,F,F,F,F] rfl rfl ZA ZF (Or.inl ⟨by rfl, ?_⟩) ?_ ?_
             rotate_left
             ·exact Z15
             rotate_left
             ·exact Z1
             refine pure_ (i := 24) (N := some 37) (v := ?_) (a' := ?_) #[T,T,T,T,T,T,T,T,T,T,T,T,T,T,T,T,T,T,T,T,T,T,T,T,T,F,F,F,F,F,F,F,F,F,F,F,F,F,F,F,F,F,F,F] rfl rfl ZA ZF (Or.inl ⟨by rfl, ?_⟩) ?_ ?_
             rotate_left
             ·exact Z15
             rotate_left
             ·exact Z1
             refine pure_ (i := 25) (N := some 38) (v := ?_) (a' := ?_) #[T,T,T,T,T,T,T,T,T,T,T,T,T,T,T,T,T,T,T,T,T,T,T,T,T,T,F,F,F,F,F,F,F,F,F,F,F,F,F,F,F,F,F,F] rfl rfl ZA ZF (Or.inl ⟨by rfl, ?_⟩) ?_ ?_
             rotate_left
             ·exact Z15
             rotate_left
             ·exact Z1
             refine pure_ (i := 26) (N := some 39) (v := ?_) (a' := ?_) #[T,T,T,T,T,T,T,T,T,T,T,T,T,T,T,T,T,T,T,T,T,T,T,T,T,T,T,F,F,F,F,F,F,F,F,F,F,F,F,F,F,F,F,F] rfl rfl ZA ZF (Or.inl ⟨by rfl, ?_⟩) ?_ ?_
             rotate_left
             ·exact Z15
             rotate_left
             ·exact Z1
             refine pure_ (i := 27) (N := some 40) (v := ?_) (a' := ?_) #[T,T,T,T,T,T,T,T,T,T,T,T,T,T,T,T,T,T,T,T,T,T,T,T,T,T,T,T,F,F,F,F,F,F,F,F,F,F,F,F,F,F,F,F] rfl rfl ZA ZF (Or.inl ⟨by rfl, ?_⟩) ?_ ?_
             rotate_left
             ·exact Z15
             rotate_left
             ·exact Z1
             refine pure_ (i := 28) (N := some 41) (v := ?_) (a' := ?_) #[T,T,T,T,T,T,T,T,T,T,T,T,T,T,T,T,T,T,T,T,T,T,T,T,T,T,T,T,T,F,F,F,F,F,F,F,F,F,F,F,F,F,F,F] rfl rfl ZA ZF (Or.inl ⟨by rfl, ?_⟩) ?_ ?_
             rotate_left
             ·exact Z15
             rotate_left
             ·exact Z1
             refine pure_ (i := 29) (N := some 42) (v := ?_) (a' := ?_) #[T,T,T,T,T,T,T,T,T,T,T,T,T,T,T,T,T,T,T,T,T,T,T,T,T,T,T,T,T,T,F,F,F,F,F,F,F,F,F,F,F,F,F,F] rfl rfl ZA ZF (Or.inl ⟨by rfl, ?_⟩) ?_ ?_
             rotate_left
             ·exact Z15
             rotate_left
             ·exact Z1
             refine pure_ (i := 30) (N := some 43) (v := ?_) (a' := ?_) #[T,T,T,T,T,T,T,T,T,T,T,T,T,T,T,T,T,T,T,T,T,T,T,T,T,T,T,T,T,T,T,F,F,F,F,F,F,F,F,F,F,F,F,F] rfl rfl ZA ZF (Or.inl ⟨by rfl, ?_⟩) ?_ ?_
             rotate_left
             ·exact Z15
             rotate_left
             ·exact Z1
             refine pure_ (i := 31) (N := some 44) (v := ?_) (a' := ?_) #[T,T,T,T,T,T,T,T,T,T,T,T,T,T,T,T,T,T,T,T,T,T,T,T,T,T,T,T,T,T,T,T,F,F,F,F,F,F,F,F,F,F,F,F] rfl rfl ZA ZF (Or.inl ⟨by rfl, ?_⟩) ?_ ?_
             rotate_left
             ·exact Z15
             rotate_left
             ·exact Z1
             refine pure_ (i := 32) (N := some 45) (v := ?_) (a' := ?_) #[T,T,T,T,T,T,T,T,T,T,T,T,T,T,T,T,T,T,T,T,T,T,T,T,T,T,T,T,T,T,T,T,T,F,F,F,F,F,F,F,F,F,F,F] rfl rfl ZA ZF (Or.inl ⟨by rfl, ?_⟩) ?_ ?_
             rotate_left
             ·exact Z15
             rotate_left
             ·exact Z1
             refine pure_ (i := 33) (N := some 46) (v := ?_) (a' := ?_) #[T,T,T,T,T,T,T,T,T,T,T,T,T,T,T,T,T,T,T,T,T,T,T,T,T,T,T,T,T,T,T,T,T,T,F,F,F,F,F,F,F,F,F,F] rfl rfl ZA ZF (Or.inl ⟨by rfl, ?_⟩) ?_ ?_
             rotate_left
             ·exact Z15
             rotate_left
             ·exact Z1
             refine pure_ (i := 35) (N := some 48) (v := ?_) (a' := ?_) #[T,T,T,T,T,T,T,T,T,T,T,T,T,T,T,T,T,T,T,T,T,T,T,T,T,T,T,T,T,T,T,T,T,T,F,T,F,F,F,F,F,F,F,F] rfl rfl ZA ZF (Or.inl ⟨by rfl, ?_⟩) ?_ ?_
             rotate_left
             ·exact Z15
             rotate_left
             ·exact Z1
             refine pure_ (i := 36) (N := some 49) (v := ?_) (a' := ?_) #[T,T,T,T,T,T,T,T,T,T,T,T,T,T,T,T,T,T,T,T,T,T,T,T,T,T,T,T,T,T,T,T,T,T,F,T,T,F,F,F,F,F,F,F] rfl rfl ZA ZF (Or.inl ⟨by rfl, ?_⟩) ?_ ?_
             rotate_left
             ·exact Z15
             rotate_left
             ·exact Z1
             refine pure_ (i := 37) (N := some 50) (v := ?_) (a' := ?_) #[T,T,T,T,T,T,T,T,T,T,T,T,T,T,T,T,T,T,T,T,T,T,T,T,T,T,T,T,T,T,T,T,T,T,F,T,T,T,F,F,F,F,F,F] rfl rfl ZA ZF (Or.inl ⟨by rfl, ?_⟩) ?_ ?_
             rotate_left
             ·exact Z15
             rotate_left
             ·exact Z1
             refine pure_ (i := 38) (N := some 51) (v := ?_) (a' := ?_) #[T,T,T,T,T,T,T,T,T,T,T,T,T,T,T,T,T,T,T,T,T,T,T,T,T,T,T,T,T,T,T,T,T,T,F,T,T,T,T,F,F,F,F,F] rfl rfl ZA ZF (Or.inl ⟨by rfl, ?_⟩) ?_ ?_
             rotate_left
             ·exact Z15
             rotate_left
             ·exact Z1
             refine take_ (i := 34) (N := some 47) (v := ?_) (a' := ?_) #[T,T,T,T,T,T,T,T,T,T,T,T,T,T,T,T,T,T,T,T,T,T,T,T,T,T,T,T,T,T,T,T,T,T,T,T,T,T,T,F,F,F,F,F] rfl rfl (take_ofW HT_.out HW_.out (by kernel_rfl)) ZF (Or.inl ⟨by rfl, ?_⟩) hHeld ?_ ?_
             rotate_left
             ·exact Z36
             rotate_left
             ·exact Z1
             refine take_ (i := 39) (N := some 52) (v := ?_) (a' := ?_) #[T,T,T,T,T,T,T,T,T,T,T,T,T,T,T,T,T,T,T,T,T,T,T,T,T,T,T,T,T,T,T,T,T,T,T,T,T,T,T,T,F,F,F,F] rfl rfl (take_ofW HT_.out HW_.out (by kernel_rfl)) ZF (Or.inl ⟨by rfl, ?_⟩) hHeld ?_ ?_
             rotate_left
             ·exact Z36
             rotate_left
             ·exact Z1
             refine one_ (i := 40) (N := some 53) #[T,T,T,T,T,T,T,T,T,T,T,T,T,T,T,T,T,T,T,T,T,T,T,T,T,T,T,T,T,T,T,T,T,T,T,T,T,T,T,T,T,F,F,F] rfl rfl (one_of HT_.out (by kernel_rfl)) (by decide) (fun K hK => ?_)
             refine goes_ Try.func90 (by kernel_rfl) rfl #[.slice A210_0 ((rd_T89 l0 (ji13)).f0).length c210_0, .slice A205_0 ((rd_T89 l0 x3_1).f0).length c205_0] (by rfl) rfl rfl (by (try simp only [List.map_toArray, List.map_cons, List.map_nil]); first | done | (simp only [hji13]; rfl) | rfl | (simp only [List.length_drop, List.length_take]; rfl)) ?_
             with_reducible refine (spec_comparePlaces.calls k1 _ _ ((rd_T89 l0 (ji13)).f0) _ _ ((rd_T89 l0 x3_1).f0) t212 _ ?side1 ?side2 ?side3 ?side4 A16.out).mono ?_
             (case side1 => exact Z3 HR210_0.out)
             (case side2 => exact HC210_0.out)
             (case side3 => exact Z3 HR211_0.out)
             (case side4 => exact HC211_0.out)
             rintro e w' ⟨rfl, ⟨nd, rfl⟩⟩
             refine ⟨_, rfl, ?_⟩
             refine hK.out _ _ ⟨(ZC HB.out hw205_0 :), (ZC HB.out hw205_1 :), (ZC HB.out hw207_0 :), (ZC HB.out hw207_1 :), (ZC HB.out hw208_0 :), (ZC HB.out hw208_1 :), (ZC HB.out hw210_0 :), (ZC HB.out hw210_1 :), (ZC HB.out hw211_0 :), (ZC HB.out hw211_1 :)⟩ (fun hHeld => ?_)
             clear hK K
             refine norm_ (a' := ?_) ?_ ?_
             rotate_left
             ·show Act.put _ (some 53) _ = _
              simp only [Act.put, List.setIfInBounds_toArray, List.set_cons_zero, List.set_cons_succ, i64_w, i32_w]
              rfl
             refine pure_ (i := 41) (N := some 54) (v := ?_) (a' := ?_) #[T,T,T,T,T,T,T,T,T,T,T,T,T,T,T,T,T,T,T,T,T,T,T,T,T,T,T,T,T,T,T,T,T,T,T,T,T,T,T,T,T,T,F,F] rfl rfl ZA ZF (Or.inl ⟨by rfl, ?_⟩) ?_ ?_
             rotate_left
             ·exact Z15
             rotate_left
             ·exact Z1
             refine pure_ (i := 42) (N := some 55) (v := ?_) (a' := ?_) #[T,T,T,T,T,T,T,T,T,T,T,T,T,T,T,T,T,T,T,T,T,T,T,T,T,T,T,T,T,T,T,T,T,T,T,T,T,T,T,T,T,T,T,F] rfl rfl ZA ZF (Or.inl ⟨by rfl, ?_⟩) ?_ ?_
             rotate_left
             ·exact Z15
             rotate_left
             ·exact Z1
             refine pure_ (i := 43) (N := some 56) (v := ?_) (a' := ?_) #[T,T,T,T,T,T,T,T,T,T,T,T,T,T,T,T,T,T,T,T,T,T,T,T,T,T,T,T,T,T,T,T,T,T,T,T,T,T,T,T,T,T,T,T] rfl rfl ZA ZF (Or.inl ⟨by rfl, ?_⟩) ?_ ?_
             rotate_left
             ·exact Z15
             rotate_left
             ·exact Z1
             refine done_ (done_of HT_.out (by kernel_rfl)) ?_
             try go_wp2
             go_roundg k1
             case measure => have := HK1.out; omega
             case rel => exact ⟨(wrap64 (x3_1 + 1)), Z17, H', ⟨by have := HK1.out; omega⟩, ⟨Z0⟩⟩
           ·rw [if_neg c15] at H
            exact absurd H (by simp)
          ·rw [if_neg c14] at H
           exact absurd H (by simp)
         ·rw [if_neg c12] at H
          have c12b0 : decide (0 < x3_1) = false := decide_eq_false c12
          clear c12
          have H' := A_ H
          clear H
          try go_wp2
          have n0_ := A_ (below_drew1 HB.out)
          clear HB
          have HB := n0_
          clear n0_
          have p205 : 0 ≤ (x3_1 : Int) := of_decide_eq_true Z13
          have q205 : x3_1 < (l0.length : Int) := of_decide_eq_true Z13
          obtain ⟨ad205, A205_0, c205_0, A205_1, c205_1, e205, hx205_0, hx205_1, hl205_0, hi205_0, hl205_1, hi205_1⟩ := at_T89 HR0.out x3_1 p205 q205
          have hw205_1 := hx205_1
          have hw205_0 := hx205_0
          cases e205
          replace hx205_0 := ZC HB.out hx205_0
          replace hx205_1 := ZC HB.out hx205_1
          have HR205_0 := A_ hi205_0
          have HC205_0 := A_ hl205_0
          clear hi205_0 hl205_0
          have HR205_1 := A_ hi205_1
          have HC205_1 := A_ hl205_1
          clear hi205_1 hl205_1
          replace p205 := eq_true p205
          replace q205 := eq_true q205
          have p207 : 0 ≤ (x3_1 : Int) := of_decide_eq_true Z13
          have q207 : x3_1 < (l0.length : Int) := of_decide_eq_true Z13
          obtain ⟨ad207, A207_0, c207_0, A207_1, c207_1, e207, hx207_0, hx207_1, hl207_0, hi207_0, hl207_1, hi207_1⟩ := at_T89 HR0.out x3_1 p207 q207
          have hw207_1 := hx207_1
          have hw207_0 := hx207_0
          obtain rfl : ad205 = ad207 := (by injection e207)
          replace hx207_0 := ZC HB.out hx207_0
          replace hx207_1 := ZC HB.out hx207_1
          have HR207_0 := A_ hi207_0
          have HC207_0 := A_ hl207_0
          clear hi207_0 hl207_0
          have HR207_1 := A_ hi207_1
          have HC207_1 := A_ hl207_1
          clear hi207_1 hl207_1
          replace p207 := eq_true p207
          replace q207 := eq_true q207
          have ea_ := Option.some.inj (hw205_0.symm.trans hw207_0)
          injection ea_ with ea_ en_ ec_
          subst ea_
          subst ec_
          clear en_
          have ea_ := Option.some.inj (hw205_1.symm.trans hw207_1)
          injection ea_ with ea_ en_ ec_
          subst ea_
          subst ec_
          clear en_
          have p208 : 0 ≤ (x3_1 : Int) := of_decide_eq_true Z13
          have q208 : x3_1 < (l0.length : Int) := of_decide_eq_true Z13
          obtain ⟨ad208, A208_0, c208_0, A208_1, c208_1, e208, hx208_0, hx208_1, hl208_0, hi208_0, hl208_1, hi208_1⟩ := at_T89 HR0.out x3_1 p208 q208
          have hw208_1 := hx208_1
          have hw208_0 := hx208_0
          obtain rfl : ad205 = ad208 := (by injection e208)
          replace hx208_0 := ZC HB.out hx208_0
          replace hx208_1 := ZC HB.out hx208_1
          have HR208_0 := A_ hi208_0
          have HC208_0 := A_ hl208_0
          clear hi208_0 hl208_0
          have HR208_1 := A_ hi208_1
          have HC208_1 := A_ hl208_1
          clear hi208_1 hl208_1
          replace p208 := eq_true p208
          replace q208 := eq_true q208
          have ea_ := Option.some.inj (hx207_0.symm.trans hx208_0)
          injection ea_ with ea_ en_ ec_
          subst ea_
          subst ec_
          clear en_
          have ea_ := Option.some.inj (hx207_1.symm.trans hx208_1)
          injection ea_ with ea_ en_ ec_
          subst ea_
          subst ec_
          clear en_
          refine start_ (n := 44) (S := fun w' => w'.cell? (ad205.add ((x3_1).toNat * 2)) = some (.slice A205_0 ((rd_T89 l0 x3_1).f0).length c205_0) ∧ w'.cell? ⟨(ad205.add ((x3_1).toNat * 2)).block, (ad205.add ((x3_1).toNat * 2)).off + 1, none⟩ = some (.slice A205_1 ((rd_T89 l0 x3_1).f1).length c205_1) ∧ w'.cell? (ad205.add ((x3_1).toNat * 2)) = some (.slice A205_0 ((rd_T89 l0 x3_1).f0).length c205_0) ∧ w'.cell? ⟨(ad205.add ((x3_1).toNat * 2)).block, (ad205.add ((x3_1).toNat * 2)).off + 1, none⟩ = some (.slice A205_1 ((rd_T89 l0 x3_1).f1).length c205_1) ∧ w'.cell? (ad205.add ((x3_1).toNat * 2)) = some (.slice A205_0 ((rd_T89 l0 x3_1).f0).length c205_0) ∧ w'.cell? ⟨(ad205.add ((x3_1).toNat * 2)).block, (ad205.add ((x3_1).toNat * 2)).off + 1, none⟩ = some (.slice A205_1 ((rd_T89 l0 x3_1).f1).length c205_1)) (ds := []) #[F,F,F,F,F,F,F,F,F,F,F,F,F,F,F,F,F,F,F,F,F,F,F,F,F,F,F,F,F,F,F,F,F,F,F,F,F,F,F,F,F,F,F,F] (by kernel_rfl) rfl rfl ⟨(ZC HB.out hw205_0 :), (ZC HB.out hw205_1 :), (ZC HB.out hw207_0 :), (ZC HB.out hw207_1 :), (ZC HB.out hw208_0 :), (ZC HB.out hw208_1 :)⟩ (fun hHeld => ?_); refine with_tabW spec_validStore.tab6 spec_validStore.bits6 (fun HT_ HW_ => ?_)
          generalize wr.drew = w24 at HB HR205_0 HR205_1 HR207_0 HR207_1 HR208_0 HR208_1 hx205_0 hx205_1 hx207_0 hx207_1 hx208_0 hx208_1 hHeld ⊢
          refine pure_ (i := 0) (N := some 13) (v := ?_) (a' := ?_) #[T,F,F,F,F,F,F,F,F,F,F,F,F,F,F,F,F,F,F,F,F,F,F,F,F,F,F,F,F,F,F,F,F,F,F,F,F,F,F,F,F,F,F,F] rfl rfl ZA ZF (Or.inl ⟨by rfl, ?_⟩) ?_ ?_
          rotate_left
          ·exact Z15
          rotate_left
          ·exact Z1
          refine pure_ (i := 1) (N := some 14) (v := ?_) (a' := ?_) #[T,T,F,F,F,F,F,F,F,F,F,F,F,F,F,F,F,F,F,F,F,F,F,F,F,F,F,F,F,F,F,F,F,F,F,F,F,F,F,F,F,F,F,F] rfl rfl ZA ZF (Or.inl ⟨by rfl, ?_⟩) ?_ ?_
          rotate_left
          ·exact Z15
          rotate_left
          ·exact Z1
          refine pure_ (i := 2) (N := some 15) (v := ?_) (a' := ?_) #[T,T,T,F,F,F,F,F,F,F,F,F,F,F,F,F,F,F,F,F,F,F,F,F,F,F,F,F,F,F,F,F,F,F,F,F,F,F,F,F,F,F,F,F] rfl rfl ZA ZF (Or.inl ⟨by rfl, ?_⟩) ?_ ?_
          rotate_left
          ·exact Z15
          rotate_left
          ·exact Z1
          refine pure_ (i := 3) (N := some 16) (v := ?_) (a' := ?_) #[T,T,T,T,F,F,F,F,F,F,F,F,F,F,F,F,F,F,F,F,F,F,F,F,F,F,F,F,F,F,F,F,F,F,F,F,F,F,F,F,F,F,F,F] rfl rfl ZA ZF (Or.inl ⟨by rfl, ?_⟩) ?_ ?_
          rotate_left
          ·exact Z15
          rotate_left
          ·exact Z1
          refine take_ (i := 4) (N := some 17) (v := ?_) (a' := ?_) #[T,T,T,T,T,F,F,F,F,F,F,F,F,F,F,F,F,F,F,F,F,F,F,F,F,F,F,F,F,F,F,F,F,F,F,F,F,F,F,F,F,F,F,F] rfl rfl (take_ofW HT_.out HW_.out (by kernel_rfl)) ZF (Or.inl ⟨by rfl, ?_⟩) hHeld ?_ ?_
          rotate_left
          ·exact Z42
          rotate_left
          ·exact Z1
          refine one_ (i := 5) (N := some 18) #[T,T,T,T,T,T,F,F,F,F,F,F,F,F,F,F,F,F,F,F,F,F,F,F,F,F,F,F,F,F,F,F,F,F,F,F,F,F,F,F,F,F,F,F] rfl rfl (one_of HT_.out (by kernel_rfl)) (by decide) (fun K hK => ?_)
          refine goes_ Try.func49 (by kernel_rfl) rfl #[.slice A205_0 ((rd_T89 l0 x3_1).f0).length c205_0] (by rfl) rfl rfl Z5 ?_
          with_reducible refine (spec_validPlace.calls k1 _ _ ((rd_T89 l0 x3_1).f0) true _ ?side1 ?side2 A5.out).mono ?_
          (case side1 => exact Z3 HR205_0.out)
          (case side2 => exact HC205_0.out)
          rintro e w25 ⟨rfl, hb⟩
          refine ⟨_, rfl, ?_⟩
          have n0_ := A_ (below_step Z0 hb)
          clear HB
          have HB := n0_
          clear n0_
          (try clear hb)
          (try clear hb2)
          (try clear hk)
          (try clear hi)
          refine hK.out _ _ ⟨(ZC HB.out hw205_0 :), (ZC HB.out hw205_1 :), (ZC HB.out hw207_0 :), (ZC HB.out hw207_1 :), (ZC HB.out hw208_0 :), (ZC HB.out hw208_1 :)⟩ (fun hHeld => ?_)
          clear hK K
          refine norm_ (a' := ?_) ?_ ?_
          rotate_left
          ·exact Z34
          refine pure_ (i := 6) (N := some 19) (v := ?_) (a' := ?_) #[T,T,T,T,T,T,T,F,F,F,F,F,F,F,F,F,F,F,F,F,F,F,F,F,F,F,F,F,F,F,F,F,F,F,F,F,F,F,F,F,F,F,F,F] rfl rfl ZA ZF (Or.inl ⟨by rfl, ?_⟩) ?_ ?_
          rotate_left
          ·exact Z15
          rotate_left
          ·exact Z1
          refine pure_ (i := 7) (N := some 20) (v := ?_) (a' := ?_) #[T,T,T,T,T,T,T,T,F,F,F,F,F,F,F,F,F,F,F,F,F,F,F,F,F,F,F,F,F,F,F,F,F,F,F,F,F,F,F,F,F,F,F,F] rfl rfl ZA ZF (Or.inl ⟨by rfl, ?_⟩) ?_ ?_
          rotate_left
          ·exact Z15
          rotate_left
          ·exact Z1
          refine pure_ (i := 8) (N := some 21) (v := ?_) (a' := ?_) #[T,T,T,T,T,T,T,T,T,F,F,F,F,F,F,F,F,F,F,F,F,F,F,F,F,F,F,F,F,F,F,F,F,F,F,F,F,F,F,F,F,F,F,F] rfl rfl ZA ZF (Or.inl ⟨by rfl, ?_⟩) ?_ ?_
          rotate_left
          ·exact Z15
          rotate_left
          ·exact Z1
          refine pure_ (i := 9) (N := some 22) (v := ?_) (a' := ?_) #[T,T,T,T,T,T,T,T,T,T,F,F,F,F,F,F,F,F,F,F,F,F,F,F,F,F,F,F,F,F,F,F,F,F,F,F,F,F,F,F,F,F,F,F] rfl rfl ZA ZF (Or.inl ⟨by rfl, ?_⟩) ?_ ?_
          rotate_left
          ·exact Z15
          rotate_left
          ·exact Z1
          refine pure_ (i := 10) (N := some 23) (v := ?_) (a' := ?_) #[T,T,T,T,T,T,T,T,T,T,T,F,F,F,F,F,F,F,F,F,F,F,F,F,F,F,F,F,F,F,F,F,F,F,F,F,F,F,F,F,F,F,F,F] rfl rfl ZA ZF (Or.inl ⟨by rfl, ?_⟩) ?_ ?_
          rotate_left
          ·exact Z15
          rotate_left
          ·exact Z1
          refine pure_ (i := 11) (N := some 24) (v := ?_) (a' := ?_) #[T,T,T,T,T,T,T,T,T,T,T,T,F,F,F,F,F,F,F,F,F,F,F,F,F,F,F,F,F,F,F,F,F,F,F,F,F,F,F,F,F,F,F,F] rfl rfl ZA ZF (Or.inl ⟨by rfl, ?_⟩) ?_ ?_
          rotate_left
          ·exact Z15
          rotate_left
          ·exact Z1
          refine take_ (i := 12) (N := some 25) (v := ?_) (a' := ?_) #[T,T,T,T,T,T,T,T,T,T,T,T,T,F,F,F,F,F,F,F,F,F,F,F,F,F,F,F,F,F,F,F,F,F,F,F,F,F,F,F,F,F,F,F] rfl rfl (take_ofW HT_.out HW_.out (by kernel_rfl)) ZF (Or.inl ⟨by rfl, ?_⟩) hHeld ?_ ?_
          rotate_left
          ·exact Z42
          rotate_left
          ·exact Z1
          refine pure_ (i := 13) (N := some 26) (v := ?_) (a' := ?_) #[T,T,T,T,T,T,T,T,T,T,T,T,T,T,F,F,F,F,F,F,F,F,F,F,F,F,F,F,F,F,F,F,F,F,F,F,F,F,F,F,F,F,F,F] rfl rfl ZA ZF (Or.inl ⟨by rfl, ?_⟩) ?_ ?_
          rotate_left
          ·exact Z15
          rotate_left
          ·exact Z1
          refine pure_ (i := 14) (N := some 27) (v := ?_) (a' := ?_) #[T,T,T,T,T,T,T,T,T,T,T,T,T,T,T,F,F,F,F,F,F,F,F,F,F,F,F,F,F,F,F,F,F,F,F,F,F,F,F,F,F,F,F,F] rfl rfl ZA ZF (Or.inl ⟨by rfl, ?_⟩) ?_ ?_
          rotate_left
          ·exact Z15
          rotate_left
          ·exact Z1
          refine pure_ (i := 15) (N := some 28) (v := ?_) (a' := ?_) #[T,T,T,T,T,T,T,T,T,T,T,T,T,T,T,T,F,F,F,F,F,F,F,F,F,F,F,F,F,F,F,F,F,F,F,F,F,F,F,F,F,F,F,F] rfl rfl ZA ZF (Or.inl ⟨by rfl, ?_⟩) ?_ ?_
          rotate_left
          ·exact Z15
          rotate_left
          ·exact Z1
          refine pure_ (i := 16) (N := some 29) (v := ?_) (a' := ?_) #[T,T,T,T,T,T,T,T,T,T,T,T,T,T,T,T,T,F,F,F,F,F,F,F,F,F,F,F,F,F,F,F,F,F,F,F,F,F,F,F,F,F,F,F] rfl rfl ZA ZF (Or.inl ⟨by rfl, ?_⟩) ?_ ?_
          rotate_left
          ·exact Z15
          rotate_left
          ·exact Z1
          refine pure_ (i := 17) (N := some 30) (v := ?_) (a' := ?_) #[T,T,T,T,T,T,T,T,T,T,T,T,T,T,T,T,T,T,F,F,F,F,F,F,F,F,F,F,F,F,F,F,F,F,F,F,F,F,F,F,F,F,F,F] rfl rfl ZA ZF (Or.inl ⟨by rfl, ?_⟩) ?_ ?_
          rotate_left
          ·exact Z15
          rotate_left
          ·exact Z1
          refine pure_ (i := 18) (N := some 31) (v := ?_) (a' := ?_) #[T,T,T,T,T,T,T,T,T,T,T,T,T,T,T,T,T,T,T,F,F,F,F,F,F,F,F,F,F,F,F,F,F,F,F,F,F,F,F,F,F,F,F,F] rfl rfl ZA ZF (Or.inl ⟨by rfl, ?_⟩) ?_ ?_
          rotate_left
          ·exact Z15
          rotate_left
          ·exact Z1
          refine pure_ (i := 19) (N := some 32) (v := ?_) (a' := ?_) #[T,T,T,T,T,T,T,T,T,T,T,T,T,T,T,T,T,T,T,T,F,F,F,F,F,F,F,F,F,F,F,F,F,F,F,F,F,F,F,F,F,F,F,F] rfl rfl ZA ZF (Or.inl ⟨by rfl, ?_⟩) ?_ ?_
          rotate_left
          ·exact Z15
          rotate_left
          ·exact Z1
          refine pure_ (i := 20) (N := some 33) (v := ?_) (a' := ?_) #[T,T,T,T,T,T,T,T,T,T,T,T,T,T,T,T,T,T,T,T,T,F,F,F,F,F,F,F,F,F,F,F,F,F,F,F,F,F,F,F,F,F,F,F] rfl rfl ZA ZF (Or.inl ⟨by rfl, ?_⟩) ?_ ?_
          rotate_left
          ·exact Z15
          rotate_left
          ·exact Z1
          refine take_ (i := 21) (N := some 34) (v := ?_) (a' := ?_) #[T,T,T,T,T,T,T,T,T,T,T,T,T,T,T,T,T,T,T,T,T,T,F,F,F,F,F,F,F,F,F,F,F,F,F,F,F,F,F,F,F,F,F,F] rfl rfl (take_ofW HT_.out HW_.out (by kernel_rfl)) ZF (Or.inl ⟨by rfl, ?_⟩) hHeld ?_ ?_
          rotate_left
          ·exact Z42
          rotate_left
          ·exact Z1
          refine one_ (i := 22) (N := some 35) #[T,T,T,T,T,T,T,T,T,T,T,T,T,T,T,T,T,T,T,T,T,T,T,F,F,F,F,F,F,F,F,F,F,F,F,F,F,F,F,F,F,F,F,F] rfl rfl (one_of HT_.out (by kernel_rfl)) (by decide) (fun K hK => ?_)
          refine goes_ Try.func75 (by kernel_rfl) rfl #[.slice A205_1 ((rd_T89 l0 x3_1).f1).length c205_1] (by rfl) rfl rfl Z5 ?_
          with_reducible refine (spec_validValues.calls k1 _ _ ((rd_T89 l0 x3_1).f1) true _ ?side1 ?side2 A10.out).mono ?_
          (case side1 => exact Z3 HR208_1.out)
          (case side2 => exact HC208_1.out)
          rintro e w26 ⟨rfl, hb⟩
          refine ⟨_, rfl, ?_⟩
          have n0_ := A_ (below_step Z0 hb)
          clear HB
          have HB := n0_
          clear n0_
          (try clear hb)
          (try clear hb2)
          (try clear hk)
          (try clear hi)
          refine hK.out _ _ ⟨(ZC HB.out hw205_0 :), (ZC HB.out hw205_1 :), (ZC HB.out hw207_0 :), (ZC HB.out hw207_1 :), (ZC HB.out hw208_0 :), (ZC HB.out hw208_1 :)⟩ (fun hHeld => ?_)
          clear hK K
          refine norm_ (a' := ?_) ?_ ?_
          rotate_left
          ·exact Z47
          refine pure_ (i := 23) (N := some 36) (v := ?_) (a' := ?_) #[T,T,T,T,T,T,T,T,T,T,T,T,T,T,T,T,T,T,T,T,T,T,T,T,F,F,F,F,F,F,F,F,F,F,F,F,F,F,F,F,F,F,F,F] rfl rfl ZA ZF (Or.inl ⟨by rfl, ?_⟩) ?_ ?_
          rotate_left
          ·exact Z15
          rotate_left
          ·exact Z1
          refine pure_ (i := 24) (N := some 37) (v := ?_) (a' := ?_) #[T,T,T,T,T,T,T,T,T,T,T,T,T,T,T,T,T,T,T,T,T,T,T,T,T,F,F,F,F,F,F,F,F,F,F,F,F,F,F,F,F,F,F,F] rfl rfl ZA ZF (Or.inl ⟨by rfl, ?_⟩) ?_ ?_
          rotate_left
          ·exact Z15
          rotate_left
          ·exact Z1
          refine pure_ (i := 25) (N := some 38) (v := ?_) (a' := ?_) #[T,T,T,T,T,T,T,T,T,T,T,T,T,T,T,T,T,T,T,T,T,T,T,T,T,T,F,F,F,F,F,F,F,F,F,F,F,F,F,F,F,F,F,F] rfl rfl ZA ZF (Or.inl ⟨by rfl, ?_⟩) ?_ ?_
          rotate_left
          ·exact Z15
          rotate_left
          ·exact Z1
          refine pure_ (i := 26) (N := some 39) (v := ?_) (a' := ?_) #[T,T,T,T,T,T,T,T,T,T,T,T,T,T,T,T,T,T,T,T,T,T,T,T,T,T,T,F,F,F,F,F,F,F,F,F,F,F,F,F,F,F,F,F] rfl rfl ZA ZF (Or.inl ⟨by rfl, ?_⟩) ?_ ?_
          rotate_left
          ·exact Z15
          rotate_left
          ·exact Z1
          refine pure_ (i := 27) (N := some 40) (v := ?_) (a' := ?_) #[T,T,T,T,T,T,T,T,T,T,T,T,T,T,T,T,T,T,T,T,T,T,T,T,T,T,T,T,F,F,F,F,F,F,F,F,F,F,F,F,F,F,F,F] rfl rfl ZA ZF (Or.inl ⟨by rfl, ?_⟩) ?_ ?_
          rotate_left
          ·exact Z15
          rotate_left
          ·exact Z1
          refine pure_ (i := 28) (N := some 41) (v := ?_) (a' := ?_) #[T,T,T,T,T,T,T,T,T,T,T,T,T,T,T,T,T,T,T,T,T,T,T,T,T,T,T,T,T,F,F,F,F,F,F,F,F,F,F,F,F,F,F,F] rfl rfl ZA ZF (Or.inl ⟨by rfl, ?_⟩) ?_ ?_
          rotate_left
          ·exact Z15
          rotate_left
          ·exact Z1
          refine pure_ (i := 29) (N := some 42) (v := undef) (a' := ?_) #[T,T,T,T,T,T,T,T,T,T,T,T,T,T,T,T,T,T,T,T,T,T,T,T,T,T,T,T,T,T,F,F,F,F,F,F,F,F,F,F,F,F,F,F] rfl rfl ZA ZF (Or.inr ⟨by rfl, rfl⟩) ?_ ?_
          rotate_left
          ·exact Z1
          refine pure_ (i := 30) (N := some 43) (v := undef) (a' := ?_) #[T,T,T,T,T,T,T,T,T,T,T,T,T,T,T,T,T,T,T,T,T,T,T,T,T,T,T,T,T,T,T,F,F,F,F,F,F,F,F,F,F,F,F,F] rfl rfl ZA ZF (Or.inr ⟨by rfl, rfl⟩) ?_ ?_
          rotate_left
          ·exact Z1
          refine pure_ (i := 31) (N := some 44) (v := undef) (a' := ?_) #[T,T,T,T,T,T,T,T,T,T,T,T,T,T,T,T,T,T,T,T,T,T,T,T,T,T,T,T,T,T,T,T,F,F,F,F,F,F,F,F,F,F,F,F] rfl rfl ZA ZF (Or.inr ⟨by rfl, rfl⟩) ?_ ?_
          rotate_left
          ·exact Z1
          refine pure_ (i := 32) (N := some 45) (v := undef) (a' := ?_) #[T,T,T,T,T,T,T,T,T,T,T,T,T,T,T,T,T,T,T,T,T,T,T,T,T,T,T,T,T,T,T,T,T,F,F,F,F,F,F,F,F,F,F,F] rfl rfl ZA ZF (Or.inr ⟨by rfl, rfl⟩) ?_ ?_
          rotate_left
          ·exact Z1
          refine pure_ (i := 33) (N := some 46) (v := undef) (a' := ?_) #[T,T,T,T,T,T,T,T,T,T,T,T,T,T,T,T,T,T,T,T,T,T,T,T,T,T,T,T,T,T,T,T,T,T,F,F,F,F,F,F,F,F,F,F] rfl rfl ZA ZF (Or.inr ⟨by rfl, rfl⟩) ?_ ?_
          rotate_left
          ·exact Z1
          refine pure_ (i := 34) (N := some 47) (v := undef) (a' := ?_) #[T,T,T,T,T,T,T,T,T,T,T,T,T,T,T,T,T,T,T,T,T,T,T,T,T,T,T,T,T,T,T,T,T,T,T,F,F,F,F,F,F,F,F,F] rfl rfl ZA ZF (Or.inr ⟨by rfl, rfl⟩) ?_ ?_
          rotate_left
          ·exact Z1
          refine pure_ (i := 35) (N := some 48) (v := undef) (a' := ?_) #[T,T,T,T,T,T,T,T,T,T,T,T,T,T,T,T,T,T,T,T,T,T,T,T,T,T,T,T,T,T,T,T,T,T,T,T,F,F,F,F,F,F,F,F] rfl rfl ZA ZF (Or.inr ⟨by rfl, rfl⟩) ?_ ?_
          rotate_left
          ·exact Z1
          refine pure_ (i := 36) (N := some 49) (v := undef) (a' := ?_) #[T,T,T,T,T,T,T,T,T,T,T,T,T,T,T,T,T,T,T,T,T,T,T,T,T,T,T,T,T,T,T,T,T,T,T,T,T,F,F,F,F,F,F,F] rfl rfl ZA ZF (Or.inr ⟨by rfl, rfl⟩) ?_ ?_
          rotate_left
          ·exact Z1
          refine pure_ (i := 37) (N := some 50) (v := undef) (a' := ?_) #[T,T,T,T,T,T,T,T,T,T,T,T,T,T,T,T,T,T,T,T,T,T,T,T,T,T,T,T,T,T,T,T,T,T,T,T,T,T,F,F,F,F,F,F] rfl rfl ZA ZF (Or.inr ⟨by rfl, rfl⟩) ?_ ?_
          rotate_left
          ·exact Z1
          refine pure_ (i := 38) (N := some 51) (v := undef) (a' := ?_) #[T,T,T,T,T,T,T,T,T,T,T,T,T,T,T,T,T,T,T,T,T,T,T,T,T,T,T,T,T,T,T,T,T,T,T,T,T,T,T,F,F,F,F,F] rfl rfl ZA ZF (Or.inr ⟨by rfl, rfl⟩) ?_ ?_
          rotate_left
          ·exact Z1
          refine pure_ (i := 39) (N := some 52) (v := undef) (a' := ?_) #[T,T,T,T,T,T,T,T,T,T,T,T,T,T,T,T,T,T,T,T,T,T,T,T,T,T,T,T,T,T,T,T,T,T,T,T,T,T,T,T,F,F,F,F] rfl rfl ZA ZF (Or.inr ⟨by rfl, rfl⟩) ?_ ?_
          rotate_left
          ·exact Z1
          refine pure_ (i := 40) (N := some 53) (v := undef) (a' := ?_) #[T,T,T,T,T,T,T,T,T,T,T,T,T,T,T,T,T,T,T,T,T,T,T,T,T,T,T,T,T,T,T,T,T,T,T,T,T,T,T,T,T,F,F,F] rfl rfl ZA ZF (Or.inr ⟨by rfl, rfl⟩) ?_ ?_
          rotate_left
          ·exact Z1
          refine pure_ (i := 41) (N := some 54) (v := undef) (a' := ?_) #[T,T,T,T,T,T,T,T,T,T,T,T,T,T,T,T,T,T,T,T,T,T,T,T,T,T,T,T,T,T,T,T,T,T,T,T,T,T,T,T,T,T,F,F] rfl rfl ZA ZF (Or.inr ⟨by rfl, rfl⟩) ?_ ?_
          rotate_left
          ·exact Z1
          refine pure_ (i := 42) (N := some 55) (v := ?_) (a' := ?_) #[T,T,T,T,T,T,T,T,T,T,T,T,T,T,T,T,T,T,T,T,T,T,T,T,T,T,T,T,T,T,T,T,T,T,T,T,T,T,T,T,T,T,T,F] rfl rfl ZA ZF (Or.inl ⟨by rfl, ?_⟩) ?_ ?_
          rotate_left
          ·exact Z15
          rotate_left
          ·exact Z1
          refine pure_ (i := 43) (N := some 56) (v := ?_) (a' := ?_) #[T,T,T,T,T,T,T,T,T,T,T,T,T,T,T,T,T,T,T,T,T,T,T,T,T,T,T,T,T,T,T,T,T,T,T,T,T,T,T,T,T,T,T,T] rfl rfl ZA ZF (Or.inl ⟨by rfl, ?_⟩) ?_ ?_
          rotate_left
          ·exact Z15
          rotate_left
          ·exact Z1
          refine done_ (done_of HT_.out (by kernel_rfl)) ?_
          try go_wp2
          go_roundg k1
          case measure => have := HK1.out; omega
          case rel => exact ⟨(wrap64 (x3_1 + 1)), Z17, H', ⟨by have := HK1.out; omega⟩, ⟨Z0⟩⟩
        ·replace c11 := Bool.eq_false_iff.mpr c11
         subst c11
         have H1 : (some false) = some r := by rw [if_neg (show ¬ (false = true) by decide)] at H; exact H
         clear H
         have H := H1
         clear H1
         obtain rfl := Option.some.inj H
         try go_wp2
         have n0_ := A_ (below_drew1 HB.out)
         clear HB
         have HB := n0_
         clear n0_
         have p205 : 0 ≤ (x3_1 : Int) := of_decide_eq_true Z13
         have q205 : x3_1 < (l0.length : Int) := of_decide_eq_true Z13
         obtain ⟨ad205, A205_0, c205_0, A205_1, c205_1, e205, hx205_0, hx205_1, hl205_0, hi205_0, hl205_1, hi205_1⟩ := at_T89 HR0.out x3_1 p205 q205
         have hw205_1 := hx205_1
         have hw205_0 := hx205_0
         cases e205
         replace hx205_0 := ZC HB.out hx205_0
         replace hx205_1 := ZC HB.out hx205_1
         have HR205_0 := A_ hi205_0
         have HC205_0 := A_ hl205_0
         clear hi205_0 hl205_0
         have HR205_1 := A_ hi205_1
         have HC205_1 := A_ hl205_1
         clear hi205_1 hl205_1
         replace p205 := eq_true p205
         replace q205 := eq_true q205
         have p207 : 0 ≤ (x3_1 : Int) := of_decide_eq_true Z13
         have q207 : x3_1 < (l0.length : Int) := of_decide_eq_true Z13
         obtain ⟨ad207, A207_0, c207_0, A207_1, c207_1, e207, hx207_0, hx207_1, hl207_0, hi207_0, hl207_1, hi207_1⟩ := at_T89 HR0.out x3_1 p207 q207
         have hw207_1 := hx207_1
         have hw207_0 := hx207_0
         obtain rfl : ad205 = ad207 := (by injection e207)
         replace hx207_0 := ZC HB.out hx207_0
         replace hx207_1 := ZC HB.out hx207_1
         have HR207_0 := A_ hi207_0
         have HC207_0 := A_ hl207_0
         clear hi207_0 hl207_0
         have HR207_1 := A_ hi207_1
         have HC207_1 := A_ hl207_1
         clear hi207_1 hl207_1
         replace p207 := eq_true p207
         replace q207 := eq_true q207
         have ea_ := Option.some.inj (hw205_0.symm.trans hw207_0)
         injection ea_ with ea_ en_ ec_
         subst ea_
         subst ec_
         clear en_
         have ea_ := Option.some.inj (hw205_1.symm.trans hw207_1)
         injection ea_ with ea_ en_ ec_
         subst ea_
         subst ec_
         clear en_
         have p208 : 0 ≤ (x3_1 : Int) := of_decide_eq_true Z13
         have q208 : x3_1 < (l0.length : Int) := of_decide_eq_true Z13
         obtain ⟨ad208, A208_0, c208_0, A208_1, c208_1, e208, hx208_0, hx208_1, hl208_0, hi208_0, hl208_1, hi208_1⟩ := at_T89 HR0.out x3_1 p208 q208
         have hw208_1 := hx208_1
         have hw208_0 := hx208_0
         obtain rfl : ad205 = ad208 := (by injection e208)
         replace hx208_0 := ZC HB.out hx208_0
         replace hx208_1 := ZC HB.out hx208_1
         have HR208_0 := A_ hi208_0
         have HC208_0 := A_ hl208_0
         clear hi208_0 hl208_0
         have HR208_1 := A_ hi208_1
         have HC208_1 := A_ hl208_1
         clear hi208_1 hl208_1
         replace p208 := eq_true p208
         replace q208 := eq_true q208
         have ea_ := Option.some.inj (hx207_0.symm.trans hx208_0)
         injection ea_ with ea_ en_ ec_
         subst ea_
         subst ec_
         clear en_
         have ea_ := Option.some.inj (hx207_1.symm.trans hx208_1)
         injection ea_ with ea_ en_ ec_
         subst ea_
         subst ec_
         clear en_
         refine start_ (n := 44) (S := fun w' => w'.cell? (ad205.add ((x3_1).toNat * 2)) = some (.slice A205_0 ((rd_T89 l0 x3_1).f0).length c205_0) ∧ w'.cell? ⟨(ad205.add ((x3_1).toNat * 2)).block, (ad205.add ((x3_1).toNat * 2)).off + 1, none⟩ = some (.slice A205_1 ((rd_T89 l0 x3_1).f1).length c205_1) ∧ w'.cell? (ad205.add ((x3_1).toNat * 2)) = some (.slice A205_0 ((rd_T89 l0 x3_1).f0).length c205_0) ∧ w'.cell? ⟨(ad205.add ((x3_1).toNat * 2)).block, (ad205.add ((x3_1).toNat * 2)).off + 1, none⟩ = some (.slice A205_1 ((rd_T89 l0 x3_1).f1).length c205_1) ∧ w'.cell? (ad205.add ((x3_1).toNat * 2)) = some (.slice A205_0 ((rd_T89 l0 x3_1).f0).length c205_0) ∧ w'.cell? ⟨(ad205.add ((x3_1).toNat * 2)).block, (ad205.add ((x3_1).toNat * 2)).off + 1, none⟩ = some (.slice A205_1 ((rd_T89 l0 x3_1).f1).length c205_1)) (ds := []) #[F,F,F,F,F,F,F,F,F,F,F,F,F,F,F,F,F,F,F,F,F,F,F,F,F,F,F,F,F,F,F,F,F,F,F,F,F,F,F,F,F,F,F,F] (by kernel_rfl) rfl rfl ⟨(ZC HB.out hw205_0 :), (ZC HB.out hw205_1 :), (ZC HB.out hw207_0 :), (ZC HB.out hw207_1 :), (ZC HB.out hw208_0 :), (ZC HB.out hw208_1 :)⟩ (fun hHeld => ?_); refine with_tabW spec_validStore.tab6 spec_validStore.bits6 (fun HT_ HW_ => ?_)
         generalize wr.drew = w27 at HB HR205_0 HR205_1 HR207_0 HR207_1 HR208_0 HR208_1 hx205_0 hx205_1 hx207_0 hx207_1 hx208_0 hx208_1 hHeld ⊢
         refine pure_ (i := 0) (N := some 13) (v := ?_) (a' := ?_) #[T,F,F,F,F,F,F,F,F,F,F,F,F,F,F,F,F,F,F,F,F,F,F,F,F,F,F,F,F,F,F,F,F,F,F,F,F,F,F,F,F,F,F,F] rfl rfl ZA ZF (Or.inl ⟨by rfl, ?_⟩) ?_ ?_
         rotate_left
         ·exact Z15
         rotate_left
         ·exact Z1
         refine pure_ (i := 1) (N := some 14) (v := ?_) (a' := ?_) #[T,T,F,F,F,F,F,F,F,F,F,F,F,F,F,F,F,F,F,F,F,F,F,F,F,F,F,F,F,F,F,F,F,F,F,F,F,F,F,F,F,F,F,F] rfl rfl ZA ZF (Or.inl ⟨by rfl, ?_⟩) ?_ ?_
         rotate_left
         ·exact Z15
         rotate_left
         ·exact Z1
         refine pure_ (i := 2) (N := some 15) (v := ?_) (a' := ?_) #[T,T,T,F,F,F,F,F,F,F,F,F,F,F,F,F,F,F,F,F,F,F,F,F,F,F,F,F,F,F,F,F,F,F,F,F,F,F,F,F,F,F,F,F] rfl rfl ZA ZF (Or.inl ⟨by rfl, ?_⟩) ?_ ?_
         rotate_left
         ·exact Z15
         rotate_left
         ·exact Z1
         refine pure_ (i := 3) (N := some 16) (v := ?_) (a' := ?_) #[T,T,T,T,F,F,F,F,F,F,F,F,F,F,F,F,F,F,F,F,F,F,F,F,F,F,F,F,F,F,F,F,F,F,F,F,F,F,F,F,F,F,F,F] rfl rfl ZA ZF (Or.inl ⟨by rfl, ?_⟩) ?_ ?_
         rotate_left
         ·exact Z15
         rotate_left
         ·exact Z1
         refine take_ (i := 4) (N := some 17) (v := ?_) (a' := ?_) #[T,T,T,T,T,F,F,F,F,F,F,F,F,F,F,F,F,F,F,F,F,F,F,F,F,F,F,F,F,F,F,F,F,F,F,F,F,F,F,F,F,F,F,F] rfl rfl (take_ofW HT_.out HW_.out (by kernel_rfl)) ZF (Or.inl ⟨by rfl, ?_⟩) hHeld ?_ ?_
         rotate_left
         ·exact Z42
         rotate_left
         ·exact Z1
         refine one_ (i := 5) (N := some 18) #[T,T,T,T,T,T,F,F,F,F,F,F,F,F,F,F,F,F,F,F,F,F,F,F,F,F,F,F,F,F,F,F,F,F,F,F,F,F,F,F,F,F,F,F] rfl rfl (one_of HT_.out (by kernel_rfl)) (by decide) (fun K hK => ?_)
         refine goes_ Try.func49 (by kernel_rfl) rfl #[.slice A205_0 ((rd_T89 l0 x3_1).f0).length c205_0] (by rfl) rfl rfl Z5 ?_
         with_reducible refine (spec_validPlace.calls k1 _ _ ((rd_T89 l0 x3_1).f0) true _ ?side1 ?side2 A5.out).mono ?_
         (case side1 => exact Z3 HR205_0.out)
         (case side2 => exact HC205_0.out)
         rintro e w28 ⟨rfl, hb⟩
         refine ⟨_, rfl, ?_⟩
         have n0_ := A_ (below_step Z0 hb)
         clear HB
         have HB := n0_
         clear n0_
         (try clear hb)
         (try clear hb2)
         (try clear hk)
         (try clear hi)
         refine hK.out _ _ ⟨(ZC HB.out hw205_0 :), (ZC HB.out hw205_1 :), (ZC HB.out hw207_0 :), (ZC HB.out hw207_1 :), (ZC HB.out hw208_0 :), (ZC HB.out hw208_1 :)⟩ (fun hHeld => ?_)
         clear hK K
         refine norm_ (a' := ?_) ?_ ?_
         rotate_left
         ·exact Z34
         refine pure_ (i := 6) (N := some 19) (v := ?_) (a' := ?_) #[T,T,T,T,T,T,T,F,F,F,F,F,F,F,F,F,F,F,F,F,F,F,F,F,F,F,F,F,F,F,F,F,F,F,F,F,F,F,F,F,F,F,F,F] rfl rfl ZA ZF (Or.inl ⟨by rfl, ?_⟩) ?_ ?_
         rotate_left
         ·exact Z15
         rotate_left
         ·exact Z1
         refine pure_ (i := 7) (N := some 20) (v := ?_) (a' := ?_) #[T,T,T,T,T,T,T,T,F,F,F,F,F,F,F,F,F,F,F,F,F,F,F,F,F,F,F,F,F,F,F,F,F,F,F,F,F,F,F,F,F,F,F,F] rfl rfl ZA ZF (Or.inl ⟨by rfl, ?_⟩) ?_ ?_
         rotate_left
         ·exact Z15
         rotate_left
         ·exact Z1
         refine pure_ (i := 8) (N := some 21) (v := ?_) (a' := ?_) #[T,T,T,T,T,T,T,T,T,F,F,F,F,F,F,F,F,F,F,F,F,F,F,F,F,F,F,F,F,F,F,F,F,F,F,F,F,F,F,F,F,F,F,F] rfl rfl ZA ZF (Or.inl ⟨by rfl, ?_⟩) ?_ ?_
         rotate_left
         ·exact Z15
         rotate_left
         ·exact Z1
         refine pure_ (i := 9) (N := some 22) (v := ?_) (a' := ?_) #[T,T,T,T,T,T,T,T,T,T,F,F,F,F,F,F,F,F,F,F,F,F,F,F,F,F,F,F,F,F,F,F,F,F,F,F,F,F,F,F,F,F,F,F] rfl rfl ZA ZF (Or.inl ⟨by rfl, ?_⟩) ?_ ?_
         rotate_left
         ·exact Z15
         rotate_left
         ·exact Z1
         refine pure_ (i := 10) (N := some 23) (v := ?_) (a' := ?_) #[T,T,T,T,T,T,T,T,T,T,T,F,F,F,F,F,F,F,F,F,F,F,F,F,F,F,F,F,F,F,F,F,F,F,F,F,F,F,F,F,F,F,F,F] rfl rfl ZA ZF (Or.inl ⟨by rfl, ?_⟩) ?_ ?_
         rotate_left
         ·exact Z15
         rotate_left
         ·exact Z1
         refine pure_ (i := 11) (N := some 24) (v := ?_) (a' := ?_) #[T,T,T,T,T,T,T,T,T,T,T,T,F,F,F,F,F,F,F,F,F,F,F,F,F,F,F,F,F,F,F,F,F,F,F,F,F,F,F,F,F,F,F,F] rfl rfl ZA ZF (Or.inl ⟨by rfl, ?_⟩) ?_ ?_
         rotate_left
         ·exact Z15
         rotate_left
         ·exact Z1
         refine take_ (i := 12) (N := some 25) (v := ?_) (a' := ?_) #[T,T,T,T,T,T,T,T,T,T,T,T,T,F,F,F,F,F,F,F,F,F,F,F,F,F,F,F,F,F,F,F,F,F,F,F,F,F,F,F,F,F,F,F] rfl rfl (take_ofW HT_.out HW_.out (by kernel_rfl)) ZF (Or.inl ⟨by rfl, ?_⟩) hHeld ?_ ?_
         rotate_left
         ·exact Z42
         rotate_left
         ·exact Z1
         refine pure_ (i := 13) (N := some 26) (v := ?_) (a' := ?_) #[T,T,T,T,T,T,T,T,T,T,T,T,T,T,F,F,F,F,F,F,F,F,F,F,F,F,F,F,F,F,F,F,F,F,F,F,F,F,F,F,F,F,F,F] rfl rfl ZA ZF (Or.inl ⟨by rfl, ?_⟩) ?_ ?_
         rotate_left
         ·exact Z15
         rotate_left
         ·exact Z1
         refine pure_ (i := 14) (N := some 27) (v := ?_) (a' := ?_) #[T,T,T,T,T,T,T,T,T,T,T,T,T,T,T,F,F,F,F,F,F,F,F,F,F,F,F,F,F,F,F,F,F,F,F,F,F,F,F,F,F,F,F,F] rfl rfl ZA ZF (Or.inl ⟨by rfl, ?_⟩) ?_ ?_
         rotate_left
         ·exact Z15
         rotate_left
         ·exact Z1
         refine pure_ (i := 15) (N := some 28) (v := ?_) (a' := ?_) #[T,T,T,T,T,T,T,T,T,T,T,T,T,T,T,T,F,F,F,F,F,F,F,F,F,F,F,F,F,F,F,F,F,F,F,F,F,F,F,F,F,F,F,F] rfl rfl ZA ZF (Or.inl ⟨by rfl, ?_⟩) ?_ ?_
         rotate_left
         ·exact Z15
         rotate_left
         ·exact Z1
         refine pure_ (i := 16) (N := some 29) (v := ?_) (a' := ?_) #[T,T,T,T,T,T,T,T,T,T,T,T,T,T,T,T,T,F,F,F,F,F,F,F,F,F,F,F,F,F,F,F,F,F,F,F,F,F,F,F,F,F,F,F] rfl rfl ZA ZF (Or.inl ⟨by rfl, ?_⟩) ?_ ?_
         rotate_left
         ·exact Z15
         rotate_left
         ·exact Z1
         refine pure_ (i := 17) (N := some 30) (v := ?_) (a' := ?_) #[T,T,T,T,T,T,T,T,T,T,T,T,T,T,T,T,T,T,F,F,F,F,F,F,F,F,F,F,F,F,F,F,F,F,F,F,F,F,F,F,F,F,F,F] rfl rfl ZA ZF (Or.inl ⟨by rfl, ?_⟩) ?_ ?_
         rotate_left
         ·exact Z15
         rotate_left
         ·exact Z1
         refine pure_ (i := 18) (N := some 31) (v := ?_) (a' := ?_) #[T,T,T,T,T,T,T,T,T,T,T,T,T,T,T,T,T,T,T,F,F,F,F,F,F,F,F,F,F,F,F,F,F,F,F,F,F,F,F,F,F,F,F,F] rfl rfl ZA ZF (Or.inl ⟨by rfl, ?_⟩) ?_ ?_
         rotate_left
         ·exact Z15
         rotate_left
         ·exact Z1
         refine pure_ (i := 19) (N := some 32) (v := ?_) (a' := ?_) #[T,T,T,T,T,T,T,T,T,T,T,T,T,T,T,T,T,T,T,T,F,F,F,F,F,F,F,F,F,F,F,F,F,F,F,F,F,F,F,F,F,F,F,F] rfl rfl ZA ZF (Or.inl ⟨by rfl, ?_⟩) ?_ ?_
         rotate_left
         ·exact Z15
         rotate_left
         ·exact Z1
         refine pure_ (i := 20) (N := some 33) (v := ?_) (a' := ?_) #[T,T,T,T,T,T,T,T,T,T,T,T,T,T,T,T,T,T,T,T,T,F,F,F,F,F,F,F,F,F,F,F,F,F,F,F,F,F,F,F,F,F,F,F] rfl rfl ZA ZF (Or.inl ⟨by rfl, ?_⟩) ?_ ?_
         rotate_left
         ·exact Z15
         rotate_left
         ·exact Z1
         refine take_ (i := 21) (N := some 34) (v := ?_) (a' := ?_) #[T,T,T,T,T,T,T,T,T,T,T,T,T,T,T,T,T,T,T,T,T,T,F,F,F,F,F,F,F,F,F,F,F,F,F,F,F,F,F,F,F,F,F,F] rfl rfl (take_ofW HT_.out HW_.out (by kernel_rfl)) ZF (Or.inl ⟨by rfl, ?_⟩) hHeld ?_ ?_
         rotate_left
         ·exact Z42
         rotate_left
         ·exact Z1
         refine one_ (i := 22) (N := some 35) #[T,T,T,T,T,T,T,T,T,T,T,T,T,T,T,T,T,T,T,T,T,T,T,F,F,F,F,F,F,F,F,F,F,F,F,F,F,F,F,F,F,F,F,F] rfl rfl (one_of HT_.out (by kernel_rfl)) (by decide) (fun K hK => ?_)
         refine goes_ Try.func75 (by kernel_rfl) rfl #[.slice A205_1 ((rd_T89 l0 x3_1).f1).length c205_1] (by rfl) rfl rfl Z5 ?_
         with_reducible refine (spec_validValues.calls k1 _ _ ((rd_T89 l0 x3_1).f1) false _ ?side1 ?side2 A10.out).mono ?_
         (case side1 => exact Z3 HR208_1.out)
         (case side2 => exact HC208_1.out)
         rintro e w29 ⟨rfl, hb⟩
         refine ⟨_, rfl, ?_⟩
         have n0_ := A_ (below_step Z0 hb)
         clear HB
         have HB := n0_
         clear n0_
         (try clear hb)
         (try clear hb2)
         (try clear hk)
         (try clear hi)
         refine hK.out _ _ ⟨(ZC HB.out hw205_0 :), (ZC HB.out hw205_1 :), (ZC HB.out hw207_0 :), (ZC HB.out hw207_1 :), (ZC HB.out hw208_0 :), (ZC HB.out hw208_1 :)⟩ (fun hHeld => ?_)
         clear hK K
         refine norm_ (a' := ?_) ?_ ?_
         rotate_left
         ·exact Z47
         refine pure_ (i := 23) (N := some 36) (v := ?_) (a' := ?_) #[T,T,T,T,T,T,T,T,T,T,T,T,T,T,T,T,T,T,T,T,T,T,T,T,F,F,F,F,F,F,F,F,F,F,F,F,F,F,F,F,F,F,F,F] rfl rfl ZA ZF (Or.inl ⟨by rfl, ?_⟩) ?_ ?_
         rotate_left
         ·exact Z15
         rotate_left
         ·exact Z1
         refine pure_ (i := 24) (N := some 37) (v := ?_) (a' := ?_) #[T,T,T,T,T,T,T,T,T,T,T,T,T,T,T,T,T,T,T,T,T,T,T,T,T,F,F,F,F,F,F,F,F,F,F,F,F,F,F,F,F,F,F,F] rfl rfl ZA ZF (Or.inl ⟨by rfl, ?_⟩) ?_ ?_
         rotate_left
         ·exact Z15
         rotate_left
         ·exact Z1
         refine pure_ (i := 25) (N := some 38) (v := ?_) (a' := ?_) #[T,T,T,T,T,T,T,T,T,T,T,T,T,T,T,T,T,T,T,T,T,T,T,T,T,T,F,F,F,F,F,F,F,F,F,F,F,F,F,F,F,F,F,F] rfl rfl ZA ZF (Or.inl ⟨by rfl, ?_⟩) ?_ ?_
         rotate_left
         ·exact Z15
         rotate_left
         ·exact Z1
         refine pure_ (i := 26) (N := some 39) (v := undef) (a' := ?_) #[T,T,T,T,T,T,T,T,T,T,T,T,T,T,T,T,T,T,T,T,T,T,T,T,T,T,T,F,F,F,F,F,F,F,F,F,F,F,F,F,F,F,F,F] rfl rfl ZA ZF (Or.inr ⟨by rfl, rfl⟩) ?_ ?_
         rotate_left
         ·exact Z1
         refine pure_ (i := 27) (N := some 40) (v := undef) (a' := ?_) #[T,T,T,T,T,T,T,T,T,T,T,T,T,T,T,T,T,T,T,T,T,T,T,T,T,T,T,T,F,F,F,F,F,F,F,F,F,F,F,F,F,F,F,F] rfl rfl ZA ZF (Or.inr ⟨by rfl, rfl⟩) ?_ ?_
         rotate_left
         ·exact Z1
         refine pure_ (i := 28) (N := some 41) (v := undef) (a' := ?_) #[T,T,T,T,T,T,T,T,T,T,T,T,T,T,T,T,T,T,T,T,T,T,T,T,T,T,T,T,T,F,F,F,F,F,F,F,F,F,F,F,F,F,F,F] rfl rfl ZA ZF (Or.inr ⟨by rfl, rfl⟩) ?_ ?_
         rotate_left
         ·exact Z1
         refine pure_ (i := 29) (N := some 42) (v := undef) (a' := ?_) #[T,T,T,T,T,T,T,T,T,T,T,T,T,T,T,T,T,T,T,T,T,T,T,T,T,T,T,T,T,T,F,F,F,F,F,F,F,F,F,F,F,F,F,F] rfl rfl ZA ZF (Or.inr ⟨by rfl, rfl⟩) ?_ ?_
         rotate_left
         ·exact Z1
         refine pure_ (i := 30) (N := some 43) (v := undef) (a' := ?_) #[T,T,T,T,T,T,T,T,T,T,T,T,T,T,T,T,T,T,T,T,T,T,T,T,T,T,T,T,T,T,T,F,F,F,F,F,F,F,F,F,F,F,F,F] rfl rfl ZA ZF (Or.inr ⟨by rfl, rfl⟩) ?_ ?_
         rotate_left
         ·exact Z1
         refine pure_ (i := 31) (N := some 44) (v := undef) (a' := ?_) #[T,T,T,T,T,T,T,T,T,T,T,T,T,T,T,T,T,T,T,T,T,T,T,T,T,T,T,T,T,T,T,T,F,F,F,F,F,F,F,F,F,F,F,F] rfl rfl ZA ZF (Or.inr ⟨by rfl, rfl⟩) ?_ ?_
         rotate_left
         ·exact Z1
         refine pure_ (i := 32) (N := some 45) (v := undef) (a' := ?_) #[T,T,T,T,T,T,T,T,T,T,T,T,T,T,T,T,T,T,T,T,T,T,T,T,T,T,T,T,T,T,T,T,T,F,F,F,F,F,F,F,F,F,F,F] rfl rfl ZA ZF (Or.inr ⟨by rfl, rfl⟩) ?_ ?_
         rotate_left
         ·exact Z1
         refine pure_ (i := 33) (N := some 46) (v := undef) (a' := ?_) #[T,T,T,T,T,T,T,T,T,T,T,T,T,T,T,T,T,T,T,T,T,T,T,T,T,T,T,T,T,T,T,T,T,T,F,F,F,F,F,F,F,F,F,F] rfl rfl ZA ZF (Or.inr ⟨by rfl, rfl⟩) ?_ ?_
         rotate_left
         ·exact Z1
         refine pure_ (i := 34) (N := some 47) (v := undef) (a' := ?_) #[T,T,T,T,T,T,T,T,T,T,T,T,T,T,T,T,T,T,T,T,T,T,T,T,T,T,T,T,T,T,T,T,T,T,T,F,F,F,F,F,F,F,F,F] rfl rfl ZA ZF (Or.inr ⟨by rfl, rfl⟩) ?_ ?_
         rotate_left
         ·exact Z1
         refine pure_ (i := 35) (N := some 48) (v := undef) (a' := ?_) #[T,T,T,T,T,T,T,T,T,T,T,T,T,T,T,T,T,T,T,T,T,T,T,T,T,T,T,T,T,T,T,T,T,T,T,T,F,F,F,F,F,F,F,F] rfl rfl ZA ZF (Or.inr ⟨by rfl, rfl⟩) ?_ ?_
         rotate_left
         ·exact Z1
         refine pure_ (i := 36) (N := some 49) (v := undef) (a' := ?_) #[T,T,T,T,T,T,T,T,T,T,T,T,T,T,T,T,T,T,T,T,T,T,T,T,T,T,T,T,T,T,T,T,T,T,T,T,T,F,F,F,F,F,F,F] rfl rfl ZA ZF (Or.inr ⟨by rfl, rfl⟩) ?_ ?_
         rotate_left
         ·exact Z1
         refine pure_ (i := 37) (N := some 50) (v := undef) (a' := ?_) #[T,T,T,T,T,T,T,T,T,T,T,T,T,T,T,T,T,T,T,T,T,T,T,T,T,T,T,T,T,T,T,T,T,T,T,T,T,T,F,F,F,F,F,F] rfl rfl ZA ZF (Or.inr ⟨by rfl, rfl⟩) ?_ ?_
         rotate_left
         ·exact Z1
         refine pure_ (i := 38) (N := some 51) (v := undef) (a' := ?_) #[T,T,T,T,T,T,T,T,T,T,T,T,T,T,T,T,T,T,T,T,T,T,T,T,T,T,T,T,T,T,T,T,T,T,T,T,T,T,T,F,F,F,F,F] rfl rfl ZA ZF (Or.inr ⟨by rfl, rfl⟩) ?_ ?_
         rotate_left
         ·exact Z1
         refine pure_ (i := 39) (N := some 52) (v := undef) (a' := ?_) #[T,T,T,T,T,T,T,T,T,T,T,T,T,T,T,T,T,T,T,T,T,T,T,T,T,T,T,T,T,T,T,T,T,T,T,T,T,T,T,T,F,F,F,F] rfl rfl ZA ZF (Or.inr ⟨by rfl, rfl⟩) ?_ ?_
         rotate_left
         ·exact Z1
         refine pure_ (i := 40) (N := some 53) (v := undef) (a' := ?_) #[T,T,T,T,T,T,T,T,T,T,T,T,T,T,T,T,T,T,T,T,T,T,T,T,T,T,T,T,T,T,T,T,T,T,T,T,T,T,T,T,T,F,F,F] rfl rfl ZA ZF (Or.inr ⟨by rfl, rfl⟩) ?_ ?_
         rotate_left
         ·exact Z1
         refine pure_ (i := 41) (N := some 54) (v := undef) (a' := ?_) #[T,T,T,T,T,T,T,T,T,T,T,T,T,T,T,T,T,T,T,T,T,T,T,T,T,T,T,T,T,T,T,T,T,T,T,T,T,T,T,T,T,T,F,F] rfl rfl ZA ZF (Or.inr ⟨by rfl, rfl⟩) ?_ ?_
         rotate_left
         ·exact Z1
         refine pure_ (i := 42) (N := some 55) (v := undef) (a' := ?_) #[T,T,T,T,T,T,T,T,T,T,T,T,T,T,T,T,T,T,T,T,T,T,T,T,T,T,T,T,T,T,T,T,T,T,T,T,T,T,T,T,T,T,T,F] rfl rfl ZA ZF (Or.inr ⟨by rfl, rfl⟩) ?_ ?_
         rotate_left
         ·exact Z1
         refine pure_ (i := 43) (N := some 56) (v := ?_) (a' := ?_) #[T,T,T,T,T,T,T,T,T,T,T,T,T,T,T,T,T,T,T,T,T,T,T,T,T,T,T,T,T,T,T,T,T,T,T,T,T,T,T,T,T,T,T,T] rfl rfl ZA ZF (Or.inl ⟨by rfl, ?_⟩) ?_ ?_
         rotate_left
         ·exact Z15
         rotate_left
         ·exact Z1
         refine done_ (done_of HT_.out (by kernel_rfl)) ?_
         try go_wp2
         go_ret
         exact ⟨Z14, Z0⟩
      ·replace c6 := Bool.eq_false_iff.mpr c6
       subst c6
       have H1 : (some false) = some r := by rw [if_neg (show ¬ (false = true) by decide)] at H; exact H
       clear H
       have H := H1
       clear H1
       obtain rfl := Option.some.inj H
       try go_wp2
       have n0_ := A_ (below_drew1 HB.out)
       clear HB
       have HB := n0_
       clear n0_
       have p205 : 0 ≤ (x3_1 : Int) := of_decide_eq_true Z13
       have q205 : x3_1 < (l0.length : Int) := of_decide_eq_true Z13
       obtain ⟨ad205, A205_0, c205_0, A205_1, c205_1, e205, hx205_0, hx205_1, hl205_0, hi205_0, hl205_1, hi205_1⟩ := at_T89 HR0.out x3_1 p205 q205
       have hw205_1 := hx205_1
       have hw205_0 := hx205_0
       cases e205
       replace hx205_0 := ZC HB.out hx205_0
       replace hx205_1 := ZC HB.out hx205_1
       have HR205_0 := A_ hi205_0
       have HC205_0 := A_ hl205_0
       clear hi205_0 hl205_0
       have HR205_1 := A_ hi205_1
       have HC205_1 := A_ hl205_1
       clear hi205_1 hl205_1
       replace p205 := eq_true p205
       replace q205 := eq_true q205
       refine start_ (n := 44) (S := fun w' => w'.cell? (ad205.add ((x3_1).toNat * 2)) = some (.slice A205_0 ((rd_T89 l0 x3_1).f0).length c205_0) ∧ w'.cell? ⟨(ad205.add ((x3_1).toNat * 2)).block, (ad205.add ((x3_1).toNat * 2)).off + 1, none⟩ = some (.slice A205_1 ((rd_T89 l0 x3_1).f1).length c205_1)) (ds := []) #[F,F,F,F,F,F,F,F,F,F,F,F,F,F,F,F,F,F,F,F,F,F,F,F,F,F,F,F,F,F,F,F,F,F,F,F,F,F,F,F,F,F,F,F] (by kernel_rfl) rfl rfl ⟨(ZC HB.out hw205_0 :), (ZC HB.out hw205_1 :)⟩ (fun hHeld => ?_); refine with_tabW spec_validStore.tab6 spec_validStore.bits6 (fun HT_ HW_ => ?_)
       generalize wr.drew = w30 at HB HR205_0 HR205_1 hx205_0 hx205_1 hHeld ⊢
       refine pure_ (i := 0) (N := some 13) (v := ?_) (a' := ?_) #[T,F,F,F,F,F,F,F,F,F,F,F,F,F,F,F,F,F,F,F,F,F,F,F,F,F,F,F,F,F,F,F,F,F,F,F,F,F,F,F,F,F,F,F] rfl rfl ZA ZF (Or.inl ⟨by rfl, ?_⟩) ?_ ?_
       rotate_left
       ·exact Z15
       rotate_left
       ·exact Z1
       refine pure_ (i := 1) (N := some 14) (v := ?_) (a' := ?_) #[T,T,F,F,F,F,F,F,F,F,F,F,F,F,F,F,F,F,F,F,F,F,F,F,F,F,F,F,F,F,F,F,F,F,F,F,F,F,F,F,F,F,F,F] rfl rfl ZA ZF (Or.inl ⟨by rfl, ?_⟩) ?_ ?_
       rotate_left
       ·exact Z15
       rotate_left
       ·exact Z1
       refine pure_ (i := 2) (N := some 15) (v := ?_) (a' := ?_) #[T,T,T,F,F,F,F,F,F,F,F,F,F,F,F,F,F,F,F,F,F,F,F,F,F,F,F,F,F,F,F,F,F,F,F,F,F,F,F,F,F,F,F,F] rfl rfl ZA ZF (Or.inl ⟨by rfl, ?_⟩) ?_ ?_
       rotate_left
       ·exact Z15
       rotate_left
       ·exact Z1
       refine pure_ (i := 3) (N := some 16) (v := ?_) (a' := ?_) #[T,T,T,T,F,F,F,F,F,F,F,F,F,F,F,F,F,F,F,F,F,F,F,F,F,F,F,F,F,F,F,F,F,F,F,F,F,F,F,F,F,F,F,F] rfl rfl ZA ZF (Or.inl ⟨by rfl, ?_⟩) ?_ ?_
       rotate_left
       ·exact Z15
       rotate_left
       ·exact Z1
       refine take_ (i := 4) (N := some 17) (v := ?_) (a' := ?_) #[T,T,T,T,T,F,F,F,F,F,F,F,F,F,F,F,F,F,F,F,F,F,F,F,F,F,F,F,F,F,F,F,F,F,F,F,F,F,F,F,F,F,F,F] rfl rfl (take_ofW HT_.out HW_.out (by kernel_rfl)) ZF (Or.inl ⟨by rfl, ?_⟩) hHeld ?_ ?_
       rotate_left
       ·exact Z44
       rotate_left
       ·exact Z1
       refine one_ (i := 5) (N := some 18) #[T,T,T,T,T,T,F,F,F,F,F,F,F,F,F,F,F,F,F,F,F,F,F,F,F,F,F,F,F,F,F,F,F,F,F,F,F,F,F,F,F,F,F,F] rfl rfl (one_of HT_.out (by kernel_rfl)) (by decide) (fun K hK => ?_)
       refine goes_ Try.func49 (by kernel_rfl) rfl #[.slice A205_0 ((rd_T89 l0 x3_1).f0).length c205_0] (by rfl) rfl rfl Z5 ?_
       with_reducible refine (spec_validPlace.calls k1 _ _ ((rd_T89 l0 x3_1).f0) false _ ?side1 ?side2 A5.out).mono ?_
       (case side1 => exact Z3 HR205_0.out)
       (case side2 => exact HC205_0.out)
       rintro e w31 ⟨rfl, hb⟩
       refine ⟨_, rfl, ?_⟩
       have n0_ := A_ (below_step Z0 hb)
       clear HB
       have HB := n0_
       clear n0_
       (try clear hb)
       (try clear hb2)
       (try clear hk)
       (try clear hi)
       refine hK.out _ _ ⟨(ZC HB.out hw205_0 :), (ZC HB.out hw205_1 :)⟩ (fun hHeld => ?_)
       clear hK K
       refine norm_ (a' := ?_) ?_ ?_
       rotate_left
       ·exact Z34
       refine pure_ (i := 6) (N := some 19) (v := ?_) (a' := ?_) #[T,T,T,T,T,T,T,F,F,F,F,F,F,F,F,F,F,F,F,F,F,F,F,F,F,F,F,F,F,F,F,F,F,F,F,F,F,F,F,F,F,F,F,F] rfl rfl ZA ZF (Or.inl ⟨by rfl, ?_⟩) ?_ ?_
       rotate_left
       ·exact Z15
       rotate_left
       ·exact Z1
       refine pure_ (i := 7) (N := some 20) (v := ?_) (a' := ?_) #[T,T,T,T,T,T,T,T,F,F,F,F,F,F,F,F,F,F,F,F,F,F,F,F,F,F,F,F,F,F,F,F,F,F,F,F,F,F,F,F,F,F,F,F] rfl rfl ZA ZF (Or.inl ⟨by rfl, ?_⟩) ?_ ?_
       rotate_left
       ·exact Z15
       rotate_left
       ·exact Z1
       refine pure_ (i := 8) (N := some 21) (v := undef) (a' := ?_) #[T,T,T,T,T,T,T,T,T,F,F,F,F,F,F,F,F,F,F,F,F,F,F,F,F,F,F,F,F,F,F,F,F,F,F,F,F,F,F,F,F,F,F,F] rfl rfl ZA ZF (Or.inr ⟨by rfl, rfl⟩) ?_ ?_
       rotate_left
       ·exact Z1
       refine pure_ (i := 9) (N := some 22) (v := undef) (a' := ?_) #[T,T,T,T,T,T,T,T,T,T,F,F,F,F,F,F,F,F,F,F,F,F,F,F,F,F,F,F,F,F,F,F,F,F,F,F,F,F,F,F,F,F,F,F] rfl rfl ZA ZF (Or.inr ⟨by rfl, rfl⟩) ?_ ?_
       rotate_left
       ·exact Z1
       refine pure_ (i := 10) (N := some 23) (v := undef) (a' := ?_) #[T,T,T,T,T,T,T,T,T,T,T,F,F,F,F,F,F,F,F,F,F,F,F,F,F,F,F,F,F,F,F,F,F,F,F,F,F,F,F,F,F,F,F,F] rfl rfl ZA ZF (Or.inr ⟨by rfl, rfl⟩) ?_ ?_
       rotate_left
       ·exact Z1
       refine pure_ (i := 11) (N := some 24) (v := undef) (a' := ?_) #[T,T,T,T,T,T,T,T,T,T,T,T,F,F,F,F,F,F,F,F,F,F,F,F,F,F,F,F,F,F,F,F,F,F,F,F,F,F,F,F,F,F,F,F] rfl rfl ZA ZF (Or.inr ⟨by rfl, rfl⟩) ?_ ?_
       rotate_left
       ·exact Z1
       refine pure_ (i := 12) (N := some 25) (v := undef) (a' := ?_) #[T,T,T,T,T,T,T,T,T,T,T,T,T,F,F,F,F,F,F,F,F,F,F,F,F,F,F,F,F,F,F,F,F,F,F,F,F,F,F,F,F,F,F,F] rfl rfl ZA ZF (Or.inr ⟨by rfl, rfl⟩) ?_ ?_
       rotate_left
       ·exact Z1
       refine pure_ (i := 13) (N := some 26) (v := undef) (a' := ?_) #[T,T,T,T,T,T,T,T,T,T,T,T,T,T,F,F,F,F,F,F,F,F,F,F,F,F,F,F,F,F,F,F,F,F,F,F,F,F,F,F,F,F,F,F] rfl rfl ZA ZF (Or.inr ⟨by rfl, rfl⟩) ?_ ?_
       rotate_left
       ·exact Z1
       refine pure_ (i := 14) (N := some 27) (v := undef) (a' := ?_) #[T,T,T,T,T,T,T,T,T,T,T,T,T,T,T,F,F,F,F,F,F,F,F,F,F,F,F,F,F,F,F,F,F,F,F,F,F,F,F,F,F,F,F,F] rfl rfl ZA ZF (Or.inr ⟨by rfl, rfl⟩) ?_ ?_
       rotate_left
       ·exact Z1
       refine pure_ (i := 15) (N := some 28) (v := ?_) (a' := ?_) #[T,T,T,T,T,T,T,T,T,T,T,T,T,T,T,T,F,F,F,F,F,F,F,F,F,F,F,F,F,F,F,F,F,F,F,F,F,F,F,F,F,F,F,F] rfl rfl ZA ZF (Or.inl ⟨by rfl, ?_⟩) ?_ ?_
       rotate_left
       ·exact Z15
       rotate_left
       ·exact Z1
       refine pure_ (i := 16) (N := some 29) (v := ?_) (a' := ?_) #[T,T,T,T,T,T,T,T,T,T,T,T,T,T,T,T,T,F,F,F,F,F,F,F,F,F,F,F,F,F,F,F,F,F,F,F,F,F,F,F,F,F,F,F] rfl rfl ZA ZF (Or.inl ⟨by rfl, ?_⟩) ?_ ?_
       rotate_left
       ·exact Z15
       rotate_left
       ·exact Z1
       refine pure_ (i := 17) (N := some 30) (v := undef) (a' := ?_) #[T,T,T,T,T,T,T,T,T,T,T,T,T,T,T,T,T,T,F,F,F,F,F,F,F,F,F,F,F,F,F,F,F,F,F,F,F,F,F,F,F,F,F,F] rfl rfl ZA ZF (Or.inr ⟨by rfl, rfl⟩) ?_ ?_
       rotate_left
       ·exact Z1
       refine pure_ (i := 18) (N := some 31) (v := undef) (a' := ?_) #[T,T,T,T,T,T,T,T,T,T,T,T,T,T,T,T,T,T,T,F,F,F,F,F,F,F,F,F,F,F,F,F,F,F,F,F,F,F,F,F,F,F,F,F] rfl rfl ZA ZF (Or.inr ⟨by rfl, rfl⟩) ?_ ?_
       rotate_left
       ·exact Z1
       refine pure_ (i := 19) (N := some 32) (v := undef) (a' := ?_) #[T,T,T,T,T,T,T,T,T,T,T,T,T,T,T,T,T,T,T,T,F,F,F,F,F,F,F,F,F,F,F,F,F,F,F,F,F,F,F,F,F,F,F,F] rfl rfl ZA ZF (Or.inr ⟨by rfl, rfl⟩) ?_ ?_
       rotate_left
       ·exact Z1
       refine pure_ (i := 20) (N := some 33) (v := undef) (a' := ?_) #[T,T,T,T,T,T,T,T,T,T,T,T,T,T,T,T,T,T,T,T,T,F,F,F,F,F,F,F,F,F,F,F,F,F,F,F,F,F,F,F,F,F,F,F] rfl rfl ZA ZF (Or.inr ⟨by rfl, rfl⟩) ?_ ?_
       rotate_left
       ·exact Z1
       refine pure_ (i := 21) (N := some 34) (v := undef) (a' := ?_) #[T,T,T,T,T,T,T,T,T,T,T,T,T,T,T,T,T,T,T,T,T,T,F,F,F,F,F,F,F,F,F,F,F,F,F,F,F,F,F,F,F,F,F,F] rfl rfl ZA ZF (Or.inr ⟨by rfl, rfl⟩) ?_ ?_
       rotate_left
       ·exact Z1
       refine pure_ (i := 22) (N := some 35) (v := undef) (a' := ?_) #[T,T,T,T,T,T,T,T,T,T,T,T,T,T,T,T,T,T,T,T,T,T,T,F,F,F,F,F,F,F,F,F,F,F,F,F,F,F,F,F,F,F,F,F] rfl rfl ZA ZF (Or.inr ⟨by rfl, rfl⟩) ?_ ?_
       rotate_left
       ·exact Z1
       refine pure_ (i := 23) (N := some 36) (v := undef) (a' := ?_) #[T,T,T,T,T,T,T,T,T,T,T,T,T,T,T,T,T,T,T,T,T,T,T,T,F,F,F,F,F,F,F,F,F,F,F,F,F,F,F,F,F,F,F,F] rfl rfl ZA ZF (Or.inr ⟨by rfl, rfl⟩) ?_ ?_
       rotate_left
       ·exact Z1
       refine pure_ (i := 24) (N := some 37) (v := ?_) (a' := ?_) #[T,T,T,T,T,T,T,T,T,T,T,T,T,T,T,T,T,T,T,T,T,T,T,T,T,F,F,F,F,F,F,F,F,F,F,F,F,F,F,F,F,F,F,F] rfl rfl ZA ZF (Or.inl ⟨by rfl, ?_⟩) ?_ ?_
       rotate_left
       ·exact Z15
       rotate_left
       ·exact Z1
       refine pure_ (i := 25) (N := some 38) (v := ?_) (a' := ?_) #[T,T,T,T,T,T,T,T,T,T,T,T,T,T,T,T,T,T,T,T,T,T,T,T,T,T,F,F,F,F,F,F,F,F,F,F,F,F,F,F,F,F,F,F] rfl rfl ZA ZF (Or.inl ⟨by rfl, ?_⟩) ?_ ?_
       rotate_left
       ·exact Z15
       rotate_left
       ·exact Z1
       refine pure_ (i := 26) (N := some 39) (v := undef) (a' := ?_) #[T,T,T,T,T,T,T,T,T,T,T,T,T,T,T,T,T,T,T,T,T,T,T,T,T,T,T,F,F,F,F,F,F,F,F,F,F,F,F,F,F,F,F,F] rfl rfl ZA ZF (Or.inr ⟨by rfl, rfl⟩) ?_ ?_
       rotate_left
       ·exact Z1
       refine pure_ (i := 27) (N := some 40) (v := undef) (a' := ?_) #[T,T,T,T,T,T,T,T,T,T,T,T,T,T,T,T,T,T,T,T,T,T,T,T,T,T,T,T,F,F,F,F,F,F,F,F,F,F,F,F,F,F,F,F] rfl rfl ZA ZF (Or.inr ⟨by rfl, rfl⟩) ?_ ?_
       rotate_left
       ·exact Z1
       refine pure_ (i := 28) (N := some 41) (v := undef) (a' := ?_) #[T,T,T,T,T,T,T,T,T,T,T,T,T,T,T,T,T,T,T,T,T,T,T,T,T,T,T,T,T,F,F,F,F,F,F,F,F,F,F,F,F,F,F,F] rfl rfl ZA ZF (Or.inr ⟨by rfl, rfl⟩) ?_ ?_
       rotate_left
       ·exact Z1
       refine pure_ (i := 29) (N := some 42) (v := undef) (a' := ?_) #[T,T,T,T,T,T,T,T,T,T,T,T,T,T,T,T,T,T,T,T,T,T,T,T,T,T,T,T,T,T,F,F,F,F,F,F,F,F,F,F,F,F,F,F] rfl rfl ZA ZF (Or.inr ⟨by rfl, rfl⟩) ?_ ?_
       rotate_left
       ·exact Z1
       refine pure_ (i := 30) (N := some 43) (v := undef) (a' := ?_) #[T,T,T,T,T,T,T,T,T,T,T,T,T,T,T,T,T,T,T,T,T,T,T,T,T,T,T,T,T,T,T,F,F,F,F,F,F,F,F,F,F,F,F,F] rfl rfl ZA ZF (Or.inr ⟨by rfl, rfl⟩) ?_ ?_
       rotate_left
       ·exact Z1
       refine pure_ (i := 31) (N := some 44) (v := undef) (a' := ?_) #[T,T,T,T,T,T,T,T,T,T,T,T,T,T,T,T,T,T,T,T,T,T,T,T,T,T,T,T,T,T,T,T,F,F,F,F,F,F,F,F,F,F,F,F] rfl rfl ZA ZF (Or.inr ⟨by rfl, rfl⟩) ?_ ?_
       rotate_left
       ·exact Z1
       refine pure_ (i := 32) (N := some 45) (v := undef) (a' := ?_) #[T,T,T,T,T,T,T,T,T,T,T,T,T,T,T,T,T,T,T,T,T,T,T,T,T,T,T,T,T,T,T,T,T,F,F,F,F,F,F,F,F,F,F,F] rfl rfl ZA ZF (Or.inr ⟨by rfl, rfl⟩) ?_ ?_
       rotate_left
       ·exact Z1
       refine pure_ (i := 33) (N := some 46) (v := undef) (a' := ?_) #[T,T,T,T,T,T,T,T,T,T,T,T,T,T,T,T,T,T,T,T,T,T,T,T,T,T,T,T,T,T,T,T,T,T,F,F,F,F,F,F,F,F,F,F] rfl rfl ZA ZF (Or.inr ⟨by rfl, rfl⟩) ?_ ?_
       rotate_left
       ·exact Z1
       refine pure_ (i := 34) (N := some 47) (v := undef) (a' := ?_) #[T,T,T,T,T,T,T,T,T,T,T,T,T,T,T,T,T,T,T,T,T,T,T,T,T,T,T,T,T,T,T,T,T,T,T,F,F,F,F,F,F,F,F,F] rfl rfl ZA ZF (Or.inr ⟨by rfl, rfl⟩) ?_ ?_
       rotate_left
       ·exact Z1
       refine pure_ (i := 35) (N := some 48) (v := undef) (a' := ?_) #[T,T,T,T,T,T,T,T,T,T,T,T,T,T,T,T,T,T,T,T,T,T,T,T,T,T,T,T,T,T,T,T,T,T,T,T,F,F,F,F,F,F,F,F] rfl rfl ZA ZF (Or.inr ⟨by rfl, rfl⟩) ?_ ?_
       rotate_left
       ·exact Z1
       refine pure_ (i := 36) (N := some 49) (v := undef) (a' := ?_) #[T,T,T,T,T,T,T,T,T,T,T,T,T,T,T,T,T,T,T,T,T,T,T,T,T,T,T,T,T,T,T,T,T,T,T,T,T,F,F,F,F,F,F,F] rfl rfl ZA ZF (Or.inr ⟨by rfl, rfl⟩) ?_ ?_
       rotate_left
       ·exact Z1
       refine pure_ (i := 37) (N := some 50) (v := undef) (a' := ?_) #[T,T,T,T,T,T,T,T,T,T,T,T,T,T,T,T,T,T,T,T,T,T,T,T,T,T,T,T,T,T,T,T,T,T,T,T,T,T,F,F,F,F,F,F] rfl rfl ZA ZF (Or.inr ⟨by rfl, rfl⟩) ?_ ?_
       rotate_left
       ·exact Z1
       refine pure_ (i := 38) (N := some 51) (v := undef) (a' := ?_) #[T,T,T,T,T,T,T,T,T,T,T,T,T,T,T,T,T,T,T,T,T,T,T,T,T,T,T,T,T,T,T,T,T,T,T,T,T,T,T,F,F,F,F,F] rfl rfl ZA ZF (Or.inr ⟨by rfl, rfl⟩) ?_ ?_
       rotate_left
       ·exact Z1
       refine pure_ (i := 39) (N := some 52) (v := undef) (a' := ?_) #[T,T,T,T,T,T,T,T,T,T,T,T,T,T,T,T,T,T,T,T,T,T,T,T,T,T,T,T,T,T,T,T,T,T,T,T,T,T,T,T,F,F,F,F] rfl rfl ZA ZF (Or.inr ⟨by rfl, rfl⟩) ?_ ?_
       rotate_left
       ·exact Z1
       refine pure_ (i := 40) (N := some 53) (v := undef) (a' := ?_) #[T,T,T,T,T,T,T,T,T,T,T,T,T,T,T,T,T,T,T,T,T,T,T,T,T,T,T,T,T,T,T,T,T,T,T,T,T,T,T,T,T,F,F,F] rfl rfl ZA ZF (Or.inr ⟨by rfl, rfl⟩) ?_ ?_
       rotate_left
       ·exact Z1
       refine pure_ (i := 41) (N := some 54) (v := undef) (a' := ?_) #[T,T,T,T,T,T,T,T,T,T,T,T,T,T,T,T,T,T,T,T,T,T,T,T,T,T,T,T,T,T,T,T,T,T,T,T,T,T,T,T,T,T,F,F] rfl rfl ZA ZF (Or.inr ⟨by rfl, rfl⟩) ?_ ?_
       rotate_left
       ·exact Z1
       refine pure_ (i := 42) (N := some 55) (v := undef) (a' := ?_) #[T,T,T,T,T,T,T,T,T,T,T,T,T,T,T,T,T,T,T,T,T,T,T,T,T,T,T,T,T,T,T,T,T,T,T,T,T,T,T,T,T,T,T,F] rfl rfl ZA ZF (Or.inr ⟨by rfl, rfl⟩) ?_ ?_
       rotate_left
       ·exact Z1
       refine pure_ (i := 43) (N := some 56) (v := ?_) (a' := ?_) #[T,T,T,T,T,T,T,T,T,T,T,T,T,T,T,T,T,T,T,T,T,T,T,T,T,T,T,T,T,T,T,T,T,T,T,T,T,T,T,T,T,T,T,T] rfl rfl ZA ZF (Or.inl ⟨by rfl, ?_⟩) ?_ ?_
       rotate_left
       ·exact Z15
       rotate_left
       ·exact Z1
       refine done_ (done_of HT_.out (by kernel_rfl)) ?_
       try go_wp2
       go_ret
       exact ⟨Z14, Z0⟩
     ·exact Z45
    ·rw [if_neg c3] at H
     have c3b0 : decide (x3_1 < (l0.length : Int)) = false := decide_eq_false c3
     clear c3
     obtain rfl := Option.some.inj H
     go_wp2
     go_ret
     exact ⟨Z14, Z0⟩
end Go.Proofs.Ytpadhphdglbciaa.PFnExactStorePut
