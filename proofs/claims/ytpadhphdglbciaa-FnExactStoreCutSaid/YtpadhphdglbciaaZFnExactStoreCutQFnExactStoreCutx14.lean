/- Walks of the functions that the law 'FnExactStoreCut' reaches, part 14: for each a Lean function and the proof that Go's comes to just its answer (lines of the print, under own names; no condition). -/
import Derived.Test.YtpadhphdglbciaaZFnExactStoreCutQFnExactStoreCutx0
import Derived.Test.YtpadhphdglbciaaZFnExactStoreCutQFnExactStoreCutx4
namespace Go.Proofs.Ytpadhphdglbciaa.PFnExactStoreCut
open Go.RowKit Go.Proofs.YtpadhphdglbciaaW.PrintWords Go.Proofs.YtpadhphdglbciaaW.PrintLast Go.Proofs.YtpadhphdglbciaaW.PrintMore
attribute [local go_sem] max2_int min2_int max_two min_two max_three min_three max_four min_four
set_option linter.unusedVariables false
set_option linter.unusedSimpArgs false
def laws_heldValueS.l0 : Nat → List (S99) → Int → Int → Option (Int)
 | 0, _, _, _ => none
 | k + 1, x0, x1, x5 => if x5 < (x0.length : Int) then (if 0 ≤ x5 then (if ((rd_T99 x0 x5).f0) = x1 then (if ((rd_T99 x0 x5).f1) = (wrap64 (x1 + 1)) then ((laws_markText.f k (wrap64 ((wrap64 (x1 + 1)) + 1))).bind fun t295 => (if ((rd_T99 x0 x5).f2).toList = t295.toList then (laws_heldValueS.l0 k x0 (wrap64 ((wrap64 ((wrap64 (x1 + 1)) + 1)) + 1)) (wrap64 (x5 + 1))) else (some (-1)))) else (some (-1))) else (some (-1))) else (none)) else (some x1)
def laws_heldValueS.f (k : Nat) (l0 : List (S99)) (a1 : Int) : Option (Int) := laws_heldValueS.l0 k l0 a1 0
theorem laws_heldValueS.mono_l : ∀ k, (∀ y0 y1 y2, LeO (laws_heldValueS.l0 k y0 y1 y2) (laws_heldValueS.l0 (k + 1) y0 y1 y2))
 | 0 => fun _ _ _ r h => by simp [laws_heldValueS.l0] at h
 | k + 1 => by
  have ih0 := laws_heldValueS.mono_l k
  ·intro y0 y1 y2
   unfold laws_heldValueS.l0
   repeat' first
   | (with_reducible exact ih0 _ _ _)
   | (with_reducible exact laws_markText.mono _ _)
   | (with_reducible exact LeO.refl _)
   | (with_reducible exact LeO.none _)
   | (with_reducible refine LeO.ite ?_ ?_)
   | (with_reducible refine LeO.bind ?_ (fun _ => ?_))
   | exact ih0 _ _ _
   | exact laws_markText.mono _ _
   | exact LeO.none _
   | refine LeO.ite ?_ ?_
   | refine LeO.bind ?_ (fun _ => ?_)
theorem laws_heldValueS.mono : ∀ a0 a1 k, LeO (laws_heldValueS.f k a0 a1) (laws_heldValueS.f (k + 1) a0 a1) := by
 intro a0 a1 k
 have ih0 := laws_heldValueS.mono_l k
 unfold laws_heldValueS.f
 repeat' first
   | (with_reducible exact ih0 _ _ _)
   | (with_reducible exact laws_markText.mono _ _)
   | (with_reducible exact LeO.refl _)
   | (with_reducible exact LeO.none _)
   | (with_reducible refine LeO.ite ?_ ?_)
   | (with_reducible refine LeO.bind ?_ (fun _ => ?_))
   | exact ih0 _ _ _
   | exact laws_markText.mono _ _
   | exact LeO.none _
   | refine LeO.ite ?_ ?_
   | refine LeO.bind ?_ (fun _ => ?_)
def laws_heldValueS.T10 : Bool × List (List Nat × List Nat) := (true, [([], []), ([], []), ([0, 1], [0, 1]), ([2], [2]), ([3], [3]), ([], []), ([5], [5]), ([4, 6], [4, 6])])
def laws_heldValueS.B10 : List Nat := [0, 0, 3, 7, 15, 0, 32, 127]
theorem laws_heldValueS.tab10 : rtab .any (opsOf Try.f30 10) = laws_heldValueS.T10 := by kernel_rfl
theorem laws_heldValueS.bits10 : waitsOk laws_heldValueS.T10.2 laws_heldValueS.B10 = true := by kernel_rfl
set_option maxHeartbeats 8000000 in
set_option maxRecDepth 100000 in
theorem laws_heldValueS.calls (k : Nat) (A0 : Option Addr) (c0 : Nat) (l0 : List (S99)) (a1 : Int) (r : Int) (w : World) (hr0 : Kd.C k99 w A0 l0.length l0) (hc0 : l0.length ≤ c0) (h : laws_heldValueS.f k l0 a1 = some r) :
  Calls Try.prog 30 #[.slice A0 l0.length c0, .int .i64 a1] w fun e w' => e = .returned (.int .i64 r) ∧ Below w.heap.size w w' := by
 have HR0 := A_ hr0
 have HC0 := A_ hc0
 clear hr0 hc0
 have HB := A_ (Below.refl w.heap.size w)
 have H : (laws_heldValueS.l0 k l0 a1 0) = some r := h
 clear h
 have H' := A_ H
 clear H
 go_enter Try.func30, Try.ntmps30
 go_wp2
 go_loopg [1, 5] k (fun kq v1 v5 w' => ∃ (x1_1 : Int) (x5_1 : Int), v1 = .int .i64 x1_1 ∧ v5 = .int .i64 x5_1 ∧ Aside0 (laws_heldValueS.l0 kq l0 x1_1 x5_1 = some r) ∧ Aside0 (kq ≤ k) ∧ Aside0 (Below w.heap.size w w'))
 case atStart => exact ⟨(a1), (0), Z18, Z18, H', ⟨Nat.le_refl _⟩, ⟨Z0⟩⟩
 case round =>
  clear H'
  try clear p2
  obtain ⟨x1_1, x5_1, rfl, rfl, HA, HK1, HB⟩ := hrel
  cases gk with
  | zero => exact absurd HA.out (by simp [laws_heldValueS.l0])
  | succ k1 =>
   have H := HA.out
   clear HA
   simp only [laws_heldValueS.l0] at H
   by_cases c3 : x5_1 < (l0.length : Int)
   ·rw [if_pos c3] at H
    have c3b0 : decide (x5_1 < (l0.length : Int)) = true := decide_eq_true c3
    clear c3
    by_cases c4 : 0 ≤ x5_1
    ·rw [if_pos c4] at H
     have c4b0 : decide (0 ≤ x5_1) = true := decide_eq_true c4
     clear c4
     by_cases c5 : ((rd_T99 l0 x5_1).f0) = x1_1
     ·rw [if_pos c5] at H
      have c5b0 : (((rd_T99 l0 x5_1).f0) == x1_1) = true := beq_iff_eq.mpr c5
      have c5b1 : (((rd_T99 l0 x5_1).f0) != x1_1) = false := bne_eq_false_iff_eq.mpr c5
      clear c5
      by_cases c6 : ((rd_T99 l0 x5_1).f1) = (wrap64 (x1_1 + 1))
      ·rw [if_pos c6] at H
       have c6b0 : (((rd_T99 l0 x5_1).f1) == (wrap64 (x1_1 + 1))) = true := beq_iff_eq.mpr c6
       have c6b1 : (((rd_T99 l0 x5_1).f1) != (wrap64 (x1_1 + 1))) = false := bne_eq_false_iff_eq.mpr c6
       clear c6
       replace H := Option.bind_eq_some_iff.mp H
       obtain ⟨t295, A70, H⟩ := H
       replace H : (if ((rd_T99 l0 x5_1).f2).toList = t295.toList then (laws_heldValueS.l0 k1 l0 (wrap64 ((wrap64 ((wrap64 (x1_1 + 1)) + 1)) + 1)) (wrap64 (x5_1 + 1))) else (some (-1))) = some r := H
       have A7 := A_ A70
       clear A70
       by_cases c8 : ((rd_T99 l0 x5_1).f2).toList = t295.toList
       ·rw [if_pos c8] at H
        have c8b0 : (((rd_T99 l0 x5_1).f2).toList == t295.toList) = true := beq_iff_eq.mpr c8
        have c8b1 : (((rd_T99 l0 x5_1).f2).toList != t295.toList) = false := bne_eq_false_iff_eq.mpr c8
        clear c8
        have H' := A_ H
        clear H
        have p292 : 0 ≤ (x5_1 : Int) := of_decide_eq_true Z12
        have q292 : x5_1 < (l0.length : Int) := of_decide_eq_true Z12
        obtain ⟨ad292, e292, hx292_0, hx292_1, hx292_2⟩ := at_T99 HR0.out x5_1 p292 q292
        cases e292
        replace hx292_0 := ZC HB.out hx292_0
        replace hx292_1 := ZC HB.out hx292_1
        replace hx292_2 := ZC HB.out hx292_2
        replace p292 := eq_true p292
        replace q292 := eq_true q292
        have p293 : 0 ≤ (x5_1 : Int) := of_decide_eq_true Z12
        have q293 : x5_1 < (l0.length : Int) := of_decide_eq_true Z12
        obtain ⟨ad293, e293, hx293_0, hx293_1, hx293_2⟩ := at_T99 HR0.out x5_1 p293 q293
        obtain rfl : ad292 = ad293 := (by injection e293)
        replace hx293_0 := ZC HB.out hx293_0
        replace hx293_1 := ZC HB.out hx293_1
        replace hx293_2 := ZC HB.out hx293_2
        replace p293 := eq_true p293
        replace q293 := eq_true q293
        try go_wp2
        have n0_ := A_ (below_drew1 HB.out)
        clear HB
        have HB := n0_
        clear n0_
        have p294 : 0 ≤ (x5_1 : Int) := of_decide_eq_true Z12
        have q294 : x5_1 < (l0.length : Int) := of_decide_eq_true Z12
        obtain ⟨ad294, e294, hx294_0, hx294_1, hx294_2⟩ := at_T99 HR0.out x5_1 p294 q294
        have hw294_2 := hx294_2
        have hw294_1 := hx294_1
        have hw294_0 := hx294_0
        obtain rfl : ad292 = ad294 := (by injection e294)
        replace hx294_0 := ZC HB.out hx294_0
        replace hx294_1 := ZC HB.out hx294_1
        replace hx294_2 := ZC HB.out hx294_2
        replace p294 := eq_true p294
        replace q294 := eq_true q294
        refine start_ (n := 8) (S := fun w' => w'.cell? (ad292.add ((x5_1).toNat * 3)) = some (.int .i64 ((rd_T99 l0 x5_1).f0)) ∧ w'.cell? ⟨(ad292.add ((x5_1).toNat * 3)).block, (ad292.add ((x5_1).toNat * 3)).off + 1, none⟩ = some (.int .i64 ((rd_T99 l0 x5_1).f1)) ∧ w'.cell? ⟨(ad292.add ((x5_1).toNat * 3)).block, (ad292.add ((x5_1).toNat * 3)).off + 2, none⟩ = some (.string ((rd_T99 l0 x5_1).f2))) (ds := []) #[F,F,F,F,F,F,F,F] (by kernel_rfl) rfl rfl ⟨(ZC HB.out hw294_0 :), (ZC HB.out hw294_1 :), (ZC HB.out hw294_2 :)⟩ (fun hHeld => ?_); refine with_tabW laws_heldValueS.tab10 laws_heldValueS.bits10 (fun HT_ HW_ => ?_)
        generalize wr.drew = w9 at HB hx294_0 hx294_1 hx294_2 hHeld ⊢
        refine pure_ (i := 0) (N := some 30) (v := ?_) (a' := ?_) #[T,F,F,F,F,F,F,F] rfl rfl ZA ZF (Or.inl ⟨by rfl, ?_⟩) ?_ ?_
        rotate_left
        ·exact Z16
        rotate_left
        ·exact Z1
        refine pure_ (i := 1) (N := some 31) (v := ?_) (a' := ?_) #[T,T,F,F,F,F,F,F] rfl rfl ZA ZF (Or.inl ⟨by rfl, ?_⟩) ?_ ?_
        rotate_left
        ·exact Z16
        rotate_left
        ·exact Z1
        refine pure_ (i := 2) (N := some 32) (v := ?_) (a' := ?_) #[T,T,T,F,F,F,F,F] rfl rfl ZA ZF (Or.inl ⟨by rfl, ?_⟩) ?_ ?_
        rotate_left
        ·exact Z16
        rotate_left
        ·exact Z1
        refine pure_ (i := 3) (N := some 33) (v := ?_) (a' := ?_) #[T,T,T,T,F,F,F,F] rfl rfl ZA ZF (Or.inl ⟨by rfl, ?_⟩) ?_ ?_
        rotate_left
        ·exact Z16
        rotate_left
        ·exact Z1
        refine pure_ (i := 5) (N := some 35) (v := ?_) (a' := ?_) #[T,T,T,T,F,T,F,F] rfl rfl ZA ZF (Or.inl ⟨by rfl, ?_⟩) ?_ ?_
        rotate_left
        ·exact Z16
        rotate_left
        ·exact Z1
        refine take_ (i := 4) (N := some 34) (v := ?_) (a' := ?_) #[T,T,T,T,T,T,F,F] rfl rfl (take_ofW HT_.out HW_.out (by kernel_rfl)) ZF (Or.inl ⟨by rfl, ?_⟩) hHeld ?_ ?_
        rotate_left
        ·rintro w' ⟨s0, s1, s2⟩
         go_simp
         with_reducible rfl
        rotate_left
        ·exact Z1
        refine one_ (i := 6) (N := some 36) #[T,T,T,T,T,T,T,F] rfl rfl (one_of HT_.out (by kernel_rfl)) (by decide) (fun K hK => ?_)
        refine goes_ Try.func69 (by kernel_rfl) rfl #[.int .i64 (wrap64 ((wrap64 (x1_1 + 1)) + 1))] (by rfl) rfl rfl Z3 ?_
        with_reducible refine (laws_markText.calls k1 (wrap64 ((wrap64 (x1_1 + 1)) + 1)) t295 _ A7.out).mono ?_
        rintro e w10 ⟨rfl, hb⟩
        refine ⟨_, rfl, ?_⟩
        have n0_ := A_ (below_step Z0 hb)
        clear HB
        have HB := n0_
        clear n0_
        (try clear hb)
        (try clear hb2)
        (try clear hk)
        (try clear hi)
        refine hK.out _ _ ⟨(ZC HB.out hw294_0 :), (ZC HB.out hw294_1 :), (ZC HB.out hw294_2 :)⟩ (fun hHeld => ?_)
        clear hK K
        refine norm_ (a' := ?_) ?_ ?_
        rotate_left
        ·show Act.put _ (some 36) _ = _
         simp only [Act.put, List.setIfInBounds_toArray, List.set_cons_zero, List.set_cons_succ, i64_w, i32_w]
         rfl
        refine pure_ (i := 7) (N := some 37) (v := ?_) (a' := ?_) #[T,T,T,T,T,T,T,T] rfl rfl ZA ZF (Or.inl ⟨by rfl, ?_⟩) ?_ ?_
        rotate_left
        ·exact Z16
        rotate_left
        ·exact Z1
        refine done_ (done_of HT_.out (by kernel_rfl)) ?_
        try go_wp2
        go_roundg k1
        case measure => have := HK1.out; omega
        case rel => exact ⟨(wrap64 ((wrap64 ((wrap64 (x1_1 + 1)) + 1)) + 1)), (wrap64 (x5_1 + 1)), Z18, Z18, H', ⟨by have := HK1.out; omega⟩, ⟨Z0⟩⟩
       ·rw [if_neg c8] at H
        have c8b0 : (((rd_T99 l0 x5_1).f2).toList == t295.toList) = false := beq_eq_false_iff_ne.mpr c8
        have c8b1 : (((rd_T99 l0 x5_1).f2).toList != t295.toList) = true := bne_iff_ne.mpr c8
        obtain rfl := Option.some.inj H
        have p292 : 0 ≤ (x5_1 : Int) := of_decide_eq_true Z12
        have q292 : x5_1 < (l0.length : Int) := of_decide_eq_true Z12
        obtain ⟨ad292, e292, hx292_0, hx292_1, hx292_2⟩ := at_T99 HR0.out x5_1 p292 q292
        cases e292
        replace hx292_0 := ZC HB.out hx292_0
        replace hx292_1 := ZC HB.out hx292_1
        replace hx292_2 := ZC HB.out hx292_2
        replace p292 := eq_true p292
        replace q292 := eq_true q292
        have p293 : 0 ≤ (x5_1 : Int) := of_decide_eq_true Z12
        have q293 : x5_1 < (l0.length : Int) := of_decide_eq_true Z12
        obtain ⟨ad293, e293, hx293_0, hx293_1, hx293_2⟩ := at_T99 HR0.out x5_1 p293 q293
        obtain rfl : ad292 = ad293 := (by injection e293)
        replace hx293_0 := ZC HB.out hx293_0
        replace hx293_1 := ZC HB.out hx293_1
        replace hx293_2 := ZC HB.out hx293_2
        replace p293 := eq_true p293
        replace q293 := eq_true q293
        try go_wp2
        have n0_ := A_ (below_drew1 HB.out)
        clear HB
        have HB := n0_
        clear n0_
        have p294 : 0 ≤ (x5_1 : Int) := of_decide_eq_true Z12
        have q294 : x5_1 < (l0.length : Int) := of_decide_eq_true Z12
        obtain ⟨ad294, e294, hx294_0, hx294_1, hx294_2⟩ := at_T99 HR0.out x5_1 p294 q294
        have hw294_2 := hx294_2
        have hw294_1 := hx294_1
        have hw294_0 := hx294_0
        obtain rfl : ad292 = ad294 := (by injection e294)
        replace hx294_0 := ZC HB.out hx294_0
        replace hx294_1 := ZC HB.out hx294_1
        replace hx294_2 := ZC HB.out hx294_2
        replace p294 := eq_true p294
        replace q294 := eq_true q294
        refine start_ (n := 8) (S := fun w' => w'.cell? (ad292.add ((x5_1).toNat * 3)) = some (.int .i64 ((rd_T99 l0 x5_1).f0)) ∧ w'.cell? ⟨(ad292.add ((x5_1).toNat * 3)).block, (ad292.add ((x5_1).toNat * 3)).off + 1, none⟩ = some (.int .i64 ((rd_T99 l0 x5_1).f1)) ∧ w'.cell? ⟨(ad292.add ((x5_1).toNat * 3)).block, (ad292.add ((x5_1).toNat * 3)).off + 2, none⟩ = some (.string ((rd_T99 l0 x5_1).f2))) (ds := []) #[F,F,F,F,F,F,F,F] (by kernel_rfl) rfl rfl ⟨(ZC HB.out hw294_0 :), (ZC HB.out hw294_1 :), (ZC HB.out hw294_2 :)⟩ (fun hHeld => ?_); refine with_tabW laws_heldValueS.tab10 laws_heldValueS.bits10 (fun HT_ HW_ => ?_)
        generalize wr.drew = w11 at HB hx294_0 hx294_1 hx294_2 hHeld ⊢
        refine pure_ (i := 0) (N := some 30) (v := ?_) (a' := ?_) #[T,F,F,F,F,F,F,F] rfl rfl ZA ZF (Or.inl ⟨by rfl, ?_⟩) ?_ ?_
        rotate_left
        ·exact Z16
        rotate_left
        ·exact Z1
        refine pure_ (i := 1) (N := some 31) (v := ?_) (a' := ?_) #[T,T,F,F,F,F,F,F] rfl rfl ZA ZF (Or.inl ⟨by rfl, ?_⟩) ?_ ?_
        rotate_left
        ·exact Z16
        rotate_left
        ·exact Z1
        refine pure_ (i := 2) (N := some 32) (v := ?_) (a' := ?_) #[T,T,T,F,F,F,F,F] rfl rfl ZA ZF (Or.inl ⟨by rfl, ?_⟩) ?_ ?_
        rotate_left
        ·exact Z16
        rotate_left
        ·exact Z1
        refine pure_ (i := 3) (N := some 33) (v := ?_) (a' := ?_) #[T,T,T,T,F,F,F,F] rfl rfl ZA ZF (Or.inl ⟨by rfl, ?_⟩) ?_ ?_
        rotate_left
        ·exact Z16
        rotate_left
        ·exact Z1
        refine pure_ (i := 5) (N := some 35) (v := ?_) (a' := ?_) #[T,T,T,T,F,T,F,F] rfl rfl ZA ZF (Or.inl ⟨by rfl, ?_⟩) ?_ ?_
        rotate_left
        ·exact Z16
        rotate_left
        ·exact Z1
        refine take_ (i := 4) (N := some 34) (v := ?_) (a' := ?_) #[T,T,T,T,T,T,F,F] rfl rfl (take_ofW HT_.out HW_.out (by kernel_rfl)) ZF (Or.inl ⟨by rfl, ?_⟩) hHeld ?_ ?_
        rotate_left
        ·rintro w' ⟨s0, s1, s2⟩
         go_simp
         with_reducible rfl
        rotate_left
        ·exact Z1
        refine one_ (i := 6) (N := some 36) #[T,T,T,T,T,T,T,F] rfl rfl (one_of HT_.out (by kernel_rfl)) (by decide) (fun K hK => ?_)
        refine goes_ Try.func69 (by kernel_rfl) rfl #[.int .i64 (wrap64 ((wrap64 (x1_1 + 1)) + 1))] (by rfl) rfl rfl Z3 ?_
        with_reducible refine (laws_markText.calls k1 (wrap64 ((wrap64 (x1_1 + 1)) + 1)) t295 _ A7.out).mono ?_
        rintro e w12 ⟨rfl, hb⟩
        refine ⟨_, rfl, ?_⟩
        have n0_ := A_ (below_step Z0 hb)
        clear HB
        have HB := n0_
        clear n0_
        (try clear hb)
        (try clear hb2)
        (try clear hk)
        (try clear hi)
        refine hK.out _ _ ⟨(ZC HB.out hw294_0 :), (ZC HB.out hw294_1 :), (ZC HB.out hw294_2 :)⟩ (fun hHeld => ?_)
        clear hK K
        refine norm_ (a' := ?_) ?_ ?_
        rotate_left
        ·show Act.put _ (some 36) _ = _
         simp only [Act.put, List.setIfInBounds_toArray, List.set_cons_zero, List.set_cons_succ, i64_w, i32_w]
         rfl
        refine pure_ (i := 7) (N := some 37) (v := ?_) (a' := ?_) #[T,T,T,T,T,T,T,T] rfl rfl ZA ZF (Or.inl ⟨by rfl, ?_⟩) ?_ ?_
        rotate_left
        ·exact Z16
        rotate_left
        ·exact Z1
        refine done_ (done_of HT_.out (by kernel_rfl)) ?_
        try go_wp2
        go_ret
        exact ⟨Z15, Z0⟩
      ·rw [if_neg c6] at H
       have c6b0 : (((rd_T99 l0 x5_1).f1) == (wrap64 (x1_1 + 1))) = false := beq_eq_false_iff_ne.mpr c6
       have c6b1 : (((rd_T99 l0 x5_1).f1) != (wrap64 (x1_1 + 1))) = true := bne_iff_ne.mpr c6
       obtain rfl := Option.some.inj H
       have p292 : 0 ≤ (x5_1 : Int) := of_decide_eq_true Z12
       have q292 : x5_1 < (l0.length : Int) := of_decide_eq_true Z12
       obtain ⟨ad292, e292, hx292_0, hx292_1, hx292_2⟩ := at_T99 HR0.out x5_1 p292 q292
       cases e292
       replace hx292_0 := ZC HB.out hx292_0
       replace hx292_1 := ZC HB.out hx292_1
       replace hx292_2 := ZC HB.out hx292_2
       replace p292 := eq_true p292
       replace q292 := eq_true q292
       have p293 : 0 ≤ (x5_1 : Int) := of_decide_eq_true Z12
       have q293 : x5_1 < (l0.length : Int) := of_decide_eq_true Z12
       obtain ⟨ad293, e293, hx293_0, hx293_1, hx293_2⟩ := at_T99 HR0.out x5_1 p293 q293
       obtain rfl : ad292 = ad293 := (by injection e293)
       replace hx293_0 := ZC HB.out hx293_0
       replace hx293_1 := ZC HB.out hx293_1
       replace hx293_2 := ZC HB.out hx293_2
       replace p293 := eq_true p293
       replace q293 := eq_true q293
       go_wp2
       go_ret
       exact ⟨Z15, Z0⟩
     ·rw [if_neg c5] at H
      have c5b0 : (((rd_T99 l0 x5_1).f0) == x1_1) = false := beq_eq_false_iff_ne.mpr c5
      have c5b1 : (((rd_T99 l0 x5_1).f0) != x1_1) = true := bne_iff_ne.mpr c5
      obtain rfl := Option.some.inj H
      have p292 : 0 ≤ (x5_1 : Int) := of_decide_eq_true Z12
      have q292 : x5_1 < (l0.length : Int) := of_decide_eq_true Z12
      obtain ⟨ad292, e292, hx292_0, hx292_1, hx292_2⟩ := at_T99 HR0.out x5_1 p292 q292
      cases e292
      replace hx292_0 := ZC HB.out hx292_0
      replace hx292_1 := ZC HB.out hx292_1
      replace hx292_2 := ZC HB.out hx292_2
      replace p292 := eq_true p292
      replace q292 := eq_true q292
      go_wp2
      go_ret
      exact ⟨Z15, Z0⟩
    ·exact Z42
   ·rw [if_neg c3] at H
    have c3b0 : decide (x5_1 < (l0.length : Int)) = false := decide_eq_false c3
    clear c3
    obtain rfl := Option.some.inj H
    go_wp2
    go_ret
    exact ⟨Z15, Z0⟩
def laws_heldSlotS.l0 : Nat → List (S92) → Int → Int → Option (Int)
 | 0, _, _, _ => none
 | k + 1, x0, x1, x5 => if x5 < (x0.length : Int) then (if 0 ≤ x5 then (if ((rd_T92 x0 x5).f0) = x1 then (if ((rd_T92 x0 x5).f1) = (wrap64 (x1 + 1)) then (laws_heldSlotS.l0 k x0 (wrap64 ((wrap64 (x1 + 1)) + 1)) (wrap64 (x5 + 1))) else (some (-1))) else (some (-1))) else (none)) else (some x1)
def laws_heldSlotS.f (k : Nat) (l0 : List (S92)) (a1 : Int) : Option (Int) := laws_heldSlotS.l0 k l0 a1 0
theorem laws_heldSlotS.mono_l : ∀ k, (∀ y0 y1 y2, LeO (laws_heldSlotS.l0 k y0 y1 y2) (laws_heldSlotS.l0 (k + 1) y0 y1 y2))
 | 0 => fun _ _ _ r h => by simp [laws_heldSlotS.l0] at h
 | k + 1 => by
  have ih0 := laws_heldSlotS.mono_l k
  ·intro y0 y1 y2
   unfold laws_heldSlotS.l0
   repeat' first
   | (with_reducible exact ih0 _ _ _)
   | (with_reducible exact LeO.refl _)
   | (with_reducible exact LeO.none _)
   | (with_reducible refine LeO.ite ?_ ?_)
   | (with_reducible refine LeO.bind ?_ (fun _ => ?_))
   | exact ih0 _ _ _
   | exact LeO.none _
   | refine LeO.ite ?_ ?_
   | refine LeO.bind ?_ (fun _ => ?_)
theorem laws_heldSlotS.mono : ∀ a0 a1 k, LeO (laws_heldSlotS.f k a0 a1) (laws_heldSlotS.f (k + 1) a0 a1) := by
 intro a0 a1 k
 have ih0 := laws_heldSlotS.mono_l k
 unfold laws_heldSlotS.f
 repeat' first
   | (with_reducible exact ih0 _ _ _)
   | (with_reducible exact LeO.refl _)
   | (with_reducible exact LeO.none _)
   | (with_reducible refine LeO.ite ?_ ?_)
   | (with_reducible refine LeO.bind ?_ (fun _ => ?_))
   | exact ih0 _ _ _
   | exact LeO.none _
   | refine LeO.ite ?_ ?_
   | refine LeO.bind ?_ (fun _ => ?_)
set_option maxHeartbeats 8000000 in
set_option maxRecDepth 100000 in
theorem laws_heldSlotS.calls (k : Nat) (A0 : Option Addr) (c0 : Nat) (l0 : List (S92)) (a1 : Int) (r : Int) (w : World) (hr0 : Kd.C k92 w A0 l0.length l0) (hc0 : l0.length ≤ c0) (h : laws_heldSlotS.f k l0 a1 = some r) :
  Calls Try.prog 57 #[.slice A0 l0.length c0, .int .i64 a1] w fun e w' => e = .returned (.int .i64 r) ∧ Drawn0 w w' := by
 have HR0 := A_ hr0
 have HC0 := A_ hc0
 clear hr0 hc0
 have H : (laws_heldSlotS.l0 k l0 a1 0) = some r := h
 clear h
 have H' := A_ H
 clear H
 go_enter Try.func57, Try.ntmps57
 go_wp2
 go_loopg [1, 5] k (fun kq v1 v5 w' => ∃ (x1_1 : Int) (x5_1 : Int), v1 = .int .i64 x1_1 ∧ v5 = .int .i64 x5_1 ∧ Aside0 (laws_heldSlotS.l0 kq l0 x1_1 x5_1 = some r) ∧ Aside0 (kq ≤ k) ∧ Drawn0 w w')
 case atStart => exact ⟨(a1), (0), Z18, Z18, H', ⟨Nat.le_refl _⟩, Z22⟩
 case round =>
  clear H'
  try clear p2
  obtain ⟨x1_1, x5_1, rfl, rfl, HA, HK1, ⟨m1, rfl⟩⟩ := hrel
  cases gk with
  | zero => exact absurd HA.out (by simp [laws_heldSlotS.l0])
  | succ k1 =>
   have H := HA.out
   clear HA
   simp only [laws_heldSlotS.l0] at H
   by_cases c3 : x5_1 < (l0.length : Int)
   ·rw [if_pos c3] at H
    have c3b0 : decide (x5_1 < (l0.length : Int)) = true := decide_eq_true c3
    clear c3
    by_cases c4 : 0 ≤ x5_1
    ·rw [if_pos c4] at H
     have c4b0 : decide (0 ≤ x5_1) = true := decide_eq_true c4
     clear c4
     by_cases c5 : ((rd_T92 l0 x5_1).f0) = x1_1
     ·rw [if_pos c5] at H
      have c5b0 : (((rd_T92 l0 x5_1).f0) == x1_1) = true := beq_iff_eq.mpr c5
      have c5b1 : (((rd_T92 l0 x5_1).f0) != x1_1) = false := bne_eq_false_iff_eq.mpr c5
      clear c5
      by_cases c6 : ((rd_T92 l0 x5_1).f1) = (wrap64 (x1_1 + 1))
      ·rw [if_pos c6] at H
       have c6b0 : (((rd_T92 l0 x5_1).f1) == (wrap64 (x1_1 + 1))) = true := beq_iff_eq.mpr c6
       have c6b1 : (((rd_T92 l0 x5_1).f1) != (wrap64 (x1_1 + 1))) = false := bne_eq_false_iff_eq.mpr c6
       clear c6
       have H' := A_ H
       clear H
       have p296 : 0 ≤ (x5_1 : Int) := of_decide_eq_true Z12
       have q296 : x5_1 < (l0.length : Int) := of_decide_eq_true Z12
       obtain ⟨ad296, e296, hx296_0, hx296_1⟩ := at_T92 HR0.out x5_1 p296 q296
       cases e296
       replace p296 := eq_true p296
       replace q296 := eq_true q296
       have p297 : 0 ≤ (x5_1 : Int) := of_decide_eq_true Z12
       have q297 : x5_1 < (l0.length : Int) := of_decide_eq_true Z12
       obtain ⟨ad297, e297, hx297_0, hx297_1⟩ := at_T92 HR0.out x5_1 p297 q297
       obtain rfl : ad296 = ad297 := (by injection e297)
       replace p297 := eq_true p297
       replace q297 := eq_true q297
       go_wp2
       go_roundg k1
       case measure => have := HK1.out; omega
       case rel => exact ⟨(wrap64 ((wrap64 (x1_1 + 1)) + 1)), (wrap64 (x5_1 + 1)), Z18, Z18, H', ⟨by have := HK1.out; omega⟩, Z22⟩
      ·rw [if_neg c6] at H
       have c6b0 : (((rd_T92 l0 x5_1).f1) == (wrap64 (x1_1 + 1))) = false := beq_eq_false_iff_ne.mpr c6
       have c6b1 : (((rd_T92 l0 x5_1).f1) != (wrap64 (x1_1 + 1))) = true := bne_iff_ne.mpr c6
       obtain rfl := Option.some.inj H
       have p296 : 0 ≤ (x5_1 : Int) := of_decide_eq_true Z12
       have q296 : x5_1 < (l0.length : Int) := of_decide_eq_true Z12
       obtain ⟨ad296, e296, hx296_0, hx296_1⟩ := at_T92 HR0.out x5_1 p296 q296
       cases e296
       replace p296 := eq_true p296
       replace q296 := eq_true q296
       have p297 : 0 ≤ (x5_1 : Int) := of_decide_eq_true Z12
       have q297 : x5_1 < (l0.length : Int) := of_decide_eq_true Z12
       obtain ⟨ad297, e297, hx297_0, hx297_1⟩ := at_T92 HR0.out x5_1 p297 q297
       obtain rfl : ad296 = ad297 := (by injection e297)
       replace p297 := eq_true p297
       replace q297 := eq_true q297
       go_wp2
       go_ret
       exact ⟨Z18, Z22⟩
     ·rw [if_neg c5] at H
      have c5b0 : (((rd_T92 l0 x5_1).f0) == x1_1) = false := beq_eq_false_iff_ne.mpr c5
      have c5b1 : (((rd_T92 l0 x5_1).f0) != x1_1) = true := bne_iff_ne.mpr c5
      obtain rfl := Option.some.inj H
      have p296 : 0 ≤ (x5_1 : Int) := of_decide_eq_true Z12
      have q296 : x5_1 < (l0.length : Int) := of_decide_eq_true Z12
      obtain ⟨ad296, e296, hx296_0, hx296_1⟩ := at_T92 HR0.out x5_1 p296 q296
      cases e296
      replace p296 := eq_true p296
      replace q296 := eq_true q296
      go_wp2
      go_ret
      exact ⟨Z18, Z22⟩
    ·exact Z42
   ·rw [if_neg c3] at H
    have c3b0 : decide (x5_1 < (l0.length : Int)) = false := decide_eq_false c3
    clear c3
    obtain rfl := Option.some.inj H
    go_wp2
    go_ret
    exact ⟨Z18, Z22⟩
def laws_heldCellS.l0 : Nat → List (S89) → Int → Int → Option (Int)
 | 0, _, _, _ => none
 | k + 1, x0, x1, x5 => if x5 < (x0.length : Int) then (if 0 ≤ x5 then ((laws_heldSlotS.f k ((rd_T89 x0 x5).f0) x1).bind fun t299 => (if t299 < 0 then (some (-1)) else ((laws_heldValueS.f k ((rd_T89 x0 x5).f1) t299).bind fun t301 => (if t301 < 0 then (some (-1)) else (laws_heldCellS.l0 k x0 t301 (wrap64 (x5 + 1))))))) else (none)) else (some x1)
def laws_heldCellS.f (k : Nat) (l0 : List (S89)) (a1 : Int) : Option (Int) := laws_heldCellS.l0 k l0 a1 0
theorem laws_heldCellS.mono_l : ∀ k, (∀ y0 y1 y2, LeO (laws_heldCellS.l0 k y0 y1 y2) (laws_heldCellS.l0 (k + 1) y0 y1 y2))
 | 0 => fun _ _ _ r h => by simp [laws_heldCellS.l0] at h
 | k + 1 => by
  have ih0 := laws_heldCellS.mono_l k
  ·intro y0 y1 y2
   unfold laws_heldCellS.l0
   repeat' first
   | (with_reducible exact ih0 _ _ _)
   | (with_reducible exact laws_heldSlotS.mono _ _ _)
   | (with_reducible exact laws_heldValueS.mono _ _ _)
   | (with_reducible exact LeO.refl _)
   | (with_reducible exact LeO.none _)
   | (with_reducible refine LeO.ite ?_ ?_)
   | (with_reducible refine LeO.bind ?_ (fun _ => ?_))
   | exact ih0 _ _ _
   | exact laws_heldSlotS.mono _ _ _
   | exact laws_heldValueS.mono _ _ _
   | exact LeO.none _
   | refine LeO.ite ?_ ?_
   | refine LeO.bind ?_ (fun _ => ?_)
theorem laws_heldCellS.mono : ∀ a0 a1 k, LeO (laws_heldCellS.f k a0 a1) (laws_heldCellS.f (k + 1) a0 a1) := by
 intro a0 a1 k
 have ih0 := laws_heldCellS.mono_l k
 unfold laws_heldCellS.f
 repeat' first
   | (with_reducible exact ih0 _ _ _)
   | (with_reducible exact laws_heldSlotS.mono _ _ _)
   | (with_reducible exact laws_heldValueS.mono _ _ _)
   | (with_reducible exact LeO.refl _)
   | (with_reducible exact LeO.none _)
   | (with_reducible refine LeO.ite ?_ ?_)
   | (with_reducible refine LeO.bind ?_ (fun _ => ?_))
   | exact ih0 _ _ _
   | exact laws_heldSlotS.mono _ _ _
   | exact laws_heldValueS.mono _ _ _
   | exact LeO.none _
   | refine LeO.ite ?_ ?_
   | refine LeO.bind ?_ (fun _ => ?_)
set_option maxHeartbeats 8000000 in
set_option maxRecDepth 100000 in
theorem laws_heldCellS.calls (k : Nat) (A0 : Option Addr) (c0 : Nat) (l0 : List (S89)) (a1 : Int) (r : Int) (w : World) (hr0 : Kd.C k89 w A0 l0.length l0) (hc0 : l0.length ≤ c0) (h : laws_heldCellS.f k l0 a1 = some r) :
  Calls Try.prog 33 #[.slice A0 l0.length c0, .int .i64 a1] w fun e w' => e = .returned (.int .i64 r) ∧ Below w.heap.size w w' := by
 have HR0 := A_ hr0
 have HC0 := A_ hc0
 clear hr0 hc0
 have HB := A_ (Below.refl w.heap.size w)
 have H : (laws_heldCellS.l0 k l0 a1 0) = some r := h
 clear h
 have H' := A_ H
 clear H
 go_enter Try.func33, Try.ntmps33
 go_wp2
 go_loopg [1, 5] k (fun kq v1 v5 w' => ∃ (x1_1 : Int) (x5_1 : Int), v1 = .int .i64 x1_1 ∧ v5 = .int .i64 x5_1 ∧ Aside0 (laws_heldCellS.l0 kq l0 x1_1 x5_1 = some r) ∧ Aside0 (kq ≤ k) ∧ Aside0 (Below w.heap.size w w'))
 case atStart => exact ⟨(a1), (0), Z18, Z18, H', ⟨Nat.le_refl _⟩, ⟨Z0⟩⟩
 case round =>
  clear H'
  try clear p2
  obtain ⟨x1_1, x5_1, rfl, rfl, HA, HK1, HB⟩ := hrel
  cases gk with
  | zero => exact absurd HA.out (by simp [laws_heldCellS.l0])
  | succ k1 =>
   have H := HA.out
   clear HA
   simp only [laws_heldCellS.l0] at H
   by_cases c3 : x5_1 < (l0.length : Int)
   ·rw [if_pos c3] at H
    have c3b0 : decide (x5_1 < (l0.length : Int)) = true := decide_eq_true c3
    clear c3
    by_cases c4 : 0 ≤ x5_1
    ·rw [if_pos c4] at H
     have c4b0 : decide (0 ≤ x5_1) = true := decide_eq_true c4
     clear c4
     replace H := Option.bind_eq_some_iff.mp H
     obtain ⟨t299, A50, H⟩ := H
     replace H : (if t299 < 0 then (some (-1)) else ((laws_heldValueS.f k1 ((rd_T89 l0 x5_1).f1) t299).bind fun t301 => (if t301 < 0 then (some (-1)) else (laws_heldCellS.l0 k1 l0 t301 (wrap64 (x5_1 + 1)))))) = some r := H
     have A5 := A_ A50
     clear A50
     by_cases c6 : t299 < 0
     ·rw [if_pos c6] at H
      have c6b0 : decide (t299 < 0) = true := decide_eq_true c6
      clear c6
      obtain rfl := Option.some.inj H
      have p298 : 0 ≤ (x5_1 : Int) := of_decide_eq_true Z12
      have q298 : x5_1 < (l0.length : Int) := of_decide_eq_true Z12
      obtain ⟨ad298, A298_0, c298_0, A298_1, c298_1, e298, hx298_0, hx298_1, hl298_0, hi298_0, hl298_1, hi298_1⟩ := at_T89 HR0.out x5_1 p298 q298
      cases e298
      replace hx298_0 := ZC HB.out hx298_0
      replace hx298_1 := ZC HB.out hx298_1
      have HR298_0 := A_ hi298_0
      have HC298_0 := A_ hl298_0
      clear hi298_0 hl298_0
      have HR298_1 := A_ hi298_1
      have HC298_1 := A_ hl298_1
      clear hi298_1 hl298_1
      replace p298 := eq_true p298
      replace q298 := eq_true q298
      go_wp2_with (first | ((with_reducible refine gate_callee (f := 57) rfl ?_); refine goesL_ (some 18) rfl rfl Try.func57 (by kernel_rfl) rfl #[.slice A298_0 ((rd_T89 l0 x5_1).f0).length c298_0, .int .i64 x1_1] rfl Z3 ?_; (with_reducible refine (laws_heldSlotS.calls k1 _ _ ((rd_T89 l0 x5_1).f0) x1_1 t299 _ ?side1 ?side2 A5.out).mono ?_); (case side1 => exact Z6 HR298_0.out); (case side2 => exact HC298_0.out); rintro e w' ⟨rfl, ⟨nd, rfl⟩⟩; refine ⟨_, rfl, ?_⟩))
      go_ret
      exact ⟨Z15, Z0⟩
     ·rw [if_neg c6] at H
      have c6b0 : decide (t299 < 0) = false := decide_eq_false c6
      clear c6
      replace H := Option.bind_eq_some_iff.mp H
      obtain ⟨t301, A70, H⟩ := H
      replace H : (if t301 < 0 then (some (-1)) else (laws_heldCellS.l0 k1 l0 t301 (wrap64 (x5_1 + 1)))) = some r := H
      have A7 := A_ A70
      clear A70
      by_cases c8 : t301 < 0
      ·rw [if_pos c8] at H
       have c8b0 : decide (t301 < 0) = true := decide_eq_true c8
       clear c8
       obtain rfl := Option.some.inj H
       have p298 : 0 ≤ (x5_1 : Int) := of_decide_eq_true Z12
       have q298 : x5_1 < (l0.length : Int) := of_decide_eq_true Z12
       obtain ⟨ad298, A298_0, c298_0, A298_1, c298_1, e298, hx298_0, hx298_1, hl298_0, hi298_0, hl298_1, hi298_1⟩ := at_T89 HR0.out x5_1 p298 q298
       cases e298
       replace hx298_0 := ZC HB.out hx298_0
       replace hx298_1 := ZC HB.out hx298_1
       have HR298_0 := A_ hi298_0
       have HC298_0 := A_ hl298_0
       clear hi298_0 hl298_0
       have HR298_1 := A_ hi298_1
       have HC298_1 := A_ hl298_1
       clear hi298_1 hl298_1
       replace p298 := eq_true p298
       replace q298 := eq_true q298
       go_wp2_with (first | ((with_reducible refine gate_callee (f := 57) rfl ?_); refine goesL_ (some 18) rfl rfl Try.func57 (by kernel_rfl) rfl #[.slice A298_0 ((rd_T89 l0 x5_1).f0).length c298_0, .int .i64 x1_1] rfl Z3 ?_; (with_reducible refine (laws_heldSlotS.calls k1 _ _ ((rd_T89 l0 x5_1).f0) x1_1 t299 _ ?side1 ?side2 A5.out).mono ?_); (case side1 => exact Z6 HR298_0.out); (case side2 => exact HC298_0.out); rintro e w' ⟨rfl, ⟨nd, rfl⟩⟩; refine ⟨_, rfl, ?_⟩; have p300 : 0 ≤ (x5_1 : Int) := of_decide_eq_true Z12; have q300 : x5_1 < (l0.length : Int) := of_decide_eq_true Z12; obtain ⟨ad300, A300_0, c300_0, A300_1, c300_1, e300, hx300_0, hx300_1, hl300_0, hi300_0, hl300_1, hi300_1⟩ := at_T89 HR0.out x5_1 p300 q300; obtain rfl : ad298 = ad300 := (by injection e300); replace hx300_0 := ZC HB.out hx300_0; replace hx300_1 := ZC HB.out hx300_1; have HR300_0 := A_ hi300_0; have HC300_0 := A_ hl300_0; clear hi300_0 hl300_0; have HR300_1 := A_ hi300_1; have HC300_1 := A_ hl300_1; clear hi300_1 hl300_1; replace p300 := eq_true p300; replace q300 := eq_true q300; have ea_ := Option.some.inj (hx298_0.symm.trans hx300_0); injection ea_ with ea_ en_ ec_; subst ea_; subst ec_; clear en_; have ea_ := Option.some.inj (hx298_1.symm.trans hx300_1); injection ea_ with ea_ en_ ec_; subst ea_; subst ec_; clear en_) | ((with_reducible refine gate_callee (f := 30) rfl ?_); refine goesL_ (some 27) rfl rfl Try.func30 (by kernel_rfl) rfl #[.slice A298_1 ((rd_T89 l0 x5_1).f1).length c298_1, .int .i64 t299] rfl Z3 ?_; (with_reducible refine (laws_heldValueS.calls k1 _ _ ((rd_T89 l0 x5_1).f1) t299 t301 _ ?side1 ?side2 A7.out).mono ?_); (case side1 => exact Z31 HR300_1.out); (case side2 => exact HC300_1.out); rintro e w9 ⟨rfl, hb⟩; refine ⟨_, rfl, ?_⟩; have n0_ := A_ (below_step Z0 hb); clear HB; have HB := n0_; clear n0_; (try clear hb); (try clear hb2); (try clear hk); (try clear hi)))
       go_ret
       exact ⟨Z15, Z0⟩
      ·rw [if_neg c8] at H
       have c8b0 : decide (t301 < 0) = false := decide_eq_false c8
       clear c8
       have H' := A_ H
       clear H
       have p298 : 0 ≤ (x5_1 : Int) := of_decide_eq_true Z12
       have q298 : x5_1 < (l0.length : Int) := of_decide_eq_true Z12
       obtain ⟨ad298, A298_0, c298_0, A298_1, c298_1, e298, hx298_0, hx298_1, hl298_0, hi298_0, hl298_1, hi298_1⟩ := at_T89 HR0.out x5_1 p298 q298
       cases e298
       replace hx298_0 := ZC HB.out hx298_0
       replace hx298_1 := ZC HB.out hx298_1
       have HR298_0 := A_ hi298_0
       have HC298_0 := A_ hl298_0
       clear hi298_0 hl298_0
       have HR298_1 := A_ hi298_1
       have HC298_1 := A_ hl298_1
       clear hi298_1 hl298_1
       replace p298 := eq_true p298
       replace q298 := eq_true q298
       go_wp2_with (first | ((with_reducible refine gate_callee (f := 57) rfl ?_); refine goesL_ (some 18) rfl rfl Try.func57 (by kernel_rfl) rfl #[.slice A298_0 ((rd_T89 l0 x5_1).f0).length c298_0, .int .i64 x1_1] rfl Z3 ?_; (with_reducible refine (laws_heldSlotS.calls k1 _ _ ((rd_T89 l0 x5_1).f0) x1_1 t299 _ ?side1 ?side2 A5.out).mono ?_); (case side1 => exact Z6 HR298_0.out); (case side2 => exact HC298_0.out); rintro e w' ⟨rfl, ⟨nd, rfl⟩⟩; refine ⟨_, rfl, ?_⟩; have p300 : 0 ≤ (x5_1 : Int) := of_decide_eq_true Z12; have q300 : x5_1 < (l0.length : Int) := of_decide_eq_true Z12; obtain ⟨ad300, A300_0, c300_0, A300_1, c300_1, e300, hx300_0, hx300_1, hl300_0, hi300_0, hl300_1, hi300_1⟩ := at_T89 HR0.out x5_1 p300 q300; obtain rfl : ad298 = ad300 := (by injection e300); replace hx300_0 := ZC HB.out hx300_0; replace hx300_1 := ZC HB.out hx300_1; have HR300_0 := A_ hi300_0; have HC300_0 := A_ hl300_0; clear hi300_0 hl300_0; have HR300_1 := A_ hi300_1; have HC300_1 := A_ hl300_1; clear hi300_1 hl300_1; replace p300 := eq_true p300; replace q300 := eq_true q300; have ea_ := Option.some.inj (hx298_0.symm.trans hx300_0); injection ea_ with ea_ en_ ec_; subst ea_; subst ec_; clear en_; have ea_ := Option.some.inj (hx298_1.symm.trans hx300_1); injection ea_ with ea_ en_ ec_; subst ea_; subst ec_; clear en_) | ((with_reducible refine gate_callee (f := 30) rfl ?_); refine goesL_ (some 27) rfl rfl Try.func30 (by kernel_rfl) rfl #[.slice A298_1 ((rd_T89 l0 x5_1).f1).length c298_1, .int .i64 t299] rfl Z3 ?_; (with_reducible refine (laws_heldValueS.calls k1 _ _ ((rd_T89 l0 x5_1).f1) t299 t301 _ ?side1 ?side2 A7.out).mono ?_); (case side1 => exact Z31 HR300_1.out); (case side2 => exact HC300_1.out); rintro e w10 ⟨rfl, hb⟩; refine ⟨_, rfl, ?_⟩; have n0_ := A_ (below_step Z0 hb); clear HB; have HB := n0_; clear n0_; (try clear hb); (try clear hb2); (try clear hk); (try clear hi)))
       go_roundg k1
       case measure => have := HK1.out; omega
       case rel => exact ⟨(t301), (wrap64 (x5_1 + 1)), Z18, Z18, H', ⟨by have := HK1.out; omega⟩, ⟨Z0⟩⟩
    ·exact Z42
   ·rw [if_neg c3] at H
    have c3b0 : decide (x5_1 < (l0.length : Int)) = false := decide_eq_false c3
    clear c3
    obtain rfl := Option.some.inj H
    go_wp2
    go_ret
    exact ⟨Z15, Z0⟩
end Go.Proofs.Ytpadhphdglbciaa.PFnExactStoreCut
