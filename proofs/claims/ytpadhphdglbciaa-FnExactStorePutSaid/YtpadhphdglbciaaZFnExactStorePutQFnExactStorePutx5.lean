/- Walks of the functions that the law 'FnExactStorePut' reaches, part 5: for each a Lean function and the proof that Go's comes to just its answer (lines of the print, under own names; no condition). -/
import Derived.Test.YtpadhphdglbciaaZFnExactStorePutQFnExactStorePutx0
import Derived.Test.YtpadhphdglbciaaZFnExactStorePutQFnExactStorePutx4
namespace Go.Proofs.Ytpadhphdglbciaa.PFnExactStorePut
open Go.RowKit Go.Proofs.YtpadhphdglbciaaW.PrintWords Go.Proofs.YtpadhphdglbciaaW.PrintLast Go.Proofs.YtpadhphdglbciaaW.PrintMore
attribute [local go_sem] max2_int min2_int max_two min_two max_three min_three max_four min_four
set_option linter.unusedVariables false
set_option linter.unusedSimpArgs false
def laws_heldValueS.l0 : Nat → List (S99) → Int → Int → Option (Int)
 | 0, _, _, _ => none
 | k + 1, x0, x1, x5 => if x5 < (x0.length : Int) then (if 0 ≤ x5 then (if ((rd_T99 x0 x5).f0) = x1 then (if ((rd_T99 x0 x5).f1) = (wrap64 (x1 + 1)) then ((laws_markText.f k (wrap64 ((wrap64 (x1 + 1)) + 1))).bind fun t179 => (if ((rd_T99 x0 x5).f2).toList = t179.toList then (laws_heldValueS.l0 k x0 (wrap64 ((wrap64 ((wrap64 (x1 + 1)) + 1)) + 1)) (wrap64 (x5 + 1))) else (some (-1)))) else (some (-1))) else (some (-1))) else (none)) else (some x1)
def laws_heldValueS.f (k : Nat) (l0 : List (S99)) (a1 : Int) : Option (Int) := laws_heldValueS.l0 k l0 a1 0
theorem laws_heldValueS.mono_l : ∀ k, (∀ y0 y1 y2, LeO (laws_heldValueS.l0 k y0 y1 y2) (laws_heldValueS.l0 (k + 1) y0 y1 y2))
 | 0 => fun _ _ _ r h => by simp [laws_heldValueS.l0] at h
 | k + 1 => by
  have ih0 := laws_heldValueS.mono_l k
  ·intro y0 y1 y2
   unfold laws_heldValueS.l0
   repeat' first
   | (with_reducible exact ih0 _ _ _)
   | (with_reducible exact laws_markText.mono _ _)
   | (with_reducible exact LeO.refl _)
   | (with_reducible exact LeO.none _)
   | (with_reducible refine LeO.ite ?_ ?_)
   | (with_reducible refine LeO.bind ?_ (fun _ => ?_))
   | exact ih0 _ _ _
   | exact laws_markText.mono _ _
   | exact LeO.none _
   | refine LeO.ite ?_ ?_
   | refine LeO.bind ?_ (fun _ => ?_)
theorem laws_heldValueS.mono : ∀ a0 a1 k, LeO (laws_heldValueS.f k a0 a1) (laws_heldValueS.f (k + 1) a0 a1) := by
 intro a0 a1 k
 have ih0 := laws_heldValueS.mono_l k
 unfold laws_heldValueS.f
 repeat' first
   | (with_reducible exact ih0 _ _ _)
   | (with_reducible exact laws_markText.mono _ _)
   | (with_reducible exact LeO.refl _)
   | (with_reducible exact LeO.none _)
   | (with_reducible refine LeO.ite ?_ ?_)
   | (with_reducible refine LeO.bind ?_ (fun _ => ?_))
   | exact ih0 _ _ _
   | exact laws_markText.mono _ _
   | exact LeO.none _
   | refine LeO.ite ?_ ?_
   | refine LeO.bind ?_ (fun _ => ?_)
def laws_heldValueS.T10 : Bool × List (List Nat × List Nat) := (true, [([], []), ([], []), ([0, 1], [0, 1]), ([2], [2]), ([3], [3]), ([], []), ([5], [5]), ([4, 6], [4, 6])])
def laws_heldValueS.B10 : List Nat := [0, 0, 3, 7, 15, 0, 32, 127]
theorem laws_heldValueS.tab10 : rtab .any (opsOf Try.f30 10) = laws_heldValueS.T10 := by kernel_rfl
theorem laws_heldValueS.bits10 : waitsOk laws_heldValueS.T10.2 laws_heldValueS.B10 = true := by kernel_rfl
set_option maxHeartbeats 8000000 in
set_option maxRecDepth 100000 in
theorem laws_heldValueS.calls (k : Nat) (A0 : Option Addr) (c0 : Nat) (l0 : List (S99)) (a1 : Int) (r : Int) (w : World) (hr0 : Kd.C k99 w A0 l0.length l0) (hc0 : l0.length ≤ c0) (h : laws_heldValueS.f k l0 a1 = some r) :
  Calls Try.prog 30 #[.slice A0 l0.length c0, .int .i64 a1] w fun e w' => e = .returned (.int .i64 r) ∧ Below w.heap.size w w' := by
 have HR0 := A_ hr0
 have HC0 := A_ hc0
 clear hr0 hc0
 have HB := A_ (Below.refl w.heap.size w)
 have H : (laws_heldValueS.l0 k l0 a1 0) = some r := h
 clear h
 have H' := A_ H
 clear H
 go_enter Try.func30, Try.ntmps30
 go_wp2
 go_loopg [1, 5] k (fun kq v1 v5 w' => ∃ (x1_1 : Int) (x5_1 : Int), v1 = .int .i64 x1_1 ∧ v5 = .int .i64 x5_1 ∧ Aside0 (laws_heldValueS.l0 kq l0 x1_1 x5_1 = some r) ∧ Aside0 (kq ≤ k) ∧ Aside0 (Below w.heap.size w w'))
 case atStart => exact ⟨(a1), (0), Z17, Z17, H', ⟨Nat.le_refl _⟩, ⟨Z0⟩⟩
 case round =>
  clear H'
  try clear p2
  obtain ⟨x1_1, x5_1, rfl, rfl, HA, HK1, HB⟩ := hrel
  cases gk with
  | zero => exact absurd HA.out (by simp [laws_heldValueS.l0])
  | succ k1 =>
   have H := HA.out
   clear HA
   simp only [laws_heldValueS.l0] at H
   by_cases c3 : x5_1 < (l0.length : Int)
   ·rw [if_pos c3] at H
    have c3b0 : decide (x5_1 < (l0.length : Int)) = true := decide_eq_true c3
    clear c3
    by_cases c4 : 0 ≤ x5_1
    ·rw [if_pos c4] at H
     have c4b0 : decide (0 ≤ x5_1) = true := decide_eq_true c4
     clear c4
     by_cases c5 : ((rd_T99 l0 x5_1).f0) = x1_1
     ·rw [if_pos c5] at H
      have c5b0 : (((rd_T99 l0 x5_1).f0) == x1_1) = true := beq_iff_eq.mpr c5
      have c5b1 : (((rd_T99 l0 x5_1).f0) != x1_1) = false := bne_eq_false_iff_eq.mpr c5
      clear c5
      by_cases c6 : ((rd_T99 l0 x5_1).f1) = (wrap64 (x1_1 + 1))
      ·rw [if_pos c6] at H
       have c6b0 : (((rd_T99 l0 x5_1).f1) == (wrap64 (x1_1 + 1))) = true := beq_iff_eq.mpr c6
       have c6b1 : (((rd_T99 l0 x5_1).f1) != (wrap64 (x1_1 + 1))) = false := bne_eq_false_iff_eq.mpr c6
       clear c6
       replace H := Option.bind_eq_some_iff.mp H
       obtain ⟨t179, A70, H⟩ := H
       replace H : (if ((rd_T99 l0 x5_1).f2).toList = t179.toList then (laws_heldValueS.l0 k1 l0 (wrap64 ((wrap64 ((wrap64 (x1_1 + 1)) + 1)) + 1)) (wrap64 (x5_1 + 1))) else (some (-1))) = some r := H
       have A7 := A_ A70
       clear A70
       by_cases c8 : ((rd_T99 l0 x5_1).f2).toList = t179.toList
       ·rw [if_pos c8] at H
        have c8b0 : (((rd_T99 l0 x5_1).f2).toList == t179.toList) = true := beq_iff_eq.mpr c8
        have c8b1 : (((rd_T99 l0 x5_1).f2).toList != t179.toList) = false := bne_eq_false_iff_eq.mpr c8
        clear c8
        have H' := A_ H
        clear H
        have p176 : 0 ≤ (x5_1 : Int) := of_decide_eq_true Z13
        have q176 : x5_1 < (l0.length : Int) := of_decide_eq_true Z13
        obtain ⟨ad176, e176, hx176_0, hx176_1, hx176_2⟩ := at_T99 HR0.out x5_1 p176 q176
        cases e176
        replace hx176_0 := ZC HB.out hx176_0
        replace hx176_1 := ZC HB.out hx176_1
        replace hx176_2 := ZC HB.out hx176_2
        replace p176 := eq_true p176
        replace q176 := eq_true q176
        have p177 : 0 ≤ (x5_1 : Int) := of_decide_eq_true Z13
        have q177 : x5_1 < (l0.length : Int) := of_decide_eq_true Z13
        obtain ⟨ad177, e177, hx177_0, hx177_1, hx177_2⟩ := at_T99 HR0.out x5_1 p177 q177
        obtain rfl : ad176 = ad177 := (by injection e177)
        replace hx177_0 := ZC HB.out hx177_0
        replace hx177_1 := ZC HB.out hx177_1
        replace hx177_2 := ZC HB.out hx177_2
        replace p177 := eq_true p177
        replace q177 := eq_true q177
        try go_wp2
        have n0_ := A_ (below_drew1 HB.out)
        clear HB
        have HB := n0_
        clear n0_
        have p178 : 0 ≤ (x5_1 : Int) := of_decide_eq_true Z13
        have q178 : x5_1 < (l0.length : Int) := of_decide_eq_true Z13
        obtain ⟨ad178, e178, hx178_0, hx178_1, hx178_2⟩ := at_T99 HR0.out x5_1 p178 q178
        have hw178_2 := hx178_2
        have hw178_1 := hx178_1
        have hw178_0 := hx178_0
        obtain rfl : ad176 = ad178 := (by injection e178)
        replace hx178_0 := ZC HB.out hx178_0
        replace hx178_1 := ZC HB.out hx178_1
        replace hx178_2 := ZC HB.out hx178_2
        replace p178 := eq_true p178
        replace q178 := eq_true q178
        refine start_ (n := 8) (S := fun w' => w'.cell? (ad176.add ((x5_1).toNat * 3)) = some (.int .i64 ((rd_T99 l0 x5_1).f0)) ∧ w'.cell? ⟨(ad176.add ((x5_1).toNat * 3)).block, (ad176.add ((x5_1).toNat * 3)).off + 1, none⟩ = some (.int .i64 ((rd_T99 l0 x5_1).f1)) ∧ w'.cell? ⟨(ad176.add ((x5_1).toNat * 3)).block, (ad176.add ((x5_1).toNat * 3)).off + 2, none⟩ = some (.string ((rd_T99 l0 x5_1).f2))) (ds := []) #[F,F,F,F,F,F,F,F] (by kernel_rfl) rfl rfl ⟨(ZC HB.out hw178_0 :), (ZC HB.out hw178_1 :), (ZC HB.out hw178_2 :)⟩ (fun hHeld => ?_); refine with_tabW laws_heldValueS.tab10 laws_heldValueS.bits10 (fun HT_ HW_ => ?_)
        generalize wr.drew = w9 at HB hx178_0 hx178_1 hx178_2 hHeld ⊢
        refine pure_ (i := 0) (N := some 30) (v := ?_) (a' := ?_) #[T,F,F,F,F,F,F,F] rfl rfl ZA ZF (Or.inl ⟨by rfl, ?_⟩) ?_ ?_
        rotate_left
        ·exact Z15
        rotate_left
        ·exact Z1
        refine pure_ (i := 1) (N := some 31) (v := ?_) (a' := ?_) #[T,T,F,F,F,F,F,F] rfl rfl ZA ZF (Or.inl ⟨by rfl, ?_⟩) ?_ ?_
        rotate_left
        ·exact Z15
        rotate_left
        ·exact Z1
        refine pure_ (i := 2) (N := some 32) (v := ?_) (a' := ?_) #[T,T,T,F,F,F,F,F] rfl rfl ZA ZF (Or.inl ⟨by rfl, ?_⟩) ?_ ?_
        rotate_left
        ·exact Z15
        rotate_left
        ·exact Z1
        refine pure_ (i := 3) (N := some 33) (v := ?_) (a' := ?_) #[T,T,T,T,F,F,F,F] rfl rfl ZA ZF (Or.inl ⟨by rfl, ?_⟩) ?_ ?_
        rotate_left
        ·exact Z15
        rotate_left
        ·exact Z1
        refine pure_ (i := 5) (N := some 35) (v := ?_) (a' := ?_) #[T,T,T,T,F,T,F,F] rfl rfl ZA ZF (Or.inl ⟨by rfl, ?_⟩) ?_ ?_
        rotate_left
        ·exact Z15
        rotate_left
        ·exact Z1
        refine take_ (i := 4) (N := some 34) (v := ?_) (a' := ?_) #[T,T,T,T,T,T,F,F] rfl rfl (take_ofW HT_.out HW_.out (by kernel_rfl)) ZF (Or.inl ⟨by rfl, ?_⟩) hHeld ?_ ?_
        rotate_left
        ·rintro w' ⟨s0, s1, s2⟩
         go_simp
         with_reducible rfl
        rotate_left
        ·exact Z1
        refine one_ (i := 6) (N := some 36) #[T,T,T,T,T,T,T,F] rfl rfl (one_of HT_.out (by kernel_rfl)) (by decide) (fun K hK => ?_)
        refine goes_ Try.func69 (by kernel_rfl) rfl #[.int .i64 (wrap64 ((wrap64 (x1_1 + 1)) + 1))] (by rfl) rfl rfl Z5 ?_
        with_reducible refine (laws_markText.calls k1 (wrap64 ((wrap64 (x1_1 + 1)) + 1)) t179 _ A7.out).mono ?_
        rintro e w10 ⟨rfl, hb⟩
        refine ⟨_, rfl, ?_⟩
        have n0_ := A_ (below_step Z0 hb)
        clear HB
        have HB := n0_
        clear n0_
        (try clear hb)
        (try clear hb2)
        (try clear hk)
        (try clear hi)
        refine hK.out _ _ ⟨(ZC HB.out hw178_0 :), (ZC HB.out hw178_1 :), (ZC HB.out hw178_2 :)⟩ (fun hHeld => ?_)
        clear hK K
        refine norm_ (a' := ?_) ?_ ?_
        rotate_left
        ·show Act.put _ (some 36) _ = _
         simp only [Act.put, List.setIfInBounds_toArray, List.set_cons_zero, List.set_cons_succ, i64_w, i32_w]
         rfl
        refine pure_ (i := 7) (N := some 37) (v := ?_) (a' := ?_) #[T,T,T,T,T,T,T,T] rfl rfl ZA ZF (Or.inl ⟨by rfl, ?_⟩) ?_ ?_
        rotate_left
        ·exact Z15
        rotate_left
        ·exact Z1
        refine done_ (done_of HT_.out (by kernel_rfl)) ?_
        try go_wp2
        go_roundg k1
        case measure => have := HK1.out; omega
        case rel => exact ⟨(wrap64 ((wrap64 ((wrap64 (x1_1 + 1)) + 1)) + 1)), (wrap64 (x5_1 + 1)), Z17, Z17, H', ⟨by have := HK1.out; omega⟩, ⟨Z0⟩⟩
       ·rw [if_neg c8] at H
        have c8b0 : (((rd_T99 l0 x5_1).f2).toList == t179.toList) = false := beq_eq_false_iff_ne.mpr c8
        have c8b1 : (((rd_T99 l0 x5_1).f2).toList != t179.toList) = true := bne_iff_ne.mpr c8
        obtain rfl := Option.some.inj H
        have p176 : 0 ≤ (x5_1 : Int) := of_decide_eq_true Z13
        have q176 : x5_1 < (l0.length : Int) := of_decide_eq_true Z13
        obtain ⟨ad176, e176, hx176_0, hx176_1, hx176_2⟩ := at_T99 HR0.out x5_1 p176 q176
        cases e176
        replace hx176_0 := ZC HB.out hx176_0
        replace hx176_1 := ZC HB.out hx176_1
        replace hx176_2 := ZC HB.out hx176_2
        replace p176 := eq_true p176
        replace q176 := eq_true q176
        have p177 : 0 ≤ (x5_1 : Int) := of_decide_eq_true Z13
        have q177 : x5_1 < (l0.length : Int) := of_decide_eq_true Z13
        obtain ⟨ad177, e177, hx177_0, hx177_1, hx177_2⟩ := at_T99 HR0.out x5_1 p177 q177
        obtain rfl : ad176 = ad177 := (by injection e177)
        replace hx177_0 := ZC HB.out hx177_0
        replace hx177_1 := ZC HB.out hx177_1
        replace hx177_2 := ZC HB.out hx177_2
        replace p177 := eq_true p177
        replace q177 := eq_true q177
        try go_wp2
        have n0_ := A_ (below_drew1 HB.out)
        clear HB
        have HB := n0_
        clear n0_
        have p178 : 0 ≤ (x5_1 : Int) := of_decide_eq_true Z13
        have q178 : x5_1 < (l0.length : Int) := of_decide_eq_true Z13
        obtain ⟨ad178, e178, hx178_0, hx178_1, hx178_2⟩ := at_T99 HR0.out x5_1 p178 q178
        have hw178_2 := hx178_2
        have hw178_1 := hx178_1
        have hw178_0 := hx178_0
        obtain rfl : ad176 = ad178 := (by injection e178)
        replace hx178_0 := ZC HB.out hx178_0
        replace hx178_1 := ZC HB.out hx178_1
        replace hx178_2 := ZC HB.out hx178_2
        replace p178 := eq_true p178
        replace q178 := eq_true q178
        refine start_ (n := 8) (S := fun w' => w'.cell? (ad176.add ((x5_1).toNat * 3)) = some (.int .i64 ((rd_T99 l0 x5_1).f0)) ∧ w'.cell? ⟨(ad176.add ((x5_1).toNat * 3)).block, (ad176.add ((x5_1).toNat * 3)).off + 1, none⟩ = some (.int .i64 ((rd_T99 l0 x5_1).f1)) ∧ w'.cell? ⟨(ad176.add ((x5_1).toNat * 3)).block, (ad176.add ((x5_1).toNat * 3)).off + 2, none⟩ = some (.string ((rd_T99 l0 x5_1).f2))) (ds := []) #[F,F,F,F,F,F,F,F] (by kernel_rfl) rfl rfl ⟨(ZC HB.out hw178_0 :), (ZC HB.out hw178_1 :), (ZC HB.out hw178_2 :)⟩ (fun hHeld => ?_); refine with_tabW laws_heldValueS.tab10 laws_heldValueS.bits10 (fun HT_ HW_ => ?_)
        generalize wr.drew = w11 at HB hx178_0 hx178_1 hx178_2 hHeld ⊢
        refine pure_ (i := 0) (N := some 30) (v := ?_) (a' := ?_) #[T,F,F,F,F,F,F,F] rfl rfl ZA ZF (Or.inl ⟨by rfl, ?_⟩) ?_ ?_
        rotate_left
        ·exact Z15
        rotate_left
        ·exact Z1
        refine pure_ (i := 1) (N := some 31) (v := ?_) (a' := ?_) #[T,T,F,F,F,F,F,F] rfl rfl ZA ZF (Or.inl ⟨by rfl, ?_⟩) ?_ ?_
        rotate_left
        ·exact Z15
        rotate_left
        ·exact Z1
        refine pure_ (i := 2) (N := some 32) (v := ?_) (a' := ?_) #[T,T,T,F,F,F,F,F] rfl rfl ZA ZF (Or.inl ⟨by rfl, ?_⟩) ?_ ?_
        rotate_left
        ·exact Z15
        rotate_left
        ·exact Z1
        refine pure_ (i := 3) (N := some 33) (v := ?_) (a' := ?_) #[T,T,T,T,F,F,F,F] rfl rfl ZA ZF (Or.inl ⟨by rfl, ?_⟩) ?_ ?_
        rotate_left
        ·exact Z15
        rotate_left
        ·exact Z1
        refine pure_ (i := 5) (N := some 35) (v := ?_) (a' := ?_) #[T,T,T,T,F,T,F,F] rfl rfl ZA ZF (Or.inl ⟨by rfl, ?_⟩) ?_ ?_
        rotate_left
        ·exact Z15
        rotate_left
        ·exact Z1
        refine take_ (i := 4) (N := some 34) (v := ?_) (a' := ?_) #[T,T,T,T,T,T,F,F] rfl rfl (take_ofW HT_.out HW_.out (by kernel_rfl)) ZF (Or.inl ⟨by rfl, ?_⟩) hHeld ?_ ?_
        rotate_left
        ·rintro w' ⟨s0, s1, s2⟩
         go_simp
         with_reducible rfl
        rotate_left
        ·exact Z1
        refine one_ (i := 6) (N := some 36) #[T,T,T,T,T,T,T,F] rfl rfl (one_of HT_.out (by kernel_rfl)) (by decide) (fun K hK => ?_)
        refine goes_ Try.func69 (by kernel_rfl) rfl #[.int .i64 (wrap64 ((wrap64 (x1_1 + 1)) + 1))] (by rfl) rfl rfl Z5 ?_
        with_reducible refine (laws_markText.calls k1 (wrap64 ((wrap64 (x1_1 + 1)) + 1)) t179 _ A7.out).mono ?_
        rintro e w12 ⟨rfl, hb⟩
        refine ⟨_, rfl, ?_⟩
        have n0_ := A_ (below_step Z0 hb)
        clear HB
        have HB := n0_
        clear n0_
        (try clear hb)
        (try clear hb2)
        (try clear hk)
        (try clear hi)
        refine hK.out _ _ ⟨(ZC HB.out hw178_0 :), (ZC HB.out hw178_1 :), (ZC HB.out hw178_2 :)⟩ (fun hHeld => ?_)
        clear hK K
        refine norm_ (a' := ?_) ?_ ?_
        rotate_left
        ·show Act.put _ (some 36) _ = _
         simp only [Act.put, List.setIfInBounds_toArray, List.set_cons_zero, List.set_cons_succ, i64_w, i32_w]
         rfl
        refine pure_ (i := 7) (N := some 37) (v := ?_) (a' := ?_) #[T,T,T,T,T,T,T,T] rfl rfl ZA ZF (Or.inl ⟨by rfl, ?_⟩) ?_ ?_
        rotate_left
        ·exact Z15
        rotate_left
        ·exact Z1
        refine done_ (done_of HT_.out (by kernel_rfl)) ?_
        try go_wp2
        go_ret
        exact ⟨Z14, Z0⟩
      ·rw [if_neg c6] at H
       have c6b0 : (((rd_T99 l0 x5_1).f1) == (wrap64 (x1_1 + 1))) = false := beq_eq_false_iff_ne.mpr c6
       have c6b1 : (((rd_T99 l0 x5_1).f1) != (wrap64 (x1_1 + 1))) = true := bne_iff_ne.mpr c6
       obtain rfl := Option.some.inj H
       have p176 : 0 ≤ (x5_1 : Int) := of_decide_eq_true Z13
       have q176 : x5_1 < (l0.length : Int) := of_decide_eq_true Z13
       obtain ⟨ad176, e176, hx176_0, hx176_1, hx176_2⟩ := at_T99 HR0.out x5_1 p176 q176
       cases e176
       replace hx176_0 := ZC HB.out hx176_0
       replace hx176_1 := ZC HB.out hx176_1
       replace hx176_2 := ZC HB.out hx176_2
       replace p176 := eq_true p176
       replace q176 := eq_true q176
       have p177 : 0 ≤ (x5_1 : Int) := of_decide_eq_true Z13
       have q177 : x5_1 < (l0.length : Int) := of_decide_eq_true Z13
       obtain ⟨ad177, e177, hx177_0, hx177_1, hx177_2⟩ := at_T99 HR0.out x5_1 p177 q177
       obtain rfl : ad176 = ad177 := (by injection e177)
       replace hx177_0 := ZC HB.out hx177_0
       replace hx177_1 := ZC HB.out hx177_1
       replace hx177_2 := ZC HB.out hx177_2
       replace p177 := eq_true p177
       replace q177 := eq_true q177
       go_wp2
       go_ret
       exact ⟨Z14, Z0⟩
     ·rw [if_neg c5] at H
      have c5b0 : (((rd_T99 l0 x5_1).f0) == x1_1) = false := beq_eq_false_iff_ne.mpr c5
      have c5b1 : (((rd_T99 l0 x5_1).f0) != x1_1) = true := bne_iff_ne.mpr c5
      obtain rfl := Option.some.inj H
      have p176 : 0 ≤ (x5_1 : Int) := of_decide_eq_true Z13
      have q176 : x5_1 < (l0.length : Int) := of_decide_eq_true Z13
      obtain ⟨ad176, e176, hx176_0, hx176_1, hx176_2⟩ := at_T99 HR0.out x5_1 p176 q176
      cases e176
      replace hx176_0 := ZC HB.out hx176_0
      replace hx176_1 := ZC HB.out hx176_1
      replace hx176_2 := ZC HB.out hx176_2
      replace p176 := eq_true p176
      replace q176 := eq_true q176
      go_wp2
      go_ret
      exact ⟨Z14, Z0⟩
    ·exact Z45
   ·rw [if_neg c3] at H
    have c3b0 : decide (x5_1 < (l0.length : Int)) = false := decide_eq_false c3
    clear c3
    obtain rfl := Option.some.inj H
    go_wp2
    go_ret
    exact ⟨Z14, Z0⟩
def laws_heldSlotS.l0 : Nat → List (S92) → Int → Int → Option (Int)
 | 0, _, _, _ => none
 | k + 1, x0, x1, x5 => if x5 < (x0.length : Int) then (if 0 ≤ x5 then (if ((rd_T92 x0 x5).f0) = x1 then (if ((rd_T92 x0 x5).f1) = (wrap64 (x1 + 1)) then (laws_heldSlotS.l0 k x0 (wrap64 ((wrap64 (x1 + 1)) + 1)) (wrap64 (x5 + 1))) else (some (-1))) else (some (-1))) else (none)) else (some x1)
def laws_heldSlotS.f (k : Nat) (l0 : List (S92)) (a1 : Int) : Option (Int) := laws_heldSlotS.l0 k l0 a1 0
theorem laws_heldSlotS.mono_l : ∀ k, (∀ y0 y1 y2, LeO (laws_heldSlotS.l0 k y0 y1 y2) (laws_heldSlotS.l0 (k + 1) y0 y1 y2))
 | 0 => fun _ _ _ r h => by simp [laws_heldSlotS.l0] at h
 | k + 1 => by
  have ih0 := laws_heldSlotS.mono_l k
  ·intro y0 y1 y2
   unfold laws_heldSlotS.l0
   repeat' first
   | (with_reducible exact ih0 _ _ _)
   | (with_reducible exact LeO.refl _)
   | (with_reducible exact LeO.none _)
   | (with_reducible refine LeO.ite ?_ ?_)
   | (with_reducible refine LeO.bind ?_ (fun _ => ?_))
   | exact ih0 _ _ _
   | exact LeO.none _
   | refine LeO.ite ?_ ?_
   | refine LeO.bind ?_ (fun _ => ?_)
theorem laws_heldSlotS.mono : ∀ a0 a1 k, LeO (laws_heldSlotS.f k a0 a1) (laws_heldSlotS.f (k + 1) a0 a1) := by
 intro a0 a1 k
 have ih0 := laws_heldSlotS.mono_l k
 unfold laws_heldSlotS.f
 repeat' first
   | (with_reducible exact ih0 _ _ _)
   | (with_reducible exact LeO.refl _)
   | (with_reducible exact LeO.none _)
   | (with_reducible refine LeO.ite ?_ ?_)
   | (with_reducible refine LeO.bind ?_ (fun _ => ?_))
   | exact ih0 _ _ _
   | exact LeO.none _
   | refine LeO.ite ?_ ?_
   | refine LeO.bind ?_ (fun _ => ?_)
set_option maxHeartbeats 8000000 in
set_option maxRecDepth 100000 in
theorem laws_heldSlotS.calls (k : Nat) (A0 : Option Addr) (c0 : Nat) (l0 : List (S92)) (a1 : Int) (r : Int) (w : World) (hr0 : Kd.C k92 w A0 l0.length l0) (hc0 : l0.length ≤ c0) (h : laws_heldSlotS.f k l0 a1 = some r) :
  Calls Try.prog 57 #[.slice A0 l0.length c0, .int .i64 a1] w fun e w' => e = .returned (.int .i64 r) ∧ Drawn0 w w' := by
 have HR0 := A_ hr0
 have HC0 := A_ hc0
 clear hr0 hc0
 have H : (laws_heldSlotS.l0 k l0 a1 0) = some r := h
 clear h
 have H' := A_ H
 clear H
 go_enter Try.func57, Try.ntmps57
 go_wp2
 go_loopg [1, 5] k (fun kq v1 v5 w' => ∃ (x1_1 : Int) (x5_1 : Int), v1 = .int .i64 x1_1 ∧ v5 = .int .i64 x5_1 ∧ Aside0 (laws_heldSlotS.l0 kq l0 x1_1 x5_1 = some r) ∧ Aside0 (kq ≤ k) ∧ Drawn0 w w')
 case atStart => exact ⟨(a1), (0), Z17, Z17, H', ⟨Nat.le_refl _⟩, Z23⟩
 case round =>
  clear H'
  try clear p2
  obtain ⟨x1_1, x5_1, rfl, rfl, HA, HK1, ⟨m1, rfl⟩⟩ := hrel
  cases gk with
  | zero => exact absurd HA.out (by simp [laws_heldSlotS.l0])
  | succ k1 =>
   have H := HA.out
   clear HA
   simp only [laws_heldSlotS.l0] at H
   by_cases c3 : x5_1 < (l0.length : Int)
   ·rw [if_pos c3] at H
    have c3b0 : decide (x5_1 < (l0.length : Int)) = true := decide_eq_true c3
    clear c3
    by_cases c4 : 0 ≤ x5_1
    ·rw [if_pos c4] at H
     have c4b0 : decide (0 ≤ x5_1) = true := decide_eq_true c4
     clear c4
     by_cases c5 : ((rd_T92 l0 x5_1).f0) = x1_1
     ·rw [if_pos c5] at H
      have c5b0 : (((rd_T92 l0 x5_1).f0) == x1_1) = true := beq_iff_eq.mpr c5
      have c5b1 : (((rd_T92 l0 x5_1).f0) != x1_1) = false := bne_eq_false_iff_eq.mpr c5
      clear c5
      by_cases c6 : ((rd_T92 l0 x5_1).f1) = (wrap64 (x1_1 + 1))
      ·rw [if_pos c6] at H
       have c6b0 : (((rd_T92 l0 x5_1).f1) == (wrap64 (x1_1 + 1))) = true := beq_iff_eq.mpr c6
       have c6b1 : (((rd_T92 l0 x5_1).f1) != (wrap64 (x1_1 + 1))) = false := bne_eq_false_iff_eq.mpr c6
       clear c6
       have H' := A_ H
       clear H
       have p180 : 0 ≤ (x5_1 : Int) := of_decide_eq_true Z13
       have q180 : x5_1 < (l0.length : Int) := of_decide_eq_true Z13
       obtain ⟨ad180, e180, hx180_0, hx180_1⟩ := at_T92 HR0.out x5_1 p180 q180
       cases e180
       replace p180 := eq_true p180
       replace q180 := eq_true q180
       have p181 : 0 ≤ (x5_1 : Int) := of_decide_eq_true Z13
       have q181 : x5_1 < (l0.length : Int) := of_decide_eq_true Z13
       obtain ⟨ad181, e181, hx181_0, hx181_1⟩ := at_T92 HR0.out x5_1 p181 q181
       obtain rfl : ad180 = ad181 := (by injection e181)
       replace p181 := eq_true p181
       replace q181 := eq_true q181
       go_wp2
       go_roundg k1
       case measure => have := HK1.out; omega
       case rel => exact ⟨(wrap64 ((wrap64 (x1_1 + 1)) + 1)), (wrap64 (x5_1 + 1)), Z17, Z17, H', ⟨by have := HK1.out; omega⟩, Z23⟩
      ·rw [if_neg c6] at H
       have c6b0 : (((rd_T92 l0 x5_1).f1) == (wrap64 (x1_1 + 1))) = false := beq_eq_false_iff_ne.mpr c6
       have c6b1 : (((rd_T92 l0 x5_1).f1) != (wrap64 (x1_1 + 1))) = true := bne_iff_ne.mpr c6
       obtain rfl := Option.some.inj H
       have p180 : 0 ≤ (x5_1 : Int) := of_decide_eq_true Z13
       have q180 : x5_1 < (l0.length : Int) := of_decide_eq_true Z13
       obtain ⟨ad180, e180, hx180_0, hx180_1⟩ := at_T92 HR0.out x5_1 p180 q180
       cases e180
       replace p180 := eq_true p180
       replace q180 := eq_true q180
       have p181 : 0 ≤ (x5_1 : Int) := of_decide_eq_true Z13
       have q181 : x5_1 < (l0.length : Int) := of_decide_eq_true Z13
       obtain ⟨ad181, e181, hx181_0, hx181_1⟩ := at_T92 HR0.out x5_1 p181 q181
       obtain rfl : ad180 = ad181 := (by injection e181)
       replace p181 := eq_true p181
       replace q181 := eq_true q181
       go_wp2
       go_ret
       exact ⟨Z17, Z23⟩
     ·rw [if_neg c5] at H
      have c5b0 : (((rd_T92 l0 x5_1).f0) == x1_1) = false := beq_eq_false_iff_ne.mpr c5
      have c5b1 : (((rd_T92 l0 x5_1).f0) != x1_1) = true := bne_iff_ne.mpr c5
      obtain rfl := Option.some.inj H
      have p180 : 0 ≤ (x5_1 : Int) := of_decide_eq_true Z13
      have q180 : x5_1 < (l0.length : Int) := of_decide_eq_true Z13
      obtain ⟨ad180, e180, hx180_0, hx180_1⟩ := at_T92 HR0.out x5_1 p180 q180
      cases e180
      replace p180 := eq_true p180
      replace q180 := eq_true q180
      go_wp2
      go_ret
      exact ⟨Z17, Z23⟩
    ·exact Z45
   ·rw [if_neg c3] at H
    have c3b0 : decide (x5_1 < (l0.length : Int)) = false := decide_eq_false c3
    clear c3
    obtain rfl := Option.some.inj H
    go_wp2
    go_ret
    exact ⟨Z17, Z23⟩
def laws_heldCellS.l0 : Nat → List (S89) → Int → Int → Option (Int)
 | 0, _, _, _ => none
 | k + 1, x0, x1, x5 => if x5 < (x0.length : Int) then (if 0 ≤ x5 then ((laws_heldSlotS.f k ((rd_T89 x0 x5).f0) x1).bind fun t183 => (if t183 < 0 then (some (-1)) else ((laws_heldValueS.f k ((rd_T89 x0 x5).f1) t183).bind fun t185 => (if t185 < 0 then (some (-1)) else (laws_heldCellS.l0 k x0 t185 (wrap64 (x5 + 1))))))) else (none)) else (some x1)
def laws_heldCellS.f (k : Nat) (l0 : List (S89)) (a1 : Int) : Option (Int) := laws_heldCellS.l0 k l0 a1 0
theorem laws_heldCellS.mono_l : ∀ k, (∀ y0 y1 y2, LeO (laws_heldCellS.l0 k y0 y1 y2) (laws_heldCellS.l0 (k + 1) y0 y1 y2))
 | 0 => fun _ _ _ r h => by simp [laws_heldCellS.l0] at h
 | k + 1 => by
  have ih0 := laws_heldCellS.mono_l k
  ·intro y0 y1 y2
   unfold laws_heldCellS.l0
   repeat' first
   | (with_reducible exact ih0 _ _ _)
   | (with_reducible exact laws_heldSlotS.mono _ _ _)
   | (with_reducible exact laws_heldValueS.mono _ _ _)
   | (with_reducible exact LeO.refl _)
   | (with_reducible exact LeO.none _)
   | (with_reducible refine LeO.ite ?_ ?_)
   | (with_reducible refine LeO.bind ?_ (fun _ => ?_))
   | exact ih0 _ _ _
   | exact laws_heldSlotS.mono _ _ _
   | exact laws_heldValueS.mono _ _ _
   | exact LeO.none _
   | refine LeO.ite ?_ ?_
   | refine LeO.bind ?_ (fun _ => ?_)
theorem laws_heldCellS.mono : ∀ a0 a1 k, LeO (laws_heldCellS.f k a0 a1) (laws_heldCellS.f (k + 1) a0 a1) := by
 intro a0 a1 k
 have ih0 := laws_heldCellS.mono_l k
 unfold laws_heldCellS.f
 repeat' first
   | (with_reducible exact ih0 _ _ _)
   | (with_reducible exact laws_heldSlotS.mono _ _ _)
   | (with_reducible exact laws_heldValueS.mono _ _ _)
   | (with_reducible exact LeO.refl _)
   | (with_reducible exact LeO.none _)
   | (with_reducible refine LeO.ite ?_ ?_)
   | (with_reducible refine LeO.bind ?_ (fun _ => ?_))
   | exact ih0 _ _ _
   | exact laws_heldSlotS.mono _ _ _
   | exact laws_heldValueS.mono _ _ _
   | exact LeO.none _
   | refine LeO.ite ?_ ?_
   | refine LeO.bind ?_ (fun _ => ?_)
set_option maxHeartbeats 8000000 in
set_option maxRecDepth 100000 in
theorem laws_heldCellS.calls (k : Nat) (A0 : Option Addr) (c0 : Nat) (l0 : List (S89)) (a1 : Int) (r : Int) (w : World) (hr0 : Kd.C k89 w A0 l0.length l0) (hc0 : l0.length ≤ c0) (h : laws_heldCellS.f k l0 a1 = some r) :
  Calls Try.prog 33 #[.slice A0 l0.length c0, .int .i64 a1] w fun e w' => e = .returned (.int .i64 r) ∧ Below w.heap.size w w' := by
 have HR0 := A_ hr0
 have HC0 := A_ hc0
 clear hr0 hc0
 have HB := A_ (Below.refl w.heap.size w)
 have H : (laws_heldCellS.l0 k l0 a1 0) = some r := h
 clear h
 have H' := A_ H
 clear H
 go_enter Try.func33, Try.ntmps33
 go_wp2
 go_loopg [1, 5] k (fun kq v1 v5 w' => ∃ (x1_1 : Int) (x5_1 : Int), v1 = .int .i64 x1_1 ∧ v5 = .int .i64 x5_1 ∧ Aside0 (laws_heldCellS.l0 kq l0 x1_1 x5_1 = some r) ∧ Aside0 (kq ≤ k) ∧ Aside0 (Below w.heap.size w w'))
 case atStart => exact ⟨(a1), (0), Z17, Z17, H', ⟨Nat.le_refl _⟩, ⟨Z0⟩⟩
 case round =>
  clear H'
  try clear p2
  obtain ⟨x1_1, x5_1, rfl, rfl, HA, HK1, HB⟩ := hrel
  cases gk with
  | zero => exact absurd HA.out (by simp [laws_heldCellS.l0])
  | succ k1 =>
   have H := HA.out
   clear HA
   simp only [laws_heldCellS.l0] at H
   by_cases c3 : x5_1 < (l0.length : Int)
   ·rw [if_pos c3] at H
    have c3b0 : decide (x5_1 < (l0.length : Int)) = true := decide_eq_true c3
    clear c3
    by_cases c4 : 0 ≤ x5_1
    ·rw [if_pos c4] at H
     have c4b0 : decide (0 ≤ x5_1) = true := decide_eq_true c4
     clear c4
     replace H := Option.bind_eq_some_iff.mp H
     obtain ⟨t183, A50, H⟩ := H
     replace H : (if t183 < 0 then (some (-1)) else ((laws_heldValueS.f k1 ((rd_T89 l0 x5_1).f1) t183).bind fun t185 => (if t185 < 0 then (some (-1)) else (laws_heldCellS.l0 k1 l0 t185 (wrap64 (x5_1 + 1)))))) = some r := H
     have A5 := A_ A50
     clear A50
     by_cases c6 : t183 < 0
     ·rw [if_pos c6] at H
      have c6b0 : decide (t183 < 0) = true := decide_eq_true c6
      clear c6
      obtain rfl := Option.some.inj H
      have p182 : 0 ≤ (x5_1 : Int) := of_decide_eq_true Z13
      have q182 : x5_1 < (l0.length : Int) := of_decide_eq_true Z13
      obtain ⟨ad182, A182_0, c182_0, A182_1, c182_1, e182, hx182_0, hx182_1, hl182_0, hi182_0, hl182_1, hi182_1⟩ := at_T89 HR0.out x5_1 p182 q182
      cases e182
      replace hx182_0 := ZC HB.out hx182_0
      replace hx182_1 := ZC HB.out hx182_1
      have HR182_0 := A_ hi182_0
      have HC182_0 := A_ hl182_0
      clear hi182_0 hl182_0
      have HR182_1 := A_ hi182_1
      have HC182_1 := A_ hl182_1
      clear hi182_1 hl182_1
      replace p182 := eq_true p182
      replace q182 := eq_true q182
      go_wp2_with (first | ((with_reducible refine gate_callee (f := 57) rfl ?_); refine goesL_ (some 18) rfl rfl Try.func57 (by kernel_rfl) rfl #[.slice A182_0 ((rd_T89 l0 x5_1).f0).length c182_0, .int .i64 x1_1] rfl Z5 ?_; (with_reducible refine (laws_heldSlotS.calls k1 _ _ ((rd_T89 l0 x5_1).f0) x1_1 t183 _ ?side1 ?side2 A5.out).mono ?_); (case side1 => exact Z3 HR182_0.out); (case side2 => exact HC182_0.out); rintro e w' ⟨rfl, ⟨nd, rfl⟩⟩; refine ⟨_, rfl, ?_⟩))
      go_ret
      exact ⟨Z14, Z0⟩
     ·rw [if_neg c6] at H
      have c6b0 : decide (t183 < 0) = false := decide_eq_false c6
      clear c6
      replace H := Option.bind_eq_some_iff.mp H
      obtain ⟨t185, A70, H⟩ := H
      replace H : (if t185 < 0 then (some (-1)) else (laws_heldCellS.l0 k1 l0 t185 (wrap64 (x5_1 + 1)))) = some r := H
      have A7 := A_ A70
      clear A70
      by_cases c8 : t185 < 0
      ·rw [if_pos c8] at H
       have c8b0 : decide (t185 < 0) = true := decide_eq_true c8
       clear c8
       obtain rfl := Option.some.inj H
       have p182 : 0 ≤ (x5_1 : Int) := of_decide_eq_true Z13
       have q182 : x5_1 < (l0.length : Int) := of_decide_eq_true Z13
       obtain ⟨ad182, A182_0, c182_0, A182_1, c182_1, e182, hx182_0, hx182_1, hl182_0, hi182_0, hl182_1, hi182_1⟩ := at_T89 HR0.out x5_1 p182 q182
       cases e182
       replace hx182_0 := ZC HB.out hx182_0
       replace hx182_1 := ZC HB.out hx182_1
       have HR182_0 := A_ hi182_0
       have HC182_0 := A_ hl182_0
       clear hi182_0 hl182_0
       have HR182_1 := A_ hi182_1
       have HC182_1 := A_ hl182_1
       clear hi182_1 hl182_1
       replace p182 := eq_true p182
       replace q182 := eq_true q182
       go_wp2_with (first | ((with_reducible refine gate_callee (f := 57) rfl ?_); refine goesL_ (some 18) rfl rfl Try.func57 (by kernel_rfl) rfl #[.slice A182_0 ((rd_T89 l0 x5_1).f0).length c182_0, .int .i64 x1_1] rfl Z5 ?_; (with_reducible refine (laws_heldSlotS.calls k1 _ _ ((rd_T89 l0 x5_1).f0) x1_1 t183 _ ?side1 ?side2 A5.out).mono ?_); (case side1 => exact Z3 HR182_0.out); (case side2 => exact HC182_0.out); rintro e w' ⟨rfl, ⟨nd, rfl⟩⟩; refine ⟨_, rfl, ?_⟩; have p184 : 0 ≤ (x5_1 : Int) := of_decide_eq_true Z13; have q184 : x5_1 < (l0.length : Int) := of_decide_eq_true Z13; obtain ⟨ad184, A184_0, c184_0, A184_1, c184_1, e184, hx184_0, hx184_1, hl184_0, hi184_0, hl184_1, hi184_1⟩ := at_T89 HR0.out x5_1 p184 q184; obtain rfl : ad182 = ad184 := (by injection e184); replace hx184_0 := ZC HB.out hx184_0; replace hx184_1 := ZC HB.out hx184_1; have HR184_0 := A_ hi184_0; have HC184_0 := A_ hl184_0; clear hi184_0 hl184_0; have HR184_1 := A_ hi184_1; have HC184_1 := A_ hl184_1; clear hi184_1 hl184_1; replace p184 := eq_true p184; replace q184 := eq_true q184; have ea_ := Option.some.inj (hx182_0.symm.trans hx184_0); injection ea_ with ea_ en_ ec_; subst ea_; subst ec_; clear en_; have ea_ := Option.some.inj (hx182_1.symm.trans hx184_1); injection ea_ with ea_ en_ ec_; subst ea_; subst ec_; clear en_) | ((with_reducible refine gate_callee (f := 30) rfl ?_); refine goesL_ (some 27) rfl rfl Try.func30 (by kernel_rfl) rfl #[.slice A182_1 ((rd_T89 l0 x5_1).f1).length c182_1, .int .i64 t183] rfl Z5 ?_; (with_reducible refine (laws_heldValueS.calls k1 _ _ ((rd_T89 l0 x5_1).f1) t183 t185 _ ?side1 ?side2 A7.out).mono ?_); (case side1 => exact Z41 HR184_1.out); (case side2 => exact HC184_1.out); rintro e w9 ⟨rfl, hb⟩; refine ⟨_, rfl, ?_⟩; have n0_ := A_ (below_step Z0 hb); clear HB; have HB := n0_; clear n0_; (try clear hb); (try clear hb2); (try clear hk); (try clear hi)))
       go_ret
       exact ⟨Z14, Z0⟩
      ·rw [if_neg c8] at H
       have c8b0 : decide (t185 < 0) = false := decide_eq_false c8
       clear c8
       have H' := A_ H
       clear H
       have p182 : 0 ≤ (x5_1 : Int) := of_decide_eq_true Z13
       have q182 : x5_1 < (l0.length : Int) := of_decide_eq_true Z13
       obtain ⟨ad182, A182_0, c182_0, A182_1, c182_1, e182, hx182_0, hx182_1, hl182_0, hi182_0, hl182_1, hi182_1⟩ := at_T89 HR0.out x5_1 p182 q182
       cases e182
       replace hx182_0 := ZC HB.out hx182_0
       replace hx182_1 := ZC HB.out hx182_1
       have HR182_0 := A_ hi182_0
       have HC182_0 := A_ hl182_0
       clear hi182_0 hl182_0
       have HR182_1 := A_ hi182_1
       have HC182_1 := A_ hl182_1
       clear hi182_1 hl182_1
       replace p182 := eq_true p182
       replace q182 := eq_true q182
       go_wp2_with (first | ((with_reducible refine gate_callee (f := 57) rfl ?_); refine goesL_ (some 18) rfl rfl Try.func57 (by kernel_rfl) rfl #[.slice A182_0 ((rd_T89 l0 x5_1).f0).length c182_0, .int .i64 x1_1] rfl Z5 ?_; (with_reducible refine (laws_heldSlotS.calls k1 _ _ ((rd_T89 l0 x5_1).f0) x1_1 t183 _ ?side1 ?side2 A5.out).mono ?_); (case side1 => exact Z3 HR182_0.out); (case side2 => exact HC182_0.out); rintro e w' ⟨rfl, ⟨nd, rfl⟩⟩; refine ⟨_, rfl, ?_⟩; have p184 : 0 ≤ (x5_1 : Int) := of_decide_eq_true Z13; have q184 : x5_1 < (l0.length : Int) := of_decide_eq_true Z13; obtain ⟨ad184, A184_0, c184_0, A184_1, c184_1, e184, hx184_0, hx184_1, hl184_0, hi184_0, hl184_1, hi184_1⟩ := at_T89 HR0.out x5_1 p184 q184; obtain rfl : ad182 = ad184 := (by injection e184); replace hx184_0 := ZC HB.out hx184_0; replace hx184_1 := ZC HB.out hx184_1; have HR184_0 := A_ hi184_0; have HC184_0 := A_ hl184_0; clear hi184_0 hl184_0; have HR184_1 := A_ hi184_1; have HC184_1 := A_ hl184_1; clear hi184_1 hl184_1; replace p184 := eq_true p184; replace q184 := eq_true q184; have ea_ := Option.some.inj (hx182_0.symm.trans hx184_0); injection ea_ with ea_ en_ ec_; subst ea_; subst ec_; clear en_; have ea_ := Option.some.inj (hx182_1.symm.trans hx184_1); injection ea_ with ea_ en_ ec_; subst ea_; subst ec_; clear en_) | ((with_reducible refine gate_callee (f := 30) rfl ?_); refine goesL_ (some 27) rfl rfl Try.func30 (by kernel_rfl) rfl #[.slice A182_1 ((rd_T89 l0 x5_1).f1).length c182_1, .int .i64 t183] rfl Z5 ?_; (with_reducible refine (laws_heldValueS.calls k1 _ _ ((rd_T89 l0 x5_1).f1) t183 t185 _ ?side1 ?side2 A7.out).mono ?_); (case side1 => exact Z41 HR184_1.out); (case side2 => exact HC184_1.out); rintro e w10 ⟨rfl, hb⟩; refine ⟨_, rfl, ?_⟩; have n0_ := A_ (below_step Z0 hb); clear HB; have HB := n0_; clear n0_; (try clear hb); (try clear hb2); (try clear hk); (try clear hi)))
       go_roundg k1
       case measure => have := HK1.out; omega
       case rel => exact ⟨(t185), (wrap64 (x5_1 + 1)), Z17, Z17, H', ⟨by have := HK1.out; omega⟩, ⟨Z0⟩⟩
    ·exact Z45
   ·rw [if_neg c3] at H
    have c3b0 : decide (x5_1 < (l0.length : Int)) = false := decide_eq_false c3
    clear c3
    obtain rfl := Option.some.inj H
    go_wp2
    go_ret
    exact ⟨Z14, Z0⟩
def spec_inRange.f (a0 : Int) (a1 : Int) (a2 : Int) : Option (Bool) := if a0 ≥ a1 then (some (decide (a0 ≤ a2))) else (some false)
set_option maxHeartbeats 8000000 in
set_option maxRecDepth 100000 in
theorem spec_inRange.calls (a0 : Int) (a1 : Int) (a2 : Int) (r : Bool) (w : World) (h : spec_inRange.f a0 a1 a2 = some r) :
  Calls Try.prog 50 #[.int .i64 a0, .int .i64 a1, .int .i64 a2] w fun e w' => e = .returned (.bool r) ∧ Drawn0 w w' := by
 have H : (if a0 ≥ a1 then (some (decide (a0 ≤ a2))) else (some false)) = some r := h
 clear h
 by_cases c4 : a0 ≥ a1
 ·rw [if_pos c4] at H
  have c4b0 : decide (a1 ≤ a0) = true := decide_eq_true c4
  clear c4
  obtain rfl := Option.some.inj H
  go_enter Try.func50, Try.ntmps50
  go_wp2
  go_ret
  exact ⟨Z17, Z23⟩
 ·rw [if_neg c4] at H
  have c4b0 : decide (a1 ≤ a0) = false := decide_eq_false c4
  clear c4
  obtain rfl := Option.some.inj H
  go_enter Try.func50, Try.ntmps50
  go_wp2
  go_ret
  exact ⟨Z17, Z23⟩
def spec_validSlot.f (a0_0 : Int) (a0_1 : Int) : Option (Bool) := (spec_inRange.f a0_0 0 3).bind fun t187 => (if t187 = true then ((spec_inRange.f a0_1 0 103).bind fun t188 => (some t188)) else (some false))
set_option maxHeartbeats 8000000 in
set_option maxRecDepth 100000 in
theorem spec_validSlot.calls (a0_0 : Int) (a0_1 : Int) (r : Bool) (w : World) (h : spec_validSlot.f a0_0 a0_1 = some r) :
  Calls Try.prog 91 #[.agg #[.int .i64 a0_0, .int .i64 a0_1]] w fun e w' => e = .returned (.bool r) ∧ Below w.heap.size w w' := by
 have hu92 := Try.underlying92
 have HB := A_ (Below.refl w.heap.size w)
 have H : ((spec_inRange.f a0_0 0 3).bind fun t187 => (if t187 = true then ((spec_inRange.f a0_1 0 103).bind fun t188 => (some t188)) else (some false))) = some r := h
 clear h
 replace H := Option.bind_eq_some_iff.mp H
 obtain ⟨t187, A20, H⟩ := H
 replace H : (if t187 = true then ((spec_inRange.f a0_1 0 103).bind fun t188 => (some t188)) else (some false)) = some r := H
 have A2 := A_ A20
 clear A20
 by_cases c3 : t187 = true
 ·subst c3
  have H1 : ((spec_inRange.f a0_1 0 103).bind fun t188 => (some t188)) = some r := by rw [if_pos rfl] at H; exact H
  clear H
  have H := H1
  clear H1
  replace H := Option.bind_eq_some_iff.mp H
  obtain ⟨t188, A40, H⟩ := H
  replace H : (some t188) = some r := H
  have A4 := A_ A40
  clear A40
  obtain rfl := Option.some.inj H
  go_enter Try.func91, Try.ntmps91
  go_wp2_with (first | ((with_reducible refine gate_dst (N := 1) rfl ?_); refine box_event ?hg (N := 1) ?hd (cs := #[.int .i64 a0_0, .int .i64 a0_1]) (t := 92) ?hr ?_; (case hd => rfl); (case hg => rfl); (case hr => exact Z20); intro gb186 hg w5 hbox hb; have n0_ := A_ (below_step Z0 hb); have n1_ := A_ (hbox); have n2_ := A_ ((by rw [hg]; exact (below_size Z0) : w.heap.size ≤ gb186)); have n3_ := A_ ((by rw [hg]; exact (below_size Z0) : w.heap.size ≤ gb186)); clear HB; have HB := n0_; have BK186 := n1_; have GW186 := n2_; have GE186 := n3_; clear n0_ n1_ n2_ n3_; clear hb hbox hg; have hcz6_0 : w5.cell? ⟨gb186, 0, none⟩ = some (.int .i64 a0_0) := (blk_cell BK186.out 0).trans rfl; have hcz6_1 : w5.cell? ⟨gb186, 1, none⟩ = some (.int .i64 a0_1) := (blk_cell BK186.out 1).trans rfl; have hfz6_0 := blk_frozen BK186.out 0; have hfz6_1 := blk_frozen BK186.out 1) | ((with_reducible refine gate_callee (f := 50) rfl ?_); refine goesL_ (some 5) rfl rfl Try.func50 (by kernel_rfl) rfl #[.int .i64 a0_0, .int .i64 0, .int .i64 3] rfl Z5 ?_; (with_reducible refine (spec_inRange.calls a0_0 0 3 true _ A2.out).mono ?_); rintro e w' ⟨rfl, ⟨nd, rfl⟩⟩; refine ⟨_, rfl, ?_⟩) | (go_at_call 50; (with_reducible refine (spec_inRange.calls a0_1 0 103 t188 _ A4.out).mono ?_); rintro e w' ⟨rfl, ⟨nd, rfl⟩⟩))
  go_ret
  exact ⟨Z14, Z2 GE186.out⟩
 ·replace c3 := Bool.eq_false_iff.mpr c3
  subst c3
  have H1 : (some false) = some r := by rw [if_neg (show ¬ (false = true) by decide)] at H; exact H
  clear H
  have H := H1
  clear H1
  obtain rfl := Option.some.inj H
  go_enter Try.func91, Try.ntmps91
  go_wp2_with (first | ((with_reducible refine gate_dst (N := 1) rfl ?_); refine box_event ?hg (N := 1) ?hd (cs := #[.int .i64 a0_0, .int .i64 a0_1]) (t := 92) ?hr ?_; (case hd => rfl); (case hg => rfl); (case hr => exact Z20); intro gb186 hg w7 hbox hb; have n0_ := A_ (below_step Z0 hb); have n1_ := A_ (hbox); have n2_ := A_ ((by rw [hg]; exact (below_size Z0) : w.heap.size ≤ gb186)); have n3_ := A_ ((by rw [hg]; exact (below_size Z0) : w.heap.size ≤ gb186)); clear HB; have HB := n0_; have BK186 := n1_; have GW186 := n2_; have GE186 := n3_; clear n0_ n1_ n2_ n3_; clear hb hbox hg; have hcz8_0 : w7.cell? ⟨gb186, 0, none⟩ = some (.int .i64 a0_0) := (blk_cell BK186.out 0).trans rfl; have hcz8_1 : w7.cell? ⟨gb186, 1, none⟩ = some (.int .i64 a0_1) := (blk_cell BK186.out 1).trans rfl; have hfz8_0 := blk_frozen BK186.out 0; have hfz8_1 := blk_frozen BK186.out 1) | ((with_reducible refine gate_callee (f := 50) rfl ?_); refine goesL_ (some 5) rfl rfl Try.func50 (by kernel_rfl) rfl #[.int .i64 a0_0, .int .i64 0, .int .i64 3] rfl Z5 ?_; (with_reducible refine (spec_inRange.calls a0_0 0 3 false _ A2.out).mono ?_); rintro e w' ⟨rfl, ⟨nd, rfl⟩⟩; refine ⟨_, rfl, ?_⟩))
  go_ret
  exact ⟨Z14, Z2 GE186.out⟩
def spec_validPlace.l0 : Nat → List (S92) → Int → Option (Bool)
 | 0, _, _ => none
 | k + 1, x0, x3 => if x3 < (x0.length : Int) then (if 0 ≤ x3 then ((spec_validSlot.f ((rd_T92 x0 x3).f0) ((rd_T92 x0 x3).f1)).bind fun t190 => (if t190 = true then (spec_validPlace.l0 k x0 (wrap64 (x3 + 1))) else (some false))) else (none)) else (some true)
def spec_validPlace.f (k : Nat) (l0 : List (S92)) : Option (Bool) := if (l0.length : Int) > 20 then (some false) else (spec_validPlace.l0 k l0 0)
theorem spec_validPlace.mono_l : ∀ k, (∀ y0 y1, LeO (spec_validPlace.l0 k y0 y1) (spec_validPlace.l0 (k + 1) y0 y1))
 | 0 => fun _ _ r h => by simp [spec_validPlace.l0] at h
 | k + 1 => by
  have ih0 := spec_validPlace.mono_l k
  ·intro y0 y1
   unfold spec_validPlace.l0
   repeat' first
   | (with_reducible exact ih0 _ _)
   | (with_reducible exact LeO.refl _)
   | (with_reducible exact LeO.none _)
   | (with_reducible refine LeO.ite ?_ ?_)
   | (with_reducible refine LeO.bind ?_ (fun _ => ?_))
   | exact ih0 _ _
   | exact LeO.none _
   | refine LeO.ite ?_ ?_
   | refine LeO.bind ?_ (fun _ => ?_)
theorem spec_validPlace.mono : ∀ a0 k, LeO (spec_validPlace.f k a0) (spec_validPlace.f (k + 1) a0) := by
 intro a0 k
 have ih0 := spec_validPlace.mono_l k
 unfold spec_validPlace.f
 repeat' first
   | (with_reducible exact ih0 _ _)
   | (with_reducible exact LeO.refl _)
   | (with_reducible exact LeO.none _)
   | (with_reducible refine LeO.ite ?_ ?_)
   | (with_reducible refine LeO.bind ?_ (fun _ => ?_))
   | exact ih0 _ _
   | exact LeO.none _
   | refine LeO.ite ?_ ?_
   | refine LeO.bind ?_ (fun _ => ?_)
set_option maxHeartbeats 8000000 in
set_option maxRecDepth 100000 in
theorem spec_validPlace.calls (k : Nat) (A0 : Option Addr) (c0 : Nat) (l0 : List (S92)) (r : Bool) (w : World) (hr0 : Kd.C k92 w A0 l0.length l0) (hc0 : l0.length ≤ c0) (h : spec_validPlace.f k l0 = some r) :
  Calls Try.prog 49 #[.slice A0 l0.length c0] w fun e w' => e = .returned (.bool r) ∧ Below w.heap.size w w' := by
 have hu92 := Try.underlying92
 have HR0 := A_ hr0
 have HC0 := A_ hc0
 clear hr0 hc0
 have HB := A_ (Below.refl w.heap.size w)
 have H : (if (l0.length : Int) > 20 then (some false) else (spec_validPlace.l0 k l0 0)) = some r := h
 clear h
 by_cases c2 : (l0.length : Int) > 20
 ·rw [if_pos c2] at H
  have c2b0 : decide (20 < (l0.length : Int)) = true := decide_eq_true c2
  have c2b1 : decide (20 < l0.length) = true := decide_eq_true (by omega)
  clear c2
  obtain rfl := Option.some.inj H
  go_enter Try.func49, Try.ntmps49
  go_wp2
  go_ret
  exact ⟨Z14, Z0⟩
 ·rw [if_neg c2] at H
  have c2b0 : decide (20 < (l0.length : Int)) = false := decide_eq_false c2
  have c2b1 : decide (20 < l0.length) = false := decide_eq_false (by omega)
  clear c2
  have H' := A_ H
  clear H
  go_enter Try.func49, Try.ntmps49
  go_wp2
  go_loopg [3] k (fun kq v3 w' => ∃ (x3_1 : Int), v3 = .int .i64 x3_1 ∧ Aside0 (spec_validPlace.l0 kq l0 x3_1 = some r) ∧ Aside0 (kq ≤ k) ∧ Aside0 (Below w.heap.size w w'))
  case atStart => exact ⟨(0), Z17, H', ⟨Nat.le_refl _⟩, ⟨Z0⟩⟩
  case round =>
   clear H'
   try clear c2
   try clear c2b0
   try clear c2b1
   try clear p2
   obtain ⟨x3_1, rfl, HA, HK1, HB⟩ := hrel
   cases gk with
   | zero => exact absurd HA.out (by simp [spec_validPlace.l0])
   | succ k1 =>
    have H := HA.out
    clear HA
    simp only [spec_validPlace.l0] at H
    by_cases c3 : x3_1 < (l0.length : Int)
    ·rw [if_pos c3] at H
     have c3b0 : decide (x3_1 < (l0.length : Int)) = true := decide_eq_true c3
     clear c3
     by_cases c4 : 0 ≤ x3_1
     ·rw [if_pos c4] at H
      have c4b0 : decide (0 ≤ x3_1) = true := decide_eq_true c4
      clear c4
      replace H := Option.bind_eq_some_iff.mp H
      obtain ⟨t190, A50, H⟩ := H
      replace H : (if t190 = true then (spec_validPlace.l0 k1 l0 (wrap64 (x3_1 + 1))) else (some false)) = some r := H
      have A5 := A_ A50
      clear A50
      by_cases c6 : t190 = true
      ·subst c6
       have H1 : (spec_validPlace.l0 k1 l0 (wrap64 (x3_1 + 1))) = some r := by rw [if_pos rfl] at H; exact H
       clear H
       have H := H1
       clear H1
       have H' := A_ H
       clear H
       have p189 : 0 ≤ (x3_1 : Int) := of_decide_eq_true Z13
       have q189 : x3_1 < (l0.length : Int) := of_decide_eq_true Z13
       obtain ⟨ad189, e189, hx189_0, hx189_1⟩ := at_T92 HR0.out x3_1 p189 q189
       cases e189
       replace hx189_0 := ZC HB.out hx189_0
       replace hx189_1 := ZC HB.out hx189_1
       replace p189 := eq_true p189
       replace q189 := eq_true q189
       go_wp2_with (first | ((with_reducible refine gate_callee (f := 91) rfl ?_); refine goesL_ (some 17) rfl rfl Try.func91 (by kernel_rfl) rfl #[.agg #[.int .i64 ((rd_T92 l0 x3_1).f0), .int .i64 ((rd_T92 l0 x3_1).f1)]] rfl Z5 ?_; (with_reducible refine (spec_validSlot.calls ((rd_T92 l0 x3_1).f0) ((rd_T92 l0 x3_1).f1) true _ A5.out).mono ?_); rintro e w7 ⟨rfl, hb⟩; refine ⟨_, rfl, ?_⟩; have n0_ := A_ (below_step Z0 hb); clear HB; have HB := n0_; clear n0_; (try clear hb); (try clear hb2); (try clear hk); (try clear hi)))
       go_roundg k1
       case measure => have := HK1.out; omega
       case rel => exact ⟨(wrap64 (x3_1 + 1)), Z17, H', ⟨by have := HK1.out; omega⟩, ⟨Z0⟩⟩
      ·replace c6 := Bool.eq_false_iff.mpr c6
       subst c6
       have H1 : (some false) = some r := by rw [if_neg (show ¬ (false = true) by decide)] at H; exact H
       clear H
       have H := H1
       clear H1
       obtain rfl := Option.some.inj H
       have p189 : 0 ≤ (x3_1 : Int) := of_decide_eq_true Z13
       have q189 : x3_1 < (l0.length : Int) := of_decide_eq_true Z13
       obtain ⟨ad189, e189, hx189_0, hx189_1⟩ := at_T92 HR0.out x3_1 p189 q189
       cases e189
       replace hx189_0 := ZC HB.out hx189_0
       replace hx189_1 := ZC HB.out hx189_1
       replace p189 := eq_true p189
       replace q189 := eq_true q189
       go_wp2_with (first | ((with_reducible refine gate_callee (f := 91) rfl ?_); refine goesL_ (some 17) rfl rfl Try.func91 (by kernel_rfl) rfl #[.agg #[.int .i64 ((rd_T92 l0 x3_1).f0), .int .i64 ((rd_T92 l0 x3_1).f1)]] rfl Z5 ?_; (with_reducible refine (spec_validSlot.calls ((rd_T92 l0 x3_1).f0) ((rd_T92 l0 x3_1).f1) false _ A5.out).mono ?_); rintro e w8 ⟨rfl, hb⟩; refine ⟨_, rfl, ?_⟩; have n0_ := A_ (below_step Z0 hb); clear HB; have HB := n0_; clear n0_; (try clear hb); (try clear hb2); (try clear hk); (try clear hi)))
       go_ret
       exact ⟨Z14, Z0⟩
     ·exact Z45
    ·rw [if_neg c3] at H
     have c3b0 : decide (x3_1 < (l0.length : Int)) = false := decide_eq_false c3
     clear c3
     obtain rfl := Option.some.inj H
     go_wp2
     go_ret
     exact ⟨Z14, Z0⟩
end Go.Proofs.Ytpadhphdglbciaa.PFnExactStorePut
