/- Walks of the functions that the law 'FnExactEffectsLive' reaches, part 5: for each a Lean function and the proof that Go's comes to just its answer (lines of the print, under own names; no condition). -/
import Derived.Test.YtpadhphdglbciaaZFnExactEffectsLiveQFnExactEffectsLivex0
import Derived.Test.YtpadhphdglbciaaZFnExactEffectsLiveQFnExactEffectsLivex1
namespace Go.Proofs.Ytpadhphdglbciaa.PFnExactEffectsLive
open Go.RowKit Go.Proofs.YtpadhphdglbciaaW.PrintWords Go.Proofs.YtpadhphdglbciaaW.PrintLast Go.Proofs.YtpadhphdglbciaaW.PrintMore
attribute [local go_sem] max2_int min2_int max_two min_two max_three min_three max_four min_four
set_option linter.unusedVariables false
set_option linter.unusedSimpArgs false
attribute [local go_sem high] eqA92
def impl_placeCmp.l0 : Nat → List (S92) → List (S92) → Int → Int → Option (Int)
 | 0, _, _, _, _ => none
 | k + 1, x0, x1, x12, x13 => if x13 < x12 then (if 0 ≤ x13 then (if x13 < (x0.length : Int) then (if x13 < (x1.length : Int) then (if (((rd_T92 x0 x13).f0) == ((rd_T92 x1 x13).f0) && (((rd_T92 x0 x13).f1) == ((rd_T92 x1 x13).f1))) = true then (impl_placeCmp.l0 k x0 x1 x12 (wrap64 (x13 + 1))) else (if ((rd_T92 x0 x13).f0) < ((rd_T92 x1 x13).f0) then (some (-1)) else (if ((rd_T92 x0 x13).f0) = ((rd_T92 x1 x13).f0) then (if ((rd_T92 x0 x13).f1) < ((rd_T92 x1 x13).f1) then (some (-1)) else (some 1)) else (some 1)))) else (none)) else (none)) else (none)) else (if (x0.length : Int) < (x1.length : Int) then (some (-1)) else (if (x0.length : Int) > (x1.length : Int) then (some 1) else (some 0)))
def impl_placeCmp.f (k : Nat) (l0 : List (S92)) (l1 : List (S92)) : Option (Int) := impl_placeCmp.l0 k l0 l1 (mn (l0.length : Int) (l1.length : Int)) 0
theorem impl_placeCmp.mono_l : ∀ k, (∀ y0 y1 y2 y3, LeO (impl_placeCmp.l0 k y0 y1 y2 y3) (impl_placeCmp.l0 (k + 1) y0 y1 y2 y3))
 | 0 => fun _ _ _ _ r h => by simp [impl_placeCmp.l0] at h
 | k + 1 => by
  have ih0 := impl_placeCmp.mono_l k
  ·intro y0 y1 y2 y3
   unfold impl_placeCmp.l0
   repeat' first
   | (with_reducible exact ih0 _ _ _ _)
   | (with_reducible exact LeO.refl _)
   | (with_reducible exact LeO.none _)
   | (with_reducible refine LeO.ite ?_ ?_)
   | (with_reducible refine LeO.bind ?_ (fun _ => ?_))
   | exact ih0 _ _ _ _
   | exact LeO.none _
   | refine LeO.ite ?_ ?_
   | refine LeO.bind ?_ (fun _ => ?_)
theorem impl_placeCmp.mono : ∀ a0 a1 k, LeO (impl_placeCmp.f k a0 a1) (impl_placeCmp.f (k + 1) a0 a1) := by
 intro a0 a1 k
 have ih0 := impl_placeCmp.mono_l k
 unfold impl_placeCmp.f
 repeat' first
   | (with_reducible exact ih0 _ _ _ _)
   | (with_reducible exact LeO.refl _)
   | (with_reducible exact LeO.none _)
   | (with_reducible refine LeO.ite ?_ ?_)
   | (with_reducible refine LeO.bind ?_ (fun _ => ?_))
   | exact ih0 _ _ _ _
   | exact LeO.none _
   | refine LeO.ite ?_ ?_
   | refine LeO.bind ?_ (fun _ => ?_)
def impl_placeCmp.T4 : Bool × List (List Nat × List Nat) := (true, [([], []), ([], []), ([0, 1], [0, 1]), ([2], [2]), ([], []), ([], []), ([4, 5], [4, 5]), ([6], [6]), ([], []), ([], []), ([8, 3, 0, 1, 2, 3, 8, 9], [3, 8]), ([9, 7, 10, 0, 1, 2, 3, 4, 5, 6, 7, 8, 9, 10], [7, 9])])
def impl_placeCmp.B4 : List Nat := [0, 0, 3, 7, 0, 0, 48, 112, 0, 0, 783, 2047]
theorem impl_placeCmp.tab4 : rtab .any (opsOf Try.f54 4) = impl_placeCmp.T4 := by kernel_rfl
theorem impl_placeCmp.bits4 : waitsOk impl_placeCmp.T4.2 impl_placeCmp.B4 = true := by kernel_rfl
set_option maxHeartbeats 8000000 in
set_option maxRecDepth 100000 in
theorem impl_placeCmp.calls (k : Nat) (A0 : Option Addr) (c0 : Nat) (l0 : List (S92)) (A1 : Option Addr) (c1 : Nat) (l1 : List (S92)) (r : Int) (w : World) (hr0 : Kd.C k92 w A0 l0.length l0) (hc0 : l0.length ≤ c0) (hr1 : Kd.C k92 w A1 l1.length l1) (hc1 : l1.length ≤ c1) (h : impl_placeCmp.f k l0 l1 = some r) :
  Calls Try.prog 54 #[.slice A0 l0.length c0, .slice A1 l1.length c1] w fun e w' => e = .returned (.int .i64 r) ∧ Below w.heap.size w w' := by
 have hu92 := Try.underlying92
 have HR0 := A_ hr0
 have HC0 := A_ hc0
 clear hr0 hc0
 have HR1 := A_ hr1
 have HC1 := A_ hc1
 clear hr1 hc1
 have HB := A_ (Below.refl w.heap.size w)
 have H : (impl_placeCmp.l0 k l0 l1 (mn (l0.length : Int) (l1.length : Int)) 0) = some r := h
 clear h
 obtain ⟨ji3, hji3⟩ : ∃ j_ : Int, (mn (l0.length : Int) (l1.length : Int)) = j_ := ⟨_, rfl⟩
 replace H : (impl_placeCmp.l0 k l0 l1 ji3 0) = some r := by first | (rw [hji3] at H; exact H) | (simp only [hji3] at H ⊢; exact H)
 (try (have hji3l : 0 ≤ ji3 := by (rw [← hji3]; unfold mn; (repeat' split) <;> omega)))
 (try (have hji3m : 0 ≤ ji3 := by omega))
 have hji3_ : (if (l1.length : Int) < (l0.length : Int) then (l1.length : Int) else (l0.length : Int)) = ji3 := hji3
 have hji3n : (if l1.length < l0.length then (l1.length : Int) else (l0.length : Int)) = ji3 := by rw [← hji3_]; simp only [Int.ofNat_lt]
 have H' := A_ H
 clear H
 go_enter Try.func54, Try.ntmps54
 go_wp2
 go_loopg [13] k (fun kq v13 w' => ∃ (x13_1 : Int), v13 = .int .i64 x13_1 ∧ Aside0 (impl_placeCmp.l0 kq l0 l1 ji3 x13_1 = some r) ∧ Aside0 (kq ≤ k) ∧ Aside0 (Below w.heap.size w w'))
 case atStart => exact ⟨(0), Z17, H', ⟨Nat.le_refl _⟩, ⟨Z0⟩⟩
 case round =>
  clear H'
  try clear c1
  try clear p2
  obtain ⟨x13_1, rfl, HA, HK1, HB⟩ := hrel
  cases gk with
  | zero => exact absurd HA.out (by simp [impl_placeCmp.l0])
  | succ k1 =>
   have H := HA.out
   clear HA
   simp only [impl_placeCmp.l0] at H
   by_cases c4 : x13_1 < ji3
   ·rw [if_pos c4] at H
    have c4b0 : decide (x13_1 < ji3) = true := decide_eq_true c4
    clear c4
    by_cases c5 : 0 ≤ x13_1
    ·rw [if_pos c5] at H
     have c5b0 : decide (0 ≤ x13_1) = true := decide_eq_true c5
     clear c5
     by_cases c6 : x13_1 < (l0.length : Int)
     ·rw [if_pos c6] at H
      have c6b0 : decide (x13_1 < (l0.length : Int)) = true := decide_eq_true c6
      clear c6
      by_cases c7 : x13_1 < (l1.length : Int)
      ·rw [if_pos c7] at H
       have c7b0 : decide (x13_1 < (l1.length : Int)) = true := decide_eq_true c7
       clear c7
       by_cases c8 : (((rd_T92 l0 x13_1).f0) == ((rd_T92 l1 x13_1).f0) && (((rd_T92 l0 x13_1).f1) == ((rd_T92 l1 x13_1).f1))) = true
       ·rw [if_pos c8] at H
        have c8b0 : (((rd_T92 l0 x13_1).f0) == ((rd_T92 l1 x13_1).f0) && (((rd_T92 l0 x13_1).f1) == ((rd_T92 l1 x13_1).f1))) = true := c8
        (try (have c8b1 : decide (((rd_T92 l0 x13_1).f0) = ((rd_T92 l1 x13_1).f0) && (((rd_T92 l0 x13_1).f1) == ((rd_T92 l1 x13_1).f1))) = true := by simpa using c8))
        (try (have c8b2 : (((rd_T92 l0 x13_1).f0) == ((rd_T92 l1 x13_1).f0) && (((rd_T92 l0 x13_1).f1) == ((rd_T92 l1 x13_1).f1))) = true := by simpa using c8))
        clear c8
        have H' := A_ H
        clear H
        try go_wp2
        have n0_ := A_ (below_drew1 HB.out)
        clear HB
        have HB := n0_
        clear n0_
        have p189 : 0 ≤ (x13_1 : Int) := of_decide_eq_true Z9
        have q189 : x13_1 < (l0.length : Int) := of_decide_eq_true Z9
        obtain ⟨ad189, e189, hx189_0, hx189_1⟩ := at_T92 HR0.out x13_1 p189 q189
        have hw189_1 := hx189_1
        have hw189_0 := hx189_0
        cases e189
        replace hx189_0 := ZC HB.out hx189_0
        replace hx189_1 := ZC HB.out hx189_1
        replace p189 := eq_true p189
        replace q189 := eq_true q189
        have p190 : 0 ≤ (x13_1 : Int) := of_decide_eq_true Z9
        have q190 : x13_1 < (l1.length : Int) := of_decide_eq_true Z9
        obtain ⟨ad190, e190, hx190_0, hx190_1⟩ := at_T92 HR1.out x13_1 p190 q190
        have hw190_1 := hx190_1
        have hw190_0 := hx190_0
        cases e190
        replace hx190_0 := ZC HB.out hx190_0
        replace hx190_1 := ZC HB.out hx190_1
        replace p190 := eq_true p190
        replace q190 := eq_true q190
        refine start_ (n := 12) (S := fun w' => w'.cell? (ad189.add ((x13_1).toNat * 2)) = some (.int .i64 ((rd_T92 l0 x13_1).f0)) ∧ w'.cell? ⟨(ad189.add ((x13_1).toNat * 2)).block, (ad189.add ((x13_1).toNat * 2)).off + 1, none⟩ = some (.int .i64 ((rd_T92 l0 x13_1).f1)) ∧ w'.cell? (ad190.add ((x13_1).toNat * 2)) = some (.int .i64 ((rd_T92 l1 x13_1).f0)) ∧ w'.cell? ⟨(ad190.add ((x13_1).toNat * 2)).block, (ad190.add ((x13_1).toNat * 2)).off + 1, none⟩ = some (.int .i64 ((rd_T92 l1 x13_1).f1))) (ds := []) #[F,F,F,F,F,F,F,F,F,F,F,F] (by kernel_rfl) rfl rfl ⟨(ZC HB.out hw189_0 :), (ZC HB.out hw189_1 :), (ZC HB.out hw190_0 :), (ZC HB.out hw190_1 :)⟩ (fun hHeld => ?_); refine with_tabW impl_placeCmp.tab4 impl_placeCmp.bits4 (fun HT_ HW_ => ?_)
        generalize wr.drew = w9 at HB hx189_0 hx189_1 hx190_0 hx190_1 hHeld ⊢
        refine pure_ (i := 0) (N := some 16) (v := ?_) (a' := ?_) #[T,F,F,F,F,F,F,F,F,F,F,F] rfl rfl ZA ZF (Or.inl ⟨by rfl, ?_⟩) ?_ ?_
        rotate_left
        ·exact Z18
        rotate_left
        ·exact Z6
        refine pure_ (i := 1) (N := some 17) (v := ?_) (a' := ?_) #[T,T,F,F,F,F,F,F,F,F,F,F] rfl rfl ZA ZF (Or.inl ⟨by rfl, ?_⟩) ?_ ?_
        rotate_left
        ·exact Z18
        rotate_left
        ·exact Z6
        refine pure_ (i := 2) (N := some 18) (v := ?_) (a' := ?_) #[T,T,T,F,F,F,F,F,F,F,F,F] rfl rfl ZA ZF (Or.inl ⟨by rfl, ?_⟩) ?_ ?_
        rotate_left
        ·exact Z18
        rotate_left
        ·exact Z6
        refine pure_ (i := 4) (N := some 20) (v := ?_) (a' := ?_) #[T,T,T,F,T,F,F,F,F,F,F,F] rfl rfl ZA ZF (Or.inl ⟨by rfl, ?_⟩) ?_ ?_
        rotate_left
        ·exact Z18
        rotate_left
        ·exact Z6
        refine pure_ (i := 5) (N := some 21) (v := ?_) (a' := ?_) #[T,T,T,F,T,T,F,F,F,F,F,F] rfl rfl ZA ZF (Or.inl ⟨by rfl, ?_⟩) ?_ ?_
        rotate_left
        ·exact Z18
        rotate_left
        ·exact Z6
        refine pure_ (i := 6) (N := some 22) (v := ?_) (a' := ?_) #[T,T,T,F,T,T,T,F,F,F,F,F] rfl rfl ZA ZF (Or.inl ⟨by rfl, ?_⟩) ?_ ?_
        rotate_left
        ·exact Z18
        rotate_left
        ·exact Z6
        refine take_ (i := 3) (N := some 19) (v := ?_) (a' := ?_) #[T,T,T,T,T,T,T,F,F,F,F,F] rfl rfl (take_ofW HT_.out HW_.out (by kernel_rfl)) ZF (Or.inl ⟨by rfl, ?_⟩) hHeld ?_ ?_
        rotate_left
        ·exact Z30
        rotate_left
        ·exact Z6
        refine take_ (i := 7) (N := some 23) (v := ?_) (a' := ?_) #[T,T,T,T,T,T,T,T,F,F,F,F] rfl rfl (take_ofW HT_.out HW_.out (by kernel_rfl)) ZF (Or.inl ⟨by rfl, ?_⟩) hHeld ?_ ?_
        rotate_left
        ·exact Z30
        rotate_left
        ·exact Z6
        refine join_ (σ := Nat × Nat) 2 #[T,T,T,T,T,T,T,T,T,T,F,F] (fun s_ => [(6, .pointer (some ⟨s_.1, 0, none⟩)), (7, .pointer (some ⟨s_.2, 0, none⟩))]) (fun s_ w' => (w'.cell? (ad189.add ((x13_1).toNat * 2)) = some (.int .i64 ((rd_T92 l0 x13_1).f0)) ∧ w'.cell? ⟨(ad189.add ((x13_1).toNat * 2)).block, (ad189.add ((x13_1).toNat * 2)).off + 1, none⟩ = some (.int .i64 ((rd_T92 l0 x13_1).f1)) ∧ w'.cell? (ad190.add ((x13_1).toNat * 2)) = some (.int .i64 ((rd_T92 l1 x13_1).f0)) ∧ w'.cell? ⟨(ad190.add ((x13_1).toNat * 2)).block, (ad190.add ((x13_1).toNat * 2)).off + 1, none⟩ = some (.int .i64 ((rd_T92 l1 x13_1).f1))) ∧ (w'.heap[s_.1]? = some (.cells #[.int .i64 0, .int .i64 0] 92 (0, 0))) ∧ (w'.heap[s_.2]? = some (.cells #[.int .i64 0, .int .i64 0] 92 (0, 0))) ∧ (w.heap.size ≤ s_.1) ∧ (w.heap.size ≤ s_.1) ∧ (s_.2 ≠ s_.1) ∧ (s_.1 ≠ s_.2) ∧ (w.heap.size ≤ s_.2) ∧ (w.heap.size ≤ s_.2) ∧ (Below w.heap.size w w')) ?_ ?_
        rotate_left
        ·intro hCont
         refine two_ (i := 8) (j := 9) (Ni := some 6) (Nj := some 7) #[T,T,T,T,T,T,T,T,T,F,F,F] #[T,T,T,T,T,T,T,T,F,T,F,F] rfl rfl rfl rfl (two_of HT_.out (by kernel_rfl)) (by decide) (by decide) (fun K hK => ?_) (fun K hK => ?_)
         ·skip
          refine box_step ?hg (N := 6) ?hd (cs := #[.int .i64 0, .int .i64 0]) (t := 92) ?hr ?_; (case hd => rfl); (case hg => rfl); (case hr => exact Z19)
          intro gb191 hg w10 hbox hb
          have n0_ := A_ (below_step Z0 hb)
          have n1_ := A_ (hbox)
          have n2_ := A_ ((by rw [hg]; exact (below_size Z0) : w.heap.size ≤ gb191))
          have n3_ := A_ ((by rw [hg]; exact (below_size Z0) : w.heap.size ≤ gb191))
          clear HB
          have HB := n0_
          have BK191 := n1_
          have GW191 := n2_
          have GE191 := n3_
          clear n0_ n1_ n2_ n3_
          clear hb hbox hg
          refine hK.out _ _ ⟨(ZC HB.out hw189_0 :), (ZC HB.out hw189_1 :), (ZC HB.out hw190_0 :), (ZC HB.out hw190_1 :)⟩ (fun hHeld => ?_)
          clear hK K
          refine norm_ (a' := ?_) ?_ ?_
          rotate_left
          ·exact Z22
          refine one_ (i := 9) (N := some 7) #[T,T,T,T,T,T,T,T,T,T,F,F] rfl rfl (one_of HT_.out (by kernel_rfl)) (by decide) (fun K hK => ?_)
          refine box_step ?hg (N := 7) ?hd (cs := #[.int .i64 0, .int .i64 0]) (t := 92) ?hr ?_; (case hd => rfl); (case hg => rfl); (case hr => exact Z19)
          intro gb192 hg w11 hbox hb
          have n0_ := A_ (blk_below (g := gb191) (o := .cells #[.int .i64 0, .int .i64 0] 92 (0, 0)) (Z7 BK191.out) hb)
          have n1_ := A_ (below_step (Z1 GE191.out) hb)
          have n2_ := A_ (hbox)
          have n3_ := A_ ((by rw [hg]; exact (below_size (Z1 GE191.out)) : w.heap.size ≤ gb192))
          have n4_ := A_ ((by rw [hg]; exact (below_size (Z1 GE191.out)) : w.heap.size ≤ gb192))
          have n5_ := A_ ((by rw [hg]; exact Nat.ne_of_lt (blk_lt (g := gb191) (o := .cells #[.int .i64 0, .int .i64 0] 92 (0, 0)) (Z7 BK191.out)) : gb191 ≠ gb192))
          have n6_ := A_ ((by rw [hg]; exact Nat.ne_of_gt (blk_lt (g := gb191) (o := .cells #[.int .i64 0, .int .i64 0] 92 (0, 0)) (Z7 BK191.out)) : gb192 ≠ gb191))
          clear BK191
          clear HB
          have BK191 := n0_
          have HB := n1_
          have BK192 := n2_
          have GW192 := n3_
          have GE192 := n4_
          have NB191_192 := n5_
          have NB192_191 := n6_
          clear n0_ n1_ n2_ n3_ n4_ n5_ n6_
          clear hb hbox hg
          refine hK.out _ _ ⟨(ZC HB.out hw189_0 :), (ZC HB.out hw189_1 :), (ZC HB.out hw190_0 :), (ZC HB.out hw190_1 :)⟩ (fun hHeld => ?_)
          clear hK K
          refine norm_ (a' := ?_) ?_ ?_
          rotate_left
          ·exact Z21
          exact norm_ Z29 (hCont (gb191, gb192) _ ⟨hHeld, (Z7 BK191.out), (Z7 BK192.out), GW191.out, GE191.out, NB192_191.out, NB191_192.out, GW192.out, GE192.out, (Z11 GE191.out GE192.out)⟩)
         ·skip
          refine box_step ?hg (N := 7) ?hd (cs := #[.int .i64 0, .int .i64 0]) (t := 92) ?hr ?_; (case hd => rfl); (case hg => rfl); (case hr => exact Z19)
          intro gb192 hg w10 hbox hb
          have n0_ := A_ (below_step Z0 hb)
          have n1_ := A_ (hbox)
          have n2_ := A_ ((by rw [hg]; exact (below_size Z0) : w.heap.size ≤ gb192))
          have n3_ := A_ ((by rw [hg]; exact (below_size Z0) : w.heap.size ≤ gb192))
          clear HB
          have HB := n0_
          have BK192 := n1_
          have GW192 := n2_
          have GE192 := n3_
          clear n0_ n1_ n2_ n3_
          clear hb hbox hg
          refine hK.out _ _ ⟨(ZC HB.out hw189_0 :), (ZC HB.out hw189_1 :), (ZC HB.out hw190_0 :), (ZC HB.out hw190_1 :)⟩ (fun hHeld => ?_)
          clear hK K
          refine norm_ (a' := ?_) ?_ ?_
          rotate_left
          ·exact Z21
          refine one_ (i := 8) (N := some 6) #[T,T,T,T,T,T,T,T,T,T,F,F] rfl rfl (one_of HT_.out (by kernel_rfl)) (by decide) (fun K hK => ?_)
          refine box_step ?hg (N := 6) ?hd (cs := #[.int .i64 0, .int .i64 0]) (t := 92) ?hr ?_; (case hd => rfl); (case hg => rfl); (case hr => exact Z19)
          intro gb191 hg w11 hbox hb
          have n0_ := A_ (blk_below (g := gb192) (o := .cells #[.int .i64 0, .int .i64 0] 92 (0, 0)) (Z7 BK192.out) hb)
          have n1_ := A_ (below_step (Z1 GE192.out) hb)
          have n2_ := A_ (hbox)
          have n3_ := A_ ((by rw [hg]; exact (below_size (Z1 GE192.out)) : w.heap.size ≤ gb191))
          have n4_ := A_ ((by rw [hg]; exact (below_size (Z1 GE192.out)) : w.heap.size ≤ gb191))
          have n5_ := A_ ((by rw [hg]; exact Nat.ne_of_lt (blk_lt (g := gb192) (o := .cells #[.int .i64 0, .int .i64 0] 92 (0, 0)) (Z7 BK192.out)) : gb192 ≠ gb191))
          have n6_ := A_ ((by rw [hg]; exact Nat.ne_of_gt (blk_lt (g := gb192) (o := .cells #[.int .i64 0, .int .i64 0] 92 (0, 0)) (Z7 BK192.out)) : gb191 ≠ gb192))
          clear BK192
          clear HB
          have BK192 := n0_
          have HB := n1_
          have BK191 := n2_
          have GW191 := n3_
          have GE191 := n4_
          have NB192_191 := n5_
          have NB191_192 := n6_
          clear n0_ n1_ n2_ n3_ n4_ n5_ n6_
          clear hb hbox hg
          refine hK.out _ _ ⟨(ZC HB.out hw189_0 :), (ZC HB.out hw189_1 :), (ZC HB.out hw190_0 :), (ZC HB.out hw190_1 :)⟩ (fun hHeld => ?_)
          clear hK K
          refine norm_ (a' := ?_) ?_ ?_
          rotate_left
          ·exact Z22
          exact norm_ Z29 (hCont (gb191, gb192) _ ⟨hHeld, (Z7 BK191.out), (Z7 BK192.out), GW191.out, GE191.out, NB192_191.out, NB191_192.out, GW192.out, GE192.out, (Z11 GE192.out GE191.out)⟩)
        rintro ⟨gb191, gb192⟩ w12 ⟨hS_, h0_, h1_, h2_, h3_, h4_, h5_, h6_, h7_, h8_⟩
        have n0_ : Aside0 (w12.heap[gb191]? = some (.cells #[.int .i64 0, .int .i64 0] 92 (0, 0))) := ⟨h0_⟩
        have n1_ : Aside0 (w12.heap[gb192]? = some (.cells #[.int .i64 0, .int .i64 0] 92 (0, 0))) := ⟨h1_⟩
        have n2_ : Aside0 (w.heap.size ≤ gb191) := ⟨h2_⟩
        have n3_ : Aside0 (w.heap.size ≤ gb191) := ⟨h3_⟩
        have n4_ : Aside0 (gb192 ≠ gb191) := ⟨h4_⟩
        have n5_ : Aside0 (gb191 ≠ gb192) := ⟨h5_⟩
        have n6_ : Aside0 (w.heap.size ≤ gb192) := ⟨h6_⟩
        have n7_ : Aside0 (w.heap.size ≤ gb192) := ⟨h7_⟩
        have n8_ : Aside0 (Below w.heap.size w w12) := ⟨h8_⟩
        clear HB
        clear h0_ h1_ h2_ h3_ h4_ h5_ h6_ h7_ h8_
        have BK191 := n0_
        have BK192 := n1_
        have GW191 := n2_
        have GE191 := n3_
        have NB192_191 := n4_
        have NB191_192 := n5_
        have GW192 := n6_
        have GE192 := n7_
        have HB := n8_
        clear n0_ n1_ n2_ n3_ n4_ n5_ n6_ n7_ n8_
        have hHeld : w12.cell? (ad189.add ((x13_1).toNat * 2)) = some (.int .i64 ((rd_T92 l0 x13_1).f0)) ∧ w12.cell? ⟨(ad189.add ((x13_1).toNat * 2)).block, (ad189.add ((x13_1).toNat * 2)).off + 1, none⟩ = some (.int .i64 ((rd_T92 l0 x13_1).f1)) ∧ w12.cell? (ad190.add ((x13_1).toNat * 2)) = some (.int .i64 ((rd_T92 l1 x13_1).f0)) ∧ w12.cell? ⟨(ad190.add ((x13_1).toNat * 2)).block, (ad190.add ((x13_1).toNat * 2)).off + 1, none⟩ = some (.int .i64 ((rd_T92 l1 x13_1).f1)) := hS_
        refine norm_ (a' := ?_) ?_ ?_
        rotate_left
        ·exact Z35
        refine one_ (i := 10) (N := none) #[T,T,T,T,T,T,T,T,T,T,T,F] rfl rfl (one_of HT_.out (by kernel_rfl)) (by decide) (fun K hK => ?_)
        have hs13 : w12.cell? ⟨gb191, 0, none⟩ = some (.int .i64 0) := (blk_cell BK191.out 0).trans rfl
        have hfs13 := blk_frozen BK191.out 0
        have hns13_1 := NB192_191.out
        have hms13_1 := NB191_192.out
        have hs14 : w12.cell? ⟨gb191, 1, none⟩ = some (.int .i64 0) := (blk_cell BK191.out 1).trans rfl
        have hfs14 := blk_frozen BK191.out 1
        have hns14_1 := NB192_191.out
        have hms14_1 := NB191_192.out
        refine skip_ (w1 := ?_) (by rfl) rfl ?_ ?_
        rotate_left
        ·go_simp
         rfl
        refine hK.out _ _ ⟨((cell_far (p := ⟨gb191, _, none⟩) (Z5 GW191.out) _).trans (((cell_far (p := ⟨gb191, _, none⟩) (Z5 GW191.out) _).trans (hHeld.1)))), ((cell_far (p := ⟨gb191, _, none⟩) (Z4 GW191.out) _).trans (((cell_far (p := ⟨gb191, _, none⟩) (Z4 GW191.out) _).trans (hHeld.2.1)))), ((cell_far (p := ⟨gb191, _, none⟩) (Z3 GW191.out) _).trans (((cell_far (p := ⟨gb191, _, none⟩) (Z3 GW191.out) _).trans (hHeld.2.2.1)))), ((cell_far (p := ⟨gb191, _, none⟩) (Z2 GW191.out) _).trans (((cell_far (p := ⟨gb191, _, none⟩) (Z2 GW191.out) _).trans (hHeld.2.2.2))))⟩ (fun hHeld => ?_)
        clear hK K
        refine one_ (i := 11) (N := none) #[T,T,T,T,T,T,T,T,T,T,T,T] rfl rfl (one_of HT_.out (by kernel_rfl)) (by decide) (fun K hK => ?_)
        have hs15 : w12.cell? ⟨gb192, 0, none⟩ = some (.int .i64 0) := (blk_cell BK192.out 0).trans rfl
        have hfs15 := blk_frozen BK192.out 0
        have hns15_0 := NB191_192.out
        have hms15_0 := NB192_191.out
        have hs16 : w12.cell? ⟨gb192, 1, none⟩ = some (.int .i64 0) := (blk_cell BK192.out 1).trans rfl
        have hfs16 := blk_frozen BK192.out 1
        have hns16_0 := NB191_192.out
        have hms16_0 := NB192_191.out
        refine skip_ (w1 := ?_) (by rfl) rfl ?_ ?_
        rotate_left
        ·go_simp
         rfl
        refine hK.out _ _ ⟨((cell_far (p := ⟨gb192, _, none⟩) (Z5 GW192.out) _).trans (((cell_far (p := ⟨gb192, _, none⟩) (Z5 GW192.out) _).trans (hHeld.1)))), ((cell_far (p := ⟨gb192, _, none⟩) (Z4 GW192.out) _).trans (((cell_far (p := ⟨gb192, _, none⟩) (Z4 GW192.out) _).trans (hHeld.2.1)))), ((cell_far (p := ⟨gb192, _, none⟩) (Z3 GW192.out) _).trans (((cell_far (p := ⟨gb192, _, none⟩) (Z3 GW192.out) _).trans (hHeld.2.2.1)))), ((cell_far (p := ⟨gb192, _, none⟩) (Z2 GW192.out) _).trans (((cell_far (p := ⟨gb192, _, none⟩) (Z2 GW192.out) _).trans (hHeld.2.2.2))))⟩ (fun hHeld => ?_)
        clear hK K
        refine done_ (done_of HT_.out (by kernel_rfl)) ?_
        have hnb17 := NB191_192.out
        have hnc17 := NB192_191.out
        have hcz18_0 : w12.cell? ⟨gb191, 0, none⟩ = some (.int .i64 0) := (blk_cell BK191.out 0).trans rfl
        have hcz18_1 : w12.cell? ⟨gb191, 1, none⟩ = some (.int .i64 0) := (blk_cell BK191.out 1).trans rfl
        have hfz18_0 := blk_frozen BK191.out 0
        have hfz18_1 := blk_frozen BK191.out 1
        have hcz19_0 : w12.cell? ⟨gb192, 0, none⟩ = some (.int .i64 0) := (blk_cell BK192.out 0).trans rfl
        have hcz19_1 : w12.cell? ⟨gb192, 1, none⟩ = some (.int .i64 0) := (blk_cell BK192.out 1).trans rfl
        have hfz19_0 := blk_frozen BK192.out 0
        have hfz19_1 := blk_frozen BK192.out 1
        try go_wp2
        go_roundg k1
        case measure => have := HK1.out; omega
        case rel => exact ⟨(wrap64 (x13_1 + 1)), Z17, H', ⟨by have := HK1.out; omega⟩, ⟨Z11 GE191.out GE192.out⟩⟩
       ·rw [if_neg c8] at H
        have c8b0 : (((rd_T92 l0 x13_1).f0) == ((rd_T92 l1 x13_1).f0) && (((rd_T92 l0 x13_1).f1) == ((rd_T92 l1 x13_1).f1))) = false := by simpa using c8
        (try (have c8b1 : decide (((rd_T92 l0 x13_1).f0) = ((rd_T92 l1 x13_1).f0) && (((rd_T92 l0 x13_1).f1) == ((rd_T92 l1 x13_1).f1))) = false := by simpa using c8))
        (try (have c8b2 : (((rd_T92 l0 x13_1).f0) == ((rd_T92 l1 x13_1).f0) && (((rd_T92 l0 x13_1).f1) == ((rd_T92 l1 x13_1).f1))) = false := by simpa using c8))
        (try (have c8b3 : ¬ (((rd_T92 l0 x13_1).f0) = ((rd_T92 l1 x13_1).f0) && (((rd_T92 l0 x13_1).f1) == ((rd_T92 l1 x13_1).f1))) := by simpa using c8))
        clear c8
        by_cases c20 : ((rd_T92 l0 x13_1).f0) < ((rd_T92 l1 x13_1).f0)
        ·rw [if_pos c20] at H
         have c20b0 : decide (((rd_T92 l0 x13_1).f0) < ((rd_T92 l1 x13_1).f0)) = true := decide_eq_true c20
         clear c20
         obtain rfl := Option.some.inj H
         try go_wp2
         have n0_ := A_ (below_drew1 HB.out)
         clear HB
         have HB := n0_
         clear n0_
         have p189 : 0 ≤ (x13_1 : Int) := of_decide_eq_true Z9
         have q189 : x13_1 < (l0.length : Int) := of_decide_eq_true Z9
         obtain ⟨ad189, e189, hx189_0, hx189_1⟩ := at_T92 HR0.out x13_1 p189 q189
         have hw189_1 := hx189_1
         have hw189_0 := hx189_0
         cases e189
         replace hx189_0 := ZC HB.out hx189_0
         replace hx189_1 := ZC HB.out hx189_1
         replace p189 := eq_true p189
         replace q189 := eq_true q189
         have p190 : 0 ≤ (x13_1 : Int) := of_decide_eq_true Z9
         have q190 : x13_1 < (l1.length : Int) := of_decide_eq_true Z9
         obtain ⟨ad190, e190, hx190_0, hx190_1⟩ := at_T92 HR1.out x13_1 p190 q190
         have hw190_1 := hx190_1
         have hw190_0 := hx190_0
         cases e190
         replace hx190_0 := ZC HB.out hx190_0
         replace hx190_1 := ZC HB.out hx190_1
         replace p190 := eq_true p190
         replace q190 := eq_true q190
         refine start_ (n := 12) (S := fun w' => w'.cell? (ad189.add ((x13_1).toNat * 2)) = some (.int .i64 ((rd_T92 l0 x13_1).f0)) ∧ w'.cell? ⟨(ad189.add ((x13_1).toNat * 2)).block, (ad189.add ((x13_1).toNat * 2)).off + 1, none⟩ = some (.int .i64 ((rd_T92 l0 x13_1).f1)) ∧ w'.cell? (ad190.add ((x13_1).toNat * 2)) = some (.int .i64 ((rd_T92 l1 x13_1).f0)) ∧ w'.cell? ⟨(ad190.add ((x13_1).toNat * 2)).block, (ad190.add ((x13_1).toNat * 2)).off + 1, none⟩ = some (.int .i64 ((rd_T92 l1 x13_1).f1))) (ds := []) #[F,F,F,F,F,F,F,F,F,F,F,F] (by kernel_rfl) rfl rfl ⟨(ZC HB.out hw189_0 :), (ZC HB.out hw189_1 :), (ZC HB.out hw190_0 :), (ZC HB.out hw190_1 :)⟩ (fun hHeld => ?_); refine with_tabW impl_placeCmp.tab4 impl_placeCmp.bits4 (fun HT_ HW_ => ?_)
         generalize wr.drew = w21 at HB hx189_0 hx189_1 hx190_0 hx190_1 hHeld ⊢
         refine pure_ (i := 0) (N := some 16) (v := ?_) (a' := ?_) #[T,F,F,F,F,F,F,F,F,F,F,F] rfl rfl ZA ZF (Or.inl ⟨by rfl, ?_⟩) ?_ ?_
         rotate_left
         ·exact Z18
         rotate_left
         ·exact Z6
         refine pure_ (i := 1) (N := some 17) (v := ?_) (a' := ?_) #[T,T,F,F,F,F,F,F,F,F,F,F] rfl rfl ZA ZF (Or.inl ⟨by rfl, ?_⟩) ?_ ?_
         rotate_left
         ·exact Z18
         rotate_left
         ·exact Z6
         refine pure_ (i := 2) (N := some 18) (v := ?_) (a' := ?_) #[T,T,T,F,F,F,F,F,F,F,F,F] rfl rfl ZA ZF (Or.inl ⟨by rfl, ?_⟩) ?_ ?_
         rotate_left
         ·exact Z18
         rotate_left
         ·exact Z6
         refine pure_ (i := 4) (N := some 20) (v := ?_) (a' := ?_) #[T,T,T,F,T,F,F,F,F,F,F,F] rfl rfl ZA ZF (Or.inl ⟨by rfl, ?_⟩) ?_ ?_
         rotate_left
         ·exact Z18
         rotate_left
         ·exact Z6
         refine pure_ (i := 5) (N := some 21) (v := ?_) (a' := ?_) #[T,T,T,F,T,T,F,F,F,F,F,F] rfl rfl ZA ZF (Or.inl ⟨by rfl, ?_⟩) ?_ ?_
         rotate_left
         ·exact Z18
         rotate_left
         ·exact Z6
         refine pure_ (i := 6) (N := some 22) (v := ?_) (a' := ?_) #[T,T,T,F,T,T,T,F,F,F,F,F] rfl rfl ZA ZF (Or.inl ⟨by rfl, ?_⟩) ?_ ?_
         rotate_left
         ·exact Z18
         rotate_left
         ·exact Z6
         refine take_ (i := 3) (N := some 19) (v := ?_) (a' := ?_) #[T,T,T,T,T,T,T,F,F,F,F,F] rfl rfl (take_ofW HT_.out HW_.out (by kernel_rfl)) ZF (Or.inl ⟨by rfl, ?_⟩) hHeld ?_ ?_
         rotate_left
         ·exact Z30
         rotate_left
         ·exact Z6
         refine take_ (i := 7) (N := some 23) (v := ?_) (a' := ?_) #[T,T,T,T,T,T,T,T,F,F,F,F] rfl rfl (take_ofW HT_.out HW_.out (by kernel_rfl)) ZF (Or.inl ⟨by rfl, ?_⟩) hHeld ?_ ?_
         rotate_left
         ·exact Z30
         rotate_left
         ·exact Z6
         refine join_ (σ := Nat × Nat) 2 #[T,T,T,T,T,T,T,T,T,T,F,F] (fun s_ => [(6, .pointer (some ⟨s_.1, 0, none⟩)), (7, .pointer (some ⟨s_.2, 0, none⟩))]) (fun s_ w' => (w'.cell? (ad189.add ((x13_1).toNat * 2)) = some (.int .i64 ((rd_T92 l0 x13_1).f0)) ∧ w'.cell? ⟨(ad189.add ((x13_1).toNat * 2)).block, (ad189.add ((x13_1).toNat * 2)).off + 1, none⟩ = some (.int .i64 ((rd_T92 l0 x13_1).f1)) ∧ w'.cell? (ad190.add ((x13_1).toNat * 2)) = some (.int .i64 ((rd_T92 l1 x13_1).f0)) ∧ w'.cell? ⟨(ad190.add ((x13_1).toNat * 2)).block, (ad190.add ((x13_1).toNat * 2)).off + 1, none⟩ = some (.int .i64 ((rd_T92 l1 x13_1).f1))) ∧ (w'.heap[s_.1]? = some (.cells #[.int .i64 0, .int .i64 0] 92 (0, 0))) ∧ (w'.heap[s_.2]? = some (.cells #[.int .i64 0, .int .i64 0] 92 (0, 0))) ∧ (w.heap.size ≤ s_.1) ∧ (w.heap.size ≤ s_.1) ∧ (s_.2 ≠ s_.1) ∧ (s_.1 ≠ s_.2) ∧ (w.heap.size ≤ s_.2) ∧ (w.heap.size ≤ s_.2) ∧ (Below w.heap.size w w')) ?_ ?_
         rotate_left
         ·intro hCont
          refine two_ (i := 8) (j := 9) (Ni := some 6) (Nj := some 7) #[T,T,T,T,T,T,T,T,T,F,F,F] #[T,T,T,T,T,T,T,T,F,T,F,F] rfl rfl rfl rfl (two_of HT_.out (by kernel_rfl)) (by decide) (by decide) (fun K hK => ?_) (fun K hK => ?_)
          ·skip
           refine box_step ?hg (N := 6) ?hd (cs := #[.int .i64 0, .int .i64 0]) (t := 92) ?hr ?_; (case hd => rfl); (case hg => rfl); (case hr => exact Z19)
           intro gb191 hg w22 hbox hb
           have n0_ := A_ (below_step Z0 hb)
           have n1_ := A_ (hbox)
           have n2_ := A_ ((by rw [hg]; exact (below_size Z0) : w.heap.size ≤ gb191))
           have n3_ := A_ ((by rw [hg]; exact (below_size Z0) : w.heap.size ≤ gb191))
           clear HB
           have HB := n0_
           have BK191 := n1_
           have GW191 := n2_
           have GE191 := n3_
           clear n0_ n1_ n2_ n3_
           clear hb hbox hg
           refine hK.out _ _ ⟨(ZC HB.out hw189_0 :), (ZC HB.out hw189_1 :), (ZC HB.out hw190_0 :), (ZC HB.out hw190_1 :)⟩ (fun hHeld => ?_)
           clear hK K
           refine norm_ (a' := ?_) ?_ ?_
           rotate_left
           ·exact Z22
           refine one_ (i := 9) (N := some 7) #[T,T,T,T,T,T,T,T,T,T,F,F] rfl rfl (one_of HT_.out (by kernel_rfl)) (by decide) (fun K hK => ?_)
           refine box_step ?hg (N := 7) ?hd (cs := #[.int .i64 0, .int .i64 0]) (t := 92) ?hr ?_; (case hd => rfl); (case hg => rfl); (case hr => exact Z19)
           intro gb192 hg w23 hbox hb
           have n0_ := A_ (blk_below (g := gb191) (o := .cells #[.int .i64 0, .int .i64 0] 92 (0, 0)) (Z7 BK191.out) hb)
           have n1_ := A_ (below_step (Z1 GE191.out) hb)
           have n2_ := A_ (hbox)
           have n3_ := A_ ((by rw [hg]; exact (below_size (Z1 GE191.out)) : w.heap.size ≤ gb192))
           have n4_ := A_ ((by rw [hg]; exact (below_size (Z1 GE191.out)) : w.heap.size ≤ gb192))
           have n5_ := A_ ((by rw [hg]; exact Nat.ne_of_lt (blk_lt (g := gb191) (o := .cells #[.int .i64 0, .int .i64 0] 92 (0, 0)) (Z7 BK191.out)) : gb191 ≠ gb192))
           have n6_ := A_ ((by rw [hg]; exact Nat.ne_of_gt (blk_lt (g := gb191) (o := .cells #[.int .i64 0, .int .i64 0] 92 (0, 0)) (Z7 BK191.out)) : gb192 ≠ gb191))
           clear BK191
           clear HB
           have BK191 := n0_
           have HB := n1_
           have BK192 := n2_
           have GW192 := n3_
           have GE192 := n4_
           have NB191_192 := n5_
           have NB192_191 := n6_
           clear n0_ n1_ n2_ n3_ n4_ n5_ n6_
           clear hb hbox hg
           refine hK.out _ _ ⟨(ZC HB.out hw189_0 :), (ZC HB.out hw189_1 :), (ZC HB.out hw190_0 :), (ZC HB.out hw190_1 :)⟩ (fun hHeld => ?_)
           clear hK K
           refine norm_ (a' := ?_) ?_ ?_
           rotate_left
           ·exact Z21
           exact norm_ Z29 (hCont (gb191, gb192) _ ⟨hHeld, (Z7 BK191.out), (Z7 BK192.out), GW191.out, GE191.out, NB192_191.out, NB191_192.out, GW192.out, GE192.out, (Z11 GE191.out GE192.out)⟩)
          ·skip
           refine box_step ?hg (N := 7) ?hd (cs := #[.int .i64 0, .int .i64 0]) (t := 92) ?hr ?_; (case hd => rfl); (case hg => rfl); (case hr => exact Z19)
           intro gb192 hg w22 hbox hb
           have n0_ := A_ (below_step Z0 hb)
           have n1_ := A_ (hbox)
           have n2_ := A_ ((by rw [hg]; exact (below_size Z0) : w.heap.size ≤ gb192))
           have n3_ := A_ ((by rw [hg]; exact (below_size Z0) : w.heap.size ≤ gb192))
           clear HB
           have HB := n0_
           have BK192 := n1_
           have GW192 := n2_
           have GE192 := n3_
           clear n0_ n1_ n2_ n3_
           clear hb hbox hg
           refine hK.out _ _ ⟨(ZC HB.out hw189_0 :), (ZC HB.out hw189_1 :), (ZC HB.out hw190_0 :), (ZC HB.out hw190_1 :)⟩ (fun hHeld => ?_)
           clear hK K
           refine norm_ (a' := ?_) ?_ ?_
           rotate_left
           ·exact Z21
           refine one_ (i := 8) (N := some 6) #[T,T,T,T,T,T,T,T,T,T,F,F] rfl rfl (one_of HT_.out (by kernel_rfl)) (by decide) (fun K hK => ?_)
           refine box_step ?hg (N := 6) ?hd (cs := #[.int .i64 0, .int .i64 0]) (t := 92) ?hr ?_; (case hd => rfl); (case hg => rfl); (case hr => exact Z19)
           intro gb191 hg w23 hbox hb
           have n0_ := A_ (blk_below (g := gb192) (o := .cells #[.int .i64 0, .int .i64 0] 92 (0, 0)) (Z7 BK192.out) hb)
           have n1_ := A_ (below_step (Z1 GE192.out) hb)
           have n2_ := A_ (hbox)
           have n3_ := A_ ((by rw [hg]; exact (below_size (Z1 GE192.out)) : w.heap.size ≤ gb191))
           have n4_ := A_ ((by rw [hg]; exact (below_size (Z1 GE192.out)) : w.heap.size ≤ gb191))
           have n5_ := A_ ((by rw [hg]; exact Nat.ne_of_lt (blk_lt (g := gb192) (o := .cells #[.int .i64 0, .int .i64 0] 92 (0, 0)) (Z7 BK192.out)) : gb192 ≠ gb191))
           have n6_ := A_ ((by rw [hg]; exact Nat.ne_of_gt (blk_lt (g := gb192) (o := .cells #[.int .i64 0, .int .i64 0] 92 (0, 0)) (Z7 BK192.out)) : gb191 ≠ gb192))
           clear BK192
           clear HB
           have BK192 := n0_
           have HB := n1_
           have BK191 := n2_
           have GW191 := n3_
           have GE191 := n4_
           have NB192_191 := n5_
           have NB191_192 := n6_
           clear n0_ n1_ n2_ n3_ n4_ n5_ n6_
           clear hb hbox hg
           refine hK.out _ _ ⟨(ZC HB.out hw189_0 :), (ZC HB.out hw189_1 :), (ZC HB.out hw190_0 :), (ZC HB.out hw190_1 :)⟩ (fun hHeld => ?_)
           clear hK K
           refine norm_ (a' := ?_) ?_ ?_
           rotate_left
           ·exact Z22
           exact norm_ Z29 (hCont (gb191, gb192) _ ⟨hHeld, (Z7 BK191.out), (Z7 BK192.out), GW191.out, GE191.out, NB192_191.out, NB191_192.out, GW192.out, GE192.out, (Z11 GE192.out GE191.out)⟩)
         rintro ⟨gb191, gb192⟩ w24 ⟨hS_, h0_, h1_, h2_, h3_, h4_, h5_, h6_, h7_, h8_⟩
         have n0_ : Aside0 (w24.heap[gb191]? = some (.cells #[.int .i64 0, .int .i64 0] 92 (0, 0))) := ⟨h0_⟩
         have n1_ : Aside0 (w24.heap[gb192]? = some (.cells #[.int .i64 0, .int .i64 0] 92 (0, 0))) := ⟨h1_⟩
         have n2_ : Aside0 (w.heap.size ≤ gb191) := ⟨h2_⟩
         have n3_ : Aside0 (w.heap.size ≤ gb191) := ⟨h3_⟩
         have n4_ : Aside0 (gb192 ≠ gb191) := ⟨h4_⟩
         have n5_ : Aside0 (gb191 ≠ gb192) := ⟨h5_⟩
         have n6_ : Aside0 (w.heap.size ≤ gb192) := ⟨h6_⟩
         have n7_ : Aside0 (w.heap.size ≤ gb192) := ⟨h7_⟩
         have n8_ : Aside0 (Below w.heap.size w w24) := ⟨h8_⟩
         clear HB
         clear h0_ h1_ h2_ h3_ h4_ h5_ h6_ h7_ h8_
         have BK191 := n0_
         have BK192 := n1_
         have GW191 := n2_
         have GE191 := n3_
         have NB192_191 := n4_
         have NB191_192 := n5_
         have GW192 := n6_
         have GE192 := n7_
         have HB := n8_
         clear n0_ n1_ n2_ n3_ n4_ n5_ n6_ n7_ n8_
         have hHeld : w24.cell? (ad189.add ((x13_1).toNat * 2)) = some (.int .i64 ((rd_T92 l0 x13_1).f0)) ∧ w24.cell? ⟨(ad189.add ((x13_1).toNat * 2)).block, (ad189.add ((x13_1).toNat * 2)).off + 1, none⟩ = some (.int .i64 ((rd_T92 l0 x13_1).f1)) ∧ w24.cell? (ad190.add ((x13_1).toNat * 2)) = some (.int .i64 ((rd_T92 l1 x13_1).f0)) ∧ w24.cell? ⟨(ad190.add ((x13_1).toNat * 2)).block, (ad190.add ((x13_1).toNat * 2)).off + 1, none⟩ = some (.int .i64 ((rd_T92 l1 x13_1).f1)) := hS_
         refine norm_ (a' := ?_) ?_ ?_
         rotate_left
         ·exact Z35
         refine one_ (i := 10) (N := none) #[T,T,T,T,T,T,T,T,T,T,T,F] rfl rfl (one_of HT_.out (by kernel_rfl)) (by decide) (fun K hK => ?_)
         have hs25 : w24.cell? ⟨gb191, 0, none⟩ = some (.int .i64 0) := (blk_cell BK191.out 0).trans rfl
         have hfs25 := blk_frozen BK191.out 0
         have hns25_1 := NB192_191.out
         have hms25_1 := NB191_192.out
         have hs26 : w24.cell? ⟨gb191, 1, none⟩ = some (.int .i64 0) := (blk_cell BK191.out 1).trans rfl
         have hfs26 := blk_frozen BK191.out 1
         have hns26_1 := NB192_191.out
         have hms26_1 := NB191_192.out
         refine skip_ (w1 := ?_) (by rfl) rfl ?_ ?_
         rotate_left
         ·go_simp
          rfl
         refine hK.out _ _ ⟨((cell_far (p := ⟨gb191, _, none⟩) (Z5 GW191.out) _).trans (((cell_far (p := ⟨gb191, _, none⟩) (Z5 GW191.out) _).trans (hHeld.1)))), ((cell_far (p := ⟨gb191, _, none⟩) (Z4 GW191.out) _).trans (((cell_far (p := ⟨gb191, _, none⟩) (Z4 GW191.out) _).trans (hHeld.2.1)))), ((cell_far (p := ⟨gb191, _, none⟩) (Z3 GW191.out) _).trans (((cell_far (p := ⟨gb191, _, none⟩) (Z3 GW191.out) _).trans (hHeld.2.2.1)))), ((cell_far (p := ⟨gb191, _, none⟩) (Z2 GW191.out) _).trans (((cell_far (p := ⟨gb191, _, none⟩) (Z2 GW191.out) _).trans (hHeld.2.2.2))))⟩ (fun hHeld => ?_)
         clear hK K
         refine one_ (i := 11) (N := none) #[T,T,T,T,T,T,T,T,T,T,T,T] rfl rfl (one_of HT_.out (by kernel_rfl)) (by decide) (fun K hK => ?_)
         have hs27 : w24.cell? ⟨gb192, 0, none⟩ = some (.int .i64 0) := (blk_cell BK192.out 0).trans rfl
         have hfs27 := blk_frozen BK192.out 0
         have hns27_0 := NB191_192.out
         have hms27_0 := NB192_191.out
         have hs28 : w24.cell? ⟨gb192, 1, none⟩ = some (.int .i64 0) := (blk_cell BK192.out 1).trans rfl
         have hfs28 := blk_frozen BK192.out 1
         have hns28_0 := NB191_192.out
         have hms28_0 := NB192_191.out
         refine skip_ (w1 := ?_) (by rfl) rfl ?_ ?_
         rotate_left
         ·go_simp
          rfl
         refine hK.out _ _ ⟨((cell_far (p := ⟨gb192, _, none⟩) (Z5 GW192.out) _).trans (((cell_far (p := ⟨gb192, _, none⟩) (Z5 GW192.out) _).trans (hHeld.1)))), ((cell_far (p := ⟨gb192, _, none⟩) (Z4 GW192.out) _).trans (((cell_far (p := ⟨gb192, _, none⟩) (Z4 GW192.out) _).trans (hHeld.2.1)))), ((cell_far (p := ⟨gb192, _, none⟩) (Z3 GW192.out) _).trans (((cell_far (p := ⟨gb192, _, none⟩) (Z3 GW192.out) _).trans (hHeld.2.2.1)))), ((cell_far (p := ⟨gb192, _, none⟩) (Z2 GW192.out) _).trans (((cell_far (p := ⟨gb192, _, none⟩) (Z2 GW192.out) _).trans (hHeld.2.2.2))))⟩ (fun hHeld => ?_)
         clear hK K
         refine done_ (done_of HT_.out (by kernel_rfl)) ?_
         have hnb29 := NB191_192.out
         have hnc29 := NB192_191.out
         have hcz30_0 : w24.cell? ⟨gb191, 0, none⟩ = some (.int .i64 0) := (blk_cell BK191.out 0).trans rfl
         have hcz30_1 : w24.cell? ⟨gb191, 1, none⟩ = some (.int .i64 0) := (blk_cell BK191.out 1).trans rfl
         have hfz30_0 := blk_frozen BK191.out 0
         have hfz30_1 := blk_frozen BK191.out 1
         have hcz31_0 : w24.cell? ⟨gb192, 0, none⟩ = some (.int .i64 0) := (blk_cell BK192.out 0).trans rfl
         have hcz31_1 : w24.cell? ⟨gb192, 1, none⟩ = some (.int .i64 0) := (blk_cell BK192.out 1).trans rfl
         have hfz31_0 := blk_frozen BK192.out 0
         have hfz31_1 := blk_frozen BK192.out 1
         try go_wp2
         go_ret
         exact ⟨Z25, Z11 GE191.out GE192.out⟩
        ·rw [if_neg c20] at H
         have c20b0 : decide (((rd_T92 l0 x13_1).f0) < ((rd_T92 l1 x13_1).f0)) = false := decide_eq_false c20
         clear c20
         by_cases c32 : ((rd_T92 l0 x13_1).f0) = ((rd_T92 l1 x13_1).f0)
         ·rw [if_pos c32] at H
          have c32b0 : (((rd_T92 l0 x13_1).f0) == ((rd_T92 l1 x13_1).f0)) = true := beq_iff_eq.mpr c32
          have c32x : (((rd_T92 l0 x13_1).f1) == ((rd_T92 l1 x13_1).f1)) = false := by have hq_ := c8b0; rw [c32b0, Bool.true_and] at hq_; exact hq_
          have c32b1 : (((rd_T92 l0 x13_1).f0) != ((rd_T92 l1 x13_1).f0)) = false := bne_eq_false_iff_eq.mpr c32
          clear c32
          by_cases c33 : ((rd_T92 l0 x13_1).f1) < ((rd_T92 l1 x13_1).f1)
          ·rw [if_pos c33] at H
           have c33b0 : decide (((rd_T92 l0 x13_1).f1) < ((rd_T92 l1 x13_1).f1)) = true := decide_eq_true c33
           clear c33
           obtain rfl := Option.some.inj H
           try go_wp2
           have n0_ := A_ (below_drew1 HB.out)
           clear HB
           have HB := n0_
           clear n0_
           have p189 : 0 ≤ (x13_1 : Int) := of_decide_eq_true Z9
           have q189 : x13_1 < (l0.length : Int) := of_decide_eq_true Z9
           obtain ⟨ad189, e189, hx189_0, hx189_1⟩ := at_T92 HR0.out x13_1 p189 q189
           have hw189_1 := hx189_1
           have hw189_0 := hx189_0
           cases e189
           replace hx189_0 := ZC HB.out hx189_0
           replace hx189_1 := ZC HB.out hx189_1
           replace p189 := eq_true p189
           replace q189 := eq_true q189
           have p190 : 0 ≤ (x13_1 : Int) := of_decide_eq_true Z9
           have q190 : x13_1 < (l1.length : Int) := of_decide_eq_true Z9
           obtain ⟨ad190, e190, hx190_0, hx190_1⟩ := at_T92 HR1.out x13_1 p190 q190
           have hw190_1 := hx190_1
           have hw190_0 := hx190_0
           cases e190
           replace hx190_0 := ZC HB.out hx190_0
           replace hx190_1 := ZC HB.out hx190_1
           replace p190 := eq_true p190
           replace q190 := eq_true q190
           refine start_ (n := 12) (S := fun w' => w'.cell? (ad189.add ((x13_1).toNat * 2)) = some (.int .i64 ((rd_T92 l0 x13_1).f0)) ∧ w'.cell? ⟨(ad189.add ((x13_1).toNat * 2)).block, (ad189.add ((x13_1).toNat * 2)).off + 1, none⟩ = some (.int .i64 ((rd_T92 l0 x13_1).f1)) ∧ w'.cell? (ad190.add ((x13_1).toNat * 2)) = some (.int .i64 ((rd_T92 l1 x13_1).f0)) ∧ w'.cell? ⟨(ad190.add ((x13_1).toNat * 2)).block, (ad190.add ((x13_1).toNat * 2)).off + 1, none⟩ = some (.int .i64 ((rd_T92 l1 x13_1).f1))) (ds := []) #[F,F,F,F,F,F,F,F,F,F,F,F] (by kernel_rfl) rfl rfl ⟨(ZC HB.out hw189_0 :), (ZC HB.out hw189_1 :), (ZC HB.out hw190_0 :), (ZC HB.out hw190_1 :)⟩ (fun hHeld => ?_); refine with_tabW impl_placeCmp.tab4 impl_placeCmp.bits4 (fun HT_ HW_ => ?_)
           generalize wr.drew = w34 at HB hx189_0 hx189_1 hx190_0 hx190_1 hHeld ⊢
           refine pure_ (i := 0) (N := some 16) (v := ?_) (a' := ?_) #[T,F,F,F,F,F,F,F,F,F,F,F] rfl rfl ZA ZF (Or.inl ⟨by rfl, ?_⟩) ?_ ?_
           rotate_left
           ·exact Z18
           rotate_left
           ·exact Z6
           refine pure_ (i := 1) (N := some 17) (v := ?_) (a' := ?_) #[T,T,F,F,F,F,F,F,F,F,F,F] rfl rfl ZA ZF (Or.inl ⟨by rfl, ?_⟩) ?_ ?_
           rotate_left
           ·exact Z18
           rotate_left
           ·exact Z6
           refine pure_ (i := 2) (N := some 18) (v := ?_) (a' := ?_) #[T,T,T,F,F,F,F,F,F,F,F,F] rfl rfl ZA ZF (Or.inl ⟨by rfl, ?_⟩) ?_ ?_
           rotate_left
           ·exact Z18
           rotate_left
           ·exact Z6
           refine pure_ (i := 4) (N := some 20) (v := ?_) (a' := ?_) #[T,T,T,F,T,F,F,F,F,F,F,F] rfl rfl ZA ZF (Or.inl ⟨by rfl, ?_⟩) ?_ ?_
           rotate_left
           ·exact Z18
           rotate_left
           ·exact Z6
           refine pure_ (i := 5) (N := some 21) (v := ?_) (a' := ?_) #[T,T,T,F,T,T,F,F,F,F,F,F] rfl rfl ZA ZF (Or.inl ⟨by rfl, ?_⟩) ?_ ?_
           rotate_left
           ·exact Z18
           rotate_left
           ·exact Z6
           refine pure_ (i := 6) (N := some 22) (v := ?_) (a' := ?_) #[T,T,T,F,T,T,T,F,F,F,F,F] rfl rfl ZA ZF (Or.inl ⟨by rfl, ?_⟩) ?_ ?_
           rotate_left
           ·exact Z18
           rotate_left
           ·exact Z6
           refine take_ (i := 3) (N := some 19) (v := ?_) (a' := ?_) #[T,T,T,T,T,T,T,F,F,F,F,F] rfl rfl (take_ofW HT_.out HW_.out (by kernel_rfl)) ZF (Or.inl ⟨by rfl, ?_⟩) hHeld ?_ ?_
           rotate_left
           ·exact Z30
           rotate_left
           ·exact Z6
           refine take_ (i := 7) (N := some 23) (v := ?_) (a' := ?_) #[T,T,T,T,T,T,T,T,F,F,F,F] rfl rfl (take_ofW HT_.out HW_.out (by kernel_rfl)) ZF (Or.inl ⟨by rfl, ?_⟩) hHeld ?_ ?_
           rotate_left
           ·exact Z30
           rotate_left
           ·exact Z6
           refine join_ (σ := Nat × Nat) 2 #[T,T,T,T,T,T,T,T,T,T,F,F] (fun s_ => [(6, .pointer (some ⟨s_.1, 0, none⟩)), (7, .pointer (some ⟨s_.2, 0, none⟩))]) (fun s_ w' => (w'.cell? (ad189.add ((x13_1).toNat * 2)) = some (.int .i64 ((rd_T92 l0 x13_1).f0)) ∧ w'.cell? ⟨(ad189.add ((x13_1).toNat * 2)).block, (ad189.add ((x13_1).toNat * 2)).off + 1, none⟩ = some (.int .i64 ((rd_T92 l0 x13_1).f1)) ∧ w'.cell? (ad190.add ((x13_1).toNat * 2)) = some (.int .i64 ((rd_T92 l1 x13_1).f0)) ∧ w'.cell? ⟨(ad190.add ((x13_1).toNat * 2)).block, (ad190.add ((x13_1).toNat * 2)).off + 1, none⟩ = some (.int .i64 ((rd_T92 l1 x13_1).f1))) ∧ (w'.heap[s_.1]? = some (.cells #[.int .i64 0, .int .i64 0] 92 (0, 0))) ∧ (w'.heap[s_.2]? = some (.cells #[.int .i64 0, .int .i64 0] 92 (0, 0))) ∧ (w.heap.size ≤ s_.1) ∧ (w.heap.size ≤ s_.1) ∧ (s_.2 ≠ s_.1) ∧ (s_.1 ≠ s_.2) ∧ (w.heap.size ≤ s_.2) ∧ (w.heap.size ≤ s_.2) ∧ (Below w.heap.size w w')) ?_ ?_
           rotate_left
           ·intro hCont
            refine two_ (i := 8) (j := 9) (Ni := some 6) (Nj := some 7) #[T,T,T,T,T,T,T,T,T,F,F,F] #[T,T,T,T,T,T,T,T,F,T,F,F] rfl rfl rfl rfl (two_of HT_.out (by kernel_rfl)) (by decide) (by decide) (fun K hK => ?_) (fun K hK => ?_)
            ·skip
             refine box_step ?hg (N := 6) ?hd (cs := #[.int .i64 0, .int .i64 0]) (t := 92) ?hr ?_; (case hd => rfl); (case hg => rfl); (case hr => exact Z19)
             intro gb191 hg w35 hbox hb
             have n0_ := A_ (below_step Z0 hb)
             have n1_ := A_ (hbox)
             have n2_ := A_ ((by rw [hg]; exact (below_size Z0) : w.heap.size ≤ gb191))
             have n3_ := A_ ((by rw [hg]; exact (below_size Z0) : w.heap.size ≤ gb191))
             clear HB
             have HB := n0_
             have BK191 := n1_
             have GW191 := n2_
             have GE191 := n3_
             clear n0_ n1_ n2_ n3_
             clear hb hbox hg
             refine hK.out _ _ ⟨(ZC HB.out hw189_0 :), (ZC HB.out hw189_1 :), (ZC HB.out hw190_0 :), (ZC HB.out hw190_1 :)⟩ (fun hHeld => ?_)
             clear hK K
             refine norm_ (a' := ?_) ?_ ?_
             rotate_left
             ·exact Z22
             refine one_ (i := 9) (N := some 7) #[T,T,T,T,T,T,T,T,T,T,F,F] rfl rfl (one_of HT_.out (by kernel_rfl)) (by decide) (fun K hK => ?_)
             refine box_step ?hg (N := 7) ?hd (cs := #[.int .i64 0, .int .i64 0]) (t := 92) ?hr ?_; (case hd => rfl); (case hg => rfl); (case hr => exact Z19)
             intro gb192 hg w36 hbox hb
             have n0_ := A_ (blk_below (g := gb191) (o := .cells #[.int .i64 0, .int .i64 0] 92 (0, 0)) (Z7 BK191.out) hb)
             have n1_ := A_ (below_step (Z1 GE191.out) hb)
             have n2_ := A_ (hbox)
             have n3_ := A_ ((by rw [hg]; exact (below_size (Z1 GE191.out)) : w.heap.size ≤ gb192))
             have n4_ := A_ ((by rw [hg]; exact (below_size (Z1 GE191.out)) : w.heap.size ≤ gb192))
             have n5_ := A_ ((by rw [hg]; exact Nat.ne_of_lt (blk_lt (g := gb191) (o := .cells #[.int .i64 0, .int .i64 0] 92 (0, 0)) (Z7 BK191.out)) : gb191 ≠ gb192))
             have n6_ := A_ ((by rw [hg]; exact Nat.ne_of_gt (blk_lt (g := gb191) (o := .cells #[.int .i64 0, .int .i64 0] 92 (0, 0)) (Z7 BK191.out)) : gb192 ≠ gb191))
             clear BK191
             clear HB
             have BK191 := n0_
             have HB := n1_
             have BK192 := n2_
             have GW192 := n3_
             have GE192 := n4_
             have NB191_192 := n5_
             have NB192_191 := n6_
             clear n0_ n1_ n2_ n3_ n4_ n5_ n6_
             clear hb hbox hg
             refine hK.out _ _ ⟨(ZC HB.out hw189_0 :), (ZC HB.out hw189_1 :), (ZC HB.out hw190_0 :), (ZC HB.out hw190_1 :)⟩ (fun hHeld => ?_)
             clear hK K
             refine norm_ (a' := ?_) ?_ ?_
             rotate_left
             ·exact Z21
             exact norm_ Z29 (hCont (gb191, gb192) _ ⟨hHeld, (Z7 BK191.out), (Z7 BK192.out), GW191.out, GE191.out, NB192_191.out, NB191_192.out, GW192.out, GE192.out, (Z11 GE191.out GE192.out)⟩)
            ·skip
             refine box_step ?hg (N := 7) ?hd (cs := #[.int .i64 0, .int .i64 0]) (t := 92) ?hr ?_; (case hd => rfl); (case hg => rfl); (case hr => exact Z19)
             intro gb192 hg w35 hbox hb
             have n0_ := A_ (below_step Z0 hb)
             have n1_ := A_ (hbox)
             have n2_ := A_ ((by rw [hg]; exact (below_size Z0) : w.heap.size ≤ gb192))
             have n3_ := A_ ((by rw [hg]; exact (below_size Z0) : w.heap.size ≤ gb192))
             clear HB
             have HB := n0_
             have BK192 := n1_
             have GW192 := n2_
             have GE192 := n3_
             clear n0_ n1_ n2_ n3_
             clear hb hbox hg
             refine hK.out _ _ ⟨(ZC HB.out hw189_0 :), (ZC HB.out hw189_1 :), (ZC HB.out hw190_0 :), (ZC HB.out hw190_1 :)⟩ (fun hHeld => ?_)
             clear hK K
             refine norm_ (a' := ?_) ?_ ?_
             rotate_left
             ·exact Z21
             refine one_ (i := 8) (N := some 6) #[T,T,T,T,T,T,T,T,T,T,F,F] rfl rfl (one_of HT_.out (by kernel_rfl)) (by decide) (fun K hK => ?_)
             refine box_step ?hg (N := 6) ?hd (cs := #[.int .i64 0, .int .i64 0]) (t := 92) ?hr ?_; (case hd => rfl); (case hg => rfl); (case hr => exact Z19)
             intro gb191 hg w36 hbox hb
             have n0_ := A_ (blk_below (g := gb192) (o := .cells #[.int .i64 0, .int .i64 0] 92 (0, 0)) (Z7 BK192.out) hb)
             have n1_ := A_ (below_step (Z1 GE192.out) hb)
             have n2_ := A_ (hbox)
             have n3_ := A_ ((by rw [hg]; exact (below_size (Z1 GE192.out)) : w.heap.size ≤ gb191))
             have n4_ := A_ ((by rw [hg]; exact (below_size (Z1 GE192.out)) : w.heap.size ≤ gb191))
             have n5_ := A_ ((by rw [hg]; exact Nat.ne_of_lt (blk_lt (g := gb192) (o := .cells #[.int .i64 0, .int .i64 0] 92 (0, 0)) (Z7 BK192.out)) : gb192 ≠ gb191))
             have n6_ := A_ ((by rw [hg]; exact Nat.ne_of_gt (blk_lt (g := gb192) (o := .cells #[.int .i64 0, .int .i64 0] 92 (0, 0)) (Z7 BK192.out)) : gb191 ≠ gb192))
             clear BK192
             clear HB
             have BK192 := n0_
             have HB := n1_
             have BK191 := n2_
             have GW191 := n3_
             have GE191 := n4_
             have NB192_191 := n5_
             have NB191_192 := n6_
             clear n0_ n1_ n2_ n3_ n4_ n5_ n6_
             clear hb hbox hg
             refine hK.out _ _ ⟨(ZC HB.out hw189_0 :), (ZC HB.out hw189_1 :), (ZC HB.out hw190_0 :), (ZC HB.out hw190_1 :)⟩ (fun hHeld => ?_)
             clear hK K
             refine norm_ (a' := ?_) ?_ ?_
             rotate_left
             ·exact Z22
             exact norm_ Z29 (hCont (gb191, gb192) _ ⟨hHeld, (Z7 BK191.out), (Z7 BK192.out), GW191.out, GE191.out, NB192_191.out, NB191_192.out, GW192.out, GE192.out, (Z11 GE192.out GE191.out)⟩)
           rintro ⟨gb191, gb192⟩ w37 ⟨hS_, h0_, h1_, h2_, h3_, h4_, h5_, h6_, h7_, h8_⟩
           have n0_ : Aside0 (w37.heap[gb191]? = some (.cells #[.int .i64 0, .int .i64 0] 92 (0, 0))) := ⟨h0_⟩
           have n1_ : Aside0 (w37.heap[gb192]? = some (.cells #[.int .i64 0, .int .i64 0] 92 (0, 0))) := ⟨h1_⟩
           have n2_ : Aside0 (w.heap.size ≤ gb191) := ⟨h2_⟩
           have n3_ : Aside0 (w.heap.size ≤ gb191) := ⟨h3_⟩
           have n4_ : Aside0 (gb192 ≠ gb191) := ⟨h4_⟩
           have n5_ : Aside0 (gb191 ≠ gb192) := ⟨h5_⟩
           have n6_ : Aside0 (w.heap.size ≤ gb192) := ⟨h6_⟩
           have n7_ : Aside0 (w.heap.size ≤ gb192) := ⟨h7_⟩
           have n8_ : Aside0 (Below w.heap.size w w37) := ⟨h8_⟩
           clear HB
           clear h0_ h1_ h2_ h3_ h4_ h5_ h6_ h7_ h8_
           have BK191 := n0_
           have BK192 := n1_
           have GW191 := n2_
           have GE191 := n3_
           have NB192_191 := n4_
           have NB191_192 := n5_
           have GW192 := n6_
           have GE192 := n7_
           have HB := n8_
           clear n0_ n1_ n2_ n3_ n4_ n5_ n6_ n7_ n8_
           have hHeld : w37.cell? (ad189.add ((x13_1).toNat * 2)) = some (.int .i64 ((rd_T92 l0 x13_1).f0)) ∧ w37.cell? ⟨(ad189.add ((x13_1).toNat * 2)).block, (ad189.add ((x13_1).toNat * 2)).off + 1, none⟩ = some (.int .i64 ((rd_T92 l0 x13_1).f1)) ∧ w37.cell? (ad190.add ((x13_1).toNat * 2)) = some (.int .i64 ((rd_T92 l1 x13_1).f0)) ∧ w37.cell? ⟨(ad190.add ((x13_1).toNat * 2)).block, (ad190.add ((x13_1).toNat * 2)).off + 1, none⟩ = some (.int .i64 ((rd_T92 l1 x13_1).f1)) := hS_
           refine norm_ (a' := ?_) ?_ ?_
           rotate_left
           ·exact Z35
           refine one_ (i := 10) (N := none) #[T,T,T,T,T,T,T,T,T,T,T,F] rfl rfl (one_of HT_.out (by kernel_rfl)) (by decide) (fun K hK => ?_)
           have hs38 : w37.cell? ⟨gb191, 0, none⟩ = some (.int .i64 0) := (blk_cell BK191.out 0).trans rfl
           have hfs38 := blk_frozen BK191.out 0
           have hns38_1 := NB192_191.out
           have hms38_1 := NB191_192.out
           have hs39 : w37.cell? ⟨gb191, 1, none⟩ = some (.int .i64 0) := (blk_cell BK191.out 1).trans rfl
           have hfs39 := blk_frozen BK191.out 1
           have hns39_1 := NB192_191.out
           have hms39_1 := NB191_192.out
           refine skip_ (w1 := ?_) (by rfl) rfl ?_ ?_
           rotate_left
           ·go_simp
            rfl
           refine hK.out _ _ ⟨((cell_far (p := ⟨gb191, _, none⟩) (Z5 GW191.out) _).trans (((cell_far (p := ⟨gb191, _, none⟩) (Z5 GW191.out) _).trans (hHeld.1)))), ((cell_far (p := ⟨gb191, _, none⟩) (Z4 GW191.out) _).trans (((cell_far (p := ⟨gb191, _, none⟩) (Z4 GW191.out) _).trans (hHeld.2.1)))), ((cell_far (p := ⟨gb191, _, none⟩) (Z3 GW191.out) _).trans (((cell_far (p := ⟨gb191, _, none⟩) (Z3 GW191.out) _).trans (hHeld.2.2.1)))), ((cell_far (p := ⟨gb191, _, none⟩) (Z2 GW191.out) _).trans (((cell_far (p := ⟨gb191, _, none⟩) (Z2 GW191.out) _).trans (hHeld.2.2.2))))⟩ (fun hHeld => ?_)
           clear hK K
           refine one_ (i := 11) (N := none) #[T,T,T,T,T,T,T,T,T,T,T,T] rfl rfl (one_of HT_.out (by kernel_rfl)) (by decide) (fun K hK => ?_)
           have hs40 : w37.cell? ⟨gb192, 0, none⟩ = some (.int .i64 0) := (blk_cell BK192.out 0).trans rfl
           have hfs40 := blk_frozen BK192.out 0
           have hns40_0 := NB191_192.out
           have hms40_0 := NB192_191.out
           have hs41 : w37.cell? ⟨gb192, 1, none⟩ = some (.int .i64 0) := (blk_cell BK192.out 1).trans rfl
           have hfs41 := blk_frozen BK192.out 1
           have hns41_0 := NB191_192.out
           have hms41_0 := NB192_191.out
           refine skip_ (w1 := ?_) (by rfl) rfl ?_ ?_
           rotate_left
           ·go_simp
            rfl
           refine hK.out _ _ ⟨((cell_far (p := ⟨gb192, _, none⟩) (Z5 GW192.out) _).trans (((cell_far (p := ⟨gb192, _, none⟩) (Z5 GW192.out) _).trans (hHeld.1)))), ((cell_far (p := ⟨gb192, _, none⟩) (Z4 GW192.out) _).trans (((cell_far (p := ⟨gb192, _, none⟩) (Z4 GW192.out) _).trans (hHeld.2.1)))), ((cell_far (p := ⟨gb192, _, none⟩) (Z3 GW192.out) _).trans (((cell_far (p := ⟨gb192, _, none⟩) (Z3 GW192.out) _).trans (hHeld.2.2.1)))), ((cell_far (p := ⟨gb192, _, none⟩) (Z2 GW192.out) _).trans (((cell_far (p := ⟨gb192, _, none⟩) (Z2 GW192.out) _).trans (hHeld.2.2.2))))⟩ (fun hHeld => ?_)
           clear hK K
           refine done_ (done_of HT_.out (by kernel_rfl)) ?_
           have hnb42 := NB191_192.out
           have hnc42 := NB192_191.out
           have hcz43_0 : w37.cell? ⟨gb191, 0, none⟩ = some (.int .i64 0) := (blk_cell BK191.out 0).trans rfl
           have hcz43_1 : w37.cell? ⟨gb191, 1, none⟩ = some (.int .i64 0) := (blk_cell BK191.out 1).trans rfl
           have hfz43_0 := blk_frozen BK191.out 0
           have hfz43_1 := blk_frozen BK191.out 1
           have hcz44_0 : w37.cell? ⟨gb192, 0, none⟩ = some (.int .i64 0) := (blk_cell BK192.out 0).trans rfl
           have hcz44_1 : w37.cell? ⟨gb192, 1, none⟩ = some (.int .i64 0) := (blk_cell BK192.out 1).trans rfl
           have hfz44_0 := blk_frozen BK192.out 0
           have hfz44_1 := blk_frozen BK192.out 1
           try go_wp2
           go_ret
           exact ⟨Z25, Z11 GE191.out GE192.out⟩
          ·rw [if_neg c33] at H
           have c33b0 : decide (((rd_T92 l0 x13_1).f1) < ((rd_T92 l1 x13_1).f1)) = false := decide_eq_false c33
           clear c33
           obtain rfl := Option.some.inj H
           try go_wp2
           have n0_ := A_ (below_drew1 HB.out)
           clear HB
           have HB := n0_
           clear n0_
           have p189 : 0 ≤ (x13_1 : Int) := of_decide_eq_true Z9
           have q189 : x13_1 < (l0.length : Int) := of_decide_eq_true Z9
           obtain ⟨ad189, e189, hx189_0, hx189_1⟩ := at_T92 HR0.out x13_1 p189 q189
           have hw189_1 := hx189_1
           have hw189_0 := hx189_0
           cases e189
           replace hx189_0 := ZC HB.out hx189_0
           replace hx189_1 := ZC HB.out hx189_1
           replace p189 := eq_true p189
           replace q189 := eq_true q189
           have p190 : 0 ≤ (x13_1 : Int) := of_decide_eq_true Z9
           have q190 : x13_1 < (l1.length : Int) := of_decide_eq_true Z9
           obtain ⟨ad190, e190, hx190_0, hx190_1⟩ := at_T92 HR1.out x13_1 p190 q190
           have hw190_1 := hx190_1
           have hw190_0 := hx190_0
           cases e190
           replace hx190_0 := ZC HB.out hx190_0
           replace hx190_1 := ZC HB.out hx190_1
           replace p190 := eq_true p190
           replace q190 := eq_true q190
           refine start_ (n := 12) (S := fun w' => w'.cell? (ad189.add ((x13_1).toNat * 2)) = some (.int .i64 ((rd_T92 l0 x13_1).f0)) ∧ w'.cell? ⟨(ad189.add ((x13_1).toNat * 2)).block, (ad189.add ((x13_1).toNat * 2)).off + 1, none⟩ = some (.int .i64 ((rd_T92 l0 x13_1).f1)) ∧ w'.cell? (ad190.add ((x13_1).toNat * 2)) = some (.int .i64 ((rd_T92 l1 x13_1).f0)) ∧ w'.cell? ⟨(ad190.add ((x13_1).toNat * 2)).block, (ad190.add ((x13_1).toNat * 2)).off + 1, none⟩ = some (.int .i64 ((rd_T92 l1 x13_1).f1))) (ds := []) #[F,F,F,F,F,F,F,F,F,F,F,F] (by kernel_rfl) rfl rfl ⟨(ZC HB.out hw189_0 :), (ZC HB.out hw189_1 :), (ZC HB.out hw190_0 :), (ZC HB.out hw190_1 :)⟩ (fun hHeld => ?_); refine with_tabW impl_placeCmp.tab4 impl_placeCmp.bits4 (fun HT_ HW_ => ?_)
           generalize wr.drew = w45 at HB hx189_0 hx189_1 hx190_0 hx190_1 hHeld ⊢
           refine pure_ (i := 0) (N := some 16) (v := ?_) (a' := ?_) #[T,F,F,F,F,F,F,F,F,F,F,F] rfl rfl ZA ZF (Or.inl ⟨by rfl, ?_⟩) ?_ ?_
           rotate_left
           ·exact Z18
           rotate_left
           ·exact Z6
           refine pure_ (i := 1) (N := some 17) (v := ?_) (a' := ?_) #[T,T,F,F,F,F,F,F,F,F,F,F] rfl rfl ZA ZF (Or.inl ⟨by rfl, ?_⟩) ?_ ?_
           rotate_left
           ·exact Z18
           rotate_left
           ·exact Z6
           refine pure_ (i := 2) (N := some 18) (v := ?_) (a' := ?_) #[T,T,T,F,F,F,F,F,F,F,F,F] rfl rfl ZA ZF (Or.inl ⟨by rfl, ?_⟩) ?_ ?_
           rotate_left
           ·exact Z18
           rotate_left
           ·exact Z6
           refine pure_ (i := 4) (N := some 20) (v := ?_) (a' := ?_) #[T,T,T,F,T,F,F,F,F,F,F,F] rfl rfl ZA ZF (Or.inl ⟨by rfl, ?_⟩) ?_ ?_
           rotate_left
           ·exact Z18
           rotate_left
           ·exact Z6
           refine pure_ (i := 5) (N := some 21) (v := ?_) (a' := ?_) #[T,T,T,F,T,T,F,F,F,F,F,F] rfl rfl ZA ZF (Or.inl ⟨by rfl, ?_⟩) ?_ ?_
           rotate_left
           ·exact Z18
           rotate_left
           ·exact Z6
           refine pure_ (i := 6) (N := some 22) (v := ?_) (a' := ?_) #[T,T,T,F,T,T,T,F,F,F,F,F] rfl rfl ZA ZF (Or.inl ⟨by rfl, ?_⟩) ?_ ?_
           rotate_left
           ·exact Z18
           rotate_left
           ·exact Z6
           refine take_ (i := 3) (N := some 19) (v := ?_) (a' := ?_) #[T,T,T,T,T,T,T,F,F,F,F,F] rfl rfl (take_ofW HT_.out HW_.out (by kernel_rfl)) ZF (Or.inl ⟨by rfl, ?_⟩) hHeld ?_ ?_
           rotate_left
           ·exact Z30
           rotate_left
           ·exact Z6
           refine take_ (i := 7) (N := some 23) (v := ?_) (a' := ?_) #[T,T,T,T,T,T,T,T,F,F,F,F] rfl rfl (take_ofW HT_.out HW_.out (by kernel_rfl)) ZF (Or.inl ⟨by rfl, ?_⟩) hHeld ?_ ?_
           rotate_left
           ·exact Z30
           rotate_left
           ·exact Z6
           refine join_ (σ := Nat × Nat) 2 #[T,T,T,T,T,T,T,T,T,T,F,F] (fun s_ => [(6, .pointer (some ⟨s_.1, 0, none⟩)), (7, .pointer (some ⟨s_.2, 0, none⟩))]) (fun s_ w' => (w'.cell? (ad189.add ((x13_1).toNat * 2)) = some (.int .i64 ((rd_T92 l0 x13_1).f0)) ∧ w'.cell? ⟨(ad189.add ((x13_1).toNat * 2)).block, (ad189.add ((x13_1).toNat * 2)).off + 1, none⟩ = some (.int .i64 ((rd_T92 l0 x13_1).f1)) ∧ w'.cell? (ad190.add ((x13_1).toNat * 2)) = some (.int .i64 ((rd_T92 l1 x13_1).f0)) ∧ w'.cell? ⟨(ad190.add ((x13_1).toNat * 2)).block, (ad190.add ((x13_1).toNat * 2)).off + 1, none⟩ = some (.int .i64 ((rd_T92 l1 x13_1).f1))) ∧ (w'.heap[s_.1]? = some (.cells #[.int .i64 0, .int .i64 0] 92 (0, 0))) ∧ (w'.heap[s_.2]? = some (.cells #[.int .i64 0, .int .i64 0] 92 (0, 0))) ∧ (w.heap.size ≤ s_.1) ∧ (w.heap.size ≤ s_.1) ∧ (s_.2 ≠ s_.1) ∧ (s_.1 ≠ s_.2) ∧ (w.heap.size ≤ s_.2) ∧ (w.heap.size ≤ s_.2) ∧ (Below w.heap.size w w')) ?_ ?_
           rotate_left
           ·intro hCont
            refine two_ (i := 8) (j := 9) (Ni := some 6) (Nj := some 7) #[T,T,T,T,T,T,T,T,T,F,F,F] #[T,T,T,T,T,T,T,T,F,T,F,F] rfl rfl rfl rfl (two_of HT_.out (by kernel_rfl)) (by decide) (by decide) (fun K hK => ?_) (fun K hK => ?_)
            ·skip
             refine box_step ?hg (N := 6) ?hd (cs := #[.int .i64 0, .int .i64 0]) (t := 92) ?hr ?_; (case hd => rfl); (case hg => rfl); (case hr => exact Z19)
             intro gb191 hg w46 hbox hb
             have n0_ := A_ (below_step Z0 hb)
             have n1_ := A_ (hbox)
             have n2_ := A_ ((by rw [hg]; exact (below_size Z0) : w.heap.size ≤ gb191))
             have n3_ := A_ ((by rw [hg]; exact (below_size Z0) : w.heap.size ≤ gb191))
             clear HB
             have HB := n0_
             have BK191 := n1_
             have GW191 := n2_
             have GE191 := n3_
             clear n0_ n1_ n2_ n3_
             clear hb hbox hg
             refine hK.out _ _ ⟨(ZC HB.out hw189_0 :), (ZC HB.out hw189_1 :), (ZC HB.out hw190_0 :), (ZC HB.out hw190_1 :)⟩ (fun hHeld => ?_)
             clear hK K
             refine norm_ (a' := ?_) ?_ ?_
             rotate_left
             ·exact Z22
             refine one_ (i := 9) (N := some 7) #[T,T,T,T,T,T,T,T,T,T,F,F] rfl rfl (one_of HT_.out (by kernel_rfl)) (by decide) (fun K hK => ?_)
             refine box_step ?hg (N := 7) ?hd (cs := #[.int .i64 0, .int .i64 0]) (t := 92) ?hr ?_; (case hd => rfl); (case hg => rfl); (case hr => exact Z19)
             intro gb192 hg w47 hbox hb
             have n0_ := A_ (blk_below (g := gb191) (o := .cells #[.int .i64 0, .int .i64 0] 92 (0, 0)) (Z7 BK191.out) hb)
             have n1_ := A_ (below_step (Z1 GE191.out) hb)
             have n2_ := A_ (hbox)
             have n3_ := A_ ((by rw [hg]; exact (below_size (Z1 GE191.out)) : w.heap.size ≤ gb192))
             have n4_ := A_ ((by rw [hg]; exact (below_size (Z1 GE191.out)) : w.heap.size ≤ gb192))
             have n5_ := A_ ((by rw [hg]; exact Nat.ne_of_lt (blk_lt (g := gb191) (o := .cells #[.int .i64 0, .int .i64 0] 92 (0, 0)) (Z7 BK191.out)) : gb191 ≠ gb192))
             have n6_ := A_ ((by rw [hg]; exact Nat.ne_of_gt (blk_lt (g := gb191) (o := .cells #[.int .i64 0, .int .i64 0] 92 (0, 0)) (Z7 BK191.out)) : gb192 ≠ gb191))
             clear BK191
             clear HB
             have BK191 := n0_
             have HB := n1_
             have BK192 := n2_
             have GW192 := n3_
             have GE192 := n4_
             have NB191_192 := n5_
             have NB192_191 := n6_
             clear n0_ n1_ n2_ n3_ n4_ n5_ n6_
             clear hb hbox hg
             refine hK.out _ _ ⟨(ZC HB.out hw189_0 :), (ZC HB.out hw189_1 :), (ZC HB.out hw190_0 :), (ZC HB.out hw190_1 :)⟩ (fun hHeld => ?_)
             clear hK K
             refine norm_ (a' := ?_) ?_ ?_
             rotate_left
             ·exact Z21
             exact norm_ Z29 (hCont (gb191, gb192) _ ⟨hHeld, (Z7 BK191.out), (Z7 BK192.out), GW191.out, GE191.out, NB192_191.out, NB191_192.out, GW192.out, GE192.out, (Z11 GE191.out GE192.out)⟩)
            ·skip
             refine box_step ?hg (N := 7) ?hd (cs := #[.int .i64 0, .int .i64 0]) (t := 92) ?hr ?_; (case hd => rfl); (case hg => rfl); (case hr => exact Z19)
             intro gb192 hg w46 hbox hb
             have n0_ := A_ (below_step Z0 hb)
             have n1_ := A_ (hbox)
             have n2_ := A_ ((by rw [hg]; exact (below_size Z0) : w.heap.size ≤ gb192))
             have n3_ := A_ ((by rw [hg]; exact (below_size Z0) : w.heap.size ≤ gb192))
             clear HB
             have HB := n0_
             have BK192 := n1_
             have GW192 := n2_
             have GE192 := n3_
             clear n0_ n1_ n2_ n3_
             clear hb hbox hg
             refine hK.out _ _ ⟨(ZC HB.out hw189_0 :), (ZC HB.out hw189_1 :), (ZC HB.out hw190_0 :), (ZC HB.out hw190_1 :)⟩ (fun hHeld => ?_)
             clear hK K
             refine norm_ (a' := ?_) ?_ ?_
             rotate_left
             ·exact Z21
             refine one_ (i := 8) (N := some 6) #[T,T,T,T,T,T,T,T,T,T,F,F] rfl rfl (one_of HT_.out (by kernel_rfl)) (by decide) (fun K hK => ?_)
             refine box_step ?hg (N := 6) ?hd (cs := #[.int .i64 0, .int .i64 0]) (t := 92) ?hr ?_; (case hd => rfl); (case hg => rfl); (case hr => exact Z19)
             intro gb191 hg w47 hbox hb
             have n0_ := A_ (blk_below (g := gb192) (o := .cells #[.int .i64 0, .int .i64 0] 92 (0, 0)) (Z7 BK192.out) hb)
             have n1_ := A_ (below_step (Z1 GE192.out) hb)
             have n2_ := A_ (hbox)
             have n3_ := A_ ((by rw [hg]; exact (below_size (Z1 GE192.out)) : w.heap.size ≤ gb191))
             have n4_ := A_ ((by rw [hg]; exact (below_size (Z1 GE192.out)) : w.heap.size ≤ gb191))
             have n5_ := A_ ((by rw [hg]; exact Nat.ne_of_lt (blk_lt (g := gb192) (o := .cells #[.int .i64 0, .int .i64 0] 92 (0, 0)) (Z7 BK192.out)) : gb192 ≠ gb191))
             have n6_ := A_ ((by rw [hg]; exact Nat.ne_of_gt (blk_lt (g := gb192) (o := .cells #[.int .i64 0, .int .i64 0] 92 (0, 0)) (Z7 BK192.out)) : gb191 ≠ gb192))
             clear BK192
             clear HB
             have BK192 := n0_
             have HB := n1_
             have BK191 := n2_
             have GW191 := n3_
             have GE191 := n4_
             have NB192_191 := n5_
             have NB191_192 := n6_
             clear n0_ n1_ n2_ n3_ n4_ n5_ n6_
             clear hb hbox hg
             refine hK.out _ _ ⟨(ZC HB.out hw189_0 :), (ZC HB.out hw189_1 :), (ZC HB.out hw190_0 :), (ZC HB.out hw190_1 :)⟩ (fun hHeld => ?_)
             clear hK K
             refine norm_ (a' := ?_) ?_ ?_
             rotate_left
             ·exact Z22
             exact norm_ Z29 (hCont (gb191, gb192) _ ⟨hHeld, (Z7 BK191.out), (Z7 BK192.out), GW191.out, GE191.out, NB192_191.out, NB191_192.out, GW192.out, GE192.out, (Z11 GE192.out GE191.out)⟩)
           rintro ⟨gb191, gb192⟩ w48 ⟨hS_, h0_, h1_, h2_, h3_, h4_, h5_, h6_, h7_, h8_⟩
           have n0_ : Aside0 (w48.heap[gb191]? = some (.cells #[.int .i64 0, .int .i64 0] 92 (0, 0))) := ⟨h0_⟩
           have n1_ : Aside0 (w48.heap[gb192]? = some (.cells #[.int .i64 0, .int .i64 0] 92 (0, 0))) := ⟨h1_⟩
           have n2_ : Aside0 (w.heap.size ≤ gb191) := ⟨h2_⟩
           have n3_ : Aside0 (w.heap.size ≤ gb191) := ⟨h3_⟩
           have n4_ : Aside0 (gb192 ≠ gb191) := ⟨h4_⟩
           have n5_ : Aside0 (gb191 ≠ gb192) := ⟨h5_⟩
           have n6_ : Aside0 (w.heap.size ≤ gb192) := ⟨h6_⟩
           have n7_ : Aside0 (w.heap.size ≤ gb192) := ⟨h7_⟩
           have n8_ : Aside0 (Below w.heap.size w w48) := ⟨h8_⟩
           clear HB
           clear h0_ h1_ h2_ h3_ h4_ h5_ h6_ h7_ h8_
           have BK191 := n0_
           have BK192 := n1_
           have GW191 := n2_
           have GE191 := n3_
           have NB192_191 := n4_
           have NB191_192 := n5_
           have GW192 := n6_
           have GE192 := n7_
           have HB := n8_
           clear n0_ n1_ n2_ n3_ n4_ n5_ n6_ n7_ n8_
           have hHeld : w48.cell? (ad189.add ((x13_1).toNat * 2)) = some (.int .i64 ((rd_T92 l0 x13_1).f0)) ∧ w48.cell? ⟨(ad189.add ((x13_1).toNat * 2)).block, (ad189.add ((x13_1).toNat * 2)).off + 1, none⟩ = some (.int .i64 ((rd_T92 l0 x13_1).f1)) ∧ w48.cell? (ad190.add ((x13_1).toNat * 2)) = some (.int .i64 ((rd_T92 l1 x13_1).f0)) ∧ w48.cell? ⟨(ad190.add ((x13_1).toNat * 2)).block, (ad190.add ((x13_1).toNat * 2)).off + 1, none⟩ = some (.int .i64 ((rd_T92 l1 x13_1).f1)) := hS_
           refine norm_ (a' := ?_) ?_ ?_
           rotate_left
           ·exact Z35
           refine one_ (i := 10) (N := none) #[T,T,T,T,T,T,T,T,T,T,T,F] rfl rfl (one_of HT_.out (by kernel_rfl)) (by decide) (fun K hK => ?_)
           have hs49 : w48.cell? ⟨gb191, 0, none⟩ = some (.int .i64 0) := (blk_cell BK191.out 0).trans rfl
           have hfs49 := blk_frozen BK191.out 0
           have hns49_1 := NB192_191.out
           have hms49_1 := NB191_192.out
           have hs50 : w48.cell? ⟨gb191, 1, none⟩ = some (.int .i64 0) := (blk_cell BK191.out 1).trans rfl
           have hfs50 := blk_frozen BK191.out 1
           have hns50_1 := NB192_191.out
           have hms50_1 := NB191_192.out
           refine skip_ (w1 := ?_) (by rfl) rfl ?_ ?_
           rotate_left
           ·go_simp
            rfl
           refine hK.out _ _ ⟨((cell_far (p := ⟨gb191, _, none⟩) (Z5 GW191.out) _).trans (((cell_far (p := ⟨gb191, _, none⟩) (Z5 GW191.out) _).trans (hHeld.1)))), ((cell_far (p := ⟨gb191, _, none⟩) (Z4 GW191.out) _).trans (((cell_far (p := ⟨gb191, _, none⟩) (Z4 GW191.out) _).trans (hHeld.2.1)))), ((cell_far (p := ⟨gb191, _, none⟩) (Z3 GW191.out) _).trans (((cell_far (p := ⟨gb191, _, none⟩) (Z3 GW191.out) _).trans (hHeld.2.2.1)))), ((cell_far (p := ⟨gb191, _, none⟩) (Z2 GW191.out) _).trans (((cell_far (p := ⟨gb191, _, none⟩) (Z2 GW191.out) _).trans (hHeld.2.2.2))))⟩ (fun hHeld => ?_)
           clear hK K
           refine one_ (i := 11) (N := none) #[T,T,T,T,T,T,T,T,T,T,T,T] rfl rfl (one_of HT_.out (by kernel_rfl)) (by decide) (fun K hK => ?_)
           have hs51 : w48.cell? ⟨gb192, 0, none⟩ = some (.int .i64 0) := (blk_cell BK192.out 0).trans rfl
           have hfs51 := blk_frozen BK192.out 0
           have hns51_0 := NB191_192.out
           have hms51_0 := NB192_191.out
           have hs52 : w48.cell? ⟨gb192, 1, none⟩ = some (.int .i64 0) := (blk_cell BK192.out 1).trans rfl
           have hfs52 := blk_frozen BK192.out 1
           have hns52_0 := NB191_192.out
           have hms52_0 := NB192_191.out
           refine skip_ (w1 := ?_) (by rfl) rfl ?_ ?_
           rotate_left
           ·go_simp
            rfl
           refine hK.out _ _ ⟨((cell_far (p := ⟨gb192, _, none⟩) (Z5 GW192.out) _).trans (((cell_far (p := ⟨gb192, _, none⟩) (Z5 GW192.out) _).trans (hHeld.1)))), ((cell_far (p := ⟨gb192, _, none⟩) (Z4 GW192.out) _).trans (((cell_far (p := ⟨gb192, _, none⟩) (Z4 GW192.out) _).trans (hHeld.2.1)))), ((cell_far (p := ⟨gb192, _, none⟩) (Z3 GW192.out) _).trans (((cell_far (p := ⟨gb192, _, none⟩) (Z3 GW192.out) _).trans (hHeld.2.2.1)))), ((cell_far (p := ⟨gb192, _, none⟩) (Z2 GW192.out) _).trans (((cell_far (p := ⟨gb192, _, none⟩) (Z2 GW192.out) _).trans (hHeld.2.2.2))))⟩ (fun hHeld => ?_)
           clear hK K
           refine done_ (done_of HT_.out (by kernel_rfl)) ?_
           have hnb53 := NB191_192.out
           have hnc53 := NB192_191.out
           have hcz54_0 : w48.cell? ⟨gb191, 0, none⟩ = some (.int .i64 0) := (blk_cell BK191.out 0).trans rfl
           have hcz54_1 : w48.cell? ⟨gb191, 1, none⟩ = some (.int .i64 0) := (blk_cell BK191.out 1).trans rfl
           have hfz54_0 := blk_frozen BK191.out 0
           have hfz54_1 := blk_frozen BK191.out 1
           have hcz55_0 : w48.cell? ⟨gb192, 0, none⟩ = some (.int .i64 0) := (blk_cell BK192.out 0).trans rfl
           have hcz55_1 : w48.cell? ⟨gb192, 1, none⟩ = some (.int .i64 0) := (blk_cell BK192.out 1).trans rfl
           have hfz55_0 := blk_frozen BK192.out 0
           have hfz55_1 := blk_frozen BK192.out 1
           try go_wp2
           go_ret
           exact ⟨Z25, Z11 GE191.out GE192.out⟩
         ·rw [if_neg c32] at H
          have c32b0 : (((rd_T92 l0 x13_1).f0) == ((rd_T92 l1 x13_1).f0)) = false := beq_eq_false_iff_ne.mpr c32
          have c32b1 : (((rd_T92 l0 x13_1).f0) != ((rd_T92 l1 x13_1).f0)) = true := bne_iff_ne.mpr c32
          obtain rfl := Option.some.inj H
          try go_wp2
          have n0_ := A_ (below_drew1 HB.out)
          clear HB
          have HB := n0_
          clear n0_
          have p189 : 0 ≤ (x13_1 : Int) := of_decide_eq_true Z9
          have q189 : x13_1 < (l0.length : Int) := of_decide_eq_true Z9
          obtain ⟨ad189, e189, hx189_0, hx189_1⟩ := at_T92 HR0.out x13_1 p189 q189
          have hw189_1 := hx189_1
          have hw189_0 := hx189_0
          cases e189
          replace hx189_0 := ZC HB.out hx189_0
          replace hx189_1 := ZC HB.out hx189_1
          replace p189 := eq_true p189
          replace q189 := eq_true q189
          have p190 : 0 ≤ (x13_1 : Int) := of_decide_eq_true Z9
          have q190 : x13_1 < (l1.length : Int) := of_decide_eq_true Z9
          obtain ⟨ad190, e190, hx190_0, hx190_1⟩ := at_T92 HR1.out x13_1 p190 q190
          have hw190_1 := hx190_1
          have hw190_0 := hx190_0
          cases e190
          replace hx190_0 := ZC HB.out hx190_0
          replace hx190_1 := ZC HB.out hx190_1
          replace p190 := eq_true p190
          replace q190 := eq_true q190
          refine start_ (n := 12) (S := fun w' => w'.cell? (ad189.add ((x13_1).toNat * 2)) = some (.int .i64 ((rd_T92 l0 x13_1).f0)) ∧ w'.cell? ⟨(ad189.add ((x13_1).toNat * 2)).block, (ad189.add ((x13_1).toNat * 2)).off + 1, none⟩ = some (.int .i64 ((rd_T92 l0 x13_1).f1)) ∧ w'.cell? (ad190.add ((x13_1).toNat * 2)) = some (.int .i64 ((rd_T92 l1 x13_1).f0)) ∧ w'.cell? ⟨(ad190.add ((x13_1).toNat * 2)).block, (ad190.add ((x13_1).toNat * 2)).off + 1, none⟩ = some (.int .i64 ((rd_T92 l1 x13_1).f1))) (ds := []) #[F,F,F,F,F,F,F,F,F,F,F,F] (by kernel_rfl) rfl rfl ⟨(ZC HB.out hw189_0 :), (ZC HB.out hw189_1 :), (ZC HB.out hw190_0 :), (ZC HB.out hw190_1 :)⟩ (fun hHeld => ?_); refine with_tabW impl_placeCmp.tab4 impl_placeCmp.bits4 (fun HT_ HW_ => ?_)
          generalize wr.drew = w56 at HB hx189_0 hx189_1 hx190_0 hx190_1 hHeld ⊢
          refine pure_ (i := 0) (N := some 16) (v := ?_) (a' := ?_) #[T,F,F,F,F,F,F,F,F,F,F,F] rfl rfl ZA ZF (Or.inl ⟨by rfl, ?_⟩) ?_ ?_
          rotate_left
          ·exact Z18
          rotate_left
          ·exact Z6
          refine pure_ (i := 1) (N := some 17) (v := ?_) (a' := ?_) #[T,T,F,F,F,F,F,F,F,F,F,F] rfl rfl ZA ZF (Or.inl ⟨by rfl, ?_⟩) ?_ ?_
          rotate_left
          ·exact Z18
          rotate_left
          ·exact Z6
          refine pure_ (i := 2) (N := some 18) (v := ?_) (a' := ?_) #[T,T,T,F,F,F,F,F,F,F,F,F] rfl rfl ZA ZF (Or.inl ⟨by rfl, ?_⟩) ?_ ?_
          rotate_left
          ·exact Z18
          rotate_left
          ·exact Z6
          refine pure_ (i := 4) (N := some 20) (v := ?_) (a' := ?_) #[T,T,T,F,T,F,F,F,F,F,F,F] rfl rfl ZA ZF (Or.inl ⟨by rfl, ?_⟩) ?_ ?_
          rotate_left
          ·exact Z18
          rotate_left
          ·exact Z6
          refine pure_ (i := 5) (N := some 21) (v := ?_) (a' := ?_) #[T,T,T,F,T,T,F,F,F,F,F,F] rfl rfl ZA ZF (Or.inl ⟨by rfl, ?_⟩) ?_ ?_
          rotate_left
          ·exact Z18
          rotate_left
          ·exact Z6
          refine pure_ (i := 6) (N := some 22) (v := ?_) (a' := ?_) #[T,T,T,F,T,T,T,F,F,F,F,F] rfl rfl ZA ZF (Or.inl ⟨by rfl, ?_⟩) ?_ ?_
          rotate_left
          ·exact Z18
          rotate_left
          ·exact Z6
          refine take_ (i := 3) (N := some 19) (v := ?_) (a' := ?_) #[T,T,T,T,T,T,T,F,F,F,F,F] rfl rfl (take_ofW HT_.out HW_.out (by kernel_rfl)) ZF (Or.inl ⟨by rfl, ?_⟩) hHeld ?_ ?_
          rotate_left
          ·exact Z30
          rotate_left
          ·exact Z6
          refine take_ (i := 7) (N := some 23) (v := ?_) (a' := ?_) #[T,T,T,T,T,T,T,T,F,F,F,F] rfl rfl (take_ofW HT_.out HW_.out (by kernel_rfl)) ZF (Or.inl ⟨by rfl, ?_⟩) hHeld ?_ ?_
          rotate_left
          ·exact Z30
          rotate_left
          ·exact Z6
          refine join_ (σ := Nat × Nat) 2 #[T,T,T,T,T,T,T,T,T,T,F,F] (fun s_ => [(6, .pointer (some ⟨s_.1, 0, none⟩)), (7, .pointer (some ⟨s_.2, 0, none⟩))]) (fun s_ w' => (w'.cell? (ad189.add ((x13_1).toNat * 2)) = some (.int .i64 ((rd_T92 l0 x13_1).f0)) ∧ w'.cell? ⟨(ad189.add ((x13_1).toNat * 2)).block, (ad189.add ((x13_1).toNat * 2)).off + 1, none⟩ = some (.int .i64 ((rd_T92 l0 x13_1).f1)) ∧ w'.cell? (ad190.add ((x13_1).toNat * 2)) = some (.int .i64 ((rd_T92 l1 x13_1).f0)) ∧ w'.cell? ⟨(ad190.add ((x13_1).toNat * 2)).block, (ad190.add ((x13_1).toNat * 2)).off + 1, none⟩ = some (.int .i64 ((rd_T92 l1 x13_1).f1))) ∧ (w'.heap[s_.1]? = some (.cells #[.int .i64 0, .int .i64 0] 92 (0, 0))) ∧ (w'.heap[s_.2]? = some (.cells #[.int .i64 0, .int .i64 0] 92 (0, 0))) ∧ (w.heap.size ≤ s_.1) ∧ (w.heap.size ≤ s_.1) ∧ (s_.2 ≠ s_.1) ∧ (s_.1 ≠ s_.2) ∧ (w.heap.size ≤ s_.2) ∧ (w.heap.size ≤ s_.2) ∧ (Below w.heap.size w w')) ?_ ?_
          rotate_left
          ·intro hCont
           refine two_ (i := 8) (j := 9) (Ni := some 6) (Nj := some 7) #[T,T,T,T,T,T,T,T,T,F,F,F] #[T,T,T,T,T,T,T,T,F,T,F,F] rfl rfl rfl rfl (two_of HT_.out (by kernel_rfl)) (by decide) (by decide) (fun K hK => ?_) (fun K hK => ?_)
           ·skip
            refine box_step ?hg (N := 6) ?hd (cs := #[.int .i64 0, .int .i64 0]) (t := 92) ?hr ?_; (case hd => rfl); (case hg => rfl); (case hr => exact Z19)
            intro gb191 hg w57 hbox hb
            have n0_ := A_ (below_step Z0 hb)
            have n1_ := A_ (hbox)
            have n2_ := A_ ((by rw [hg]; exact (below_size Z0) : w.heap.size ≤ gb191))
            have n3_ := A_ ((by rw [hg]; exact (below_size Z0) : w.heap.size ≤ gb191))
            clear HB
            have HB := n0_
            have BK191 := n1_
            have GW191 := n2_
            have GE191 := n3_
            clear n0_ n1_ n2_ n3_
            clear hb hbox hg
            refine hK.out _ _ ⟨(ZC HB.out hw189_0 :), (ZC HB.out hw189_1 :), (ZC HB.out hw190_0 :), (ZC HB.out hw190_1 :)⟩ (fun hHeld => ?_)
            clear hK K
            refine norm_ (a' := ?_) ?_ ?_
            rotate_left
            ·exact Z22
            refine one_ (i := 9) (N := some 7) #[T,T,T,T,T,T,T,T,T,T,F,F] rfl rfl (one_of HT_.out (by kernel_rfl)) (by decide) (fun K hK => ?_)
            refine box_step ?hg (N := 7) ?hd (cs := #[.int .i64 0, .int .i64 0]) (t := 92) ?hr ?_; (case hd => rfl); (case hg => rfl); (case hr => exact Z19)
            intro gb192 hg w58 hbox hb
            have n0_ := A_ (blk_below (g := gb191) (o := .cells #[.int .i64 0, .int .i64 0] 92 (0, 0)) (Z7 BK191.out) hb)
            have n1_ := A_ (below_step (Z1 GE191.out) hb)
            have n2_ := A_ (hbox)
            have n3_ := A_ ((by rw [hg]; exact (below_size (Z1 GE191.out)) : w.heap.size ≤ gb192))
            have n4_ := A_ ((by rw [hg]; exact (below_size (Z1 GE191.out)) : w.heap.size ≤ gb192))
            have n5_ := A_ ((by rw [hg]; exact Nat.ne_of_lt (blk_lt (g := gb191) (o := .cells #[.int .i64 0, .int .i64 0] 92 (0, 0)) (Z7 BK191.out)) : gb191 ≠ gb192))
            have n6_ := A_ ((by rw [hg]; exact Nat.ne_of_gt (blk_lt (g := gb191) (o := .cells #[.int .i64 0, .int .i64 0] 92 (0, 0)) (Z7 BK191.out)) : gb192 ≠ gb191))
            clear BK191
            clear HB
            have BK191 := n0_
            have HB := n1_
            have BK192 := n2_
            have GW192 := n3_
            have GE192 := n4_
            have NB191_192 := n5_
            have NB192_191 := n6_
            clear n0_ n1_ n2_ n3_ n4_ n5_ n6_
            clear hb hbox hg
            refine hK.out _ _ ⟨(ZC HB.out hw189_0 :), (ZC HB.out hw189_1 :), (ZC HB.out hw190_0 :), (ZC HB.out hw190_1 :)⟩ (fun hHeld => ?_)
            clear hK K
            refine norm_ (a' := ?_) ?_ ?_
            rotate_left
            ·exact Z21
            exact norm_ Z29 (hCont (gb191, gb192) _ ⟨hHeld, (Z7 BK191.out), (Z7 BK192.out), GW191.out, GE191.out, NB192_191.out, NB191_192.out, GW192.out, GE192.out, (Z11 GE191.out GE192.out)⟩)
           ·skip
            refine box_step ?hg (N := 7) ?hd (cs := #[.int .i64 0, .int .i64 0]) (t := 92) ?hr ?_; (case hd => rfl); (case hg => rfl); (case hr => exact Z19)
            intro gb192 hg w57 hbox hb
            have n0_ := A_ (below_step Z0 hb)
            have n1_ := A_ (hbox)
            have n2_ := A_ ((by rw [hg]; exact (below_size Z0) : w.heap.size ≤ gb192))
            have n3_ := A_ ((by rw [hg]; exact (below_size Z0) : w.heap.size ≤ gb192))
            clear HB
            have HB := n0_
            have BK192 := n1_
            have GW192 := n2_
            have GE192 := n3_
            clear n0_ n1_ n2_ n3_
            clear hb hbox hg
            refine hK.out _ _ ⟨(ZC HB.out hw189_0 :), (ZC HB.out hw189_1 :), (ZC HB.out hw190_0 :), (ZC HB.out hw190_1 :)⟩ (fun hHeld => ?_)
            clear hK K
            refine norm_ (a' := ?_) ?_ ?_
            rotate_left
            ·exact Z21
            refine one_ (i := 8) (N := some 6) #[T,T,T,T,T,T,T,T,T,T,F,F] rfl rfl (one_of HT_.out (by kernel_rfl)) (by decide) (fun K hK => ?_)
            refine box_step ?hg (N := 6) ?hd (cs := #[.int .i64 0, .int .i64 0]) (t := 92) ?hr ?_; (case hd => rfl); (case hg => rfl); (case hr => exact Z19)
            intro gb191 hg w58 hbox hb
            have n0_ := A_ (blk_below (g := gb192) (o := .cells #[.int .i64 0, .int .i64 0] 92 (0, 0)) (Z7 BK192.out) hb)
            have n1_ := A_ (below_step (Z1 GE192.out) hb)
            have n2_ := A_ (hbox)
            have n3_ := A_ ((by rw [hg]; exact (below_size (Z1 GE192.out)) : w.heap.size ≤ gb191))
            have n4_ := A_ ((by rw [hg]; exact (below_size (Z1 GE192.out)) : w.heap.size ≤ gb191))
            have n5_ := A_ ((by rw [hg]; exact Nat.ne_of_lt (blk_lt (g := gb192) (o := .cells #[.int .i64 0, .int .i64 0] 92 (0, 0)) (Z7 BK192.out)) : gb192 ≠ gb191))
            have n6_ := A_ ((by rw [hg]; exact Nat.ne_of_gt (blk_lt (g := gb192) (o := .cells #[.int .i64 0, .int .i64 0] 92 (0, 0)) (Z7 BK192.out)) : gb191 ≠ gb192))
            clear BK192
            clear HB
            have BK192 := n0_
            have HB := n1_
            have BK191 := n2_
            have GW191 := n3_
            have GE191 := n4_
            have NB192_191 := n5_
            have NB191_192 := n6_
            clear n0_ n1_ n2_ n3_ n4_ n5_ n6_
            clear hb hbox hg
            refine hK.out _ _ ⟨(ZC HB.out hw189_0 :), (ZC HB.out hw189_1 :), (ZC HB.out hw190_0 :), (ZC HB.out hw190_1 :)⟩ (fun hHeld => ?_)
            clear hK K
            refine norm_ (a' := ?_) ?_ ?_
            rotate_left
            ·exact Z22
            exact norm_ Z29 (hCont (gb191, gb192) _ ⟨hHeld, (Z7 BK191.out), (Z7 BK192.out), GW191.out, GE191.out, NB192_191.out, NB191_192.out, GW192.out, GE192.out, (Z11 GE192.out GE191.out)⟩)
          rintro ⟨gb191, gb192⟩ w59 ⟨hS_, h0_, h1_, h2_, h3_, h4_, h5_, h6_, h7_, h8_⟩
          have n0_ : Aside0 (w59.heap[gb191]? = some (.cells #[.int .i64 0, .int .i64 0] 92 (0, 0))) := ⟨h0_⟩
          have n1_ : Aside0 (w59.heap[gb192]? = some (.cells #[.int .i64 0, .int .i64 0] 92 (0, 0))) := ⟨h1_⟩
          have n2_ : Aside0 (w.heap.size ≤ gb191) := ⟨h2_⟩
          have n3_ : Aside0 (w.heap.size ≤ gb191) := ⟨h3_⟩
          have n4_ : Aside0 (gb192 ≠ gb191) := ⟨h4_⟩
          have n5_ : Aside0 (gb191 ≠ gb192) := ⟨h5_⟩
          have n6_ : Aside0 (w.heap.size ≤ gb192) := ⟨h6_⟩
          have n7_ : Aside0 (w.heap.size ≤ gb192) := ⟨h7_⟩
          have n8_ : Aside0 (Below w.heap.size w w59) := ⟨h8_⟩
          clear HB
          clear h0_ h1_ h2_ h3_ h4_ h5_ h6_ h7_ h8_
          have BK191 := n0_
          have BK192 := n1_
          have GW191 := n2_
          have GE191 := n3_
          have NB192_191 := n4_
          have NB191_192 := n5_
          have GW192 := n6_
          have GE192 := n7_
          have HB := n8_
          clear n0_ n1_ n2_ n3_ n4_ n5_ n6_ n7_ n8_
          have hHeld : w59.cell? (ad189.add ((x13_1).toNat * 2)) = some (.int .i64 ((rd_T92 l0 x13_1).f0)) ∧ w59.cell? ⟨(ad189.add ((x13_1).toNat * 2)).block, (ad189.add ((x13_1).toNat * 2)).off + 1, none⟩ = some (.int .i64 ((rd_T92 l0 x13_1).f1)) ∧ w59.cell? (ad190.add ((x13_1).toNat * 2)) = some (.int .i64 ((rd_T92 l1 x13_1).f0)) ∧ w59.cell? ⟨(ad190.add ((x13_1).toNat * 2)).block, (ad190.add ((x13_1).toNat * 2)).off + 1, none⟩ = some (.int .i64 ((rd_T92 l1 x13_1).f1)) := hS_
          refine norm_ (a' := ?_) ?_ ?_
          rotate_left
          ·exact Z35
          refine one_ (i := 10) (N := none) #[T,T,T,T,T,T,T,T,T,T,T,F] rfl rfl (one_of HT_.out (by kernel_rfl)) (by decide) (fun K hK => ?_)
          have hs60 : w59.cell? ⟨gb191, 0, none⟩ = some (.int .i64 0) := (blk_cell BK191.out 0).trans rfl
          have hfs60 := blk_frozen BK191.out 0
          have hns60_1 := NB192_191.out
          have hms60_1 := NB191_192.out
          have hs61 : w59.cell? ⟨gb191, 1, none⟩ = some (.int .i64 0) := (blk_cell BK191.out 1).trans rfl
          have hfs61 := blk_frozen BK191.out 1
          have hns61_1 := NB192_191.out
          have hms61_1 := NB191_192.out
          refine skip_ (w1 := ?_) (by rfl) rfl ?_ ?_
          rotate_left
          ·go_simp
           rfl
          refine hK.out _ _ ⟨((cell_far (p := ⟨gb191, _, none⟩) (Z5 GW191.out) _).trans (((cell_far (p := ⟨gb191, _, none⟩) (Z5 GW191.out) _).trans (hHeld.1)))), ((cell_far (p := ⟨gb191, _, none⟩) (Z4 GW191.out) _).trans (((cell_far (p := ⟨gb191, _, none⟩) (Z4 GW191.out) _).trans (hHeld.2.1)))), ((cell_far (p := ⟨gb191, _, none⟩) (Z3 GW191.out) _).trans (((cell_far (p := ⟨gb191, _, none⟩) (Z3 GW191.out) _).trans (hHeld.2.2.1)))), ((cell_far (p := ⟨gb191, _, none⟩) (Z2 GW191.out) _).trans (((cell_far (p := ⟨gb191, _, none⟩) (Z2 GW191.out) _).trans (hHeld.2.2.2))))⟩ (fun hHeld => ?_)
          clear hK K
          refine one_ (i := 11) (N := none) #[T,T,T,T,T,T,T,T,T,T,T,T] rfl rfl (one_of HT_.out (by kernel_rfl)) (by decide) (fun K hK => ?_)
          have hs62 : w59.cell? ⟨gb192, 0, none⟩ = some (.int .i64 0) := (blk_cell BK192.out 0).trans rfl
          have hfs62 := blk_frozen BK192.out 0
          have hns62_0 := NB191_192.out
          have hms62_0 := NB192_191.out
          have hs63 : w59.cell? ⟨gb192, 1, none⟩ = some (.int .i64 0) := (blk_cell BK192.out 1).trans rfl
          have hfs63 := blk_frozen BK192.out 1
          have hns63_0 := NB191_192.out
          have hms63_0 := NB192_191.out
          refine skip_ (w1 := ?_) (by rfl) rfl ?_ ?_
          rotate_left
          ·go_simp
           rfl
          refine hK.out _ _ ⟨((cell_far (p := ⟨gb192, _, none⟩) (Z5 GW192.out) _).trans (((cell_far (p := ⟨gb192, _, none⟩) (Z5 GW192.out) _).trans (hHeld.1)))), ((cell_far (p := ⟨gb192, _, none⟩) (Z4 GW192.out) _).trans (((cell_far (p := ⟨gb192, _, none⟩) (Z4 GW192.out) _).trans (hHeld.2.1)))), ((cell_far (p := ⟨gb192, _, none⟩) (Z3 GW192.out) _).trans (((cell_far (p := ⟨gb192, _, none⟩) (Z3 GW192.out) _).trans (hHeld.2.2.1)))), ((cell_far (p := ⟨gb192, _, none⟩) (Z2 GW192.out) _).trans (((cell_far (p := ⟨gb192, _, none⟩) (Z2 GW192.out) _).trans (hHeld.2.2.2))))⟩ (fun hHeld => ?_)
          clear hK K
          refine done_ (done_of HT_.out (by kernel_rfl)) ?_
          have hnb64 := NB191_192.out
          have hnc64 := NB192_191.out
          have hcz65_0 : w59.cell? ⟨gb191, 0, none⟩ = some (.int .i64 0) := (blk_cell BK191.out 0).trans rfl
          have hcz65_1 : w59.cell? ⟨gb191, 1, none⟩ = some (.int .i64 0) := (blk_cell BK191.out 1).trans rfl
          have hfz65_0 := blk_frozen BK191.out 0
          have hfz65_1 := blk_frozen BK191.out 1
          have hcz66_0 : w59.cell? ⟨gb192, 0, none⟩ = some (.int .i64 0) := (blk_cell BK192.out 0).trans rfl
          have hcz66_1 : w59.cell? ⟨gb192, 1, none⟩ = some (.int .i64 0) := (blk_cell BK192.out 1).trans rfl
          have hfz66_0 := blk_frozen BK192.out 0
          have hfz66_1 := blk_frozen BK192.out 1
          try go_wp2
          go_ret
          exact ⟨Z25, Z11 GE191.out GE192.out⟩
      ·rw [if_neg c7] at H
       exact absurd H (by simp)
     ·rw [if_neg c6] at H
      exact absurd H (by simp)
    ·rw [if_neg c5] at H
     exact absurd H (by simp)
   ·rw [if_neg c4] at H
    have c4b0 : decide (x13_1 < ji3) = false := decide_eq_false c4
    clear c4
    by_cases c67 : (l0.length : Int) < (l1.length : Int)
    ·rw [if_pos c67] at H
     have c67b0 : decide ((l0.length : Int) < (l1.length : Int)) = true := decide_eq_true c67
     have c67b1 : decide (l0.length < l1.length) = true := decide_eq_true (Int.ofNat_lt.mp c67)
     clear c67
     obtain rfl := Option.some.inj H
     go_wp2
     go_ret
     exact ⟨Z25, Z0⟩
    ·rw [if_neg c67] at H
     have c67b0 : decide ((l0.length : Int) < (l1.length : Int)) = false := decide_eq_false c67
     have c67b1 : decide (l0.length < l1.length) = false := decide_eq_false (fun h => c67 (Int.ofNat_lt.mpr h))
     clear c67
     by_cases c68 : (l0.length : Int) > (l1.length : Int)
     ·rw [if_pos c68] at H
      have c68b0 : decide ((l1.length : Int) < (l0.length : Int)) = true := decide_eq_true c68
      have c68b1 : decide (l1.length < l0.length) = true := decide_eq_true (Int.ofNat_lt.mp c68)
      clear c68
      obtain rfl := Option.some.inj H
      go_wp2
      go_ret
      exact ⟨Z25, Z0⟩
     ·rw [if_neg c68] at H
      have c68b0 : decide ((l1.length : Int) < (l0.length : Int)) = false := decide_eq_false c68
      have c68b1 : decide (l1.length < l0.length) = false := decide_eq_false (fun h => c68 (Int.ofNat_lt.mpr h))
      clear c68
      obtain rfl := Option.some.inj H
      go_wp2
      go_ret
      exact ⟨Z25, Z0⟩
end Go.Proofs.Ytpadhphdglbciaa.PFnExactEffectsLive
