/- Walks of the functions that the law 'FnStorePut' reaches, part 11: for each a Lean function and the proof that Go's comes to just its answer (lines of the print, under own names; no condition). -/
import Derived.Test.YtheifobeaemegaaZFnStorePutQFnStorePutx0
import Derived.Test.YtheifobeaemegaaZFnStorePutQFnStorePutx7
namespace Go.Proofs.Ytheifobeaemegaa.PFnStorePut
open Go.RowKit Go.Proofs.YtheifobeaemegaaW.PrintWords Go.Proofs.YtheifobeaemegaaW.PrintLast Go.Proofs.YtheifobeaemegaaW.PrintMore
attribute [local go_sem] max2_int min2_int max_two min_two max_three min_three max_four min_four
set_option linter.unusedVariables false
set_option linter.unusedSimpArgs false
def spec_copyCell.f (l0_0 : List (S68)) (l0_1 : List (S28)) : Option ((List (S68)) × (List (S28))) := (some (([] : List (S68)) : List (S68))).bind fun y319 => (if y319.length + l0_0.length < 8796093022208 then ((some (([] : List (S28)) : List (S28))).bind fun y325 => (if y325.length + l0_1.length < 4398046511104 then (some ((y319 ++ l0_0), (y325 ++ l0_1))) else (none))) else (none))
def spec_copyCell.T1 : Bool × List (List Nat × List Nat) := (true, [([], []), ([], []), ([1], [1]), ([0, 2], [0, 2]), ([], []), ([], []), ([5], [5]), ([4, 6, 3], [4, 6]), ([3, 7], [3, 7]), ([8, 7, 0, 1, 2, 3, 4, 5, 6, 7, 8], [8])])
def spec_copyCell.B1 : List Nat := [0, 0, 2, 7, 0, 0, 32, 127, 255, 511]
theorem spec_copyCell.tab1 : rtab .any (opsOf Try.f53 1) = spec_copyCell.T1 := by kernel_rfl
theorem spec_copyCell.bits1 : waitsOk spec_copyCell.T1.2 spec_copyCell.B1 = true := by kernel_rfl
set_option maxHeartbeats 8000000 in
set_option maxRecDepth 100000 in
theorem spec_copyCell.calls (A0_0 : Option Addr) (c0_0 : Nat) (l0_0 : List (S68)) (A0_1 : Option Addr) (c0_1 : Nat) (l0_1 : List (S28)) (r1 : List (S68)) (r2 : List (S28)) (w : World) (hr0_0 : Kd.C k68 w A0_0 l0_0.length l0_0) (hc0_0 : l0_0.length ≤ c0_0) (hr0_1 : Kd.C k28 w A0_1 l0_1.length l0_1) (hc0_1 : l0_1.length ≤ c0_1) (h : spec_copyCell.f l0_0 l0_1 = some (r1, r2)) :
  Calls Try.prog 53 #[.agg #[.slice A0_0 l0_0.length c0_0, .slice A0_1 l0_1.length c0_1]] w fun e w' => ∃ v0_ v1_ : Value, e = .returned (.agg #[v0_, v1_]) ∧ Kd.R k68 68 w' w.heap.size (fun _ => True) v0_ r1 ∧ Kd.R k28 28 w' w.heap.size (fun _ => True) v1_ r2 ∧ Below w.heap.size w w' := by
 have hu41 := Try.underlying41
 have HR0_0 := A_ hr0_0
 have HC0_0 := A_ hc0_0
 clear hr0_0 hc0_0
 have HR0_1 := A_ hr0_1
 have HC0_1 := A_ hc0_1
 clear hr0_1 hc0_1
 have HB := A_ (Below.refl w.heap.size w)
 have H : ((some (([] : List (S68)) : List (S68))).bind fun y319 => (if y319.length + l0_0.length < 8796093022208 then ((some (([] : List (S28)) : List (S28))).bind fun y325 => (if y325.length + l0_1.length < 4398046511104 then (some ((y319 ++ l0_0), (y325 ++ l0_1))) else (none))) else (none))) = some (r1, r2) := h
 clear h
 obtain ⟨y319, hy319⟩ : ∃ y_ : List (S68), y_ = (([] : List (S68))) := ⟨_, rfl⟩
 replace H : (if y319.length + l0_0.length < 8796093022208 then ((some (([] : List (S28)) : List (S28))).bind fun y325 => (if y325.length + l0_1.length < 4398046511104 then (some ((y319 ++ l0_0), (y325 ++ l0_1))) else (none))) else (none)) = some (r1, r2) := by first | (rw [hy319]; with_reducible exact H) | (have H2_ := (Option.bind_some _ _).symm.trans H; rw [hy319]; with_reducible exact H2_) | (have H2_ := (Option.bind_some _ _).symm.trans H; with_reducible exact H2_) | with_reducible exact H | (rw [hy319]; exact H) | exact H
 have Ny319 := A_ hy319
 clear hy319
 by_cases c2 : y319.length + l0_0.length < 8796093022208
 ·rw [if_pos c2] at H
  have LMc2 := A_ c2
  clear c2
  obtain ⟨y322, hy322⟩ : ∃ y_ : List (S68), y_ = (y319 ++ l0_0) := ⟨_, rfl⟩
  replace H : ((some (([] : List (S28)) : List (S28))).bind fun y325 => (if y325.length + l0_1.length < 4398046511104 then (some (y322, (y325 ++ l0_1))) else (none))) = some (r1, r2) := by first | (rw [hy322]; with_reducible exact H) | (have H2_ := (Option.bind_some _ _).symm.trans H; rw [hy322]; with_reducible exact H2_) | (have H2_ := (Option.bind_some _ _).symm.trans H; with_reducible exact H2_) | with_reducible exact H | (rw [hy322]; exact H) | exact H
  have Ny322 := A_ hy322
  clear hy322
  obtain ⟨y325, hy325⟩ : ∃ y_ : List (S28), y_ = (([] : List (S28))) := ⟨_, rfl⟩
  replace H : (if y325.length + l0_1.length < 4398046511104 then (some (y322, (y325 ++ l0_1))) else (none)) = some (r1, r2) := by first | (rw [hy325]; with_reducible exact H) | (have H2_ := (Option.bind_some _ _).symm.trans H; rw [hy325]; with_reducible exact H2_) | (have H2_ := (Option.bind_some _ _).symm.trans H; with_reducible exact H2_) | with_reducible exact H | (rw [hy325]; exact H) | exact H
  have Ny325 := A_ hy325
  clear hy325
  by_cases c3 : y325.length + l0_1.length < 4398046511104
  ·rw [if_pos c3] at H
   have LMc3 := A_ c3
   clear c3
   obtain ⟨y328, hy328⟩ : ∃ y_ : List (S28), y_ = (y325 ++ l0_1) := ⟨_, rfl⟩
   replace H : (some (y322, y328)) = some (r1, r2) := by first | (rw [hy328]; with_reducible exact H) | (have H2_ := (Option.bind_some _ _).symm.trans H; rw [hy328]; with_reducible exact H2_) | (have H2_ := (Option.bind_some _ _).symm.trans H; with_reducible exact H2_) | with_reducible exact H | (rw [hy328]; exact H) | exact H
   have Ny328 := A_ hy328
   clear hy328
   simp only [Option.some.injEq, Prod.mk.injEq] at H
   obtain ⟨rfl, rfl⟩ := H
   go_enter Try.func53, Try.ntmps53
   try go_wp2_with (first | ((with_reducible refine gate_dst (N := 1) rfl ?_); refine box_event ?hg (N := 1) ?hd (cs := #[.slice A0_0 l0_0.length c0_0, .slice A0_1 l0_1.length c0_1]) (t := 41) ?hr ?_; (case hd => rfl); (case hg => rfl); (case hr => exact Z28); intro gb317 hg w4 hbox hb; have n0_ := A_ (below_step Z1 hb); have n1_ := A_ (hbox); have n2_ := A_ ((by rw [hg]; exact (below_size Z1) : w.heap.size ≤ gb317)); have n3_ := A_ ((by rw [hg]; exact (below_size Z1) : w.heap.size ≤ gb317)); clear HB; have HB := n0_; have BK317 := n1_; have GW317 := n2_; have GE317 := n3_; clear n0_ n1_ n2_ n3_; clear hb hbox hg) | ((with_reducible refine gate_dst (N := 2) rfl ?_); refine box_event ?hg (N := 2) ?hd (cs := #[.slice none 0 0, .slice none 0 0]) (t := 41) ?hr ?_; (case hd => rfl); (case hg => rfl); (case hr => exact Z28); intro gb318 hg w5 hbox hb; have n0_ := A_ (blk_below (g := gb317) (o := .cells #[.slice A0_0 l0_0.length c0_0, .slice A0_1 l0_1.length c0_1] 41 (0, 0)) (Z6 BK317.out) hb); have n1_ := A_ (below_step (Z2 GE317.out) hb); have n2_ := A_ (hbox); have n3_ := A_ ((by rw [hg]; exact (below_size (Z2 GE317.out)) : w.heap.size ≤ gb318)); have n4_ := A_ ((by rw [hg]; exact (below_size (Z2 GE317.out)) : w.heap.size ≤ gb318)); have n5_ := A_ ((by rw [hg]; exact Nat.ne_of_lt (blk_lt (g := gb317) (o := .cells #[.slice A0_0 l0_0.length c0_0, .slice A0_1 l0_1.length c0_1] 41 (0, 0)) (Z6 BK317.out)) : gb317 ≠ gb318)); have n6_ := A_ ((by rw [hg]; exact Nat.ne_of_gt (blk_lt (g := gb317) (o := .cells #[.slice A0_0 l0_0.length c0_0, .slice A0_1 l0_1.length c0_1] 41 (0, 0)) (Z6 BK317.out)) : gb318 ≠ gb317)); clear BK317; clear HB; have BK317 := n0_; have HB := n1_; have BK318 := n2_; have GW318 := n3_; have GE318 := n4_; have NB317_318 := n5_; have NB318_317 := n6_; clear n0_ n1_ n2_ n3_ n4_ n5_ n6_; clear hb hbox hg))
   have n0_ := A_ (blk_drew BK317.out)
   have n1_ := A_ (blk_drew BK318.out)
   have n2_ := A_ (below_drew1 HB.out)
   clear BK317
   clear BK318
   clear HB
   have BK317 := n0_
   have BK318 := n1_
   have HB := n2_
   clear n0_ n1_ n2_
   refine start_ (n := 10) (S := fun w' => w'.cell? ⟨gb317, 0, none⟩ = some (.slice A0_0 l0_0.length c0_0) ∧ w'.cell? ⟨gb317, 1, none⟩ = some (.slice A0_1 l0_1.length c0_1)) (ds := []) #[F,F,F,F,F,F,F,F,F,F] (by kernel_rfl) rfl rfl ⟨(blk_cell BK317.out 0).trans rfl, (blk_cell BK317.out 1).trans rfl⟩ (fun hHeld => ?_); refine with_tabW spec_copyCell.tab1 spec_copyCell.bits1 (fun HT_ HW_ => ?_)
   generalize w5.drew = w6 at BK317 BK318 HB hHeld ⊢
   refine pure_ (i := 1) (N := some 4) (v := ?_) (a' := ?_) #[F,T,F,F,F,F,F,F,F,F] rfl rfl ZA ZF (Or.inl ⟨by rfl, ?_⟩) ?_ ?_
   rotate_left
   ·exact Z17
   rotate_left
   ·exact Z0
   refine pure_ (i := 5) (N := some 8) (v := ?_) (a' := ?_) #[F,T,F,F,F,T,F,F,F,F] rfl rfl ZA ZF (Or.inl ⟨by rfl, ?_⟩) ?_ ?_
   rotate_left
   ·exact Z17
   rotate_left
   ·exact Z0
   refine take_ (i := 2) (N := some 5) (v := ?_) (a' := ?_) #[F,T,T,F,F,T,F,F,F,F] rfl rfl (take_ofW HT_.out HW_.out (by kernel_rfl)) ZF (Or.inl ⟨by rfl, ?_⟩) hHeld ?_ ?_
   rotate_left
   ·exact Z45
   rotate_left
   ·exact Z0
   refine take_ (i := 6) (N := some 9) (v := ?_) (a' := ?_) #[F,T,T,F,F,T,T,F,F,F] rfl rfl (take_ofW HT_.out HW_.out (by kernel_rfl)) ZF (Or.inl ⟨by rfl, ?_⟩) hHeld ?_ ?_
   rotate_left
   ·exact Z45
   rotate_left
   ·exact Z0
   refine join_ (σ := Value × Value × Value) 3 #[T,T,T,T,T,T,T,F,F,F] (fun s_ => [(3, s_.1), (6, s_.2.1), (7, s_.2.2)]) (fun s_ w' => (w'.cell? ⟨gb317, 0, none⟩ = some (.slice A0_0 l0_0.length c0_0) ∧ w'.cell? ⟨gb317, 1, none⟩ = some (.slice A0_1 l0_1.length c0_1)) ∧ (Kd.R k68 68 w' w.heap.size (fun _ => True) s_.2.1 y322) ∧ (Kd.R k28 28 w' w.heap.size (fun _ => True) s_.2.2 y325) ∧ (w'.heap[gb317]? = some (.cells #[.slice A0_0 l0_0.length c0_0, .slice A0_1 l0_1.length c0_1] 41 (0, 0))) ∧ (w'.heap[gb318]? = some (.cells #[.slice none 0 0, .slice none 0 0] 41 (0, 0))) ∧ (Below w.heap.size w w')) ?_ ?_
   rotate_left
   ·intro hCont
    refine two_ (i := 0) (j := 4) (Ni := some 3) (Nj := some 7) #[T,T,T,F,F,T,T,F,F,F] #[F,T,T,F,T,T,T,F,F,F] rfl rfl rfl rfl (two_of HT_.out (by kernel_rfl)) (by decide) (by decide) (fun K hK => ?_) (fun K hK => ?_)
    ·skip
     refine Kd.R_lit_step k68 _ 68 ?hg (N := 3) ?hd (xs := ([] : List (S68))) (inner := []) (ok := fun _ => True) (okp := fun _ => True) ?hr ?hp (fun _ hk => hk) trivial (Below.refl _ _) (Nat.le_refl _) (by simp) ?_; (case hd => rfl); (case hg => rfl); (case hr => exact Z28); (case hp => exact (Reps.none _ _))
     intro v320 w7 ho8 hb hg_ hnew_
     clear hg_ hnew_
     (first | rw [← Ny319.out] at ho8 | (simp only [Int.reduceToNat] at ho8; rw [← Ny319.out] at ho8))
     have n0_ := A_ (Kd.R_lower ho8 (below_size (Z15 GE317.out GE318.out)))
     have n1_ := A_ (blk_below (g := gb317) (o := .cells #[.slice A0_0 l0_0.length c0_0, .slice A0_1 l0_1.length c0_1] 41 (0, 0)) (Z6 BK317.out) hb)
     have n2_ := A_ (blk_below (g := gb318) (o := .cells #[.slice none 0 0, .slice none 0 0] 41 (0, 0)) (Z6 BK318.out) hb)
     have n3_ := A_ (below_step (Z15 GE317.out GE318.out) hb)
     clear BK317
     clear BK318
     clear HB
     have HO321 := n0_
     have BK317 := n1_
     have BK318 := n2_
     have HB := n3_
     clear n0_ n1_ n2_ n3_
     clear hb ho8
     refine hK.out _ _ ⟨(blk_cell BK317.out 0).trans rfl, (blk_cell BK317.out 1).trans rfl⟩ (fun hHeld => ?_)
     clear hK K
     refine norm_ (a' := ?_) ?_ ?_
     rotate_left
     ·show Act.put _ (some 3) _ = _
      simp only [Act.put, List.setIfInBounds_toArray, List.set_cons_zero, List.set_cons_succ, i64_w, i32_w]
      rfl
     refine two_ (i := 3) (j := 4) (Ni := some 6) (Nj := some 7) #[T,T,T,T,F,T,T,F,F,F] #[T,T,T,F,T,T,T,F,F,F] rfl rfl rfl rfl (two_of HT_.out (by kernel_rfl)) (by decide) (by decide) (fun K hK => ?_) (fun K hK => ?_)
     ·skip
      refine Kd.R_append_rows_step k68 (w0 := w) w.heap.size (by rfl) (.tmp 3) (.tmp 5) 39 68 (.agg #[(.int .i64 0), (.int .i64 0)]) 16 rfl Try.underlying39 info68 rfl (by decide) (by omega) v320 y319 l0_0 _ _ _ (fun _ => True) (fun _ => False) rfl rfl ?aO ?aR (fun _ _ h => h) (fun _ h => h.elim) ?aF ?aB ?aS ?aL ?_
      (case aR => exact Z5 HR0_0.out)
      (case aB => exact (Z15 GE317.out GE318.out))
      (case aF => exact (fun _ _ => trivial))
      (case aO => exact (Z13 HO321.out))
      (case aS => exact (below_size (Z15 GE317.out GE318.out)))
      (case aL => have := LMc2.out; omega)
      intro v323 w9 ho hb hg hat
      rw [← Ny322.out] at ho
      have n0_ := A_ (blk_grown (g := gb317) (o := .cells #[.slice A0_0 l0_0.length c0_0, .slice A0_1 l0_1.length c0_1] 41 (0, 0)) (Z6 BK317.out) hg (Kd.R_ne HO321.out BK317.out (by decide)))
      have n1_ := A_ (blk_grown (g := gb318) (o := .cells #[.slice none 0 0, .slice none 0 0] 41 (0, 0)) (Z6 BK318.out) hg (Kd.R_ne HO321.out BK318.out (by decide)))
      have n2_ := A_ (hb)
      have n3_ := A_ (ho)
      clear BK317
      clear BK318
      clear HB
      clear HO321
      have BK317 := n0_
      have BK318 := n1_
      have HB := n2_
      have HO324 := n3_
      clear n0_ n1_ n2_ n3_
      clear ho hb hg hat
      refine hK.out _ _ ⟨(blk_cell BK317.out 0).trans rfl, (blk_cell BK317.out 1).trans rfl⟩ (fun hHeld => ?_)
      clear hK K
      refine norm_ (a' := ?_) ?_ ?_
      rotate_left
      ·exact Z31
      refine one_ (i := 4) (N := some 7) #[T,T,T,T,T,T,T,F,F,F] rfl rfl (one_of HT_.out (by kernel_rfl)) (by decide) (fun K hK => ?_)
      refine Kd.R_lit_step k28 _ 28 ?hg (N := 7) ?hd (xs := ([] : List (S28))) (inner := []) (ok := fun _ => True) (okp := fun _ => True) ?hr ?hp (fun _ hk => hk) trivial (Below.refl _ _) (Nat.le_refl _) (by simp) ?_; (case hd => rfl); (case hg => rfl); (case hr => exact Z28); (case hp => exact (Reps.none _ _))
      intro v326 w10 ho11 hb hg_ hnew_
      clear hg_ hnew_
      (first | rw [← Ny325.out] at ho11 | (simp only [Int.reduceToNat] at ho11; rw [← Ny325.out] at ho11))
      have n0_ := A_ (Kd.R_below (Z13 HO324.out) hb)
      have n1_ := A_ (Kd.R_lower ho11 (below_size (Z15 GE317.out GE318.out)))
      have n2_ := A_ (blk_below (g := gb317) (o := .cells #[.slice A0_0 l0_0.length c0_0, .slice A0_1 l0_1.length c0_1] 41 (0, 0)) (Z6 BK317.out) hb)
      have n3_ := A_ (blk_below (g := gb318) (o := .cells #[.slice none 0 0, .slice none 0 0] 41 (0, 0)) (Z6 BK318.out) hb)
      have n4_ := A_ (below_step (Z15 GE317.out GE318.out) hb)
      clear HO324
      clear BK317
      clear BK318
      clear HB
      have HO324 := n0_
      have HO327 := n1_
      have BK317 := n2_
      have BK318 := n3_
      have HB := n4_
      clear n0_ n1_ n2_ n3_ n4_
      clear hb ho11
      refine hK.out _ _ ⟨(blk_cell BK317.out 0).trans rfl, (blk_cell BK317.out 1).trans rfl⟩ (fun hHeld => ?_)
      clear hK K
      refine norm_ (a' := ?_) ?_ ?_
      rotate_left
      ·exact Z30
      exact norm_ Z32 (hCont (v320, v323, v326) _ ⟨hHeld, (Z13 HO324.out), (Z13 HO327.out), (Z6 BK317.out), (Z6 BK318.out), (Z15 GE317.out GE318.out)⟩)
     ·skip
      refine Kd.R_lit_step k28 _ 28 ?hg (N := 7) ?hd (xs := ([] : List (S28))) (inner := []) (ok := fun _ => True) (okp := fun _ => True) ?hr ?hp (fun _ hk => hk) trivial (Below.refl _ _) (Nat.le_refl _) (by simp) ?_; (case hd => rfl); (case hg => rfl); (case hr => exact Z28); (case hp => exact (Reps.none _ _))
      intro v326 w9 ho10 hb hg_ hnew_
      clear hg_ hnew_
      (first | rw [← Ny325.out] at ho10 | (simp only [Int.reduceToNat] at ho10; rw [← Ny325.out] at ho10))
      have n0_ := A_ (Kd.R_below (Z13 HO321.out) hb)
      have n1_ := A_ (Kd.R_lower ho10 (below_size (Z15 GE317.out GE318.out)))
      have n2_ := A_ (blk_below (g := gb317) (o := .cells #[.slice A0_0 l0_0.length c0_0, .slice A0_1 l0_1.length c0_1] 41 (0, 0)) (Z6 BK317.out) hb)
      have n3_ := A_ (blk_below (g := gb318) (o := .cells #[.slice none 0 0, .slice none 0 0] 41 (0, 0)) (Z6 BK318.out) hb)
      have n4_ := A_ (below_step (Z15 GE317.out GE318.out) hb)
      clear HO321
      clear BK317
      clear BK318
      clear HB
      have HO321 := n0_
      have HO327 := n1_
      have BK317 := n2_
      have BK318 := n3_
      have HB := n4_
      clear n0_ n1_ n2_ n3_ n4_
      clear hb ho10
      refine hK.out _ _ ⟨(blk_cell BK317.out 0).trans rfl, (blk_cell BK317.out 1).trans rfl⟩ (fun hHeld => ?_)
      clear hK K
      refine norm_ (a' := ?_) ?_ ?_
      rotate_left
      ·exact Z30
      refine one_ (i := 3) (N := some 6) #[T,T,T,T,T,T,T,F,F,F] rfl rfl (one_of HT_.out (by kernel_rfl)) (by decide) (fun K hK => ?_)
      refine Kd.R_append_rows_step k68 (w0 := w) w.heap.size (by rfl) (.tmp 3) (.tmp 5) 39 68 (.agg #[(.int .i64 0), (.int .i64 0)]) 16 rfl Try.underlying39 info68 rfl (by decide) (by omega) v320 y319 l0_0 _ _ _ (fun _ => True) (fun _ => False) rfl rfl ?aO ?aR (fun _ _ h => h) (fun _ h => h.elim) ?aF ?aB ?aS ?aL ?_
      (case aR => exact Z5 HR0_0.out)
      (case aB => exact (Z15 GE317.out GE318.out))
      (case aF => exact (fun _ _ => trivial))
      (case aO => exact (Z13 HO321.out))
      (case aS => exact (below_size (Z15 GE317.out GE318.out)))
      (case aL => have := LMc2.out; omega)
      intro v323 w11 ho hb hg hat
      rw [← Ny322.out] at ho
      have n0_ := A_ (blk_grown (g := gb317) (o := .cells #[.slice A0_0 l0_0.length c0_0, .slice A0_1 l0_1.length c0_1] 41 (0, 0)) (Z6 BK317.out) hg (Kd.R_ne HO321.out BK317.out (by decide)))
      have n1_ := A_ (blk_grown (g := gb318) (o := .cells #[.slice none 0 0, .slice none 0 0] 41 (0, 0)) (Z6 BK318.out) hg (Kd.R_ne HO321.out BK318.out (by decide)))
      have n2_ := A_ (Kd.R_over' (Z13 HO327.out) (Kd.R_typed (Z13 HO321.out)) (by decide) hg)
      have n3_ := A_ (hb)
      have n4_ := A_ (ho)
      clear BK317
      clear BK318
      clear HO327
      clear HB
      clear HO321
      have BK317 := n0_
      have BK318 := n1_
      have HO327 := n2_
      have HB := n3_
      have HO324 := n4_
      clear n0_ n1_ n2_ n3_ n4_
      clear ho hb hg hat
      refine hK.out _ _ ⟨(blk_cell BK317.out 0).trans rfl, (blk_cell BK317.out 1).trans rfl⟩ (fun hHeld => ?_)
      clear hK K
      refine norm_ (a' := ?_) ?_ ?_
      rotate_left
      ·exact Z31
      exact norm_ Z32 (hCont (v320, v323, v326) _ ⟨hHeld, (Z13 HO324.out), (Z13 HO327.out), (Z6 BK317.out), (Z6 BK318.out), (Z15 GE317.out GE318.out)⟩)
    ·skip
     refine Kd.R_lit_step k28 _ 28 ?hg (N := 7) ?hd (xs := ([] : List (S28))) (inner := []) (ok := fun _ => True) (okp := fun _ => True) ?hr ?hp (fun _ hk => hk) trivial (Below.refl _ _) (Nat.le_refl _) (by simp) ?_; (case hd => rfl); (case hg => rfl); (case hr => exact Z28); (case hp => exact (Reps.none _ _))
     intro v326 w7 ho8 hb hg_ hnew_
     clear hg_ hnew_
     (first | rw [← Ny325.out] at ho8 | (simp only [Int.reduceToNat] at ho8; rw [← Ny325.out] at ho8))
     have n0_ := A_ (Kd.R_lower ho8 (below_size (Z15 GE317.out GE318.out)))
     have n1_ := A_ (blk_below (g := gb317) (o := .cells #[.slice A0_0 l0_0.length c0_0, .slice A0_1 l0_1.length c0_1] 41 (0, 0)) (Z6 BK317.out) hb)
     have n2_ := A_ (blk_below (g := gb318) (o := .cells #[.slice none 0 0, .slice none 0 0] 41 (0, 0)) (Z6 BK318.out) hb)
     have n3_ := A_ (below_step (Z15 GE317.out GE318.out) hb)
     clear BK317
     clear BK318
     clear HB
     have HO327 := n0_
     have BK317 := n1_
     have BK318 := n2_
     have HB := n3_
     clear n0_ n1_ n2_ n3_
     clear hb ho8
     refine hK.out _ _ ⟨(blk_cell BK317.out 0).trans rfl, (blk_cell BK317.out 1).trans rfl⟩ (fun hHeld => ?_)
     clear hK K
     refine norm_ (a' := ?_) ?_ ?_
     rotate_left
     ·exact Z30
     refine one_ (i := 0) (N := some 3) #[T,T,T,F,T,T,T,F,F,F] rfl rfl (one_of HT_.out (by kernel_rfl)) (by decide) (fun K hK => ?_)
     refine Kd.R_lit_step k68 _ 68 ?hg (N := 3) ?hd (xs := ([] : List (S68))) (inner := []) (ok := fun _ => True) (okp := fun _ => True) ?hr ?hp (fun _ hk => hk) trivial (Below.refl _ _) (Nat.le_refl _) (by simp) ?_; (case hd => rfl); (case hg => rfl); (case hr => exact Z28); (case hp => exact (Reps.none _ _))
     intro v320 w9 ho10 hb hg_ hnew_
     clear hg_ hnew_
     (first | rw [← Ny319.out] at ho10 | (simp only [Int.reduceToNat] at ho10; rw [← Ny319.out] at ho10))
     have n0_ := A_ (Kd.R_below (Z13 HO327.out) hb)
     have n1_ := A_ (Kd.R_lower ho10 (below_size (Z15 GE317.out GE318.out)))
     have n2_ := A_ (blk_below (g := gb317) (o := .cells #[.slice A0_0 l0_0.length c0_0, .slice A0_1 l0_1.length c0_1] 41 (0, 0)) (Z6 BK317.out) hb)
     have n3_ := A_ (blk_below (g := gb318) (o := .cells #[.slice none 0 0, .slice none 0 0] 41 (0, 0)) (Z6 BK318.out) hb)
     have n4_ := A_ (below_step (Z15 GE317.out GE318.out) hb)
     clear HO327
     clear BK317
     clear BK318
     clear HB
     have HO327 := n0_
     have HO321 := n1_
     have BK317 := n2_
     have BK318 := n3_
     have HB := n4_
     clear n0_ n1_ n2_ n3_ n4_
     clear hb ho10
     refine hK.out _ _ ⟨(blk_cell BK317.out 0).trans rfl, (blk_cell BK317.out 1).trans rfl⟩ (fun hHeld => ?_)
     clear hK K
     refine norm_ (a' := ?_) ?_ ?_
     rotate_left
     ·show Act.put _ (some 3) _ = _
      simp only [Act.put, List.setIfInBounds_toArray, List.set_cons_zero, List.set_cons_succ, i64_w, i32_w]
      rfl
     refine one_ (i := 3) (N := some 6) #[T,T,T,T,T,T,T,F,F,F] rfl rfl (one_of HT_.out (by kernel_rfl)) (by decide) (fun K hK => ?_)
     refine Kd.R_append_rows_step k68 (w0 := w) w.heap.size (by rfl) (.tmp 3) (.tmp 5) 39 68 (.agg #[(.int .i64 0), (.int .i64 0)]) 16 rfl Try.underlying39 info68 rfl (by decide) (by omega) v320 y319 l0_0 _ _ _ (fun _ => True) (fun _ => False) rfl rfl ?aO ?aR (fun _ _ h => h) (fun _ h => h.elim) ?aF ?aB ?aS ?aL ?_
     (case aR => exact Z5 HR0_0.out)
     (case aB => exact (Z15 GE317.out GE318.out))
     (case aF => exact (fun _ _ => trivial))
     (case aO => exact (Z13 HO321.out))
     (case aS => exact (below_size (Z15 GE317.out GE318.out)))
     (case aL => have := LMc2.out; omega)
     intro v323 w11 ho hb hg hat
     rw [← Ny322.out] at ho
     have n0_ := A_ (blk_grown (g := gb317) (o := .cells #[.slice A0_0 l0_0.length c0_0, .slice A0_1 l0_1.length c0_1] 41 (0, 0)) (Z6 BK317.out) hg (Kd.R_ne HO321.out BK317.out (by decide)))
     have n1_ := A_ (blk_grown (g := gb318) (o := .cells #[.slice none 0 0, .slice none 0 0] 41 (0, 0)) (Z6 BK318.out) hg (Kd.R_ne HO321.out BK318.out (by decide)))
     have n2_ := A_ (Kd.R_over' (Z13 HO327.out) (Kd.R_typed (Z13 HO321.out)) (by decide) hg)
     have n3_ := A_ (hb)
     have n4_ := A_ (ho)
     clear BK317
     clear BK318
     clear HO327
     clear HB
     clear HO321
     have BK317 := n0_
     have BK318 := n1_
     have HO327 := n2_
     have HB := n3_
     have HO324 := n4_
     clear n0_ n1_ n2_ n3_ n4_
     clear ho hb hg hat
     refine hK.out _ _ ⟨(blk_cell BK317.out 0).trans rfl, (blk_cell BK317.out 1).trans rfl⟩ (fun hHeld => ?_)
     clear hK K
     refine norm_ (a' := ?_) ?_ ?_
     rotate_left
     ·exact Z31
     exact norm_ Z32 (hCont (v320, v323, v326) _ ⟨hHeld, (Z13 HO324.out), (Z13 HO327.out), (Z6 BK317.out), (Z6 BK318.out), (Z15 GE317.out GE318.out)⟩)
   rintro ⟨v320, v323, v326⟩ w12 ⟨hS_, h0_, h1_, h2_, h3_, h4_⟩
   have n0_ : Aside0 (Kd.R k68 68 w12 w.heap.size (fun _ => True) v323 y322) := ⟨h0_⟩
   have n1_ : Aside0 (Kd.R k28 28 w12 w.heap.size (fun _ => True) v326 y325) := ⟨h1_⟩
   have n2_ : Aside0 (w12.heap[gb317]? = some (.cells #[.slice A0_0 l0_0.length c0_0, .slice A0_1 l0_1.length c0_1] 41 (0, 0))) := ⟨h2_⟩
   have n3_ : Aside0 (w12.heap[gb318]? = some (.cells #[.slice none 0 0, .slice none 0 0] 41 (0, 0))) := ⟨h3_⟩
   have n4_ : Aside0 (Below w.heap.size w w12) := ⟨h4_⟩
   clear BK317
   clear BK318
   clear HB
   clear h0_ h1_ h2_ h3_ h4_
   have HO324 := n0_
   have HO327 := n1_
   have BK317 := n2_
   have BK318 := n3_
   have HB := n4_
   clear n0_ n1_ n2_ n3_ n4_
   have hHeld : w12.cell? ⟨gb317, 0, none⟩ = some (.slice A0_0 l0_0.length c0_0) ∧ w12.cell? ⟨gb317, 1, none⟩ = some (.slice A0_1 l0_1.length c0_1) := hS_
   refine norm_ (a' := ?_) ?_ ?_
   rotate_left
   ·exact Z44
   refine one_ (i := 7) (N := some 10) #[T,T,T,T,T,T,T,T,F,F] rfl rfl (one_of HT_.out (by kernel_rfl)) (by decide) (fun K hK => ?_)
   refine Kd.R_append_rows_step k28 (w0 := w) w.heap.size (by rfl) (.tmp 7) (.tmp 9) 36 28 (.agg #[(.int .i64 0), (.int .i64 0), (.string ⟨#[]⟩)]) 32 rfl Try.underlying36 info28 rfl (by decide) (by omega) v326 y325 l0_1 _ _ _ (fun _ => True) (fun _ => False) rfl rfl ?aO ?aR (fun _ _ h => h) (fun _ h => h.elim) ?aF ?aB ?aS ?aL ?_
   (case aR => exact Z5 HR0_1.out)
   (case aB => exact (Z15 GE317.out GE318.out))
   (case aF => exact (fun _ _ => trivial))
   (case aO => exact (Z13 HO327.out))
   (case aS => exact (below_size (Z15 GE317.out GE318.out)))
   (case aL => have := LMc3.out; omega)
   intro v329 w13 ho hb hg hat
   rw [← Ny328.out] at ho
   have n0_ := A_ (blk_grown (g := gb317) (o := .cells #[.slice A0_0 l0_0.length c0_0, .slice A0_1 l0_1.length c0_1] 41 (0, 0)) (Z6 BK317.out) hg (Kd.R_ne HO327.out BK317.out (by decide)))
   have n1_ := A_ (blk_grown (g := gb318) (o := .cells #[.slice none 0 0, .slice none 0 0] 41 (0, 0)) (Z6 BK318.out) hg (Kd.R_ne HO327.out BK318.out (by decide)))
   have n2_ := A_ (Kd.R_over' (Z13 HO324.out) (Kd.R_typed (Z13 HO327.out)) (by decide) hg)
   have n3_ := A_ (hb)
   have n4_ := A_ (ho)
   clear BK317
   clear BK318
   clear HO324
   clear HB
   clear HO327
   have BK317 := n0_
   have BK318 := n1_
   have HO324 := n2_
   have HB := n3_
   have HO330 := n4_
   clear n0_ n1_ n2_ n3_ n4_
   clear ho hb hg hat
   obtain ⟨Ao14, co14, eo14⟩ := Kd.R_slice HO330.out
   (first | subst eo14 | (injection eo14 with f1_ f2_ f3_; have f4_ := f1_.symm; have f5_ := f3_.symm; clear f1_ f2_ f3_; subst f4_; subst f5_))
   obtain ⟨Ao15, co15, eo15⟩ := Kd.R_slice HO324.out
   (first | subst eo15 | (injection eo15 with f1_ f2_ f3_; have f4_ := f1_.symm; have f5_ := f3_.symm; clear f1_ f2_ f3_; subst f4_; subst f5_))
   refine hK.out _ _ ⟨(blk_cell BK317.out 0).trans rfl, (blk_cell BK317.out 1).trans rfl⟩ (fun hHeld => ?_)
   clear hK K
   refine norm_ (a' := ?_) ?_ ?_
   rotate_left
   ·show Act.put _ (some 10) _ = _
    simp only [Act.put, List.setIfInBounds_toArray, List.set_cons_zero, List.set_cons_succ, i64_w, i32_w]
    rfl
   refine pure_ (i := 8) (N := some 11) (v := ?_) (a' := ?_) #[T,T,T,T,T,T,T,T,T,F] rfl rfl ZA ZF (Or.inl ⟨by rfl, ?_⟩) ?_ ?_
   rotate_left
   ·exact Z17
   rotate_left
   ·exact Z0
   refine one_ (i := 9) (N := none) #[T,T,T,T,T,T,T,T,T,T] rfl rfl (one_of HT_.out (by kernel_rfl)) (by decide) (fun K hK => ?_)
   have hs16 : w13.cell? ⟨gb318, 0, none⟩ = some (.slice none 0 0) := (blk_cell BK318.out 0).trans rfl
   have hfs16 := blk_frozen BK318.out 0
   have hns16_0 := NB317_318.out
   have hms16_0 := NB318_317.out
   have hs17 : w13.cell? ⟨gb318, 1, none⟩ = some (.slice none 0 0) := (blk_cell BK318.out 1).trans rfl
   have hfs17 := blk_frozen BK318.out 1
   have hns17_0 := NB317_318.out
   have hms17_0 := NB318_317.out
   refine skip_ (w1 := ?_) (by rfl) rfl ?_ ?_
   rotate_left
   ·go_simp
    rfl
   refine hK.out _ _ ⟨((cell_far (p := ⟨gb318, _, none⟩) NB317_318.out _).trans (((cell_far (p := ⟨gb318, _, none⟩) NB317_318.out _).trans (hHeld.1)))), ((cell_far (p := ⟨gb318, _, none⟩) NB317_318.out _).trans (((cell_far (p := ⟨gb318, _, none⟩) NB317_318.out _).trans (hHeld.2))))⟩ (fun hHeld => ?_)
   clear hK K
   refine done_ (done_of HT_.out (by kernel_rfl)) ?_
   try go_wp2
   refine bodyPost_ret (results_cell_row rfl _ _ gb318 41 #[.slice Ao15 y322.length co15, .slice Ao14 y328.length co14] (0, 0) _ rfl (by (with_reducible repeat (first | refine blk_drewN ?_ _ | refine blk_drew ?_ | refine blk_alloc ?_ _)); refine blk_put (cs := #[.slice Ao15 y322.length co15, .slice none 0 0]) ?_ 1 _ rfl; (with_reducible repeat (first | refine blk_drewN ?_ _ | refine blk_drew ?_ | refine blk_alloc ?_ _)); refine blk_put (cs := #[.slice none 0 0, .slice none 0 0]) ?_ 0 _ rfl; (with_reducible repeat (first | refine blk_drewN ?_ _ | refine blk_drew ?_ | refine blk_alloc ?_ _)); exact BK318.out) Try.underlying41 rfl (by kernel_rfl)) rfl ?_
   exact ⟨_, _, Z16, by (with_reducible repeat (first | apply Kd.R_alloc | apply Kd.R_drewN | apply Kd.R_drew)); exact Kd.R_mono (Kd.R_far (p := ⟨gb318, 1, none⟩) (Kd.R_far (p := ⟨gb318, 0, none⟩) (Kd.R_types HO324.out BK318.out (by decide)) (fun _ hk => hk.2) (.slice Ao15 y322.length co15)) (fun _ hk => hk.2) (.slice Ao14 y328.length co14)) (fun _ hk => trivial), by (with_reducible repeat (first | apply Kd.R_alloc | apply Kd.R_drewN | apply Kd.R_drew)); exact Kd.R_mono (Kd.R_far (p := ⟨gb318, 1, none⟩) (Kd.R_far (p := ⟨gb318, 0, none⟩) (Kd.R_types HO330.out BK318.out (by decide)) (fun _ hk => hk.2) (.slice Ao15 y322.length co15)) (fun _ hk => hk.2) (.slice Ao14 y328.length co14)) (fun _ hk => trivial), Z15 GE317.out GE318.out⟩
  ·rw [if_neg c3] at H
   exact absurd H (by simp)
 ·rw [if_neg c2] at H
  exact absurd H (by simp)
def spec_cellAt.l0 : Nat → List (S41) → List (S68) → Int → Option (Int × Bool)
 | 0, _, _, _ => none
 | k + 1, x0, x1, x6 => if x6 < (x0.length : Int) then (if 0 ≤ x6 then ((spec_comparePlaces.f k ((rd_T41 x0 x6).f0) x1).bind fun t332 => (if t332 < 0 then (spec_cellAt.l0 k x0 x1 (wrap64 (x6 + 1))) else ((spec_comparePlaces.f k ((rd_T41 x0 x6).f0) x1).bind fun t334 => (some (x6, (t334 == 0)))))) else (none)) else (some (x6, false))
def spec_cellAt.f (k : Nat) (l0 : List (S41)) (l1 : List (S68)) : Option (Int × Bool) := spec_cellAt.l0 k l0 l1 0
theorem spec_cellAt.mono_l : ∀ k, (∀ y0 y1 y2, LeO (spec_cellAt.l0 k y0 y1 y2) (spec_cellAt.l0 (k + 1) y0 y1 y2))
 | 0 => fun _ _ _ r h => by simp [spec_cellAt.l0] at h
 | k + 1 => by
  have ih0 := spec_cellAt.mono_l k
  ·intro y0 y1 y2
   unfold spec_cellAt.l0
   repeat' first
   | (with_reducible exact ih0 _ _ _)
   | (with_reducible exact spec_comparePlaces.mono _ _ _)
   | (with_reducible exact LeO.refl _)
   | (with_reducible exact LeO.none _)
   | (with_reducible refine LeO.ite ?_ ?_)
   | (with_reducible refine LeO.bind ?_ (fun _ => ?_))
   | exact ih0 _ _ _
   | exact spec_comparePlaces.mono _ _ _
   | exact LeO.none _
   | refine LeO.ite ?_ ?_
   | refine LeO.bind ?_ (fun _ => ?_)
theorem spec_cellAt.mono : ∀ a0 a1 k, LeO (spec_cellAt.f k a0 a1) (spec_cellAt.f (k + 1) a0 a1) := by
 intro a0 a1 k
 have ih0 := spec_cellAt.mono_l k
 unfold spec_cellAt.f
 repeat' first
   | (with_reducible exact ih0 _ _ _)
   | (with_reducible exact spec_comparePlaces.mono _ _ _)
   | (with_reducible exact LeO.refl _)
   | (with_reducible exact LeO.none _)
   | (with_reducible refine LeO.ite ?_ ?_)
   | (with_reducible refine LeO.bind ?_ (fun _ => ?_))
   | exact ih0 _ _ _
   | exact spec_comparePlaces.mono _ _ _
   | exact LeO.none _
   | refine LeO.ite ?_ ?_
   | refine LeO.bind ?_ (fun _ => ?_)
set_option maxHeartbeats 8000000 in
set_option maxRecDepth 100000 in
theorem spec_cellAt.calls (k : Nat) (A0 : Option Addr) (c0 : Nat) (l0 : List (S41)) (A1 : Option Addr) (c1 : Nat) (l1 : List (S68)) (r1 : Int) (r2 : Bool) (w : World) (hr0 : Kd.C k41 w A0 l0.length l0) (hc0 : l0.length ≤ c0) (hr1 : Kd.C k68 w A1 l1.length l1) (hc1 : l1.length ≤ c1) (h : spec_cellAt.f k l0 l1 = some (r1, r2)) :
  Calls Try.prog 56 #[.slice A0 l0.length c0, .slice A1 l1.length c1] w fun e w' => e = .returned (.tuple #[.int .i64 r1, .bool r2]) ∧ Drawn0 w w' := by
 have HR0 := A_ hr0
 have HC0 := A_ hc0
 clear hr0 hc0
 have HR1 := A_ hr1
 have HC1 := A_ hc1
 clear hr1 hc1
 have H : (spec_cellAt.l0 k l0 l1 0) = some (r1, r2) := h
 clear h
 have H' := A_ H
 clear H
 go_enter Try.func56, Try.ntmps56
 go_wp2
 go_loopg [6] k (fun kq v6 w' => ∃ (x6_1 : Int), v6 = .int .i64 x6_1 ∧ Aside0 (spec_cellAt.l0 kq l0 l1 x6_1 = some (r1, r2)) ∧ Aside0 (kq ≤ k) ∧ Drawn0 w w')
 case atStart => exact ⟨(0), Z21, H', ⟨Nat.le_refl _⟩, Z26⟩
 case round =>
  clear H'
  try clear c1
  try clear p2
  obtain ⟨x6_1, rfl, HA, HK1, ⟨m1, rfl⟩⟩ := hrel
  cases gk with
  | zero => exact absurd HA.out (by simp [spec_cellAt.l0])
  | succ k1 =>
   have H := HA.out
   clear HA
   simp only [spec_cellAt.l0] at H
   by_cases c3 : x6_1 < (l0.length : Int)
   ·rw [if_pos c3] at H
    have c3b0 : decide (x6_1 < (l0.length : Int)) = true := decide_eq_true c3
    clear c3
    by_cases c4 : 0 ≤ x6_1
    ·rw [if_pos c4] at H
     have c4b0 : decide (0 ≤ x6_1) = true := decide_eq_true c4
     clear c4
     replace H := Option.bind_eq_some_iff.mp H
     obtain ⟨t332, A50, H⟩ := H
     replace H : (if t332 < 0 then (spec_cellAt.l0 k1 l0 l1 (wrap64 (x6_1 + 1))) else ((spec_comparePlaces.f k1 ((rd_T41 l0 x6_1).f0) l1).bind fun t334 => (some (x6_1, (t334 == 0))))) = some (r1, r2) := H
     have A5 := A_ A50
     clear A50
     by_cases c6 : t332 < 0
     ·rw [if_pos c6] at H
      have c6b0 : decide (t332 < 0) = true := decide_eq_true c6
      clear c6
      have H' := A_ H
      clear H
      have p331 : 0 ≤ (x6_1 : Int) := of_decide_eq_true Z14
      have q331 : x6_1 < (l0.length : Int) := of_decide_eq_true Z14
      obtain ⟨ad331, A331_0, c331_0, A331_1, c331_1, e331, hx331_0, hx331_1, hl331_0, hi331_0, hl331_1, hi331_1⟩ := at_T41 HR0.out x6_1 p331 q331
      cases e331
      have HR331_0 := A_ hi331_0
      have HC331_0 := A_ hl331_0
      clear hi331_0 hl331_0
      have HR331_1 := A_ hi331_1
      have HC331_1 := A_ hl331_1
      clear hi331_1 hl331_1
      replace p331 := eq_true p331
      replace q331 := eq_true q331
      go_wp2_with (first | (go_at_call 62; (with_reducible refine (spec_comparePlaces.calls k1 _ _ ((rd_T41 l0 x6_1).f0) _ _ l1 t332 _ ?side1 ?side2 ?side3 ?side4 A5.out).mono ?_); (case side1 => exact Z19 HR331_0.out); (case side2 => exact HC331_0.out); (case side3 => exact Z19 HR1.out); (case side4 => exact HC1.out); rintro e w' ⟨rfl, ⟨nd, rfl⟩⟩))
      go_roundg k1
      case measure => have := HK1.out; omega
      case rel => exact ⟨(wrap64 (x6_1 + 1)), Z21, H', ⟨by have := HK1.out; omega⟩, Z26⟩
     ·rw [if_neg c6] at H
      have c6b0 : decide (t332 < 0) = false := decide_eq_false c6
      clear c6
      replace H := Option.bind_eq_some_iff.mp H
      obtain ⟨t334, A70, H⟩ := H
      replace H : (some (x6_1, (t334 == 0))) = some (r1, r2) := H
      have A7 := A_ A70
      clear A70
      simp only [Option.some.injEq, Prod.mk.injEq] at H
      obtain ⟨rfl, rfl⟩ := H
      have p331 : 0 ≤ (x6_1 : Int) := of_decide_eq_true Z14
      have q331 : x6_1 < (l0.length : Int) := of_decide_eq_true Z14
      obtain ⟨ad331, A331_0, c331_0, A331_1, c331_1, e331, hx331_0, hx331_1, hl331_0, hi331_0, hl331_1, hi331_1⟩ := at_T41 HR0.out x6_1 p331 q331
      cases e331
      have HR331_0 := A_ hi331_0
      have HC331_0 := A_ hl331_0
      clear hi331_0 hl331_0
      have HR331_1 := A_ hi331_1
      have HC331_1 := A_ hl331_1
      clear hi331_1 hl331_1
      replace p331 := eq_true p331
      replace q331 := eq_true q331
      go_wp2_with (first | (go_at_call 62; (with_reducible refine (spec_comparePlaces.calls k1 _ _ ((rd_T41 l0 x6_1).f0) _ _ l1 t332 _ ?side1 ?side2 ?side3 ?side4 A5.out).mono ?_); (case side1 => exact Z19 HR331_0.out); (case side2 => exact HC331_0.out); (case side3 => exact Z19 HR1.out); (case side4 => exact HC1.out); rintro e w' ⟨rfl, ⟨nd, rfl⟩⟩; have p333 : 0 ≤ (x6_1 : Int) := of_decide_eq_true Z14; have q333 : x6_1 < (l0.length : Int) := of_decide_eq_true Z14; obtain ⟨ad333, A333_0, c333_0, A333_1, c333_1, e333, hx333_0, hx333_1, hl333_0, hi333_0, hl333_1, hi333_1⟩ := at_T41 HR0.out x6_1 p333 q333; obtain rfl : ad331 = ad333 := (by injection e333); have HR333_0 := A_ hi333_0; have HC333_0 := A_ hl333_0; clear hi333_0 hl333_0; have HR333_1 := A_ hi333_1; have HC333_1 := A_ hl333_1; clear hi333_1 hl333_1; replace p333 := eq_true p333; replace q333 := eq_true q333; have ea_ := Option.some.inj (hx331_0.symm.trans hx333_0); injection ea_ with ea_ en_ ec_; subst ea_; subst ec_; clear en_; have ea_ := Option.some.inj (hx331_1.symm.trans hx333_1); injection ea_ with ea_ en_ ec_; subst ea_; subst ec_; clear en_) | (go_at_call 62; (with_reducible refine (spec_comparePlaces.calls k1 _ _ ((rd_T41 l0 x6_1).f0) _ _ l1 t334 _ ?side1 ?side2 ?side3 ?side4 A7.out).mono ?_); (case side1 => exact Z19 HR333_0.out); (case side2 => exact HC333_0.out); (case side3 => exact Z19 HR1.out); (case side4 => exact HC1.out); rintro e w' ⟨rfl, ⟨nd, rfl⟩⟩))
      go_ret2
      (try (have et_ := Option.some.inj (A5.out.symm.trans A7.out); subst et_))
      exact ⟨Z21, Z26⟩
    ·rw [if_neg c4] at H
     exact absurd H (by simp)
   ·rw [if_neg c3] at H
    have c3b0 : decide (x6_1 < (l0.length : Int)) = false := decide_eq_false c3
    clear c3
    simp only [Option.some.injEq, Prod.mk.injEq] at H
    obtain ⟨rfl, rfl⟩ := H
    go_wp2
    go_ret2
    (try (have et_ := Option.some.inj (A5.out.symm.trans A7.out); subst et_))
    exact ⟨Z21, Z26⟩
def spec_copyStore.l0 : Nat → List (S41) → List (S41) → Int → Option ((List (S41)))
 | 0, _, _, _ => none
 | k + 1, x0, x3, x4 => if x4 < (x0.length : Int) then (if 0 ≤ x4 then ((spec_copyCell.f ((rd_T41 x0 x4).f0) ((rd_T41 x0 x4).f1)).bind fun bt339 => (if x3.length < 2932031007402 then (spec_copyStore.l0 k x0 (x3 ++ [(⟨bt339.1, bt339.2⟩ : S41)]) (wrap64 (x4 + 1))) else (none))) else (none)) else (some x3)
def spec_copyStore.f (k : Nat) (l0 : List (S41)) : Option ((List (S41))) := spec_copyStore.l0 k l0 (([] : List (S41))) 0
theorem spec_copyStore.mono_l : ∀ k, (∀ y0 y1 y2, LeO (spec_copyStore.l0 k y0 y1 y2) (spec_copyStore.l0 (k + 1) y0 y1 y2))
 | 0 => fun _ _ _ r h => by simp [spec_copyStore.l0] at h
 | k + 1 => by
  have ih0 := spec_copyStore.mono_l k
  ·intro y0 y1 y2
   unfold spec_copyStore.l0
   repeat' first
   | (with_reducible exact ih0 _ _ _)
   | (with_reducible exact LeO.refl _)
   | (with_reducible exact LeO.none _)
   | (with_reducible refine LeO.ite ?_ ?_)
   | (with_reducible refine LeO.bind ?_ (fun _ => ?_))
   | exact ih0 _ _ _
   | exact LeO.none _
   | refine LeO.ite ?_ ?_
   | refine LeO.bind ?_ (fun _ => ?_)
theorem spec_copyStore.mono : ∀ a0 k, LeO (spec_copyStore.f k a0) (spec_copyStore.f (k + 1) a0) := by
 intro a0 k
 have ih0 := spec_copyStore.mono_l k
 unfold spec_copyStore.f
 repeat' first
   | (with_reducible exact ih0 _ _ _)
   | (with_reducible exact LeO.refl _)
   | (with_reducible exact LeO.none _)
   | (with_reducible refine LeO.ite ?_ ?_)
   | (with_reducible refine LeO.bind ?_ (fun _ => ?_))
   | exact ih0 _ _ _
   | exact LeO.none _
   | refine LeO.ite ?_ ?_
   | refine LeO.bind ?_ (fun _ => ?_)
set_option maxHeartbeats 8000000 in
set_option maxRecDepth 100000 in
theorem spec_copyStore.calls (k : Nat) (A0 : Option Addr) (c0 : Nat) (l0 : List (S41)) (r : List (S41)) (w : World) (hr0 : Kd.C k41 w A0 l0.length l0) (hc0 : l0.length ≤ c0) (h : spec_copyStore.f k l0 = some r) :
  Calls Try.prog 69 #[.slice A0 l0.length c0] w fun e w' => ∃ v0_ : Value, e = .returned (v0_) ∧ Kd.S k41 41 w' w.heap.size (fun _ => True) v0_ r ∧ Below w.heap.size w w' := by
 have hu41 := Try.underlying41
 have HR0 := A_ hr0
 have HC0 := A_ hc0
 clear hr0 hc0
 have HB := A_ (Below.refl w.heap.size w)
 have H : (spec_copyStore.l0 k l0 (([] : List (S41))) 0) = some r := h
 clear h
 obtain ⟨y335, hy335⟩ : ∃ y_ : List (S41), y_ = (([] : List (S41))) := ⟨_, rfl⟩
 replace H : (spec_copyStore.l0 k l0 y335 0) = some r := by first | (rw [hy335]; with_reducible exact H) | (have H2_ := (Option.bind_some _ _).symm.trans H; rw [hy335]; with_reducible exact H2_) | (have H2_ := (Option.bind_some _ _).symm.trans H; with_reducible exact H2_) | with_reducible exact H | (rw [hy335]; exact H) | exact H
 have Ny335 := A_ hy335
 clear hy335
 have H' := A_ H
 clear H
 go_enter Try.func69, Try.ntmps69
 go_wp2_with (first | ((with_reducible refine gate_dst (N := 5) rfl ?_); refine Kd.S_lit k41 _ 41 ?hg (N := 5) ?hd (xs := ([] : List (S41))) (inner := []) (ok := fun _ => True) (okp := fun _ => True) ?hr ?hp (fun _ hk => hk) trivial (Below.refl _ _) (Nat.le_refl _) (by simp) ?_; (case hd => rfl); (case hg => rfl); (case hr => exact Z28); (case hp => exact (Reps.none _ _)); intro v336 w2 ho3 hb hg_ hnew_; clear hg_ hnew_; (first | rw [← Ny335.out] at ho3 | (simp only [Int.reduceToNat] at ho3; rw [← Ny335.out] at ho3)); have n0_ := A_ (Kd.S_lower ho3 (below_size Z1)); have n1_ := A_ (below_step Z1 hb); clear HB; have HO337 := n0_; have HB := n1_; clear n0_ n1_; clear hb ho3))
 go_loopg [3, 4] k (fun kq v3 v4 w' => ∃ (x3_1 : List (S41)) (x4_1 : Int), v4 = .int .i64 x4_1 ∧ Aside0 (spec_copyStore.l0 kq l0 x3_1 x4_1 = some r) ∧ Aside0 (kq ≤ k) ∧ Aside0 (Kd.S k41 41 w' w.heap.size (fun _ => True) v3 x3_1) ∧ Aside0 (Below w.heap.size w w'))
 case atStart => exact ⟨(y335), (0), Z21, H', ⟨Nat.le_refl _⟩, ⟨Z29 HO337.out⟩, ⟨Z1⟩⟩
 case round =>
  clear H'
  try clear p2
  obtain ⟨x3_1, x4_1, rfl, HA, HK1, HO_3, HB⟩ := hrel
  cases gk with
  | zero => exact absurd HA.out (by simp [spec_copyStore.l0])
  | succ k1 =>
   have H := HA.out
   clear HA
   simp only [spec_copyStore.l0] at H
   by_cases c4 : x4_1 < (l0.length : Int)
   ·rw [if_pos c4] at H
    have c4b0 : decide (x4_1 < (l0.length : Int)) = true := decide_eq_true c4
    clear c4
    by_cases c5 : 0 ≤ x4_1
    ·rw [if_pos c5] at H
     have c5b0 : decide (0 ≤ x4_1) = true := decide_eq_true c5
     clear c5
     replace H := Option.bind_eq_some_iff.mp H
     obtain ⟨⟨t339, t342⟩, A60, H⟩ := H
     replace H : (if x3_1.length < 2932031007402 then (spec_copyStore.l0 k1 l0 (x3_1 ++ [(⟨t339, t342⟩ : S41)]) (wrap64 (x4_1 + 1))) else (none)) = some r := H
     have A6 := A_ A60
     clear A60
     by_cases c7 : x3_1.length < 2932031007402
     ·rw [if_pos c7] at H
      have LMc7 := A_ c7
      clear c7
      obtain ⟨y345, hy345⟩ : ∃ y_ : List (S41), y_ = (x3_1 ++ [(⟨t339, t342⟩ : S41)]) := ⟨_, rfl⟩
      replace H : (spec_copyStore.l0 k1 l0 y345 (wrap64 (x4_1 + 1))) = some r := by first | (rw [hy345]; with_reducible exact H) | (have H2_ := (Option.bind_some _ _).symm.trans H; rw [hy345]; with_reducible exact H2_) | (have H2_ := (Option.bind_some _ _).symm.trans H; with_reducible exact H2_) | with_reducible exact H | (rw [hy345]; exact H) | exact H
      have Ny345 := A_ hy345
      clear hy345
      have H' := A_ H
      clear H
      have p338 : 0 ≤ (x4_1 : Int) := of_decide_eq_true Z14
      have q338 : x4_1 < (l0.length : Int) := of_decide_eq_true Z14
      obtain ⟨ad338, A338_0, c338_0, A338_1, c338_1, e338, hx338_0, hx338_1, hl338_0, hi338_0, hl338_1, hi338_1⟩ := at_T41 HR0.out x4_1 p338 q338
      cases e338
      replace hx338_0 := ZC HB.out hx338_0
      replace hx338_1 := ZC HB.out hx338_1
      have HR338_0 := A_ hi338_0
      have HC338_0 := A_ hl338_0
      clear hi338_0 hl338_0
      have HR338_1 := A_ hi338_1
      have HC338_1 := A_ hl338_1
      clear hi338_1 hl338_1
      replace p338 := eq_true p338
      replace q338 := eq_true q338
      go_wp2_with (first | ((with_reducible refine gate_callee (f := 53) rfl ?_); refine goesL_ (some 17) rfl rfl Try.func53 (by kernel_rfl) rfl #[.agg #[.slice A338_0 ((rd_T41 l0 x4_1).f0).length c338_0, .slice A338_1 ((rd_T41 l0 x4_1).f1).length c338_1]] rfl Z3 ?_; (with_reducible refine (spec_copyCell.calls _ _ ((rd_T41 l0 x4_1).f0) _ _ ((rd_T41 l0 x4_1).f1) t339 t342 _ ?side1 ?side2 ?side3 ?side4 A6.out).mono ?_); (case side1 => exact Z5 HR338_0.out); (case side2 => exact HC338_0.out); (case side3 => exact Z5 HR338_1.out); (case side4 => exact HC338_1.out); rintro e w8 ⟨v340, v343, rfl, ho0, ho1, hb⟩; refine ⟨_, rfl, ?_⟩; have n0_ := A_ (Kd.S_mono (Kd.S_told (Kd.S_told (Kd.S_old (Z29 HO_3.out) hb) (Kd.R_base ho0)) (Kd.R_base ho1)) (fun _ h_ => h_.1)); have n1_ := A_ (Kd.R_lower ho0 (below_size Z1)); have n2_ := A_ (Kd.R_lower ho1 (below_size Z1)); have n3_ := A_ (below_step Z1 hb); clear HO_3; clear HB; have HO_3 := n0_; have HO341 := n1_; have HO344 := n2_; have HB := n3_; clear n0_ n1_ n2_ n3_; (try clear hb); (try clear hb2); (try clear hk); (try clear hi); (try clear ho0); (try clear ho1); obtain ⟨Ao10, co10, eo10⟩ := Kd.R_slice HO341.out; subst eo10; obtain ⟨Ao11, co11, eo11⟩ := Kd.R_slice HO344.out; subst eo11) | ((with_reducible refine gate_builtin (b := .append) (xs := #[.tmp 12, .tmp 18]) rfl ?_); at_builtin; refine Kd.S_append k41 (w0 := w) w.heap.size rfl (.tmp 12) (.tmp 18) 33 41 (.agg #[(.slice none 0 0), (.slice none 0 0)]) 48 rfl Try.underlying33 info41 rfl (by decide) (by omega) u3 x3_1 (⟨t339, t342⟩ : S41) [.slice Ao10 t339.length co10, .slice Ao11 t342.length co11] (fun _ => True) (fun k_ => some k_ = (.slice Ao10 t339.length co10 : Value).ownBlock ∨ some k_ = (.slice Ao11 t342.length co11 : Value).ownBlock) rfl rfl ?aP (fun k_ hk_ => hk_.elim (fun h_ => ((Kd.R_mono (ok' := fun k_ => ((fun _ => True)) k_ ∧ some k_ ≠ (u3 : Value).ownBlock) (Kd.R_apart' (HO341.out) (Kd.S_typed HO_3.out) (by decide)) (fun k_ hk => ⟨trivial, hk.2⟩))).1 k_ h_.symm) (fun h_ => ((Kd.R_mono (ok' := fun k_ => ((fun _ => True)) k_ ∧ some k_ ≠ (u3 : Value).ownBlock) (Kd.R_apart' (HO344.out) (Kd.S_typed HO_3.out) (by decide)) (fun k_ hk => ⟨trivial, hk.2⟩))).1 k_ h_.symm)) ?aF ?aO ?aB ?aS ?aL ?_; (case aP => exact k41_mkM _ _ _ (⟨t339, t342⟩ : S41) (Kd.R_mono (Kd.R_tight rfl (Kd.R_mono (ok' := fun k_ => ((fun _ => True)) k_ ∧ some k_ ≠ (u3 : Value).ownBlock) (Kd.R_apart' (HO341.out) (Kd.S_typed HO_3.out) (by decide)) (fun k_ hk => ⟨trivial, hk.2⟩))) (fun _ h_ => Or.inl h_)) (Kd.R_mono (Kd.R_tight rfl (Kd.R_mono (ok' := fun k_ => ((fun _ => True)) k_ ∧ some k_ ≠ (u3 : Value).ownBlock) (Kd.R_apart' (HO344.out) (Kd.S_typed HO_3.out) (by decide)) (fun k_ hk => ⟨trivial, hk.2⟩))) (fun _ h_ => Or.inr (h_)))); (case aB => exact Z1); (case aF => exact (fun _ _ => trivial)); (case aO => exact (by (with_reducible repeat (first | apply Kd.S_alloc | apply Kd.S_drewN | apply Kd.S_drew)); exact Kd.S_mono HO_3.out (fun k_ hk => ⟨trivial, fun e_ => e_.elim (fun h_ => hk.1.2 h_) (fun h_ => hk.2 h_)⟩))); (case aS => exact (below_size Z1)); (case aL => have := LMc7.out; omega); intro v346 w9 ho hb hg hat; rw [← Ny345.out] at ho; have n0_ := A_ (hb); have n1_ := A_ (ho); clear HB; clear HO_3; clear HO341; clear HO344; have HB := n0_; have HO347 := n1_; clear n0_ n1_; clear ho hb hg hat))
      go_roundg k1
      case measure => have := HK1.out; omega
      case rel => exact ⟨(y345), (wrap64 (x4_1 + 1)), Z21, H', ⟨by have := HK1.out; omega⟩, ⟨Z29 HO347.out⟩, ⟨Z1⟩⟩
     ·rw [if_neg c7] at H
      exact absurd H (by simp)
    ·rw [if_neg c5] at H
     exact absurd H (by simp)
   ·rw [if_neg c4] at H
    have c4b0 : decide (x4_1 < (l0.length : Int)) = false := decide_eq_false c4
    clear c4
    obtain rfl := Option.some.inj H
    go_wp2
    go_ret
    exact ⟨_, Z16, Z29 HO_3.out, Z1⟩
def spec_put.f (k : Nat) (l0 : List (S41)) (l1_0 : List (S68)) (l1_1 : List (S28)) : Option ((List (S41))) := (spec_cellAt.f k l0 l1_0).bind fun bt349 => (if 0 ≤ bt349.1 then (if bt349.1 ≤ (l0.length : Int) then ((spec_copyStore.f k (l0.take (bt349.1 : Int).toNat)).bind fun t355 => ((spec_copyCell.f l1_0 l1_1).bind fun bt358 => (if t355.length < 2932031007402 then ((some (t355 ++ [(⟨bt358.1, bt358.2⟩ : S41)] : List (S41))).bind fun y364 => (if bt349.2 = true then (if 0 ≤ (wrap64 (bt349.1 + 1)) then (if (wrap64 (bt349.1 + 1)) ≤ (l0.length : Int) then ((spec_copyStore.f k (l0.drop ((wrap64 (bt349.1 + 1)) : Int).toNat)).bind fun t371 => (if y364.length + t371.length < 2932031007402 then (some (y364 ++ t371)) else (none))) else (none)) else (none)) else ((spec_copyStore.f k (l0.drop (bt349.1 : Int).toNat)).bind fun t381 => (if y364.length + t381.length < 2932031007402 then (some (y364 ++ t381)) else (none))))) else (none)))) else (none)) else (none))
theorem spec_put.mono : ∀ a0 a1 a2 k, LeO (spec_put.f k a0 a1 a2) (spec_put.f (k + 1) a0 a1 a2) := by
 intro a0 a1 a2 k
 unfold spec_put.f
 repeat' first
   | (with_reducible exact spec_cellAt.mono _ _ _)
   | (with_reducible exact spec_copyStore.mono _ _)
   | (with_reducible exact LeO.refl _)
   | (with_reducible exact LeO.none _)
   | (with_reducible refine LeO.ite ?_ ?_)
   | (with_reducible refine LeO.bind ?_ (fun _ => ?_))
   | exact spec_cellAt.mono _ _ _
   | exact spec_copyStore.mono _ _
   | exact LeO.none _
   | refine LeO.ite ?_ ?_
   | refine LeO.bind ?_ (fun _ => ?_)
set_option maxHeartbeats 8000000 in
set_option maxRecDepth 100000 in
theorem spec_put.calls (k : Nat) (A0 : Option Addr) (c0 : Nat) (l0 : List (S41)) (A1_0 : Option Addr) (c1_0 : Nat) (l1_0 : List (S68)) (A1_1 : Option Addr) (c1_1 : Nat) (l1_1 : List (S28)) (r : List (S41)) (w : World) (hr0 : Kd.C k41 w A0 l0.length l0) (hc0 : l0.length ≤ c0) (hr1_0 : Kd.C k68 w A1_0 l1_0.length l1_0) (hc1_0 : l1_0.length ≤ c1_0) (hr1_1 : Kd.C k28 w A1_1 l1_1.length l1_1) (hc1_1 : l1_1.length ≤ c1_1) (h : spec_put.f k l0 l1_0 l1_1 = some r) :
  Calls Try.prog 61 #[.slice A0 l0.length c0, .agg #[.slice A1_0 l1_0.length c1_0, .slice A1_1 l1_1.length c1_1]] w fun e w' => ∃ v0_ : Value, e = .returned (v0_) ∧ Kd.N k41 41 w' w.heap.size (fun k_ => (w.heap.size ≤ k_)) v0_ r ∧ Below w.heap.size w w' := by
 have hu41 := Try.underlying41
 have HR0 := A_ hr0
 have HC0 := A_ hc0
 clear hr0 hc0
 have HR1_0 := A_ hr1_0
 have HC1_0 := A_ hc1_0
 clear hr1_0 hc1_0
 have HR1_1 := A_ hr1_1
 have HC1_1 := A_ hc1_1
 clear hr1_1 hc1_1
 have HB := A_ (Below.refl w.heap.size w)
 have H : ((spec_cellAt.f k l0 l1_0).bind fun bt349 => (if 0 ≤ bt349.1 then (if bt349.1 ≤ (l0.length : Int) then ((spec_copyStore.f k (l0.take (bt349.1 : Int).toNat)).bind fun t355 => ((spec_copyCell.f l1_0 l1_1).bind fun bt358 => (if t355.length < 2932031007402 then ((some (t355 ++ [(⟨bt358.1, bt358.2⟩ : S41)] : List (S41))).bind fun y364 => (if bt349.2 = true then (if 0 ≤ (wrap64 (bt349.1 + 1)) then (if (wrap64 (bt349.1 + 1)) ≤ (l0.length : Int) then ((spec_copyStore.f k (l0.drop ((wrap64 (bt349.1 + 1)) : Int).toNat)).bind fun t371 => (if y364.length + t371.length < 2932031007402 then (some (y364 ++ t371)) else (none))) else (none)) else (none)) else ((spec_copyStore.f k (l0.drop (bt349.1 : Int).toNat)).bind fun t381 => (if y364.length + t381.length < 2932031007402 then (some (y364 ++ t381)) else (none))))) else (none)))) else (none)) else (none))) = some r := h
 clear h
 replace H := Option.bind_eq_some_iff.mp H
 obtain ⟨⟨t349, t350⟩, A30, H⟩ := H
 replace H : (if 0 ≤ t349 then (if t349 ≤ (l0.length : Int) then ((spec_copyStore.f k (l0.take (t349 : Int).toNat)).bind fun t355 => ((spec_copyCell.f l1_0 l1_1).bind fun bt358 => (if t355.length < 2932031007402 then ((some (t355 ++ [(⟨bt358.1, bt358.2⟩ : S41)] : List (S41))).bind fun y364 => (if t350 = true then (if 0 ≤ (wrap64 (t349 + 1)) then (if (wrap64 (t349 + 1)) ≤ (l0.length : Int) then ((spec_copyStore.f k (l0.drop ((wrap64 (t349 + 1)) : Int).toNat)).bind fun t371 => (if y364.length + t371.length < 2932031007402 then (some (y364 ++ t371)) else (none))) else (none)) else (none)) else ((spec_copyStore.f k (l0.drop (t349 : Int).toNat)).bind fun t381 => (if y364.length + t381.length < 2932031007402 then (some (y364 ++ t381)) else (none))))) else (none)))) else (none)) else (none)) = some r := H
 have A3 := A_ A30
 clear A30
 by_cases c4 : 0 ≤ t349
 ·rw [if_pos c4] at H
  have c4b0 := eq_true c4
  have c4b1 : decide (0 ≤ t349) = true := decide_eq_true c4
  clear c4
  by_cases c5 : t349 ≤ (l0.length : Int)
  ·rw [if_pos c5] at H
   have c5b0 := eq_true c5
   have c5b1 : decide (t349 ≤ (l0.length : Int)) = true := decide_eq_true c5
   clear c5
   obtain ⟨y351, hy351⟩ : ∃ y_ : List (S41), y_ = (l0.take (t349 : Int).toNat) := ⟨_, rfl⟩
   replace H : ((spec_copyStore.f k y351).bind fun t355 => ((spec_copyCell.f l1_0 l1_1).bind fun bt358 => (if t355.length < 2932031007402 then ((some (t355 ++ [(⟨bt358.1, bt358.2⟩ : S41)] : List (S41))).bind fun y364 => (if t350 = true then (if 0 ≤ (wrap64 (t349 + 1)) then (if (wrap64 (t349 + 1)) ≤ (l0.length : Int) then ((spec_copyStore.f k (l0.drop ((wrap64 (t349 + 1)) : Int).toNat)).bind fun t371 => (if y364.length + t371.length < 2932031007402 then (some (y364 ++ t371)) else (none))) else (none)) else (none)) else ((spec_copyStore.f k (l0.drop (t349 : Int).toNat)).bind fun t381 => (if y364.length + t381.length < 2932031007402 then (some (y364 ++ t381)) else (none))))) else (none)))) = some r := by first | (rw [hy351]; with_reducible exact H) | (have H2_ := (Option.bind_some _ _).symm.trans H; rw [hy351]; with_reducible exact H2_) | (have H2_ := (Option.bind_some _ _).symm.trans H; with_reducible exact H2_) | with_reducible exact H | (rw [hy351]; exact H) | exact H
   have Ny351 := A_ hy351
   clear hy351
   replace H := Option.bind_eq_some_iff.mp H
   obtain ⟨t355, A60, H⟩ := H
   replace H : ((spec_copyCell.f l1_0 l1_1).bind fun bt358 => (if t355.length < 2932031007402 then ((some (t355 ++ [(⟨bt358.1, bt358.2⟩ : S41)] : List (S41))).bind fun y364 => (if t350 = true then (if 0 ≤ (wrap64 (t349 + 1)) then (if (wrap64 (t349 + 1)) ≤ (l0.length : Int) then ((spec_copyStore.f k (l0.drop ((wrap64 (t349 + 1)) : Int).toNat)).bind fun t371 => (if y364.length + t371.length < 2932031007402 then (some (y364 ++ t371)) else (none))) else (none)) else (none)) else ((spec_copyStore.f k (l0.drop (t349 : Int).toNat)).bind fun t381 => (if y364.length + t381.length < 2932031007402 then (some (y364 ++ t381)) else (none))))) else (none))) = some r := H
   have A6 := A_ A60
   clear A60
   replace H := Option.bind_eq_some_iff.mp H
   obtain ⟨⟨t358, t361⟩, A70, H⟩ := H
   replace H : (if t355.length < 2932031007402 then ((some (t355 ++ [(⟨t358, t361⟩ : S41)] : List (S41))).bind fun y364 => (if t350 = true then (if 0 ≤ (wrap64 (t349 + 1)) then (if (wrap64 (t349 + 1)) ≤ (l0.length : Int) then ((spec_copyStore.f k (l0.drop ((wrap64 (t349 + 1)) : Int).toNat)).bind fun t371 => (if y364.length + t371.length < 2932031007402 then (some (y364 ++ t371)) else (none))) else (none)) else (none)) else ((spec_copyStore.f k (l0.drop (t349 : Int).toNat)).bind fun t381 => (if y364.length + t381.length < 2932031007402 then (some (y364 ++ t381)) else (none))))) else (none)) = some r := H
   have A7 := A_ A70
   clear A70
   by_cases c8 : t355.length < 2932031007402
   ·rw [if_pos c8] at H
    have LMc8 := A_ c8
    clear c8
    obtain ⟨y364, hy364⟩ : ∃ y_ : List (S41), y_ = (t355 ++ [(⟨t358, t361⟩ : S41)]) := ⟨_, rfl⟩
    replace H : (if t350 = true then (if 0 ≤ (wrap64 (t349 + 1)) then (if (wrap64 (t349 + 1)) ≤ (l0.length : Int) then ((spec_copyStore.f k (l0.drop ((wrap64 (t349 + 1)) : Int).toNat)).bind fun t371 => (if y364.length + t371.length < 2932031007402 then (some (y364 ++ t371)) else (none))) else (none)) else (none)) else ((spec_copyStore.f k (l0.drop (t349 : Int).toNat)).bind fun t381 => (if y364.length + t381.length < 2932031007402 then (some (y364 ++ t381)) else (none)))) = some r := by first | (rw [hy364]; with_reducible exact H) | (have H2_ := (Option.bind_some _ _).symm.trans H; rw [hy364]; with_reducible exact H2_) | (have H2_ := (Option.bind_some _ _).symm.trans H; with_reducible exact H2_) | with_reducible exact H | (rw [hy364]; exact H) | exact H
    have Ny364 := A_ hy364
    clear hy364
    by_cases c9 : t350 = true
    ·subst c9
     have H1 : (if 0 ≤ (wrap64 (t349 + 1)) then (if (wrap64 (t349 + 1)) ≤ (l0.length : Int) then ((spec_copyStore.f k (l0.drop ((wrap64 (t349 + 1)) : Int).toNat)).bind fun t371 => (if y364.length + t371.length < 2932031007402 then (some (y364 ++ t371)) else (none))) else (none)) else (none)) = some r := by rw [if_pos rfl] at H; exact H
     clear H
     have H := H1
     clear H1
     obtain ⟨ji10, hji10⟩ : ∃ j_ : Int, (wrap64 (t349 + 1)) = j_ := ⟨_, rfl⟩
     replace H : (if 0 ≤ (ji10) then (if (ji10) ≤ (l0.length : Int) then ((spec_copyStore.f k (l0.drop ((ji10) : Int).toNat)).bind fun t371 => (if y364.length + t371.length < 2932031007402 then (some (y364 ++ t371)) else (none))) else (none)) else (none)) = some r := by first | (rw [hji10] at H; exact H) | (simp only [hji10] at H ⊢; exact H)
     (try rw [hji10] at A3)
     (try rw [hji10] at A6)
     (try rw [hji10] at A7)
     have hji10w : (IntKind.i64.wrap (t349 + 1)) = ji10 := (i64_w _).trans hji10
     by_cases c11 : 0 ≤ (ji10)
     ·rw [if_pos c11] at H
      have c11b0 := eq_true c11
      have c11b1 : decide (0 ≤ (ji10)) = true := decide_eq_true c11
      clear c11
      by_cases c12 : (ji10) ≤ (l0.length : Int)
      ·rw [if_pos c12] at H
       have c12b0 := eq_true c12
       have c12b1 : decide ((ji10) ≤ (l0.length : Int)) = true := decide_eq_true c12
       clear c12
       obtain ⟨y367, hy367⟩ : ∃ y_ : List (S41), y_ = (l0.drop ((ji10) : Int).toNat) := ⟨_, rfl⟩
       replace H : ((spec_copyStore.f k y367).bind fun t371 => (if y364.length + t371.length < 2932031007402 then (some (y364 ++ t371)) else (none))) = some r := by first | (rw [hy367]; with_reducible exact H) | (have H2_ := (Option.bind_some _ _).symm.trans H; rw [hy367]; with_reducible exact H2_) | (have H2_ := (Option.bind_some _ _).symm.trans H; with_reducible exact H2_) | with_reducible exact H | (rw [hy367]; exact H) | exact H
       have Ny367 := A_ hy367
       clear hy367
       replace H := Option.bind_eq_some_iff.mp H
       obtain ⟨t371, A130, H⟩ := H
       replace H : (if y364.length + t371.length < 2932031007402 then (some (y364 ++ t371)) else (none)) = some r := H
       have A13 := A_ A130
       clear A130
       by_cases c14 : y364.length + t371.length < 2932031007402
       ·rw [if_pos c14] at H
        have LMc14 := A_ c14
        clear c14
        obtain ⟨y374, hy374⟩ : ∃ y_ : List (S41), y_ = (y364 ++ t371) := ⟨_, rfl⟩
        replace H : (some y374) = some r := by first | (rw [hy374]; with_reducible exact H) | (have H2_ := (Option.bind_some _ _).symm.trans H; rw [hy374]; with_reducible exact H2_) | (have H2_ := (Option.bind_some _ _).symm.trans H; with_reducible exact H2_) | with_reducible exact H | (rw [hy374]; exact H) | exact H
        have Ny374 := A_ hy374
        clear hy374
        obtain rfl := Option.some.inj H
        go_enter Try.func61, Try.ntmps61
        go_wp2_with (first | ((with_reducible refine gate_dst (N := 3) rfl ?_); refine box_event ?hg (N := 3) ?hd (cs := #[.slice A1_0 l1_0.length c1_0, .slice A1_1 l1_1.length c1_1]) (t := 41) ?hr ?_; (case hd => rfl); (case hg => rfl); (case hr => exact Z28); intro gb348 hg w15 hbox hb; have n0_ := A_ (below_step Z1 hb); have n1_ := A_ (hbox); have n2_ := A_ ((by rw [hg]; exact (below_size Z1) : w.heap.size ≤ gb348)); have n3_ := A_ ((by rw [hg]; exact (below_size Z1) : w.heap.size ≤ gb348)); clear HB; have HB := n0_; have BK348 := n1_; have GW348 := n2_; have GE348 := n3_; clear n0_ n1_ n2_ n3_; clear hb hbox hg; have hcz16_0 : w15.cell? ⟨gb348, 0, none⟩ = some (.slice A1_0 l1_0.length c1_0) := (blk_cell BK348.out 0).trans rfl; have hcz16_1 : w15.cell? ⟨gb348, 1, none⟩ = some (.slice A1_1 l1_1.length c1_1) := (blk_cell BK348.out 1).trans rfl; have hfz16_0 := blk_frozen BK348.out 0; have hfz16_1 := blk_frozen BK348.out 1) | ((with_reducible refine gate_callee (f := 56) rfl ?_); refine goesL_ (some 12) rfl rfl Try.func56 (by kernel_rfl) rfl #[.slice A0 l0.length c0, .slice A1_0 l1_0.length c1_0] rfl Z3 ?_; (with_reducible refine (spec_cellAt.calls k _ _ l0 _ _ l1_0 t349 true _ ?side1 ?side2 ?side3 ?side4 A3.out).mono ?_); (case side1 => exact Z5 HR0.out); (case side2 => exact HC0.out); (case side3 => exact Z5 HR1_0.out); (case side4 => exact HC1_0.out); rintro e w' ⟨rfl, ⟨nd, rfl⟩⟩; refine ⟨_, rfl, ?_⟩; have q17 : (t349 : Int) ≤ ((l0.length : Int) : Int) := of_decide_eq_true Z14; obtain ⟨i017, hi017, _, hsz17, _⟩ := info_parts info41; have hroom17 : l0.length ≤ c0 := HC0.out; have hC17 : Kd.C k41 _ A0 l0.length l0 := HR0.out; have hcut17 := cut_to (P := Try.prog) 33 41 .i64 Try.underlying33 hi017 A0 l0.length c0 t349 (of_decide_eq_true Z14) q17 hroom17; have hr17 := Kd.C_take (m := (t349 : Int).toNat) hC17 (by omega); have hy17 : y351.length = (t349 : Int).toNat := (by rw [Ny351.out, List.length_take]; omega); rw [← Ny351.out] at hr17; rw [← hy17] at hcut17; have HR354 := A_ hr17; have HC354 := A_ (show y351.length ≤ c0 from by omega); clear hr17 hC17 hroom17 hi017 hsz17; have KY17 := A_ hy17; clear hy17; replace q17 := eq_true q17) | ((with_reducible refine gate_callee (f := 69) rfl ?_); refine goesL_ (some 18) rfl rfl Try.func69 (by kernel_rfl) rfl #[.slice A0 y351.length c0] rfl Z3 ?_; (with_reducible refine (spec_copyStore.calls k _ _ y351 t355 _ ?side1 ?side2 A6.out).mono ?_); (case side1 => repeat (first | exact (Kd.C_below HR354.out (Z2 GE348.out)) | (with_reducible refine Kd.C_alloc ?_ _) | (with_reducible refine Kd.C_drewN ?_ _) | (with_reducible refine Kd.C_drew ?_))); (case side2 => exact HC354.out); rintro e w18 ⟨v356, rfl, ho0, hb⟩; refine ⟨_, rfl, ?_⟩; have n0_ := A_ (Kd.N_lower (Kd.N_mono (ok' := fun k_ => (w.heap.size ≤ k_) ∧ k_ ≠ gb348) (Kd.S_N (Kd.S_bound ho0)) (fun k_ hk_ => ⟨(Nat.le_trans (below_size (Z2 GE348.out)) hk_.2.1), (Kd.freshB (g := gb348) (o := .cells #[.slice A1_0 l1_0.length c1_0, .slice A1_1 l1_1.length c1_1] 41 (0, 0)) (Z6 BK348.out) k_ hk_.2.1)⟩)) (below_size (Z2 GE348.out))); have n1_ := A_ (blk_below (g := gb348) (o := .cells #[.slice A1_0 l1_0.length c1_0, .slice A1_1 l1_1.length c1_1] 41 (0, 0)) (Z6 BK348.out) hb); have n2_ := A_ (below_step (Z2 GE348.out) hb); clear BK348; clear HB; have HO357 := n0_; have BK348 := n1_; have HB := n2_; clear n0_ n1_ n2_; (try clear hb); (try clear hb2); (try clear hk); (try clear hi); (try clear ho0); have hcz19_0 : w18.cell? ⟨gb348, 0, none⟩ = some (.slice A1_0 l1_0.length c1_0) := (blk_cell BK348.out 0).trans rfl; have hcz19_1 : w18.cell? ⟨gb348, 1, none⟩ = some (.slice A1_1 l1_1.length c1_1) := (blk_cell BK348.out 1).trans rfl; have hfz19_0 := blk_frozen BK348.out 0; have hfz19_1 := blk_frozen BK348.out 1) | ((with_reducible refine gate_callee (f := 53) rfl ?_); refine goesL_ (some 21) rfl rfl Try.func53 (by kernel_rfl) rfl #[.agg #[.slice A1_0 l1_0.length c1_0, .slice A1_1 l1_1.length c1_1]] rfl Z3 ?_; (with_reducible refine (spec_copyCell.calls _ _ l1_0 _ _ l1_1 t358 t361 _ ?side1 ?side2 ?side3 ?side4 A7.out).mono ?_); (case side1 => exact Z5 HR1_0.out); (case side2 => exact HC1_0.out); (case side3 => exact Z5 HR1_1.out); (case side4 => exact HC1_1.out); rintro e w20 ⟨v359, v362, rfl, ho0, ho1, hb⟩; refine ⟨_, rfl, ?_⟩; have n0_ := A_ (Kd.N_mono (Kd.N_told (Kd.N_told (Kd.N_old (Z18 HO357.out) hb) (Kd.R_base ho0)) (Kd.R_base ho1)) (fun _ h_ => h_.1)); have n1_ := A_ (Kd.R_lower (Kd.R_newM (M := fun k_ => (w.heap.size ≤ k_)) ho0 (below_size (Z2 GE348.out)) (fun k_ h_ => h_)) (below_size (Z2 GE348.out))); have n2_ := A_ (Kd.R_lower (Kd.R_newM (M := fun k_ => (w.heap.size ≤ k_)) ho1 (below_size (Z2 GE348.out)) (fun k_ h_ => h_)) (below_size (Z2 GE348.out))); have n3_ := A_ (blk_below (g := gb348) (o := .cells #[.slice A1_0 l1_0.length c1_0, .slice A1_1 l1_1.length c1_1] 41 (0, 0)) (Z6 BK348.out) hb); have n4_ := A_ (below_step (Z2 GE348.out) hb); clear HO357; clear BK348; clear HB; have HO357 := n0_; have HO360 := n1_; have HO363 := n2_; have BK348 := n3_; have HB := n4_; clear n0_ n1_ n2_ n3_ n4_; (try clear hb); (try clear hb2); (try clear hk); (try clear hi); (try clear ho0); (try clear ho1); obtain ⟨Ao22, co22, eo22⟩ := Kd.R_slice HO360.out; subst eo22; obtain ⟨Ao23, co23, eo23⟩ := Kd.R_slice HO363.out; subst eo23) | ((with_reducible refine gate_builtin (b := .append) (xs := #[.tmp 19, .tmp 22]) rfl ?_); at_builtin; refine Kd.N_append k41 (w0 := w) w.heap.size rfl (.tmp 19) (.tmp 22) 33 41 (.agg #[(.slice none 0 0), (.slice none 0 0)]) 48 rfl Try.underlying33 info41 rfl (by decide) (by omega) v356 t355 (⟨t358, t361⟩ : S41) [.slice Ao22 t358.length co22, .slice Ao23 t361.length co23] (fun k_ => (w.heap.size ≤ k_) ∧ k_ ≠ gb348) (fun k_ => ((fun k_ => (w.heap.size ≤ k_) ∧ k_ ≠ gb348)) k_ ∧ some k_ ≠ (v356 : Value).ownBlock) rfl rfl ?aP (fun _ hk => hk) ?aF ?aO ?aB ?aS ?aL ?_; (case aP => exact (k41_mkF _ _ (⟨t358, t361⟩ : S41) (Kd.R_reads' (Kd.R_mono (ok' := (fun k_ => ((fun k_ => (w.heap.size ≤ k_) ∧ k_ ≠ gb348)) k_ ∧ some k_ ≠ (v356 : Value).ownBlock)) (Kd.R_types (Kd.R_apart' (HO360.out) (Kd.N_typed HO357.out) (by decide)) BK348.out (by decide)) (fun k_ hk => ⟨⟨hk.1.1.1, hk.2⟩, hk.1.2⟩))).2.1 (Kd.R_F (Kd.R_mono (ok' := (fun k_ => ((fun k_ => (w.heap.size ≤ k_) ∧ k_ ≠ gb348)) k_ ∧ some k_ ≠ (v356 : Value).ownBlock)) (Kd.R_types (Kd.R_apart' (HO360.out) (Kd.N_typed HO357.out) (by decide)) BK348.out (by decide)) (fun k_ hk => ⟨⟨hk.1.1.1, hk.2⟩, hk.1.2⟩))) (Kd.R_reads' (Kd.R_mono (ok' := (fun k_ => ((fun k_ => (w.heap.size ≤ k_) ∧ k_ ≠ gb348)) k_ ∧ some k_ ≠ (v356 : Value).ownBlock)) (Kd.R_types (Kd.R_apart' (HO363.out) (Kd.N_typed HO357.out) (by decide)) BK348.out (by decide)) (fun k_ hk => ⟨⟨hk.1.1.1, hk.2⟩, hk.1.2⟩))).2.1 (Kd.R_F (Kd.R_mono (ok' := (fun k_ => ((fun k_ => (w.heap.size ≤ k_) ∧ k_ ≠ gb348)) k_ ∧ some k_ ≠ (v356 : Value).ownBlock)) (Kd.R_types (Kd.R_apart' (HO363.out) (Kd.N_typed HO357.out) (by decide)) BK348.out (by decide)) (fun k_ hk => ⟨⟨hk.1.1.1, hk.2⟩, hk.1.2⟩))))); (case aB => exact (Z2 GE348.out)); (case aF => exact Z43 GE348.out BK348.out); (case aO => exact (by (with_reducible repeat (first | apply Kd.N_alloc | apply Kd.N_drewN | apply Kd.N_drew)); exact Kd.N_mono HO357.out (fun _ hk => ⟨hk.1.1.1, hk.1.1.2⟩))); (case aS => exact (below_size (Z2 GE348.out))); (case aL => have := LMc8.out; omega); intro v365 w21 ho hb hg hat; rw [← Ny364.out] at ho; have n0_ := A_ (blk_grown (g := gb348) (o := .cells #[.slice A1_0 l1_0.length c1_0, .slice A1_1 l1_1.length c1_1] 41 (0, 0)) (Z6 BK348.out) hg (Kd.N_away HO357.out (fun _ hk => hk.1.1.2))); have n1_ := A_ (hb); have n2_ := A_ (ho); clear BK348; clear HB; clear HO357; clear HO360; clear HO363; have BK348 := n0_; have HB := n1_; have HO366 := n2_; clear n0_ n1_ n2_; clear ho hb hg hat; have q24 : ((ji10) : Int) ≤ ((l0.length : Int) : Int) := of_decide_eq_true Z14; obtain ⟨i024, hi024, _, hsz24, _⟩ := info_parts info41; have hroom24 : l0.length ≤ c0 := HC0.out; have hC24 : Kd.C k41 _ A0 l0.length l0 := HR0.out; have q024 : (0 : Int) ≤ ((ji10) : Int) := of_decide_eq_true Z14; have hcut24 := cut_from (P := Try.prog) 33 41 .i64 Try.underlying33 hi024 2 hsz24 A0 l0.length c0 (ji10) q024 q24; have hr24 := Kd.C_drop (m := ((ji10) : Int).toNat) (c := c0) hC24 (by omega) hroom24; obtain ⟨A24, hA24⟩ : ∃ A1, A1 = (if c0 = ((ji10) : Int).toNat then A0 else (A0 : Option Addr).map (·.add (((ji10) : Int).toNat * 2))) := ⟨_, rfl⟩; obtain ⟨c24, hc24⟩ : ∃ c1, c1 = c0 - ((ji10) : Int).toNat := ⟨_, rfl⟩; have hy24 : y367.length = l0.length - ((ji10) : Int).toNat := (by rw [Ny367.out, List.length_drop] <;> omega); rw [show (l0).drop ((ji10) : Int).toNat = y367 from Ny367.out.symm] at hr24; replace hr24 : Kd.C k41 _ A24 y367.length y367 := (by rw [hA24]; exact hr24); rw [← hy24, ← hA24, ← hc24] at hcut24; have HR370 := A_ hr24; have HC370 := A_ (show y367.length ≤ c24 from by rw [hy24, hc24]; exact Nat.sub_le_sub_right hroom24 _); clear hr24 hC24 hroom24 hi024 hsz24 hc24; have KY24 := A_ hy24; have KA24 := A_ hA24; clear hy24 hA24; replace q24 := eq_true q24) | ((with_reducible refine gate_callee (f := 69) rfl ?_); refine goesL_ (some 31) rfl rfl Try.func69 (by kernel_rfl) rfl #[.slice A24 y367.length c24] rfl Z3 ?_; (with_reducible refine (spec_copyStore.calls k _ _ y367 t371 _ ?side1 ?side2 A13.out).mono ?_); (case side1 => exact Z5 HR370.out); (case side2 => exact HC370.out); rintro e w25 ⟨v372, rfl, ho0, hb⟩; refine ⟨_, rfl, ?_⟩; have n0_ := A_ (Kd.N_elder' (Z18 HO366.out) Z49 hb); have n1_ := A_ (Kd.N_lower (Kd.N_mono (ok' := fun k_ => (w.heap.size ≤ k_) ∧ some k_ ≠ (v365 : Value).ownBlock ∧ k_ ≠ gb348) (Kd.S_N (Kd.S_bound ho0)) (fun k_ hk_ => ⟨(Nat.le_trans (below_size (Z2 GE348.out)) hk_.2.1), (Kd.fresh' (Kd.N_lt (Z18 HO366.out)) k_ hk_.2.1), (Kd.freshB (g := gb348) (o := .cells #[.slice A1_0 l1_0.length c1_0, .slice A1_1 l1_1.length c1_1] 41 (0, 0)) (Z6 BK348.out) k_ hk_.2.1)⟩)) (below_size (Z2 GE348.out))); have n2_ := A_ (blk_below (g := gb348) (o := .cells #[.slice A1_0 l1_0.length c1_0, .slice A1_1 l1_1.length c1_1] 41 (0, 0)) (Z6 BK348.out) hb); have n3_ := A_ (below_step (Z2 GE348.out) hb); clear HO366; clear BK348; clear HB; have HO366 := n0_; have HO373 := n1_; have BK348 := n2_; have HB := n3_; clear n0_ n1_ n2_ n3_; (try clear hb); (try clear hb2); (try clear hk); (try clear hi); (try clear ho0); obtain ⟨Ao27, co27, eo27⟩ := Kd.N_slice HO373.out; subst eo27) | ((with_reducible refine gate_builtin (b := .append) (xs := #[.tmp 27, .tmp 31]) rfl ?_); at_builtin; refine Kd.N_append_rows k41 (w0 := w) w.heap.size rfl (.tmp 27) (.tmp 31) 33 41 (.agg #[(.slice none 0 0), (.slice none 0 0)]) 48 rfl Try.underlying33 info41 rfl (by decide) (by omega) v365 y364 t371 _ _ _ (fun k_ => (w.heap.size ≤ k_) ∧ k_ ≠ gb348) (fun k_ => ((fun k_ => (w.heap.size ≤ k_) ∧ k_ ≠ gb348)) k_ ∧ some k_ ≠ (v365 : Value).ownBlock) rfl rfl ?aO ?aR (fun _ hk => hk) ?aF ?aB ?aS ?aL ?_; (case aR => exact (by skip; exact Kd.N_F (Kd.N_mono (ok' := (fun k_ => ((fun k_ => (w.heap.size ≤ k_) ∧ k_ ≠ gb348)) k_ ∧ some k_ ≠ (v365 : Value).ownBlock)) (HO373.out) (fun k_ hk => ⟨⟨hk.1, hk.2.2⟩, hk.2.1⟩)))); (case aB => exact (Z2 GE348.out)); (case aF => exact Z43 GE348.out BK348.out); (case aO => exact (by (with_reducible repeat (first | apply Kd.N_alloc | apply Kd.N_drewN | apply Kd.N_drew)); exact Kd.N_mono HO366.out (fun _ hk => ⟨hk.1.1, hk.1.2⟩))); (case aS => exact (below_size (Z2 GE348.out))); (case aL => have := LMc14.out; omega); intro v375 w26 ho hb hg hat; rw [← Ny374.out] at ho; have n0_ := A_ (blk_grown (g := gb348) (o := .cells #[.slice A1_0 l1_0.length c1_0, .slice A1_1 l1_1.length c1_1] 41 (0, 0)) (Z6 BK348.out) hg (Kd.N_away HO366.out (fun _ hk => hk.1.2))); have n1_ := A_ (Kd.N_afterv (ok := (fun k_ => (w.heap.size ≤ k_) ∧ k_ ≠ gb348)) (by (with_reducible repeat (first | apply Kd.N_alloc | apply Kd.N_drewN | apply Kd.N_drew)); exact Kd.N_mono HO373.out (fun _ hk => ⟨⟨hk.1, hk.2.2⟩, hk.2.1⟩)) hg hat); have n2_ := A_ (hb); have n3_ := A_ (ho); clear BK348; clear HO373; clear HB; clear HO366; have BK348 := n0_; have HO373 := n1_; have HB := n2_; have HO376 := n3_; clear n0_ n1_ n2_ n3_; clear ho hb hg hat))
        go_ret
        exact ⟨_, by first | rfl | (simp [errW_none, errW_some] <;> rfl) | (simp only [← hji10]; first | rfl | (simp [errW_none, errW_some] <;> rfl)) | (simp [*, errW_none, errW_some] <;> rfl), by (with_reducible repeat (first | apply Kd.N_alloc | apply Kd.N_drewN | apply Kd.N_drew)); exact Kd.N_mono HO376.out (fun _ hk => hk.1), Z2 GE348.out⟩
       ·rw [if_neg c14] at H
        exact absurd H (by simp)
      ·rw [if_neg c12] at H
       exact absurd H (by simp)
     ·rw [if_neg c11] at H
      exact absurd H (by simp)
    ·replace c9 := Bool.eq_false_iff.mpr c9
     subst c9
     have H1 : ((spec_copyStore.f k (l0.drop (t349 : Int).toNat)).bind fun t381 => (if y364.length + t381.length < 2932031007402 then (some (y364 ++ t381)) else (none))) = some r := by rw [if_neg (show ¬ (false = true) by decide)] at H; exact H
     clear H
     have H := H1
     clear H1
     have c28b0 := eq_true (of_decide_eq_true Z14 : 0 ≤ t349)
     have c29b0 := eq_true (of_decide_eq_true Z14 : t349 ≤ (l0.length : Int))
     obtain ⟨y377, hy377⟩ : ∃ y_ : List (S41), y_ = (l0.drop (t349 : Int).toNat) := ⟨_, rfl⟩
     replace H : ((spec_copyStore.f k y377).bind fun t381 => (if y364.length + t381.length < 2932031007402 then (some (y364 ++ t381)) else (none))) = some r := by first | (rw [hy377]; with_reducible exact H) | (have H2_ := (Option.bind_some _ _).symm.trans H; rw [hy377]; with_reducible exact H2_) | (have H2_ := (Option.bind_some _ _).symm.trans H; with_reducible exact H2_) | with_reducible exact H | (rw [hy377]; exact H) | exact H
     have Ny377 := A_ hy377
     clear hy377
     replace H := Option.bind_eq_some_iff.mp H
     obtain ⟨t381, A300, H⟩ := H
     replace H : (if y364.length + t381.length < 2932031007402 then (some (y364 ++ t381)) else (none)) = some r := H
     have A30 := A_ A300
     clear A300
     by_cases c31 : y364.length + t381.length < 2932031007402
     ·rw [if_pos c31] at H
      have LMc31 := A_ c31
      clear c31
      obtain ⟨y384, hy384⟩ : ∃ y_ : List (S41), y_ = (y364 ++ t381) := ⟨_, rfl⟩
      replace H : (some y384) = some r := by first | (rw [hy384]; with_reducible exact H) | (have H2_ := (Option.bind_some _ _).symm.trans H; rw [hy384]; with_reducible exact H2_) | (have H2_ := (Option.bind_some _ _).symm.trans H; with_reducible exact H2_) | with_reducible exact H | (rw [hy384]; exact H) | exact H
      have Ny384 := A_ hy384
      clear hy384
      obtain rfl := Option.some.inj H
      go_enter Try.func61, Try.ntmps61
      go_wp2_with (first | ((with_reducible refine gate_dst (N := 3) rfl ?_); refine box_event ?hg (N := 3) ?hd (cs := #[.slice A1_0 l1_0.length c1_0, .slice A1_1 l1_1.length c1_1]) (t := 41) ?hr ?_; (case hd => rfl); (case hg => rfl); (case hr => exact Z28); intro gb348 hg w32 hbox hb; have n0_ := A_ (below_step Z1 hb); have n1_ := A_ (hbox); have n2_ := A_ ((by rw [hg]; exact (below_size Z1) : w.heap.size ≤ gb348)); have n3_ := A_ ((by rw [hg]; exact (below_size Z1) : w.heap.size ≤ gb348)); clear HB; have HB := n0_; have BK348 := n1_; have GW348 := n2_; have GE348 := n3_; clear n0_ n1_ n2_ n3_; clear hb hbox hg; have hcz33_0 : w32.cell? ⟨gb348, 0, none⟩ = some (.slice A1_0 l1_0.length c1_0) := (blk_cell BK348.out 0).trans rfl; have hcz33_1 : w32.cell? ⟨gb348, 1, none⟩ = some (.slice A1_1 l1_1.length c1_1) := (blk_cell BK348.out 1).trans rfl; have hfz33_0 := blk_frozen BK348.out 0; have hfz33_1 := blk_frozen BK348.out 1) | ((with_reducible refine gate_callee (f := 56) rfl ?_); refine goesL_ (some 12) rfl rfl Try.func56 (by kernel_rfl) rfl #[.slice A0 l0.length c0, .slice A1_0 l1_0.length c1_0] rfl Z3 ?_; (with_reducible refine (spec_cellAt.calls k _ _ l0 _ _ l1_0 t349 false _ ?side1 ?side2 ?side3 ?side4 A3.out).mono ?_); (case side1 => exact Z5 HR0.out); (case side2 => exact HC0.out); (case side3 => exact Z5 HR1_0.out); (case side4 => exact HC1_0.out); rintro e w' ⟨rfl, ⟨nd, rfl⟩⟩; refine ⟨_, rfl, ?_⟩; have q34 : (t349 : Int) ≤ ((l0.length : Int) : Int) := of_decide_eq_true Z14; obtain ⟨i034, hi034, _, hsz34, _⟩ := info_parts info41; have hroom34 : l0.length ≤ c0 := HC0.out; have hC34 : Kd.C k41 _ A0 l0.length l0 := HR0.out; have hcut34 := cut_to (P := Try.prog) 33 41 .i64 Try.underlying33 hi034 A0 l0.length c0 t349 (of_decide_eq_true Z14) q34 hroom34; have hr34 := Kd.C_take (m := (t349 : Int).toNat) hC34 (by omega); have hy34 : y351.length = (t349 : Int).toNat := (by rw [Ny351.out, List.length_take]; omega); rw [← Ny351.out] at hr34; rw [← hy34] at hcut34; have HR354 := A_ hr34; have HC354 := A_ (show y351.length ≤ c0 from by omega); clear hr34 hC34 hroom34 hi034 hsz34; have KY34 := A_ hy34; clear hy34; replace q34 := eq_true q34) | ((with_reducible refine gate_callee (f := 69) rfl ?_); refine goesL_ (some 18) rfl rfl Try.func69 (by kernel_rfl) rfl #[.slice A0 y351.length c0] rfl Z3 ?_; (with_reducible refine (spec_copyStore.calls k _ _ y351 t355 _ ?side1 ?side2 A6.out).mono ?_); (case side1 => repeat (first | exact (Kd.C_below HR354.out (Z2 GE348.out)) | (with_reducible refine Kd.C_alloc ?_ _) | (with_reducible refine Kd.C_drewN ?_ _) | (with_reducible refine Kd.C_drew ?_))); (case side2 => exact HC354.out); rintro e w35 ⟨v356, rfl, ho0, hb⟩; refine ⟨_, rfl, ?_⟩; have n0_ := A_ (Kd.N_lower (Kd.N_mono (ok' := fun k_ => (w.heap.size ≤ k_) ∧ k_ ≠ gb348) (Kd.S_N (Kd.S_bound ho0)) (fun k_ hk_ => ⟨(Nat.le_trans (below_size (Z2 GE348.out)) hk_.2.1), (Kd.freshB (g := gb348) (o := .cells #[.slice A1_0 l1_0.length c1_0, .slice A1_1 l1_1.length c1_1] 41 (0, 0)) (Z6 BK348.out) k_ hk_.2.1)⟩)) (below_size (Z2 GE348.out))); have n1_ := A_ (blk_below (g := gb348) (o := .cells #[.slice A1_0 l1_0.length c1_0, .slice A1_1 l1_1.length c1_1] 41 (0, 0)) (Z6 BK348.out) hb); have n2_ := A_ (below_step (Z2 GE348.out) hb); clear BK348; clear HB; have HO357 := n0_; have BK348 := n1_; have HB := n2_; clear n0_ n1_ n2_; (try clear hb); (try clear hb2); (try clear hk); (try clear hi); (try clear ho0); have hcz36_0 : w35.cell? ⟨gb348, 0, none⟩ = some (.slice A1_0 l1_0.length c1_0) := (blk_cell BK348.out 0).trans rfl; have hcz36_1 : w35.cell? ⟨gb348, 1, none⟩ = some (.slice A1_1 l1_1.length c1_1) := (blk_cell BK348.out 1).trans rfl; have hfz36_0 := blk_frozen BK348.out 0; have hfz36_1 := blk_frozen BK348.out 1) | ((with_reducible refine gate_callee (f := 53) rfl ?_); refine goesL_ (some 21) rfl rfl Try.func53 (by kernel_rfl) rfl #[.agg #[.slice A1_0 l1_0.length c1_0, .slice A1_1 l1_1.length c1_1]] rfl Z3 ?_; (with_reducible refine (spec_copyCell.calls _ _ l1_0 _ _ l1_1 t358 t361 _ ?side1 ?side2 ?side3 ?side4 A7.out).mono ?_); (case side1 => exact Z5 HR1_0.out); (case side2 => exact HC1_0.out); (case side3 => exact Z5 HR1_1.out); (case side4 => exact HC1_1.out); rintro e w37 ⟨v359, v362, rfl, ho0, ho1, hb⟩; refine ⟨_, rfl, ?_⟩; have n0_ := A_ (Kd.N_mono (Kd.N_told (Kd.N_told (Kd.N_old (Z18 HO357.out) hb) (Kd.R_base ho0)) (Kd.R_base ho1)) (fun _ h_ => h_.1)); have n1_ := A_ (Kd.R_lower (Kd.R_newM (M := fun k_ => (w.heap.size ≤ k_)) ho0 (below_size (Z2 GE348.out)) (fun k_ h_ => h_)) (below_size (Z2 GE348.out))); have n2_ := A_ (Kd.R_lower (Kd.R_newM (M := fun k_ => (w.heap.size ≤ k_)) ho1 (below_size (Z2 GE348.out)) (fun k_ h_ => h_)) (below_size (Z2 GE348.out))); have n3_ := A_ (blk_below (g := gb348) (o := .cells #[.slice A1_0 l1_0.length c1_0, .slice A1_1 l1_1.length c1_1] 41 (0, 0)) (Z6 BK348.out) hb); have n4_ := A_ (below_step (Z2 GE348.out) hb); clear HO357; clear BK348; clear HB; have HO357 := n0_; have HO360 := n1_; have HO363 := n2_; have BK348 := n3_; have HB := n4_; clear n0_ n1_ n2_ n3_ n4_; (try clear hb); (try clear hb2); (try clear hk); (try clear hi); (try clear ho0); (try clear ho1); obtain ⟨Ao39, co39, eo39⟩ := Kd.R_slice HO360.out; subst eo39; obtain ⟨Ao40, co40, eo40⟩ := Kd.R_slice HO363.out; subst eo40) | ((with_reducible refine gate_builtin (b := .append) (xs := #[.tmp 19, .tmp 22]) rfl ?_); at_builtin; refine Kd.N_append k41 (w0 := w) w.heap.size rfl (.tmp 19) (.tmp 22) 33 41 (.agg #[(.slice none 0 0), (.slice none 0 0)]) 48 rfl Try.underlying33 info41 rfl (by decide) (by omega) v356 t355 (⟨t358, t361⟩ : S41) [.slice Ao39 t358.length co39, .slice Ao40 t361.length co40] (fun k_ => (w.heap.size ≤ k_) ∧ k_ ≠ gb348) (fun k_ => ((fun k_ => (w.heap.size ≤ k_) ∧ k_ ≠ gb348)) k_ ∧ some k_ ≠ (v356 : Value).ownBlock) rfl rfl ?aP (fun _ hk => hk) ?aF ?aO ?aB ?aS ?aL ?_; (case aP => exact (k41_mkF _ _ (⟨t358, t361⟩ : S41) (Kd.R_reads' (Kd.R_mono (ok' := (fun k_ => ((fun k_ => (w.heap.size ≤ k_) ∧ k_ ≠ gb348)) k_ ∧ some k_ ≠ (v356 : Value).ownBlock)) (Kd.R_types (Kd.R_apart' (HO360.out) (Kd.N_typed HO357.out) (by decide)) BK348.out (by decide)) (fun k_ hk => ⟨⟨hk.1.1.1, hk.2⟩, hk.1.2⟩))).2.1 (Kd.R_F (Kd.R_mono (ok' := (fun k_ => ((fun k_ => (w.heap.size ≤ k_) ∧ k_ ≠ gb348)) k_ ∧ some k_ ≠ (v356 : Value).ownBlock)) (Kd.R_types (Kd.R_apart' (HO360.out) (Kd.N_typed HO357.out) (by decide)) BK348.out (by decide)) (fun k_ hk => ⟨⟨hk.1.1.1, hk.2⟩, hk.1.2⟩))) (Kd.R_reads' (Kd.R_mono (ok' := (fun k_ => ((fun k_ => (w.heap.size ≤ k_) ∧ k_ ≠ gb348)) k_ ∧ some k_ ≠ (v356 : Value).ownBlock)) (Kd.R_types (Kd.R_apart' (HO363.out) (Kd.N_typed HO357.out) (by decide)) BK348.out (by decide)) (fun k_ hk => ⟨⟨hk.1.1.1, hk.2⟩, hk.1.2⟩))).2.1 (Kd.R_F (Kd.R_mono (ok' := (fun k_ => ((fun k_ => (w.heap.size ≤ k_) ∧ k_ ≠ gb348)) k_ ∧ some k_ ≠ (v356 : Value).ownBlock)) (Kd.R_types (Kd.R_apart' (HO363.out) (Kd.N_typed HO357.out) (by decide)) BK348.out (by decide)) (fun k_ hk => ⟨⟨hk.1.1.1, hk.2⟩, hk.1.2⟩))))); (case aB => exact (Z2 GE348.out)); (case aF => exact Z43 GE348.out BK348.out); (case aO => exact (by (with_reducible repeat (first | apply Kd.N_alloc | apply Kd.N_drewN | apply Kd.N_drew)); exact Kd.N_mono HO357.out (fun _ hk => ⟨hk.1.1.1, hk.1.1.2⟩))); (case aS => exact (below_size (Z2 GE348.out))); (case aL => have := LMc8.out; omega); intro v365 w38 ho hb hg hat; rw [← Ny364.out] at ho; have n0_ := A_ (blk_grown (g := gb348) (o := .cells #[.slice A1_0 l1_0.length c1_0, .slice A1_1 l1_1.length c1_1] 41 (0, 0)) (Z6 BK348.out) hg (Kd.N_away HO357.out (fun _ hk => hk.1.1.2))); have n1_ := A_ (hb); have n2_ := A_ (ho); clear BK348; clear HB; clear HO357; clear HO360; clear HO363; have BK348 := n0_; have HB := n1_; have HO366 := n2_; clear n0_ n1_ n2_; clear ho hb hg hat; have q41 : (t349 : Int) ≤ ((l0.length : Int) : Int) := of_decide_eq_true Z14; obtain ⟨i041, hi041, _, hsz41, _⟩ := info_parts info41; have hroom41 : l0.length ≤ c0 := HC0.out; have hC41 : Kd.C k41 _ A0 l0.length l0 := HR0.out; have q041 : (0 : Int) ≤ (t349 : Int) := of_decide_eq_true Z14; have hcut41 := cut_from (P := Try.prog) 33 41 .i64 Try.underlying33 hi041 2 hsz41 A0 l0.length c0 t349 q041 q41; have hr41 := Kd.C_drop (m := (t349 : Int).toNat) (c := c0) hC41 (by omega) hroom41; obtain ⟨A41, hA41⟩ : ∃ A1, A1 = (if c0 = (t349 : Int).toNat then A0 else (A0 : Option Addr).map (·.add ((t349 : Int).toNat * 2))) := ⟨_, rfl⟩; obtain ⟨c41, hc41⟩ : ∃ c1, c1 = c0 - (t349 : Int).toNat := ⟨_, rfl⟩; have hy41 : y377.length = l0.length - (t349 : Int).toNat := (by rw [Ny377.out, List.length_drop] <;> omega); rw [show (l0).drop (t349 : Int).toNat = y377 from Ny377.out.symm] at hr41; replace hr41 : Kd.C k41 _ A41 y377.length y377 := (by rw [hA41]; exact hr41); rw [← hy41, ← hA41, ← hc41] at hcut41; have HR380 := A_ hr41; have HC380 := A_ (show y377.length ≤ c41 from by rw [hy41, hc41]; exact Nat.sub_le_sub_right hroom41 _); clear hr41 hC41 hroom41 hi041 hsz41 hc41; have KY41 := A_ hy41; have KA41 := A_ hA41; clear hy41 hA41; replace q41 := eq_true q41) | ((with_reducible refine gate_callee (f := 69) rfl ?_); refine goesL_ (some 31) rfl rfl Try.func69 (by kernel_rfl) rfl #[.slice A41 y377.length c41] rfl Z3 ?_; (with_reducible refine (spec_copyStore.calls k _ _ y377 t381 _ ?side1 ?side2 A30.out).mono ?_); (case side1 => exact Z5 HR380.out); (case side2 => exact HC380.out); rintro e w42 ⟨v382, rfl, ho0, hb⟩; refine ⟨_, rfl, ?_⟩; have n0_ := A_ (Kd.N_elder' (Z18 HO366.out) Z49 hb); have n1_ := A_ (Kd.N_lower (Kd.N_mono (ok' := fun k_ => (w.heap.size ≤ k_) ∧ some k_ ≠ (v365 : Value).ownBlock ∧ k_ ≠ gb348) (Kd.S_N (Kd.S_bound ho0)) (fun k_ hk_ => ⟨(Nat.le_trans (below_size (Z2 GE348.out)) hk_.2.1), (Kd.fresh' (Kd.N_lt (Z18 HO366.out)) k_ hk_.2.1), (Kd.freshB (g := gb348) (o := .cells #[.slice A1_0 l1_0.length c1_0, .slice A1_1 l1_1.length c1_1] 41 (0, 0)) (Z6 BK348.out) k_ hk_.2.1)⟩)) (below_size (Z2 GE348.out))); have n2_ := A_ (blk_below (g := gb348) (o := .cells #[.slice A1_0 l1_0.length c1_0, .slice A1_1 l1_1.length c1_1] 41 (0, 0)) (Z6 BK348.out) hb); have n3_ := A_ (below_step (Z2 GE348.out) hb); clear HO366; clear BK348; clear HB; have HO366 := n0_; have HO383 := n1_; have BK348 := n2_; have HB := n3_; clear n0_ n1_ n2_ n3_; (try clear hb); (try clear hb2); (try clear hk); (try clear hi); (try clear ho0); obtain ⟨Ao44, co44, eo44⟩ := Kd.N_slice HO383.out; subst eo44) | ((with_reducible refine gate_builtin (b := .append) (xs := #[.tmp 27, .tmp 31]) rfl ?_); at_builtin; refine Kd.N_append_rows k41 (w0 := w) w.heap.size rfl (.tmp 27) (.tmp 31) 33 41 (.agg #[(.slice none 0 0), (.slice none 0 0)]) 48 rfl Try.underlying33 info41 rfl (by decide) (by omega) v365 y364 t381 _ _ _ (fun k_ => (w.heap.size ≤ k_) ∧ k_ ≠ gb348) (fun k_ => ((fun k_ => (w.heap.size ≤ k_) ∧ k_ ≠ gb348)) k_ ∧ some k_ ≠ (v365 : Value).ownBlock) rfl rfl ?aO ?aR (fun _ hk => hk) ?aF ?aB ?aS ?aL ?_; (case aR => exact (by skip; exact Kd.N_F (Kd.N_mono (ok' := (fun k_ => ((fun k_ => (w.heap.size ≤ k_) ∧ k_ ≠ gb348)) k_ ∧ some k_ ≠ (v365 : Value).ownBlock)) (HO383.out) (fun k_ hk => ⟨⟨hk.1, hk.2.2⟩, hk.2.1⟩)))); (case aB => exact (Z2 GE348.out)); (case aF => exact Z43 GE348.out BK348.out); (case aO => exact (by (with_reducible repeat (first | apply Kd.N_alloc | apply Kd.N_drewN | apply Kd.N_drew)); exact Kd.N_mono HO366.out (fun _ hk => ⟨hk.1.1, hk.1.2⟩))); (case aS => exact (below_size (Z2 GE348.out))); (case aL => have := LMc31.out; omega); intro v385 w43 ho hb hg hat; rw [← Ny384.out] at ho; have n0_ := A_ (blk_grown (g := gb348) (o := .cells #[.slice A1_0 l1_0.length c1_0, .slice A1_1 l1_1.length c1_1] 41 (0, 0)) (Z6 BK348.out) hg (Kd.N_away HO366.out (fun _ hk => hk.1.2))); have n1_ := A_ (Kd.N_afterv (ok := (fun k_ => (w.heap.size ≤ k_) ∧ k_ ≠ gb348)) (by (with_reducible repeat (first | apply Kd.N_alloc | apply Kd.N_drewN | apply Kd.N_drew)); exact Kd.N_mono HO383.out (fun _ hk => ⟨⟨hk.1, hk.2.2⟩, hk.2.1⟩)) hg hat); have n2_ := A_ (hb); have n3_ := A_ (ho); clear BK348; clear HO383; clear HB; clear HO366; have BK348 := n0_; have HO383 := n1_; have HB := n2_; have HO386 := n3_; clear n0_ n1_ n2_ n3_; clear ho hb hg hat))
      go_ret
      exact ⟨_, Z16, by (with_reducible repeat (first | apply Kd.N_alloc | apply Kd.N_drewN | apply Kd.N_drew)); exact Kd.N_mono HO386.out (fun _ hk => hk.1), Z2 GE348.out⟩
     ·rw [if_neg c31] at H
      exact absurd H (by simp)
   ·rw [if_neg c8] at H
    exact absurd H (by simp)
  ·rw [if_neg c5] at H
   exact absurd H (by simp)
 ·rw [if_neg c4] at H
  exact absurd H (by simp)
end Go.Proofs.Ytheifobeaemegaa.PFnStorePut
