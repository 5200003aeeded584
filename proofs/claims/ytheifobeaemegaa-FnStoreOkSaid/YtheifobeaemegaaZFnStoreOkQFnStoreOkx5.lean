/- Walks of the functions that the law 'FnStoreOk' reaches, part 5: for each a Lean function and the proof that Go's comes to just its answer (lines of the print, under own names; no condition). -/
import Derived.Test.YtheifobeaemegaaZFnStoreOkQFnStoreOkx0
import Derived.Test.YtheifobeaemegaaZFnStoreOkQFnStoreOkx2
namespace Go.Proofs.Ytheifobeaemegaa.PFnStoreOk
open Go.RowKit Go.Proofs.YtheifobeaemegaaW.PrintWords Go.Proofs.YtheifobeaemegaaW.PrintLast Go.Proofs.YtheifobeaemegaaW.PrintMore
attribute [local go_sem] max2_int min2_int max_two min_two max_three min_three max_four min_four
set_option linter.unusedVariables false
set_option linter.unusedSimpArgs false
attribute [local go_sem high] eqA68
def spec_copyCell.f (l0_0 : List (S68)) (l0_1 : List (S28)) : Option ((List (S68)) × (List (S28))) := (some (([] : List (S68)) : List (S68))).bind fun y209 => (if y209.length + l0_0.length < 8796093022208 then ((some (([] : List (S28)) : List (S28))).bind fun y215 => (if y215.length + l0_1.length < 4398046511104 then (some ((y209 ++ l0_0), (y215 ++ l0_1))) else (none))) else (none))
def spec_copyCell.T1 : Bool × List (List Nat × List Nat) := (true, [([], []), ([], []), ([1], [1]), ([0, 2], [0, 2]), ([], []), ([], []), ([5], [5]), ([4, 6, 3], [4, 6]), ([3, 7], [3, 7]), ([8, 7, 0, 1, 2, 3, 4, 5, 6, 7, 8], [8])])
def spec_copyCell.B1 : List Nat := [0, 0, 2, 7, 0, 0, 32, 127, 255, 511]
theorem spec_copyCell.tab1 : rtab .any (opsOf Try.f53 1) = spec_copyCell.T1 := by kernel_rfl
theorem spec_copyCell.bits1 : waitsOk spec_copyCell.T1.2 spec_copyCell.B1 = true := by kernel_rfl
set_option maxHeartbeats 8000000 in
set_option maxRecDepth 100000 in
theorem spec_copyCell.calls (A0_0 : Option Addr) (c0_0 : Nat) (l0_0 : List (S68)) (A0_1 : Option Addr) (c0_1 : Nat) (l0_1 : List (S28)) (r1 : List (S68)) (r2 : List (S28)) (w : World) (hr0_0 : Kd.C k68 w A0_0 l0_0.length l0_0) (hc0_0 : l0_0.length ≤ c0_0) (hr0_1 : Kd.C k28 w A0_1 l0_1.length l0_1) (hc0_1 : l0_1.length ≤ c0_1) (h : spec_copyCell.f l0_0 l0_1 = some (r1, r2)) :
  Calls Try.prog 53 #[.agg #[.slice A0_0 l0_0.length c0_0, .slice A0_1 l0_1.length c0_1]] w fun e w' => ∃ v0_ v1_ : Value, e = .returned (.agg #[v0_, v1_]) ∧ Kd.R k68 68 w' w.heap.size (fun _ => True) v0_ r1 ∧ Kd.R k28 28 w' w.heap.size (fun _ => True) v1_ r2 ∧ Below w.heap.size w w' := by
 have hu41 := Try.underlying41
 have HR0_0 := A_ hr0_0
 have HC0_0 := A_ hc0_0
 clear hr0_0 hc0_0
 have HR0_1 := A_ hr0_1
 have HC0_1 := A_ hc0_1
 clear hr0_1 hc0_1
 have HB := A_ (Below.refl w.heap.size w)
 have H : ((some (([] : List (S68)) : List (S68))).bind fun y209 => (if y209.length + l0_0.length < 8796093022208 then ((some (([] : List (S28)) : List (S28))).bind fun y215 => (if y215.length + l0_1.length < 4398046511104 then (some ((y209 ++ l0_0), (y215 ++ l0_1))) else (none))) else (none))) = some (r1, r2) := h
 clear h
 obtain ⟨y209, hy209⟩ : ∃ y_ : List (S68), y_ = (([] : List (S68))) := ⟨_, rfl⟩
 replace H : (if y209.length + l0_0.length < 8796093022208 then ((some (([] : List (S28)) : List (S28))).bind fun y215 => (if y215.length + l0_1.length < 4398046511104 then (some ((y209 ++ l0_0), (y215 ++ l0_1))) else (none))) else (none)) = some (r1, r2) := by first | (rw [hy209]; with_reducible exact H) | (have H2_ := (Option.bind_some _ _).symm.trans H; rw [hy209]; with_reducible exact H2_) | (have H2_ := (Option.bind_some _ _).symm.trans H; with_reducible exact H2_) | with_reducible exact H | (rw [hy209]; exact H) | exact H
 have Ny209 := A_ hy209
 clear hy209
 by_cases c2 : y209.length + l0_0.length < 8796093022208
 ·rw [if_pos c2] at H
  have LMc2 := A_ c2
  clear c2
  obtain ⟨y212, hy212⟩ : ∃ y_ : List (S68), y_ = (y209 ++ l0_0) := ⟨_, rfl⟩
  replace H : ((some (([] : List (S28)) : List (S28))).bind fun y215 => (if y215.length + l0_1.length < 4398046511104 then (some (y212, (y215 ++ l0_1))) else (none))) = some (r1, r2) := by first | (rw [hy212]; with_reducible exact H) | (have H2_ := (Option.bind_some _ _).symm.trans H; rw [hy212]; with_reducible exact H2_) | (have H2_ := (Option.bind_some _ _).symm.trans H; with_reducible exact H2_) | with_reducible exact H | (rw [hy212]; exact H) | exact H
  have Ny212 := A_ hy212
  clear hy212
  obtain ⟨y215, hy215⟩ : ∃ y_ : List (S28), y_ = (([] : List (S28))) := ⟨_, rfl⟩
  replace H : (if y215.length + l0_1.length < 4398046511104 then (some (y212, (y215 ++ l0_1))) else (none)) = some (r1, r2) := by first | (rw [hy215]; with_reducible exact H) | (have H2_ := (Option.bind_some _ _).symm.trans H; rw [hy215]; with_reducible exact H2_) | (have H2_ := (Option.bind_some _ _).symm.trans H; with_reducible exact H2_) | with_reducible exact H | (rw [hy215]; exact H) | exact H
  have Ny215 := A_ hy215
  clear hy215
  by_cases c3 : y215.length + l0_1.length < 4398046511104
  ·rw [if_pos c3] at H
   have LMc3 := A_ c3
   clear c3
   obtain ⟨y218, hy218⟩ : ∃ y_ : List (S28), y_ = (y215 ++ l0_1) := ⟨_, rfl⟩
   replace H : (some (y212, y218)) = some (r1, r2) := by first | (rw [hy218]; with_reducible exact H) | (have H2_ := (Option.bind_some _ _).symm.trans H; rw [hy218]; with_reducible exact H2_) | (have H2_ := (Option.bind_some _ _).symm.trans H; with_reducible exact H2_) | with_reducible exact H | (rw [hy218]; exact H) | exact H
   have Ny218 := A_ hy218
   clear hy218
   simp only [Option.some.injEq, Prod.mk.injEq] at H
   obtain ⟨rfl, rfl⟩ := H
   go_enter Try.func53, Try.ntmps53
   try go_wp2_with (first | ((with_reducible refine gate_dst (N := 1) rfl ?_); refine box_event ?hg (N := 1) ?hd (cs := #[.slice A0_0 l0_0.length c0_0, .slice A0_1 l0_1.length c0_1]) (t := 41) ?hr ?_; (case hd => rfl); (case hg => rfl); (case hr => exact Z24); intro gb207 hg w4 hbox hb; have n0_ := A_ (below_step Z1 hb); have n1_ := A_ (hbox); have n2_ := A_ ((by rw [hg]; exact (below_size Z1) : w.heap.size ≤ gb207)); have n3_ := A_ ((by rw [hg]; exact (below_size Z1) : w.heap.size ≤ gb207)); clear HB; have HB := n0_; have BK207 := n1_; have GW207 := n2_; have GE207 := n3_; clear n0_ n1_ n2_ n3_; clear hb hbox hg) | ((with_reducible refine gate_dst (N := 2) rfl ?_); refine box_event ?hg (N := 2) ?hd (cs := #[.slice none 0 0, .slice none 0 0]) (t := 41) ?hr ?_; (case hd => rfl); (case hg => rfl); (case hr => exact Z24); intro gb208 hg w5 hbox hb; have n0_ := A_ (blk_below (g := gb207) (o := .cells #[.slice A0_0 l0_0.length c0_0, .slice A0_1 l0_1.length c0_1] 41 (0, 0)) (Z5 BK207.out) hb); have n1_ := A_ (below_step (Z2 GE207.out) hb); have n2_ := A_ (hbox); have n3_ := A_ ((by rw [hg]; exact (below_size (Z2 GE207.out)) : w.heap.size ≤ gb208)); have n4_ := A_ ((by rw [hg]; exact (below_size (Z2 GE207.out)) : w.heap.size ≤ gb208)); have n5_ := A_ ((by rw [hg]; exact Nat.ne_of_lt (blk_lt (g := gb207) (o := .cells #[.slice A0_0 l0_0.length c0_0, .slice A0_1 l0_1.length c0_1] 41 (0, 0)) (Z5 BK207.out)) : gb207 ≠ gb208)); have n6_ := A_ ((by rw [hg]; exact Nat.ne_of_gt (blk_lt (g := gb207) (o := .cells #[.slice A0_0 l0_0.length c0_0, .slice A0_1 l0_1.length c0_1] 41 (0, 0)) (Z5 BK207.out)) : gb208 ≠ gb207)); clear BK207; clear HB; have BK207 := n0_; have HB := n1_; have BK208 := n2_; have GW208 := n3_; have GE208 := n4_; have NB207_208 := n5_; have NB208_207 := n6_; clear n0_ n1_ n2_ n3_ n4_ n5_ n6_; clear hb hbox hg))
   have n0_ := A_ (blk_drew BK207.out)
   have n1_ := A_ (blk_drew BK208.out)
   have n2_ := A_ (below_drew1 HB.out)
   clear BK207
   clear BK208
   clear HB
   have BK207 := n0_
   have BK208 := n1_
   have HB := n2_
   clear n0_ n1_ n2_
   refine start_ (n := 10) (S := fun w' => w'.cell? ⟨gb207, 0, none⟩ = some (.slice A0_0 l0_0.length c0_0) ∧ w'.cell? ⟨gb207, 1, none⟩ = some (.slice A0_1 l0_1.length c0_1)) (ds := []) #[F,F,F,F,F,F,F,F,F,F] (by kernel_rfl) rfl rfl ⟨(blk_cell BK207.out 0).trans rfl, (blk_cell BK207.out 1).trans rfl⟩ (fun hHeld => ?_); refine with_tabW spec_copyCell.tab1 spec_copyCell.bits1 (fun HT_ HW_ => ?_)
   generalize w5.drew = w6 at BK207 BK208 HB hHeld ⊢
   refine pure_ (i := 1) (N := some 4) (v := ?_) (a' := ?_) #[F,T,F,F,F,F,F,F,F,F] rfl rfl ZA ZF (Or.inl ⟨by rfl, ?_⟩) ?_ ?_
   rotate_left
   ·exact Z14
   rotate_left
   ·exact Z0
   refine pure_ (i := 5) (N := some 8) (v := ?_) (a' := ?_) #[F,T,F,F,F,T,F,F,F,F] rfl rfl ZA ZF (Or.inl ⟨by rfl, ?_⟩) ?_ ?_
   rotate_left
   ·exact Z14
   rotate_left
   ·exact Z0
   refine take_ (i := 2) (N := some 5) (v := ?_) (a' := ?_) #[F,T,T,F,F,T,F,F,F,F] rfl rfl (take_ofW HT_.out HW_.out (by kernel_rfl)) ZF (Or.inl ⟨by rfl, ?_⟩) hHeld ?_ ?_
   rotate_left
   ·exact Z47
   rotate_left
   ·exact Z0
   refine take_ (i := 6) (N := some 9) (v := ?_) (a' := ?_) #[F,T,T,F,F,T,T,F,F,F] rfl rfl (take_ofW HT_.out HW_.out (by kernel_rfl)) ZF (Or.inl ⟨by rfl, ?_⟩) hHeld ?_ ?_
   rotate_left
   ·exact Z47
   rotate_left
   ·exact Z0
   refine join_ (σ := Value × Value × Value) 3 #[T,T,T,T,T,T,T,F,F,F] (fun s_ => [(3, s_.1), (6, s_.2.1), (7, s_.2.2)]) (fun s_ w' => (w'.cell? ⟨gb207, 0, none⟩ = some (.slice A0_0 l0_0.length c0_0) ∧ w'.cell? ⟨gb207, 1, none⟩ = some (.slice A0_1 l0_1.length c0_1)) ∧ (Kd.R k68 68 w' w.heap.size (fun _ => True) s_.2.1 y212) ∧ (Kd.R k28 28 w' w.heap.size (fun _ => True) s_.2.2 y215) ∧ (w'.heap[gb207]? = some (.cells #[.slice A0_0 l0_0.length c0_0, .slice A0_1 l0_1.length c0_1] 41 (0, 0))) ∧ (w'.heap[gb208]? = some (.cells #[.slice none 0 0, .slice none 0 0] 41 (0, 0))) ∧ (Below w.heap.size w w')) ?_ ?_
   rotate_left
   ·intro hCont
    refine two_ (i := 0) (j := 4) (Ni := some 3) (Nj := some 7) #[T,T,T,F,F,T,T,F,F,F] #[F,T,T,F,T,T,T,F,F,F] rfl rfl rfl rfl (two_of HT_.out (by kernel_rfl)) (by decide) (by decide) (fun K hK => ?_) (fun K hK => ?_)
    ·skip
     refine Kd.R_lit_step k68 _ 68 ?hg (N := 3) ?hd (xs := ([] : List (S68))) (inner := []) (ok := fun _ => True) (okp := fun _ => True) ?hr ?hp (fun _ hk => hk) trivial (Below.refl _ _) (Nat.le_refl _) (by simp) ?_; (case hd => rfl); (case hg => rfl); (case hr => exact Z24); (case hp => exact (Reps.none _ _))
     intro v210 w7 ho8 hb hg_ hnew_
     clear hg_ hnew_
     (first | rw [← Ny209.out] at ho8 | (simp only [Int.reduceToNat] at ho8; rw [← Ny209.out] at ho8))
     have n0_ := A_ (Kd.R_lower ho8 (below_size (Z15 GE207.out GE208.out)))
     have n1_ := A_ (blk_below (g := gb207) (o := .cells #[.slice A0_0 l0_0.length c0_0, .slice A0_1 l0_1.length c0_1] 41 (0, 0)) (Z5 BK207.out) hb)
     have n2_ := A_ (blk_below (g := gb208) (o := .cells #[.slice none 0 0, .slice none 0 0] 41 (0, 0)) (Z5 BK208.out) hb)
     have n3_ := A_ (below_step (Z15 GE207.out GE208.out) hb)
     clear BK207
     clear BK208
     clear HB
     have HO211 := n0_
     have BK207 := n1_
     have BK208 := n2_
     have HB := n3_
     clear n0_ n1_ n2_ n3_
     clear hb ho8
     refine hK.out _ _ ⟨(blk_cell BK207.out 0).trans rfl, (blk_cell BK207.out 1).trans rfl⟩ (fun hHeld => ?_)
     clear hK K
     refine norm_ (a' := ?_) ?_ ?_
     rotate_left
     ·show Act.put _ (some 3) _ = _
      simp only [Act.put, List.setIfInBounds_toArray, List.set_cons_zero, List.set_cons_succ, i64_w, i32_w]
      rfl
     refine two_ (i := 3) (j := 4) (Ni := some 6) (Nj := some 7) #[T,T,T,T,F,T,T,F,F,F] #[T,T,T,F,T,T,T,F,F,F] rfl rfl rfl rfl (two_of HT_.out (by kernel_rfl)) (by decide) (by decide) (fun K hK => ?_) (fun K hK => ?_)
     ·skip
      refine Kd.R_append_rows_step k68 (w0 := w) w.heap.size (by rfl) (.tmp 3) (.tmp 5) 39 68 (.agg #[(.int .i64 0), (.int .i64 0)]) 16 rfl Try.underlying39 info68 rfl (by decide) (by omega) v210 y209 l0_0 _ _ _ (fun _ => True) (fun _ => False) rfl rfl ?aO ?aR (fun _ _ h => h) (fun _ h => h.elim) ?aF ?aB ?aS ?aL ?_
      (case aR => exact Z12 HR0_0.out)
      (case aB => exact (Z15 GE207.out GE208.out))
      (case aF => exact (fun _ _ => trivial))
      (case aO => exact (Z16 HO211.out))
      (case aS => exact (below_size (Z15 GE207.out GE208.out)))
      (case aL => have := LMc2.out; omega)
      intro v213 w9 ho hb hg hat
      rw [← Ny212.out] at ho
      have n0_ := A_ (blk_grown (g := gb207) (o := .cells #[.slice A0_0 l0_0.length c0_0, .slice A0_1 l0_1.length c0_1] 41 (0, 0)) (Z5 BK207.out) hg (Kd.R_ne HO211.out BK207.out (by decide)))
      have n1_ := A_ (blk_grown (g := gb208) (o := .cells #[.slice none 0 0, .slice none 0 0] 41 (0, 0)) (Z5 BK208.out) hg (Kd.R_ne HO211.out BK208.out (by decide)))
      have n2_ := A_ (hb)
      have n3_ := A_ (ho)
      clear BK207
      clear BK208
      clear HB
      clear HO211
      have BK207 := n0_
      have BK208 := n1_
      have HB := n2_
      have HO214 := n3_
      clear n0_ n1_ n2_ n3_
      clear ho hb hg hat
      refine hK.out _ _ ⟨(blk_cell BK207.out 0).trans rfl, (blk_cell BK207.out 1).trans rfl⟩ (fun hHeld => ?_)
      clear hK K
      refine norm_ (a' := ?_) ?_ ?_
      rotate_left
      ·exact Z28
      refine one_ (i := 4) (N := some 7) #[T,T,T,T,T,T,T,F,F,F] rfl rfl (one_of HT_.out (by kernel_rfl)) (by decide) (fun K hK => ?_)
      refine Kd.R_lit_step k28 _ 28 ?hg (N := 7) ?hd (xs := ([] : List (S28))) (inner := []) (ok := fun _ => True) (okp := fun _ => True) ?hr ?hp (fun _ hk => hk) trivial (Below.refl _ _) (Nat.le_refl _) (by simp) ?_; (case hd => rfl); (case hg => rfl); (case hr => exact Z24); (case hp => exact (Reps.none _ _))
      intro v216 w10 ho11 hb hg_ hnew_
      clear hg_ hnew_
      (first | rw [← Ny215.out] at ho11 | (simp only [Int.reduceToNat] at ho11; rw [← Ny215.out] at ho11))
      have n0_ := A_ (Kd.R_below (Z16 HO214.out) hb)
      have n1_ := A_ (Kd.R_lower ho11 (below_size (Z15 GE207.out GE208.out)))
      have n2_ := A_ (blk_below (g := gb207) (o := .cells #[.slice A0_0 l0_0.length c0_0, .slice A0_1 l0_1.length c0_1] 41 (0, 0)) (Z5 BK207.out) hb)
      have n3_ := A_ (blk_below (g := gb208) (o := .cells #[.slice none 0 0, .slice none 0 0] 41 (0, 0)) (Z5 BK208.out) hb)
      have n4_ := A_ (below_step (Z15 GE207.out GE208.out) hb)
      clear HO214
      clear BK207
      clear BK208
      clear HB
      have HO214 := n0_
      have HO217 := n1_
      have BK207 := n2_
      have BK208 := n3_
      have HB := n4_
      clear n0_ n1_ n2_ n3_ n4_
      clear hb ho11
      refine hK.out _ _ ⟨(blk_cell BK207.out 0).trans rfl, (blk_cell BK207.out 1).trans rfl⟩ (fun hHeld => ?_)
      clear hK K
      refine norm_ (a' := ?_) ?_ ?_
      rotate_left
      ·exact Z27
      exact norm_ Z32 (hCont (v210, v213, v216) _ ⟨hHeld, (Z16 HO214.out), (Z16 HO217.out), (Z5 BK207.out), (Z5 BK208.out), (Z15 GE207.out GE208.out)⟩)
     ·skip
      refine Kd.R_lit_step k28 _ 28 ?hg (N := 7) ?hd (xs := ([] : List (S28))) (inner := []) (ok := fun _ => True) (okp := fun _ => True) ?hr ?hp (fun _ hk => hk) trivial (Below.refl _ _) (Nat.le_refl _) (by simp) ?_; (case hd => rfl); (case hg => rfl); (case hr => exact Z24); (case hp => exact (Reps.none _ _))
      intro v216 w9 ho10 hb hg_ hnew_
      clear hg_ hnew_
      (first | rw [← Ny215.out] at ho10 | (simp only [Int.reduceToNat] at ho10; rw [← Ny215.out] at ho10))
      have n0_ := A_ (Kd.R_below (Z16 HO211.out) hb)
      have n1_ := A_ (Kd.R_lower ho10 (below_size (Z15 GE207.out GE208.out)))
      have n2_ := A_ (blk_below (g := gb207) (o := .cells #[.slice A0_0 l0_0.length c0_0, .slice A0_1 l0_1.length c0_1] 41 (0, 0)) (Z5 BK207.out) hb)
      have n3_ := A_ (blk_below (g := gb208) (o := .cells #[.slice none 0 0, .slice none 0 0] 41 (0, 0)) (Z5 BK208.out) hb)
      have n4_ := A_ (below_step (Z15 GE207.out GE208.out) hb)
      clear HO211
      clear BK207
      clear BK208
      clear HB
      have HO211 := n0_
      have HO217 := n1_
      have BK207 := n2_
      have BK208 := n3_
      have HB := n4_
      clear n0_ n1_ n2_ n3_ n4_
      clear hb ho10
      refine hK.out _ _ ⟨(blk_cell BK207.out 0).trans rfl, (blk_cell BK207.out 1).trans rfl⟩ (fun hHeld => ?_)
      clear hK K
      refine norm_ (a' := ?_) ?_ ?_
      rotate_left
      ·exact Z27
      refine one_ (i := 3) (N := some 6) #[T,T,T,T,T,T,T,F,F,F] rfl rfl (one_of HT_.out (by kernel_rfl)) (by decide) (fun K hK => ?_)
      refine Kd.R_append_rows_step k68 (w0 := w) w.heap.size (by rfl) (.tmp 3) (.tmp 5) 39 68 (.agg #[(.int .i64 0), (.int .i64 0)]) 16 rfl Try.underlying39 info68 rfl (by decide) (by omega) v210 y209 l0_0 _ _ _ (fun _ => True) (fun _ => False) rfl rfl ?aO ?aR (fun _ _ h => h) (fun _ h => h.elim) ?aF ?aB ?aS ?aL ?_
      (case aR => exact Z12 HR0_0.out)
      (case aB => exact (Z15 GE207.out GE208.out))
      (case aF => exact (fun _ _ => trivial))
      (case aO => exact (Z16 HO211.out))
      (case aS => exact (below_size (Z15 GE207.out GE208.out)))
      (case aL => have := LMc2.out; omega)
      intro v213 w11 ho hb hg hat
      rw [← Ny212.out] at ho
      have n0_ := A_ (blk_grown (g := gb207) (o := .cells #[.slice A0_0 l0_0.length c0_0, .slice A0_1 l0_1.length c0_1] 41 (0, 0)) (Z5 BK207.out) hg (Kd.R_ne HO211.out BK207.out (by decide)))
      have n1_ := A_ (blk_grown (g := gb208) (o := .cells #[.slice none 0 0, .slice none 0 0] 41 (0, 0)) (Z5 BK208.out) hg (Kd.R_ne HO211.out BK208.out (by decide)))
      have n2_ := A_ (Kd.R_over' (Z16 HO217.out) (Kd.R_typed (Z16 HO211.out)) (by decide) hg)
      have n3_ := A_ (hb)
      have n4_ := A_ (ho)
      clear BK207
      clear BK208
      clear HO217
      clear HB
      clear HO211
      have BK207 := n0_
      have BK208 := n1_
      have HO217 := n2_
      have HB := n3_
      have HO214 := n4_
      clear n0_ n1_ n2_ n3_ n4_
      clear ho hb hg hat
      refine hK.out _ _ ⟨(blk_cell BK207.out 0).trans rfl, (blk_cell BK207.out 1).trans rfl⟩ (fun hHeld => ?_)
      clear hK K
      refine norm_ (a' := ?_) ?_ ?_
      rotate_left
      ·exact Z28
      exact norm_ Z32 (hCont (v210, v213, v216) _ ⟨hHeld, (Z16 HO214.out), (Z16 HO217.out), (Z5 BK207.out), (Z5 BK208.out), (Z15 GE207.out GE208.out)⟩)
    ·skip
     refine Kd.R_lit_step k28 _ 28 ?hg (N := 7) ?hd (xs := ([] : List (S28))) (inner := []) (ok := fun _ => True) (okp := fun _ => True) ?hr ?hp (fun _ hk => hk) trivial (Below.refl _ _) (Nat.le_refl _) (by simp) ?_; (case hd => rfl); (case hg => rfl); (case hr => exact Z24); (case hp => exact (Reps.none _ _))
     intro v216 w7 ho8 hb hg_ hnew_
     clear hg_ hnew_
     (first | rw [← Ny215.out] at ho8 | (simp only [Int.reduceToNat] at ho8; rw [← Ny215.out] at ho8))
     have n0_ := A_ (Kd.R_lower ho8 (below_size (Z15 GE207.out GE208.out)))
     have n1_ := A_ (blk_below (g := gb207) (o := .cells #[.slice A0_0 l0_0.length c0_0, .slice A0_1 l0_1.length c0_1] 41 (0, 0)) (Z5 BK207.out) hb)
     have n2_ := A_ (blk_below (g := gb208) (o := .cells #[.slice none 0 0, .slice none 0 0] 41 (0, 0)) (Z5 BK208.out) hb)
     have n3_ := A_ (below_step (Z15 GE207.out GE208.out) hb)
     clear BK207
     clear BK208
     clear HB
     have HO217 := n0_
     have BK207 := n1_
     have BK208 := n2_
     have HB := n3_
     clear n0_ n1_ n2_ n3_
     clear hb ho8
     refine hK.out _ _ ⟨(blk_cell BK207.out 0).trans rfl, (blk_cell BK207.out 1).trans rfl⟩ (fun hHeld => ?_)
     clear hK K
     refine norm_ (a' := ?_) ?_ ?_
     rotate_left
     ·exact Z27
     refine one_ (i := 0) (N := some 3) #[T,T,T,F,T,T,T,F,F,F] rfl rfl (one_of HT_.out (by kernel_rfl)) (by decide) (fun K hK => ?_)
     refine Kd.R_lit_step k68 _ 68 ?hg (N := 3) ?hd (xs := ([] : List (S68))) (inner := []) (ok := fun _ => True) (okp := fun _ => True) ?hr ?hp (fun _ hk => hk) trivial (Below.refl _ _) (Nat.le_refl _) (by simp) ?_; (case hd => rfl); (case hg => rfl); (case hr => exact Z24); (case hp => exact (Reps.none _ _))
     intro v210 w9 ho10 hb hg_ hnew_
     clear hg_ hnew_
     (first | rw [← Ny209.out] at ho10 | (simp only [Int.reduceToNat] at ho10; rw [← Ny209.out] at ho10))
     have n0_ := A_ (Kd.R_below (Z16 HO217.out) hb)
     have n1_ := A_ (Kd.R_lower ho10 (below_size (Z15 GE207.out GE208.out)))
     have n2_ := A_ (blk_below (g := gb207) (o := .cells #[.slice A0_0 l0_0.length c0_0, .slice A0_1 l0_1.length c0_1] 41 (0, 0)) (Z5 BK207.out) hb)
     have n3_ := A_ (blk_below (g := gb208) (o := .cells #[.slice none 0 0, .slice none 0 0] 41 (0, 0)) (Z5 BK208.out) hb)
     have n4_ := A_ (below_step (Z15 GE207.out GE208.out) hb)
     clear HO217
     clear BK207
     clear BK208
     clear HB
     have HO217 := n0_
     have HO211 := n1_
     have BK207 := n2_
     have BK208 := n3_
     have HB := n4_
     clear n0_ n1_ n2_ n3_ n4_
     clear hb ho10
     refine hK.out _ _ ⟨(blk_cell BK207.out 0).trans rfl, (blk_cell BK207.out 1).trans rfl⟩ (fun hHeld => ?_)
     clear hK K
     refine norm_ (a' := ?_) ?_ ?_
     rotate_left
     ·show Act.put _ (some 3) _ = _
      simp only [Act.put, List.setIfInBounds_toArray, List.set_cons_zero, List.set_cons_succ, i64_w, i32_w]
      rfl
     refine one_ (i := 3) (N := some 6) #[T,T,T,T,T,T,T,F,F,F] rfl rfl (one_of HT_.out (by kernel_rfl)) (by decide) (fun K hK => ?_)
     refine Kd.R_append_rows_step k68 (w0 := w) w.heap.size (by rfl) (.tmp 3) (.tmp 5) 39 68 (.agg #[(.int .i64 0), (.int .i64 0)]) 16 rfl Try.underlying39 info68 rfl (by decide) (by omega) v210 y209 l0_0 _ _ _ (fun _ => True) (fun _ => False) rfl rfl ?aO ?aR (fun _ _ h => h) (fun _ h => h.elim) ?aF ?aB ?aS ?aL ?_
     (case aR => exact Z12 HR0_0.out)
     (case aB => exact (Z15 GE207.out GE208.out))
     (case aF => exact (fun _ _ => trivial))
     (case aO => exact (Z16 HO211.out))
     (case aS => exact (below_size (Z15 GE207.out GE208.out)))
     (case aL => have := LMc2.out; omega)
     intro v213 w11 ho hb hg hat
     rw [← Ny212.out] at ho
     have n0_ := A_ (blk_grown (g := gb207) (o := .cells #[.slice A0_0 l0_0.length c0_0, .slice A0_1 l0_1.length c0_1] 41 (0, 0)) (Z5 BK207.out) hg (Kd.R_ne HO211.out BK207.out (by decide)))
     have n1_ := A_ (blk_grown (g := gb208) (o := .cells #[.slice none 0 0, .slice none 0 0] 41 (0, 0)) (Z5 BK208.out) hg (Kd.R_ne HO211.out BK208.out (by decide)))
     have n2_ := A_ (Kd.R_over' (Z16 HO217.out) (Kd.R_typed (Z16 HO211.out)) (by decide) hg)
     have n3_ := A_ (hb)
     have n4_ := A_ (ho)
     clear BK207
     clear BK208
     clear HO217
     clear HB
     clear HO211
     have BK207 := n0_
     have BK208 := n1_
     have HO217 := n2_
     have HB := n3_
     have HO214 := n4_
     clear n0_ n1_ n2_ n3_ n4_
     clear ho hb hg hat
     refine hK.out _ _ ⟨(blk_cell BK207.out 0).trans rfl, (blk_cell BK207.out 1).trans rfl⟩ (fun hHeld => ?_)
     clear hK K
     refine norm_ (a' := ?_) ?_ ?_
     rotate_left
     ·exact Z28
     exact norm_ Z32 (hCont (v210, v213, v216) _ ⟨hHeld, (Z16 HO214.out), (Z16 HO217.out), (Z5 BK207.out), (Z5 BK208.out), (Z15 GE207.out GE208.out)⟩)
   rintro ⟨v210, v213, v216⟩ w12 ⟨hS_, h0_, h1_, h2_, h3_, h4_⟩
   have n0_ : Aside0 (Kd.R k68 68 w12 w.heap.size (fun _ => True) v213 y212) := ⟨h0_⟩
   have n1_ : Aside0 (Kd.R k28 28 w12 w.heap.size (fun _ => True) v216 y215) := ⟨h1_⟩
   have n2_ : Aside0 (w12.heap[gb207]? = some (.cells #[.slice A0_0 l0_0.length c0_0, .slice A0_1 l0_1.length c0_1] 41 (0, 0))) := ⟨h2_⟩
   have n3_ : Aside0 (w12.heap[gb208]? = some (.cells #[.slice none 0 0, .slice none 0 0] 41 (0, 0))) := ⟨h3_⟩
   have n4_ : Aside0 (Below w.heap.size w w12) := ⟨h4_⟩
   clear BK207
   clear BK208
   clear HB
   clear h0_ h1_ h2_ h3_ h4_
   have HO214 := n0_
   have HO217 := n1_
   have BK207 := n2_
   have BK208 := n3_
   have HB := n4_
   clear n0_ n1_ n2_ n3_ n4_
   have hHeld : w12.cell? ⟨gb207, 0, none⟩ = some (.slice A0_0 l0_0.length c0_0) ∧ w12.cell? ⟨gb207, 1, none⟩ = some (.slice A0_1 l0_1.length c0_1) := hS_
   refine norm_ (a' := ?_) ?_ ?_
   rotate_left
   ·exact Z44
   refine one_ (i := 7) (N := some 10) #[T,T,T,T,T,T,T,T,F,F] rfl rfl (one_of HT_.out (by kernel_rfl)) (by decide) (fun K hK => ?_)
   refine Kd.R_append_rows_step k28 (w0 := w) w.heap.size (by rfl) (.tmp 7) (.tmp 9) 36 28 (.agg #[(.int .i64 0), (.int .i64 0), (.string ⟨#[]⟩)]) 32 rfl Try.underlying36 info28 rfl (by decide) (by omega) v216 y215 l0_1 _ _ _ (fun _ => True) (fun _ => False) rfl rfl ?aO ?aR (fun _ _ h => h) (fun _ h => h.elim) ?aF ?aB ?aS ?aL ?_
   (case aR => exact Z12 HR0_1.out)
   (case aB => exact (Z15 GE207.out GE208.out))
   (case aF => exact (fun _ _ => trivial))
   (case aO => exact (Z16 HO217.out))
   (case aS => exact (below_size (Z15 GE207.out GE208.out)))
   (case aL => have := LMc3.out; omega)
   intro v219 w13 ho hb hg hat
   rw [← Ny218.out] at ho
   have n0_ := A_ (blk_grown (g := gb207) (o := .cells #[.slice A0_0 l0_0.length c0_0, .slice A0_1 l0_1.length c0_1] 41 (0, 0)) (Z5 BK207.out) hg (Kd.R_ne HO217.out BK207.out (by decide)))
   have n1_ := A_ (blk_grown (g := gb208) (o := .cells #[.slice none 0 0, .slice none 0 0] 41 (0, 0)) (Z5 BK208.out) hg (Kd.R_ne HO217.out BK208.out (by decide)))
   have n2_ := A_ (Kd.R_over' (Z16 HO214.out) (Kd.R_typed (Z16 HO217.out)) (by decide) hg)
   have n3_ := A_ (hb)
   have n4_ := A_ (ho)
   clear BK207
   clear BK208
   clear HO214
   clear HB
   clear HO217
   have BK207 := n0_
   have BK208 := n1_
   have HO214 := n2_
   have HB := n3_
   have HO220 := n4_
   clear n0_ n1_ n2_ n3_ n4_
   clear ho hb hg hat
   obtain ⟨Ao14, co14, eo14⟩ := Kd.R_slice HO220.out
   (first | subst eo14 | (injection eo14 with f1_ f2_ f3_; have f4_ := f1_.symm; have f5_ := f3_.symm; clear f1_ f2_ f3_; subst f4_; subst f5_))
   obtain ⟨Ao15, co15, eo15⟩ := Kd.R_slice HO214.out
   (first | subst eo15 | (injection eo15 with f1_ f2_ f3_; have f4_ := f1_.symm; have f5_ := f3_.symm; clear f1_ f2_ f3_; subst f4_; subst f5_))
   refine hK.out _ _ ⟨(blk_cell BK207.out 0).trans rfl, (blk_cell BK207.out 1).trans rfl⟩ (fun hHeld => ?_)
   clear hK K
   refine norm_ (a' := ?_) ?_ ?_
   rotate_left
   ·show Act.put _ (some 10) _ = _
    simp only [Act.put, List.setIfInBounds_toArray, List.set_cons_zero, List.set_cons_succ, i64_w, i32_w]
    rfl
   refine pure_ (i := 8) (N := some 11) (v := ?_) (a' := ?_) #[T,T,T,T,T,T,T,T,T,F] rfl rfl ZA ZF (Or.inl ⟨by rfl, ?_⟩) ?_ ?_
   rotate_left
   ·exact Z14
   rotate_left
   ·exact Z0
   refine one_ (i := 9) (N := none) #[T,T,T,T,T,T,T,T,T,T] rfl rfl (one_of HT_.out (by kernel_rfl)) (by decide) (fun K hK => ?_)
   have hs16 : w13.cell? ⟨gb208, 0, none⟩ = some (.slice none 0 0) := (blk_cell BK208.out 0).trans rfl
   have hfs16 := blk_frozen BK208.out 0
   have hns16_0 := NB207_208.out
   have hms16_0 := NB208_207.out
   have hs17 : w13.cell? ⟨gb208, 1, none⟩ = some (.slice none 0 0) := (blk_cell BK208.out 1).trans rfl
   have hfs17 := blk_frozen BK208.out 1
   have hns17_0 := NB207_208.out
   have hms17_0 := NB208_207.out
   refine skip_ (w1 := ?_) (by rfl) rfl ?_ ?_
   rotate_left
   ·go_simp
    rfl
   refine hK.out _ _ ⟨((cell_far (p := ⟨gb208, _, none⟩) NB207_208.out _).trans (((cell_far (p := ⟨gb208, _, none⟩) NB207_208.out _).trans (hHeld.1)))), ((cell_far (p := ⟨gb208, _, none⟩) NB207_208.out _).trans (((cell_far (p := ⟨gb208, _, none⟩) NB207_208.out _).trans (hHeld.2))))⟩ (fun hHeld => ?_)
   clear hK K
   refine done_ (done_of HT_.out (by kernel_rfl)) ?_
   try go_wp2
   refine bodyPost_ret (results_cell_row rfl _ _ gb208 41 #[.slice Ao15 y212.length co15, .slice Ao14 y218.length co14] (0, 0) _ rfl (by (with_reducible repeat (first | refine blk_drewN ?_ _ | refine blk_drew ?_ | refine blk_alloc ?_ _)); refine blk_put (cs := #[.slice Ao15 y212.length co15, .slice none 0 0]) ?_ 1 _ rfl; (with_reducible repeat (first | refine blk_drewN ?_ _ | refine blk_drew ?_ | refine blk_alloc ?_ _)); refine blk_put (cs := #[.slice none 0 0, .slice none 0 0]) ?_ 0 _ rfl; (with_reducible repeat (first | refine blk_drewN ?_ _ | refine blk_drew ?_ | refine blk_alloc ?_ _)); exact BK208.out) Try.underlying41 rfl (by kernel_rfl)) rfl ?_
   exact ⟨_, _, Z17, by (with_reducible repeat (first | apply Kd.R_alloc | apply Kd.R_drewN | apply Kd.R_drew)); exact Kd.R_mono (Kd.R_far (p := ⟨gb208, 1, none⟩) (Kd.R_far (p := ⟨gb208, 0, none⟩) (Kd.R_types HO214.out BK208.out (by decide)) (fun _ hk => hk.2) (.slice Ao15 y212.length co15)) (fun _ hk => hk.2) (.slice Ao14 y218.length co14)) (fun _ hk => trivial), by (with_reducible repeat (first | apply Kd.R_alloc | apply Kd.R_drewN | apply Kd.R_drew)); exact Kd.R_mono (Kd.R_far (p := ⟨gb208, 1, none⟩) (Kd.R_far (p := ⟨gb208, 0, none⟩) (Kd.R_types HO220.out BK208.out (by decide)) (fun _ hk => hk.2) (.slice Ao15 y212.length co15)) (fun _ hk => hk.2) (.slice Ao14 y218.length co14)) (fun _ hk => trivial), Z15 GE207.out GE208.out⟩
  ·rw [if_neg c3] at H
   exact absurd H (by simp)
 ·rw [if_neg c2] at H
  exact absurd H (by simp)
mutual
def spec_comparePlaces.l0 : Nat → List (S68) → List (S68) → Int → Option (Int)
 | 0, _, _, _ => none
 | k + 1, x0, x1, x5 => if x5 < (x0.length : Int) then (spec_comparePlaces.j1 k x0 x1 x5 (decide (x5 < (x1.length : Int)))) else (spec_comparePlaces.j1 k x0 x1 x5 false)
def spec_comparePlaces.j1 : Nat → List (S68) → List (S68) → Int → Bool → Option (Int)
 | 0, _, _, _, _ => none
 | k + 1, x0, x1, x5, x15 => if x15 = true then (if 0 ≤ x5 then (if x5 < (x0.length : Int) then (if x5 < (x1.length : Int) then (if ((rd_T68 x0 x5).f0) < ((rd_T68 x1 x5).f0) then (spec_comparePlaces.j2 k x0 x1 x5 (decide (((rd_T68 x0 x5).f0) < ((rd_T68 x1 x5).f0)))) else (if ((rd_T68 x0 x5).f0) = ((rd_T68 x1 x5).f0) then (spec_comparePlaces.j2 k x0 x1 x5 (decide (((rd_T68 x0 x5).f1) < ((rd_T68 x1 x5).f1)))) else (spec_comparePlaces.j2 k x0 x1 x5 false))) else (none)) else (none)) else (none)) else (if (x0.length : Int) < (x1.length : Int) then (some (-1)) else (if (x0.length : Int) > (x1.length : Int) then (some 1) else (some 0)))
def spec_comparePlaces.j2 : Nat → List (S68) → List (S68) → Int → Bool → Option (Int)
 | 0, _, _, _, _ => none
 | k + 1, x0, x1, x5, x18 => if x18 = true then (some (-1)) else (if 0 ≤ x5 then (if x5 < (x0.length : Int) then (if x5 < (x1.length : Int) then (if (!(((rd_T68 x0 x5).f0) == ((rd_T68 x1 x5).f0)) || (!(((rd_T68 x0 x5).f1) == ((rd_T68 x1 x5).f1)))) = true then (some 1) else (spec_comparePlaces.l0 k x0 x1 (wrap64 (x5 + 1)))) else (none)) else (none)) else (none))
end
def spec_comparePlaces.f (k : Nat) (l0 : List (S68)) (l1 : List (S68)) : Option (Int) := spec_comparePlaces.l0 k l0 l1 0
theorem spec_comparePlaces.mono_l : ∀ k, (∀ y0 y1 y2, LeO (spec_comparePlaces.l0 k y0 y1 y2) (spec_comparePlaces.l0 (k + 1) y0 y1 y2)) ∧ (∀ y0 y1 y2 y3, LeO (spec_comparePlaces.j1 k y0 y1 y2 y3) (spec_comparePlaces.j1 (k + 1) y0 y1 y2 y3)) ∧ (∀ y0 y1 y2 y3, LeO (spec_comparePlaces.j2 k y0 y1 y2 y3) (spec_comparePlaces.j2 (k + 1) y0 y1 y2 y3))
 | 0 => ⟨fun _ _ _ r h => by simp [spec_comparePlaces.l0] at h, fun _ _ _ _ r h => by simp [spec_comparePlaces.j1] at h, fun _ _ _ _ r h => by simp [spec_comparePlaces.j2] at h⟩
 | k + 1 => by
  obtain ⟨ih0, ih1, ih2⟩ := spec_comparePlaces.mono_l k
  refine ⟨?_, ?_, ?_⟩
  ·intro y0 y1 y2
   unfold spec_comparePlaces.l0
   repeat' first
   | (with_reducible exact ih0 _ _ _)
   | (with_reducible exact ih1 _ _ _ _)
   | (with_reducible exact ih2 _ _ _ _)
   | (with_reducible exact LeO.refl _)
   | (with_reducible exact LeO.none _)
   | (with_reducible refine LeO.ite ?_ ?_)
   | (with_reducible refine LeO.bind ?_ (fun _ => ?_))
   | exact ih0 _ _ _
   | exact ih1 _ _ _ _
   | exact ih2 _ _ _ _
   | exact LeO.none _
   | refine LeO.ite ?_ ?_
   | refine LeO.bind ?_ (fun _ => ?_)
  ·intro y0 y1 y2 y3
   unfold spec_comparePlaces.j1
   repeat' first
   | (with_reducible exact ih0 _ _ _)
   | (with_reducible exact ih1 _ _ _ _)
   | (with_reducible exact ih2 _ _ _ _)
   | (with_reducible exact LeO.refl _)
   | (with_reducible exact LeO.none _)
   | (with_reducible refine LeO.ite ?_ ?_)
   | (with_reducible refine LeO.bind ?_ (fun _ => ?_))
   | exact ih0 _ _ _
   | exact ih1 _ _ _ _
   | exact ih2 _ _ _ _
   | exact LeO.none _
   | refine LeO.ite ?_ ?_
   | refine LeO.bind ?_ (fun _ => ?_)
  ·intro y0 y1 y2 y3
   unfold spec_comparePlaces.j2
   repeat' first
   | (with_reducible exact ih0 _ _ _)
   | (with_reducible exact ih1 _ _ _ _)
   | (with_reducible exact ih2 _ _ _ _)
   | (with_reducible exact LeO.refl _)
   | (with_reducible exact LeO.none _)
   | (with_reducible refine LeO.ite ?_ ?_)
   | (with_reducible refine LeO.bind ?_ (fun _ => ?_))
   | exact ih0 _ _ _
   | exact ih1 _ _ _ _
   | exact ih2 _ _ _ _
   | exact LeO.none _
   | refine LeO.ite ?_ ?_
   | refine LeO.bind ?_ (fun _ => ?_)
theorem spec_comparePlaces.mono : ∀ a0 a1 k, LeO (spec_comparePlaces.f k a0 a1) (spec_comparePlaces.f (k + 1) a0 a1) := by
 intro a0 a1 k
 obtain ⟨ih0, ih1, ih2⟩ := spec_comparePlaces.mono_l k
 unfold spec_comparePlaces.f
 repeat' first
   | (with_reducible exact ih0 _ _ _)
   | (with_reducible exact ih1 _ _ _ _)
   | (with_reducible exact ih2 _ _ _ _)
   | (with_reducible exact LeO.refl _)
   | (with_reducible exact LeO.none _)
   | (with_reducible refine LeO.ite ?_ ?_)
   | (with_reducible refine LeO.bind ?_ (fun _ => ?_))
   | exact ih0 _ _ _
   | exact ih1 _ _ _ _
   | exact ih2 _ _ _ _
   | exact LeO.none _
   | refine LeO.ite ?_ ?_
   | refine LeO.bind ?_ (fun _ => ?_)
set_option maxHeartbeats 8000000 in
set_option maxRecDepth 100000 in
theorem spec_comparePlaces.calls (k : Nat) (A0 : Option Addr) (c0 : Nat) (l0 : List (S68)) (A1 : Option Addr) (c1 : Nat) (l1 : List (S68)) (r : Int) (w : World) (hr0 : Kd.C k68 w A0 l0.length l0) (hc0 : l0.length ≤ c0) (hr1 : Kd.C k68 w A1 l1.length l1) (hc1 : l1.length ≤ c1) (h : spec_comparePlaces.f k l0 l1 = some r) :
  Calls Try.prog 62 #[.slice A0 l0.length c0, .slice A1 l1.length c1] w fun e w' => e = .returned (.int .i64 r) ∧ Drawn0 w w' := by
 have hu68 := Try.underlying68
 have HR0 := A_ hr0
 have HC0 := A_ hc0
 clear hr0 hc0
 have HR1 := A_ hr1
 have HC1 := A_ hc1
 clear hr1 hc1
 have H : (spec_comparePlaces.l0 k l0 l1 0) = some r := h
 clear h
 have H' := A_ H
 clear H
 go_enter Try.func62, Try.ntmps62
 go_wp2
 repeat (go_quiet (fail); try go_wp2)
 go_loopg [5] k (fun kq v5 w' => ∃ (x5_1 : Int), v5 = .int .i64 x5_1 ∧ Aside0 (spec_comparePlaces.l0 kq l0 l1 x5_1 = some r) ∧ Aside0 (kq ≤ k) ∧ Drawn0 w w')
 case atStart => exact ⟨(0), Z21, H', ⟨Nat.le_refl _⟩, Z25⟩
 case round =>
  clear H'
  try clear c1
  try clear p2
  obtain ⟨x5_1, rfl, HA, HK1, ⟨m1, rfl⟩⟩ := hrel
  cases gk with
  | zero => exact absurd HA.out (by simp [spec_comparePlaces.l0])
  | succ k1 =>
   have H := HA.out
   clear HA
   simp only [spec_comparePlaces.l0] at H
   have HC3 := A_ H
   clear H
   go_upto_region 2 with (fail)
   repeat (go_quiet (fail); go_upto_region 2 with (fail))
   go_cut [15] (fun v15 wc => ∃ (kq : Nat) (x15_2 : Bool), v15 = .bool x15_2 ∧ Aside0 (spec_comparePlaces.j1 kq l0 l1 x5_1 x15_2 = some r) ∧ Aside0 (kq ≤ k1) ∧ Drawn0 w wc)
   case first =>
    have H := HC3.out
    clear HC3
    by_cases c4 : x5_1 < (l0.length : Int)
    ·rw [if_pos c4] at H
     have c4b0 : decide (x5_1 < (l0.length : Int)) = true := decide_eq_true c4
     clear c4
     (first | rw [c4b0] | (simp only [i64_w, i32_w]; rw [c4b0]) | skip)
     have H' := A_ H
     clear H
     go_wp2
     repeat (go_quiet (fail); try go_wp2)
     go_meet
     case rel => exact ⟨_, (decide (x5_1 < (l1.length : Int))), Z21, H', ⟨by have := HK1.out; first | omega | exact Nat.le_refl _⟩, Z25⟩
    ·rw [if_neg c4] at H
     have c4b0 : decide (x5_1 < (l0.length : Int)) = false := decide_eq_false c4
     clear c4
     (first | rw [c4b0] | (simp only [i64_w, i32_w]; rw [c4b0]) | skip)
     have H' := A_ H
     clear H
     go_wp2
     repeat (go_quiet (fail); try go_wp2)
     go_meet
     case rel => exact ⟨_, (false), Z21, H', ⟨by have := HK1.out; first | omega | exact Nat.le_refl _⟩, Z25⟩
   case rest =>
    clear HC3
    try clear c1
    try clear p2
    try clear c4
    try clear c4b0
    try clear p2
    obtain ⟨kq, x15_2, rfl, HA, HJ2, ⟨mc2, rfl⟩⟩ := hcut
    cases kq with
    | zero => exact absurd HA.out (by simp [spec_comparePlaces.j1])
    | succ kj2 =>
     have H := HA.out
     clear HA
     simp only [spec_comparePlaces.j1] at H
     by_cases c5 : x15_2 = true
     ·subst c5
      have H1 : (if 0 ≤ x5_1 then (if x5_1 < (l0.length : Int) then (if x5_1 < (l1.length : Int) then (if ((rd_T68 l0 x5_1).f0) < ((rd_T68 l1 x5_1).f0) then (spec_comparePlaces.j2 kj2 l0 l1 x5_1 (decide (((rd_T68 l0 x5_1).f0) < ((rd_T68 l1 x5_1).f0)))) else (if ((rd_T68 l0 x5_1).f0) = ((rd_T68 l1 x5_1).f0) then (spec_comparePlaces.j2 kj2 l0 l1 x5_1 (decide (((rd_T68 l0 x5_1).f1) < ((rd_T68 l1 x5_1).f1)))) else (spec_comparePlaces.j2 kj2 l0 l1 x5_1 false))) else (none)) else (none)) else (none)) = some r := by rw [if_pos rfl] at H; exact H
      clear H
      have H := H1
      clear H1
      by_cases c6 : 0 ≤ x5_1
      ·rw [if_pos c6] at H
       have c6b0 : decide (0 ≤ x5_1) = true := decide_eq_true c6
       clear c6
       by_cases c7 : x5_1 < (l0.length : Int)
       ·rw [if_pos c7] at H
        have c7b0 : decide (x5_1 < (l0.length : Int)) = true := decide_eq_true c7
        clear c7
        by_cases c8 : x5_1 < (l1.length : Int)
        ·rw [if_pos c8] at H
         have c8b0 : decide (x5_1 < (l1.length : Int)) = true := decide_eq_true c8
         clear c8
         have HC9 := A_ H
         clear H
         have p221 : 0 ≤ (x5_1 : Int) := of_decide_eq_true Z13
         have q221 : x5_1 < (l0.length : Int) := of_decide_eq_true Z13
         obtain ⟨ad221, e221, hx221_0, hx221_1⟩ := at_T68 HR0.out x5_1 p221 q221
         cases e221
         replace p221 := eq_true p221
         replace q221 := eq_true q221
         have p222 : 0 ≤ (x5_1 : Int) := of_decide_eq_true Z13
         have q222 : x5_1 < (l1.length : Int) := of_decide_eq_true Z13
         obtain ⟨ad222, e222, hx222_0, hx222_1⟩ := at_T68 HR1.out x5_1 p222 q222
         cases e222
         replace p222 := eq_true p222
         replace q222 := eq_true q222
         go_upto_if 18 with (fail)
         repeat (go_quiet (fail); go_upto_if 18 with (fail))
         go_cut [18] (fun v18 wc => ∃ (kq : Nat) (x18_8 : Bool), v18 = .bool x18_8 ∧ Aside0 (spec_comparePlaces.j2 kq l0 l1 x5_1 x18_8 = some r) ∧ Aside0 (kq ≤ kj2) ∧ Drawn0 w wc)
         case first =>
          have H := HC9.out
          clear HC9
          by_cases c10 : ((rd_T68 l0 x5_1).f0) < ((rd_T68 l1 x5_1).f0)
          ·rw [if_pos c10] at H
           have c10b0 : decide (((rd_T68 l0 x5_1).f0) < ((rd_T68 l1 x5_1).f0)) = true := decide_eq_true c10
           clear c10
           (first | rw [c10b0] | (simp only [i64_w, i32_w]; rw [c10b0]) | skip)
           have H' := A_ H
           clear H
           go_wp2
           repeat (go_quiet (fail); try go_wp2)
           go_meet
           case rel => exact ⟨_, (decide (((rd_T68 l0 x5_1).f0) < ((rd_T68 l1 x5_1).f0))), Z21, H', ⟨by have := HK1.out; have := HJ2.out; first | omega | exact Nat.le_refl _⟩, Z25⟩
          ·rw [if_neg c10] at H
           have c10b0 : decide (((rd_T68 l0 x5_1).f0) < ((rd_T68 l1 x5_1).f0)) = false := decide_eq_false c10
           clear c10
           (first | rw [c10b0] | (simp only [i64_w, i32_w]; rw [c10b0]) | skip)
           by_cases c11 : ((rd_T68 l0 x5_1).f0) = ((rd_T68 l1 x5_1).f0)
           ·rw [if_pos c11] at H
            have c11b0 : (((rd_T68 l0 x5_1).f0) == ((rd_T68 l1 x5_1).f0)) = true := beq_iff_eq.mpr c11
            have c11b1 : (((rd_T68 l0 x5_1).f0) != ((rd_T68 l1 x5_1).f0)) = false := bne_eq_false_iff_eq.mpr c11
            clear c11
            have H' := A_ H
            clear H
            have p223 : 0 ≤ (x5_1 : Int) := of_decide_eq_true Z13
            have q223 : x5_1 < (l0.length : Int) := of_decide_eq_true Z13
            obtain ⟨ad223, e223, hx223_0, hx223_1⟩ := at_T68 HR0.out x5_1 p223 q223
            obtain rfl : ad221 = ad223 := (by injection e223)
            replace p223 := eq_true p223
            replace q223 := eq_true q223
            have p224 : 0 ≤ (x5_1 : Int) := of_decide_eq_true Z13
            have q224 : x5_1 < (l1.length : Int) := of_decide_eq_true Z13
            obtain ⟨ad224, e224, hx224_0, hx224_1⟩ := at_T68 HR1.out x5_1 p224 q224
            obtain rfl : ad222 = ad224 := (by injection e224)
            replace p224 := eq_true p224
            replace q224 := eq_true q224
            have p225 : 0 ≤ (x5_1 : Int) := of_decide_eq_true Z13
            have q225 : x5_1 < (l0.length : Int) := of_decide_eq_true Z13
            obtain ⟨ad225, e225, hx225_0, hx225_1⟩ := at_T68 HR0.out x5_1 p225 q225
            obtain rfl : ad221 = ad225 := (by injection e225)
            replace p225 := eq_true p225
            replace q225 := eq_true q225
            have p226 : 0 ≤ (x5_1 : Int) := of_decide_eq_true Z13
            have q226 : x5_1 < (l1.length : Int) := of_decide_eq_true Z13
            obtain ⟨ad226, e226, hx226_0, hx226_1⟩ := at_T68 HR1.out x5_1 p226 q226
            obtain rfl : ad222 = ad226 := (by injection e226)
            replace p226 := eq_true p226
            replace q226 := eq_true q226
            go_wp2
            repeat (go_quiet (fail); try go_wp2)
            go_meet
            case rel => exact ⟨_, (decide (((rd_T68 l0 x5_1).f1) < ((rd_T68 l1 x5_1).f1))), Z21, H', ⟨by have := HK1.out; have := HJ2.out; first | omega | exact Nat.le_refl _⟩, Z25⟩
           ·rw [if_neg c11] at H
            have c11b0 : (((rd_T68 l0 x5_1).f0) == ((rd_T68 l1 x5_1).f0)) = false := beq_eq_false_iff_ne.mpr c11
            have c11b1 : (((rd_T68 l0 x5_1).f0) != ((rd_T68 l1 x5_1).f0)) = true := bne_iff_ne.mpr c11
            have H' := A_ H
            clear H
            have p223 : 0 ≤ (x5_1 : Int) := of_decide_eq_true Z13
            have q223 : x5_1 < (l0.length : Int) := of_decide_eq_true Z13
            obtain ⟨ad223, e223, hx223_0, hx223_1⟩ := at_T68 HR0.out x5_1 p223 q223
            obtain rfl : ad221 = ad223 := (by injection e223)
            replace p223 := eq_true p223
            replace q223 := eq_true q223
            have p224 : 0 ≤ (x5_1 : Int) := of_decide_eq_true Z13
            have q224 : x5_1 < (l1.length : Int) := of_decide_eq_true Z13
            obtain ⟨ad224, e224, hx224_0, hx224_1⟩ := at_T68 HR1.out x5_1 p224 q224
            obtain rfl : ad222 = ad224 := (by injection e224)
            replace p224 := eq_true p224
            replace q224 := eq_true q224
            go_wp2
            repeat (go_quiet (fail); try go_wp2)
            go_meet
            case rel => exact ⟨_, (false), Z21, H', ⟨by have := HK1.out; have := HJ2.out; first | omega | exact Nat.le_refl _⟩, Z25⟩
         case rest =>
          clear HC9
          try clear c1
          try clear c2
          try clear p2
          try clear q2
          try clear hx2
          try clear c4
          try clear c4b0
          try clear c5
          try clear c6
          try clear c6b0
          try clear c7
          try clear c7b0
          try clear c8
          try clear c8b0
          try clear c10
          try clear c10b0
          try clear c11
          try clear c11b0
          try clear c11b1
          try clear hx221_0
          try clear hx221_1
          try clear hx222_0
          try clear hx222_1
          try clear hx223_0
          try clear hx223_1
          try clear hx224_0
          try clear hx224_1
          try clear hx225_0
          try clear hx225_1
          try clear hx226_0
          try clear hx226_1
          try clear p2
          try clear p221
          try clear p222
          try clear p223
          try clear p224
          try clear p225
          try clear p226
          try clear q221
          try clear q222
          try clear q223
          try clear q224
          try clear q225
          try clear q226
          obtain ⟨kq, x18_8, rfl, HA, HJ8, ⟨mc8, rfl⟩⟩ := hcut
          cases kq with
          | zero => exact absurd HA.out (by simp [spec_comparePlaces.j2])
          | succ kj8 =>
           have H := HA.out
           clear HA
           simp only [spec_comparePlaces.j2] at H
           by_cases c12 : x18_8 = true
           ·subst c12
            have H1 : (some (-1)) = some r := by rw [if_pos rfl] at H; exact H
            clear H
            have H := H1
            clear H1
            obtain rfl := Option.some.inj H
            go_wp2
            repeat (go_quiet (fail); try go_wp2)
            go_ret
            exact ⟨Z21, Z25⟩
           ·replace c12 := Bool.eq_false_iff.mpr c12
            subst c12
            have H1 : (if 0 ≤ x5_1 then (if x5_1 < (l0.length : Int) then (if x5_1 < (l1.length : Int) then (if (!(((rd_T68 l0 x5_1).f0) == ((rd_T68 l1 x5_1).f0)) || (!(((rd_T68 l0 x5_1).f1) == ((rd_T68 l1 x5_1).f1)))) = true then (some 1) else (spec_comparePlaces.l0 kj8 l0 l1 (wrap64 (x5_1 + 1)))) else (none)) else (none)) else (none)) = some r := by rw [if_neg (show ¬ (false = true) by decide)] at H; exact H
            clear H
            have H := H1
            clear H1
            by_cases c13 : 0 ≤ x5_1
            ·rw [if_pos c13] at H
             have c13b0 : decide (0 ≤ x5_1) = true := decide_eq_true c13
             clear c13
             by_cases c14 : x5_1 < (l0.length : Int)
             ·rw [if_pos c14] at H
              have c14b0 : decide (x5_1 < (l0.length : Int)) = true := decide_eq_true c14
              clear c14
              by_cases c15 : x5_1 < (l1.length : Int)
              ·rw [if_pos c15] at H
               have c15b0 : decide (x5_1 < (l1.length : Int)) = true := decide_eq_true c15
               clear c15
               by_cases c16 : (!(((rd_T68 l0 x5_1).f0) == ((rd_T68 l1 x5_1).f0)) || (!(((rd_T68 l0 x5_1).f1) == ((rd_T68 l1 x5_1).f1)))) = true
               ·rw [if_pos c16] at H
                have c16b0 : (!(((rd_T68 l0 x5_1).f0) == ((rd_T68 l1 x5_1).f0)) || (!(((rd_T68 l0 x5_1).f1) == ((rd_T68 l1 x5_1).f1)))) = true := c16
                clear c16
                obtain rfl := Option.some.inj H
                have p227 : 0 ≤ (x5_1 : Int) := of_decide_eq_true Z13
                have q227 : x5_1 < (l0.length : Int) := of_decide_eq_true Z13
                obtain ⟨ad227, e227, hx227_0, hx227_1⟩ := at_T68 HR0.out x5_1 p227 q227
                obtain rfl : ad221 = ad227 := (by injection e227)
                replace p227 := eq_true p227
                replace q227 := eq_true q227
                have p228 : 0 ≤ (x5_1 : Int) := of_decide_eq_true Z13
                have q228 : x5_1 < (l1.length : Int) := of_decide_eq_true Z13
                obtain ⟨ad228, e228, hx228_0, hx228_1⟩ := at_T68 HR1.out x5_1 p228 q228
                obtain rfl : ad222 = ad228 := (by injection e228)
                replace p228 := eq_true p228
                replace q228 := eq_true q228
                go_wp2
                repeat (go_quiet (fail); try go_wp2)
                go_ret
                exact ⟨Z21, Z25⟩
               ·rw [if_neg c16] at H
                have c16b0 : (!(((rd_T68 l0 x5_1).f0) == ((rd_T68 l1 x5_1).f0)) || (!(((rd_T68 l0 x5_1).f1) == ((rd_T68 l1 x5_1).f1)))) = false := by simpa using c16
                clear c16
                have H' := A_ H
                clear H
                have p227 : 0 ≤ (x5_1 : Int) := of_decide_eq_true Z13
                have q227 : x5_1 < (l0.length : Int) := of_decide_eq_true Z13
                obtain ⟨ad227, e227, hx227_0, hx227_1⟩ := at_T68 HR0.out x5_1 p227 q227
                obtain rfl : ad221 = ad227 := (by injection e227)
                replace p227 := eq_true p227
                replace q227 := eq_true q227
                have p228 : 0 ≤ (x5_1 : Int) := of_decide_eq_true Z13
                have q228 : x5_1 < (l1.length : Int) := of_decide_eq_true Z13
                obtain ⟨ad228, e228, hx228_0, hx228_1⟩ := at_T68 HR1.out x5_1 p228 q228
                obtain rfl : ad222 = ad228 := (by injection e228)
                replace p228 := eq_true p228
                replace q228 := eq_true q228
                go_wp2
                repeat (go_quiet (fail); try go_wp2)
                go_roundg kj8
                case measure => have := HK1.out; have := HJ2.out; have := HJ8.out; omega
                case rel => exact ⟨(wrap64 (x5_1 + 1)), Z21, H', ⟨by have := HK1.out; have := HJ2.out; have := HJ8.out; omega⟩, Z25⟩
              ·rw [if_neg c15] at H
               exact absurd H (by simp)
             ·rw [if_neg c14] at H
              exact absurd H (by simp)
            ·rw [if_neg c13] at H
             exact absurd H (by simp)
        ·rw [if_neg c8] at H
         exact absurd H (by simp)
       ·rw [if_neg c7] at H
        exact absurd H (by simp)
      ·rw [if_neg c6] at H
       exact absurd H (by simp)
     ·replace c5 := Bool.eq_false_iff.mpr c5
      subst c5
      have H1 : (if (l0.length : Int) < (l1.length : Int) then (some (-1)) else (if (l0.length : Int) > (l1.length : Int) then (some 1) else (some 0))) = some r := by rw [if_neg (show ¬ (false = true) by decide)] at H; exact H
      clear H
      have H := H1
      clear H1
      by_cases c17 : (l0.length : Int) < (l1.length : Int)
      ·rw [if_pos c17] at H
       have c17b0 : decide ((l0.length : Int) < (l1.length : Int)) = true := decide_eq_true c17
       have c17b1 : decide (l0.length < l1.length) = true := decide_eq_true (Int.ofNat_lt.mp c17)
       clear c17
       obtain rfl := Option.some.inj H
       go_wp2
       repeat (go_quiet (fail); try go_wp2)
       go_ret
       exact ⟨Z21, Z25⟩
      ·rw [if_neg c17] at H
       have c17b0 : decide ((l0.length : Int) < (l1.length : Int)) = false := decide_eq_false c17
       have c17b1 : decide (l0.length < l1.length) = false := decide_eq_false (fun h => c17 (Int.ofNat_lt.mpr h))
       clear c17
       by_cases c18 : (l0.length : Int) > (l1.length : Int)
       ·rw [if_pos c18] at H
        have c18b0 : decide ((l1.length : Int) < (l0.length : Int)) = true := decide_eq_true c18
        have c18b1 : decide (l1.length < l0.length) = true := decide_eq_true (Int.ofNat_lt.mp c18)
        clear c18
        obtain rfl := Option.some.inj H
        go_wp2
        repeat (go_quiet (fail); try go_wp2)
        go_ret
        exact ⟨Z21, Z25⟩
       ·rw [if_neg c18] at H
        have c18b0 : decide ((l1.length : Int) < (l0.length : Int)) = false := decide_eq_false c18
        have c18b1 : decide (l1.length < l0.length) = false := decide_eq_false (fun h => c18 (Int.ofNat_lt.mpr h))
        clear c18
        obtain rfl := Option.some.inj H
        go_wp2
        repeat (go_quiet (fail); try go_wp2)
        go_ret
        exact ⟨Z21, Z25⟩
end Go.Proofs.Ytheifobeaemegaa.PFnStoreOk
