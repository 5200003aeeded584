/- Walks of the functions that the law 'FnStorePut' reaches, part 8: for each a Lean function and the proof that Go's comes to just its answer (lines of the print, under own names; no condition). -/
import Derived.Test.YtheifobeaemegaaZFnStorePutQFnStorePutx0
import Derived.Test.YtheifobeaemegaaZFnStorePutQFnStorePutx3
import Derived.Test.YtheifobeaemegaaZFnStorePutQFnStorePutx4
import Derived.Test.YtheifobeaemegaaZFnStorePutQFnStorePutx5
import Derived.Test.YtheifobeaemegaaZFnStorePutQFnStorePutx6
import Derived.Test.YtheifobeaemegaaZFnStorePutQFnStorePutx7
namespace Go.Proofs.Ytheifobeaemegaa.PFnStorePut
open Go.RowKit Go.Proofs.YtheifobeaemegaaW.PrintWords Go.Proofs.YtheifobeaemegaaW.PrintLast Go.Proofs.YtheifobeaemegaaW.PrintMore
attribute [local go_sem] max2_int min2_int max_two min_two max_three min_three max_four min_four
set_option linter.unusedVariables false
set_option linter.unusedSimpArgs false
def impl_cellCopy.f (l0_0 : List (S68)) (l0_1 : List (S28)) : Option ((List (S68)) × (List (S28))) := (impl_placeCopy.f l0_0).bind fun t157 => ((impl_valsCopy.f l0_1).bind fun t160 => (some (t157, t160)))
def impl_cellCopy.T1 : Bool × List (List Nat × List Nat) := (true, [([], []), ([0], [0]), ([1], [1]), ([], []), ([3], [3]), ([4, 2], [4]), ([2, 5], [2, 5]), ([6, 5, 0, 1, 2, 3, 4, 5, 6], [6])])
def impl_cellCopy.B1 : List Nat := [0, 1, 3, 0, 8, 31, 63, 127]
theorem impl_cellCopy.tab1 : rtab .any (opsOf Try.f50 1) = impl_cellCopy.T1 := by kernel_rfl
theorem impl_cellCopy.bits1 : waitsOk impl_cellCopy.T1.2 impl_cellCopy.B1 = true := by kernel_rfl
set_option maxHeartbeats 8000000 in
set_option maxRecDepth 100000 in
theorem impl_cellCopy.calls (A0_0 : Option Addr) (c0_0 : Nat) (l0_0 : List (S68)) (A0_1 : Option Addr) (c0_1 : Nat) (l0_1 : List (S28)) (r1 : List (S68)) (r2 : List (S28)) (w : World) (hr0_0 : Kd.C k68 w A0_0 l0_0.length l0_0) (hc0_0 : l0_0.length ≤ c0_0) (hr0_1 : Kd.C k28 w A0_1 l0_1.length l0_1) (hc0_1 : l0_1.length ≤ c0_1) (h : impl_cellCopy.f l0_0 l0_1 = some (r1, r2)) :
  Calls Try.prog 50 #[.agg #[.slice A0_0 l0_0.length c0_0, .slice A0_1 l0_1.length c0_1]] w fun e w' => ∃ v0_ v1_ : Value, e = .returned (.agg #[v0_, v1_]) ∧ Kd.R k68 68 w' w.heap.size (fun _ => True) v0_ r1 ∧ Kd.R k28 28 w' w.heap.size (fun _ => True) v1_ r2 ∧ Below w.heap.size w w' := by
 have hu41 := Try.underlying41
 have HR0_0 := A_ hr0_0
 have HC0_0 := A_ hc0_0
 clear hr0_0 hc0_0
 have HR0_1 := A_ hr0_1
 have HC0_1 := A_ hc0_1
 clear hr0_1 hc0_1
 have HB := A_ (Below.refl w.heap.size w)
 have H : ((impl_placeCopy.f l0_0).bind fun t157 => ((impl_valsCopy.f l0_1).bind fun t160 => (some (t157, t160)))) = some (r1, r2) := h
 clear h
 replace H := Option.bind_eq_some_iff.mp H
 obtain ⟨t157, A20, H⟩ := H
 replace H : ((impl_valsCopy.f l0_1).bind fun t160 => (some (t157, t160))) = some (r1, r2) := H
 have A2 := A_ A20
 clear A20
 replace H := Option.bind_eq_some_iff.mp H
 obtain ⟨t160, A30, H⟩ := H
 replace H : (some (t157, t160)) = some (r1, r2) := H
 have A3 := A_ A30
 clear A30
 simp only [Option.some.injEq, Prod.mk.injEq] at H
 obtain ⟨rfl, rfl⟩ := H
 go_enter Try.func50, Try.ntmps50
 try go_wp2_with (first | ((with_reducible refine gate_dst (N := 1) rfl ?_); refine box_event ?hg (N := 1) ?hd (cs := #[.slice A0_0 l0_0.length c0_0, .slice A0_1 l0_1.length c0_1]) (t := 41) ?hr ?_; (case hd => rfl); (case hg => rfl); (case hr => exact Z28); intro gb155 hg w4 hbox hb; have n0_ := A_ (below_step Z1 hb); have n1_ := A_ (hbox); have n2_ := A_ ((by rw [hg]; exact (below_size Z1) : w.heap.size ≤ gb155)); have n3_ := A_ ((by rw [hg]; exact (below_size Z1) : w.heap.size ≤ gb155)); clear HB; have HB := n0_; have BK155 := n1_; have GW155 := n2_; have GE155 := n3_; clear n0_ n1_ n2_ n3_; clear hb hbox hg) | ((with_reducible refine gate_dst (N := 2) rfl ?_); refine box_event ?hg (N := 2) ?hd (cs := #[.slice none 0 0, .slice none 0 0]) (t := 41) ?hr ?_; (case hd => rfl); (case hg => rfl); (case hr => exact Z28); intro gb156 hg w5 hbox hb; have n0_ := A_ (blk_below (g := gb155) (o := .cells #[.slice A0_0 l0_0.length c0_0, .slice A0_1 l0_1.length c0_1] 41 (0, 0)) (Z6 BK155.out) hb); have n1_ := A_ (below_step (Z2 GE155.out) hb); have n2_ := A_ (hbox); have n3_ := A_ ((by rw [hg]; exact (below_size (Z2 GE155.out)) : w.heap.size ≤ gb156)); have n4_ := A_ ((by rw [hg]; exact (below_size (Z2 GE155.out)) : w.heap.size ≤ gb156)); have n5_ := A_ ((by rw [hg]; exact Nat.ne_of_lt (blk_lt (g := gb155) (o := .cells #[.slice A0_0 l0_0.length c0_0, .slice A0_1 l0_1.length c0_1] 41 (0, 0)) (Z6 BK155.out)) : gb155 ≠ gb156)); have n6_ := A_ ((by rw [hg]; exact Nat.ne_of_gt (blk_lt (g := gb155) (o := .cells #[.slice A0_0 l0_0.length c0_0, .slice A0_1 l0_1.length c0_1] 41 (0, 0)) (Z6 BK155.out)) : gb156 ≠ gb155)); clear BK155; clear HB; have BK155 := n0_; have HB := n1_; have BK156 := n2_; have GW156 := n3_; have GE156 := n4_; have NB155_156 := n5_; have NB156_155 := n6_; clear n0_ n1_ n2_ n3_ n4_ n5_ n6_; clear hb hbox hg))
 have n0_ := A_ (blk_drew BK155.out)
 have n1_ := A_ (blk_drew BK156.out)
 have n2_ := A_ (below_drew1 HB.out)
 clear BK155
 clear BK156
 clear HB
 have BK155 := n0_
 have BK156 := n1_
 have HB := n2_
 clear n0_ n1_ n2_
 refine start_ (n := 8) (S := fun w' => w'.cell? ⟨gb155, 0, none⟩ = some (.slice A0_0 l0_0.length c0_0) ∧ w'.cell? ⟨gb155, 1, none⟩ = some (.slice A0_1 l0_1.length c0_1)) (ds := []) #[F,F,F,F,F,F,F,F] (by kernel_rfl) rfl rfl ⟨(blk_cell BK155.out 0).trans rfl, (blk_cell BK155.out 1).trans rfl⟩ (fun hHeld => ?_); refine with_tabW impl_cellCopy.tab1 impl_cellCopy.bits1 (fun HT_ HW_ => ?_)
 generalize w5.drew = w6 at BK155 BK156 HB hHeld ⊢
 refine pure_ (i := 0) (N := some 3) (v := ?_) (a' := ?_) #[T,F,F,F,F,F,F,F] rfl rfl ZA ZF (Or.inl ⟨by rfl, ?_⟩) ?_ ?_
 rotate_left
 ·exact Z17
 rotate_left
 ·exact Z0
 refine pure_ (i := 3) (N := some 6) (v := ?_) (a' := ?_) #[T,F,F,T,F,F,F,F] rfl rfl ZA ZF (Or.inl ⟨by rfl, ?_⟩) ?_ ?_
 rotate_left
 ·exact Z17
 rotate_left
 ·exact Z0
 refine take_ (i := 1) (N := some 4) (v := ?_) (a' := ?_) #[T,T,F,T,F,F,F,F] rfl rfl (take_ofW HT_.out HW_.out (by kernel_rfl)) ZF (Or.inl ⟨by rfl, ?_⟩) hHeld ?_ ?_
 rotate_left
 ·exact Z45
 rotate_left
 ·exact Z0
 refine take_ (i := 4) (N := some 7) (v := ?_) (a' := ?_) #[T,T,F,T,T,F,F,F] rfl rfl (take_ofW HT_.out HW_.out (by kernel_rfl)) ZF (Or.inl ⟨by rfl, ?_⟩) hHeld ?_ ?_
 rotate_left
 ·exact Z45
 rotate_left
 ·exact Z0
 refine one_ (i := 2) (N := some 5) #[T,T,T,T,T,F,F,F] rfl rfl (one_of HT_.out (by kernel_rfl)) (by decide) (fun K hK => ?_)
 refine goes_ Try.func67 (by kernel_rfl) rfl #[.slice A0_0 l0_0.length c0_0] (by rfl) rfl rfl Z3 ?_
 with_reducible refine (impl_placeCopy.calls _ _ l0_0 t157 _ ?side1 ?side2 A2.out).mono ?_
 (case side1 => exact Z5 HR0_0.out)
 (case side2 => exact HC0_0.out)
 rintro e w7 ⟨v158, rfl, ho0, hb⟩
 refine ⟨_, rfl, ?_⟩
 have n0_ := A_ (Kd.R_lower ho0 (below_size (Z15 GE155.out GE156.out)))
 have n1_ := A_ (blk_below (g := gb155) (o := .cells #[.slice A0_0 l0_0.length c0_0, .slice A0_1 l0_1.length c0_1] 41 (0, 0)) (Z6 BK155.out) hb)
 have n2_ := A_ (blk_below (g := gb156) (o := .cells #[.slice none 0 0, .slice none 0 0] 41 (0, 0)) (Z6 BK156.out) hb)
 have n3_ := A_ (below_step (Z15 GE155.out GE156.out) hb)
 clear BK155
 clear BK156
 clear HB
 have HO159 := n0_
 have BK155 := n1_
 have BK156 := n2_
 have HB := n3_
 clear n0_ n1_ n2_ n3_
 (try clear hb)
 (try clear hb2)
 (try clear hk)
 (try clear hi)
 (try clear ho0)
 refine hK.out _ _ ⟨(blk_cell BK155.out 0).trans rfl, (blk_cell BK155.out 1).trans rfl⟩ (fun hHeld => ?_)
 clear hK K
 refine norm_ (a' := ?_) ?_ ?_
 rotate_left
 ·show Act.put _ (some 5) _ = _
  simp only [Act.put, List.setIfInBounds_toArray, List.set_cons_zero, List.set_cons_succ, i64_w, i32_w]
  rfl
 refine one_ (i := 5) (N := some 8) #[T,T,T,T,T,T,F,F] rfl rfl (one_of HT_.out (by kernel_rfl)) (by decide) (fun K hK => ?_)
 refine goes_ Try.func47 (by kernel_rfl) rfl #[.slice A0_1 l0_1.length c0_1] (by rfl) rfl rfl Z3 ?_
 with_reducible refine (impl_valsCopy.calls _ _ l0_1 t160 _ ?side1 ?side2 A3.out).mono ?_
 (case side1 => exact Z5 HR0_1.out)
 (case side2 => exact HC0_1.out)
 rintro e w8 ⟨v161, rfl, ho0, hb⟩
 refine ⟨_, rfl, ?_⟩
 have n0_ := A_ (Kd.R_below (Z13 HO159.out) hb)
 have n1_ := A_ (Kd.R_lower ho0 (below_size (Z15 GE155.out GE156.out)))
 have n2_ := A_ (blk_below (g := gb155) (o := .cells #[.slice A0_0 l0_0.length c0_0, .slice A0_1 l0_1.length c0_1] 41 (0, 0)) (Z6 BK155.out) hb)
 have n3_ := A_ (blk_below (g := gb156) (o := .cells #[.slice none 0 0, .slice none 0 0] 41 (0, 0)) (Z6 BK156.out) hb)
 have n4_ := A_ (below_step (Z15 GE155.out GE156.out) hb)
 clear HO159
 clear BK155
 clear BK156
 clear HB
 have HO159 := n0_
 have HO162 := n1_
 have BK155 := n2_
 have BK156 := n3_
 have HB := n4_
 clear n0_ n1_ n2_ n3_ n4_
 (try clear hb)
 (try clear hb2)
 (try clear hk)
 (try clear hi)
 (try clear ho0)
 obtain ⟨Ao9, co9, eo9⟩ := Kd.R_slice HO162.out
 (first | subst eo9 | (injection eo9 with f1_ f2_ f3_; have f4_ := f1_.symm; have f5_ := f3_.symm; clear f1_ f2_ f3_; subst f4_; subst f5_))
 obtain ⟨Ao10, co10, eo10⟩ := Kd.R_slice HO159.out
 (first | subst eo10 | (injection eo10 with f1_ f2_ f3_; have f4_ := f1_.symm; have f5_ := f3_.symm; clear f1_ f2_ f3_; subst f4_; subst f5_))
 refine hK.out _ _ ⟨(blk_cell BK155.out 0).trans rfl, (blk_cell BK155.out 1).trans rfl⟩ (fun hHeld => ?_)
 clear hK K
 refine norm_ (a' := ?_) ?_ ?_
 rotate_left
 ·show Act.put _ (some 8) _ = _
  simp only [Act.put, List.setIfInBounds_toArray, List.set_cons_zero, List.set_cons_succ, i64_w, i32_w]
  rfl
 refine pure_ (i := 6) (N := some 9) (v := ?_) (a' := ?_) #[T,T,T,T,T,T,T,F] rfl rfl ZA ZF (Or.inl ⟨by rfl, ?_⟩) ?_ ?_
 rotate_left
 ·exact Z17
 rotate_left
 ·exact Z0
 refine one_ (i := 7) (N := none) #[T,T,T,T,T,T,T,T] rfl rfl (one_of HT_.out (by kernel_rfl)) (by decide) (fun K hK => ?_)
 have hs11 : w8.cell? ⟨gb156, 0, none⟩ = some (.slice none 0 0) := (blk_cell BK156.out 0).trans rfl
 have hfs11 := blk_frozen BK156.out 0
 have hns11_0 := NB155_156.out
 have hms11_0 := NB156_155.out
 have hs12 : w8.cell? ⟨gb156, 1, none⟩ = some (.slice none 0 0) := (blk_cell BK156.out 1).trans rfl
 have hfs12 := blk_frozen BK156.out 1
 have hns12_0 := NB155_156.out
 have hms12_0 := NB156_155.out
 refine skip_ (w1 := ?_) (by rfl) rfl ?_ ?_
 rotate_left
 ·go_simp
  rfl
 refine hK.out _ _ ⟨((cell_far (p := ⟨gb156, _, none⟩) NB155_156.out _).trans (((cell_far (p := ⟨gb156, _, none⟩) NB155_156.out _).trans (hHeld.1)))), ((cell_far (p := ⟨gb156, _, none⟩) NB155_156.out _).trans (((cell_far (p := ⟨gb156, _, none⟩) NB155_156.out _).trans (hHeld.2))))⟩ (fun hHeld => ?_)
 clear hK K
 refine done_ (done_of HT_.out (by kernel_rfl)) ?_
 try go_wp2
 refine bodyPost_ret (results_cell_row rfl _ _ gb156 41 #[.slice Ao10 t157.length co10, .slice Ao9 t160.length co9] (0, 0) _ rfl (by (with_reducible repeat (first | refine blk_drewN ?_ _ | refine blk_drew ?_ | refine blk_alloc ?_ _)); refine blk_put (cs := #[.slice Ao10 t157.length co10, .slice none 0 0]) ?_ 1 _ rfl; (with_reducible repeat (first | refine blk_drewN ?_ _ | refine blk_drew ?_ | refine blk_alloc ?_ _)); refine blk_put (cs := #[.slice none 0 0, .slice none 0 0]) ?_ 0 _ rfl; (with_reducible repeat (first | refine blk_drewN ?_ _ | refine blk_drew ?_ | refine blk_alloc ?_ _)); exact BK156.out) Try.underlying41 rfl (by kernel_rfl)) rfl ?_
 exact ⟨_, _, Z16, by (with_reducible repeat (first | apply Kd.R_alloc | apply Kd.R_drewN | apply Kd.R_drew)); exact Kd.R_mono (Kd.R_far (p := ⟨gb156, 1, none⟩) (Kd.R_far (p := ⟨gb156, 0, none⟩) (Kd.R_types HO159.out BK156.out (by decide)) (fun _ hk => hk.2) (.slice Ao10 t157.length co10)) (fun _ hk => hk.2) (.slice Ao9 t160.length co9)) (fun _ hk => trivial), by (with_reducible repeat (first | apply Kd.R_alloc | apply Kd.R_drewN | apply Kd.R_drew)); exact Kd.R_mono (Kd.R_far (p := ⟨gb156, 1, none⟩) (Kd.R_far (p := ⟨gb156, 0, none⟩) (Kd.R_types HO162.out BK156.out (by decide)) (fun _ hk => hk.2) (.slice Ao10 t157.length co10)) (fun _ hk => hk.2) (.slice Ao9 t160.length co9)) (fun _ hk => trivial), Z15 GE155.out GE156.out⟩
mutual
def impl_storeSet.l0 : Nat → List (S68) → List (S28) → List (S41) → Bool → List (S41) → Int → Int → Option ((List (S41)))
 | 0, _, _, _, _, _, _, _ => none
 | k + 1, x1, x2, x7, x8, x13, x14, x15 => if x15 < x14 then (if 0 ≤ x15 then (if x15 < (x13.length : Int) then ((impl_placeCmp.f k x1 ((rd_T41 x13 x15).f0)).bind fun t168 => (if t168 ≤ 0 then (impl_storeSet.j1 k x1 x2 x7 x8 t168 x13 x14 x15 (!x8) ((rd_T41 x13 x15).f0) ((rd_T41 x13 x15).f1)) else (impl_storeSet.j1 k x1 x2 x7 x8 t168 x13 x14 x15 false ((rd_T41 x13 x15).f0) ((rd_T41 x13 x15).f1)))) else (none)) else (none)) else (if x8 = true then (some x7) else ((impl_placeCopy.f x1).bind fun t196 => ((impl_valsCopy.f x2).bind fun t199 => (if x7.length < 2932031007402 then (some (x7 ++ [(⟨t196, t199⟩ : S41)])) else (none)))))
def impl_storeSet.j1 : Nat → List (S68) → List (S28) → List (S41) → Bool → Int → List (S41) → Int → Int → Bool → List (S68) → List (S28) → Option ((List (S41)))
 | 0, _, _, _, _, _, _, _, _, _, _, _ => none
 | k + 1, x1, x2, x7, x8, x11, x13, x14, x15, x28, x168000, x168001 => if x28 = true then ((impl_placeCopy.f x1).bind fun t169 => ((impl_valsCopy.f x2).bind fun t172 => (if x7.length < 2932031007402 then ((some (x7 ++ [(⟨t169, t172⟩ : S41)] : List (S41))).bind fun y175 => (if x11 = 0 then (impl_storeSet.l0 k x1 x2 y175 true x13 x14 (wrap64 (x15 + 1))) else ((impl_cellCopy.f x168000 x168001).bind fun bt178 => (if y175.length < 2932031007402 then (impl_storeSet.l0 k x1 x2 (y175 ++ [(⟨bt178.1, bt178.2⟩ : S41)]) true x13 x14 (wrap64 (x15 + 1))) else (none))))) else (none)))) else ((impl_cellCopy.f x168000 x168001).bind fun bt187 => (if x7.length < 2932031007402 then (impl_storeSet.l0 k x1 x2 (x7 ++ [(⟨bt187.1, bt187.2⟩ : S41)]) x8 x13 x14 (wrap64 (x15 + 1))) else (none)))
end
def impl_storeSet.f (k : Nat) (l0 : List (S41)) (l1 : List (S68)) (l2 : List (S28)) : Option ((List (S41))) := impl_storeSet.l0 k l1 l2 (([] : List (S41))) false l0 (l0.length : Int) 0
theorem impl_storeSet.mono_l : ∀ k, (∀ y0 y1 y2 y3 y4 y5 y6, LeO (impl_storeSet.l0 k y0 y1 y2 y3 y4 y5 y6) (impl_storeSet.l0 (k + 1) y0 y1 y2 y3 y4 y5 y6)) ∧ (∀ y0 y1 y2 y3 y4 y5 y6 y7 y8 y9 y10, LeO (impl_storeSet.j1 k y0 y1 y2 y3 y4 y5 y6 y7 y8 y9 y10) (impl_storeSet.j1 (k + 1) y0 y1 y2 y3 y4 y5 y6 y7 y8 y9 y10))
 | 0 => ⟨fun _ _ _ _ _ _ _ r h => by simp [impl_storeSet.l0] at h, fun _ _ _ _ _ _ _ _ _ _ _ r h => by simp [impl_storeSet.j1] at h⟩
 | k + 1 => by
  obtain ⟨ih0, ih1⟩ := impl_storeSet.mono_l k
  refine ⟨?_, ?_⟩
  ·intro y0 y1 y2 y3 y4 y5 y6
   unfold impl_storeSet.l0
   repeat' first
   | (with_reducible exact ih0 _ _ _ _ _ _ _)
   | (with_reducible exact ih1 _ _ _ _ _ _ _ _ _ _ _)
   | (with_reducible exact impl_placeCmp.mono _ _ _)
   | (with_reducible exact LeO.refl _)
   | (with_reducible exact LeO.none _)
   | (with_reducible refine LeO.ite ?_ ?_)
   | (with_reducible refine LeO.bind ?_ (fun _ => ?_))
   | exact ih0 _ _ _ _ _ _ _
   | exact ih1 _ _ _ _ _ _ _ _ _ _ _
   | exact impl_placeCmp.mono _ _ _
   | exact LeO.none _
   | refine LeO.ite ?_ ?_
   | refine LeO.bind ?_ (fun _ => ?_)
  ·intro y0 y1 y2 y3 y4 y5 y6 y7 y8 y9 y10
   unfold impl_storeSet.j1
   repeat' first
   | (with_reducible exact ih0 _ _ _ _ _ _ _)
   | (with_reducible exact ih1 _ _ _ _ _ _ _ _ _ _ _)
   | (with_reducible exact impl_placeCmp.mono _ _ _)
   | (with_reducible exact LeO.refl _)
   | (with_reducible exact LeO.none _)
   | (with_reducible refine LeO.ite ?_ ?_)
   | (with_reducible refine LeO.bind ?_ (fun _ => ?_))
   | exact ih0 _ _ _ _ _ _ _
   | exact ih1 _ _ _ _ _ _ _ _ _ _ _
   | exact impl_placeCmp.mono _ _ _
   | exact LeO.none _
   | refine LeO.ite ?_ ?_
   | refine LeO.bind ?_ (fun _ => ?_)
theorem impl_storeSet.mono : ∀ a0 a1 a2 k, LeO (impl_storeSet.f k a0 a1 a2) (impl_storeSet.f (k + 1) a0 a1 a2) := by
 intro a0 a1 a2 k
 obtain ⟨ih0, ih1⟩ := impl_storeSet.mono_l k
 unfold impl_storeSet.f
 repeat' first
   | (with_reducible exact ih0 _ _ _ _ _ _ _)
   | (with_reducible exact ih1 _ _ _ _ _ _ _ _ _ _ _)
   | (with_reducible exact impl_placeCmp.mono _ _ _)
   | (with_reducible exact LeO.refl _)
   | (with_reducible exact LeO.none _)
   | (with_reducible refine LeO.ite ?_ ?_)
   | (with_reducible refine LeO.bind ?_ (fun _ => ?_))
   | exact ih0 _ _ _ _ _ _ _
   | exact ih1 _ _ _ _ _ _ _ _ _ _ _
   | exact impl_placeCmp.mono _ _ _
   | exact LeO.none _
   | refine LeO.ite ?_ ?_
   | refine LeO.bind ?_ (fun _ => ?_)
set_option maxHeartbeats 8000000 in
set_option maxRecDepth 100000 in
theorem impl_storeSet.calls (k : Nat) (A0 : Option Addr) (c0 : Nat) (l0 : List (S41)) (A1 : Option Addr) (c1 : Nat) (l1 : List (S68)) (A2 : Option Addr) (c2 : Nat) (l2 : List (S28)) (r : List (S41)) (w : World) (hr0 : Kd.C k41 w A0 l0.length l0) (hc0 : l0.length ≤ c0) (hr1 : Kd.C k68 w A1 l1.length l1) (hc1 : l1.length ≤ c1) (hr2 : Kd.C k28 w A2 l2.length l2) (hc2 : l2.length ≤ c2) (h : impl_storeSet.f k l0 l1 l2 = some r) :
  Calls Try.prog 57 #[.slice A0 l0.length c0, .slice A1 l1.length c1, .slice A2 l2.length c2] w fun e w' => ∃ v0_ : Value, e = .returned (v0_) ∧ Kd.S k41 41 w' w.heap.size (fun _ => True) v0_ r ∧ Below w.heap.size w w' := by
 have hu41 := Try.underlying41
 have HR0 := A_ hr0
 have HC0 := A_ hc0
 clear hr0 hc0
 have HR1 := A_ hr1
 have HC1 := A_ hc1
 clear hr1 hc1
 have HR2 := A_ hr2
 have HC2 := A_ hc2
 clear hr2 hc2
 have HB := A_ (Below.refl w.heap.size w)
 have H : (impl_storeSet.l0 k l1 l2 (([] : List (S41))) false l0 (l0.length : Int) 0) = some r := h
 clear h
 obtain ⟨y163, hy163⟩ : ∃ y_ : List (S41), y_ = (([] : List (S41))) := ⟨_, rfl⟩
 replace H : (impl_storeSet.l0 k l1 l2 y163 false l0 (l0.length : Int) 0) = some r := by first | (rw [hy163]; with_reducible exact H) | (have H2_ := (Option.bind_some _ _).symm.trans H; rw [hy163]; with_reducible exact H2_) | (have H2_ := (Option.bind_some _ _).symm.trans H; with_reducible exact H2_) | with_reducible exact H | (rw [hy163]; exact H) | exact H
 have Ny163 := A_ hy163
 clear hy163
 have H' := A_ H
 clear H
 go_enter Try.func57, Try.ntmps57
 go_wp2_with (first | ((with_reducible refine gate_dst (N := 12) rfl ?_); refine Kd.S_lit k41 _ 41 ?hg (N := 12) ?hd (xs := ([] : List (S41))) (inner := []) (ok := fun _ => True) (okp := fun _ => True) ?hr ?hp (fun _ hk => hk) trivial (Below.refl _ _) (Nat.le_refl _) (by simp) ?_; (case hd => rfl); (case hg => rfl); (case hr => exact Z28); (case hp => exact (Reps.none _ _)); intro v164 w4 ho5 hb hg_ hnew_; clear hg_ hnew_; (first | rw [← Ny163.out] at ho5 | (simp only [Int.reduceToNat] at ho5; rw [← Ny163.out] at ho5)); have n0_ := A_ (Kd.S_lower ho5 (below_size Z1)); have n1_ := A_ (below_step Z1 hb); clear HB; have HO165 := n0_; have HB := n1_; clear n0_ n1_; clear hb ho5))
 go_loopg [7, 8, 15] k (fun kq v7 v8 v15 w' => ∃ (x7_1 : List (S41)) (x8_1 : Bool) (x15_1 : Int), v8 = .bool x8_1 ∧ v15 = .int .i64 x15_1 ∧ Aside0 (impl_storeSet.l0 kq l1 l2 x7_1 x8_1 l0 (l0.length : Int) x15_1 = some r) ∧ Aside0 (kq ≤ k) ∧ Aside0 (Kd.S k41 41 w' w.heap.size (fun _ => True) v7 x7_1) ∧ Aside0 (Below w.heap.size w w'))
 case atStart => exact ⟨(y163), (false), (0), Z21, Z21, H', ⟨Nat.le_refl _⟩, ⟨Z29 HO165.out⟩, ⟨Z1⟩⟩
 case round =>
  clear H'
  try clear c1
  try clear c2
  try clear p2
  try clear c5
  obtain ⟨x7_1, x8_1, x15_1, rfl, rfl, HA, HK1, HO_7, HB⟩ := hrel
  cases gk with
  | zero => exact absurd HA.out (by simp [impl_storeSet.l0])
  | succ k1 =>
   have H := HA.out
   clear HA
   simp only [impl_storeSet.l0] at H
   by_cases c6 : x15_1 < (l0.length : Int)
   ·rw [if_pos c6] at H
    have c6b0 : decide (x15_1 < (l0.length : Int)) = true := decide_eq_true c6
    clear c6
    by_cases c7 : 0 ≤ x15_1
    ·rw [if_pos c7] at H
     have c7b0 : decide (0 ≤ x15_1) = true := decide_eq_true c7
     clear c7
     by_cases c8 : x15_1 < (l0.length : Int)
     ·rw [if_pos c8] at H
      have c8b0 : decide (x15_1 < (l0.length : Int)) = true := decide_eq_true c8
      clear c8
      replace H := Option.bind_eq_some_iff.mp H
      obtain ⟨t168, A90, H⟩ := H
      replace H : (if t168 ≤ 0 then (impl_storeSet.j1 k1 l1 l2 x7_1 x8_1 t168 l0 (l0.length : Int) x15_1 (!x8_1) ((rd_T41 l0 x15_1).f0) ((rd_T41 l0 x15_1).f1)) else (impl_storeSet.j1 k1 l1 l2 x7_1 x8_1 t168 l0 (l0.length : Int) x15_1 false ((rd_T41 l0 x15_1).f0) ((rd_T41 l0 x15_1).f1))) = some r := H
      have A9 := A_ A90
      clear A90
      have HC10 := A_ H
      clear H
      have p166 : 0 ≤ (x15_1 : Int) := of_decide_eq_true Z14
      have q166 : x15_1 < (l0.length : Int) := of_decide_eq_true Z14
      obtain ⟨ad166, A166_0, c166_0, A166_1, c166_1, e166, hx166_0, hx166_1, hl166_0, hi166_0, hl166_1, hi166_1⟩ := at_T41 HR0.out x15_1 p166 q166
      cases e166
      replace hx166_0 := ZC HB.out hx166_0
      replace hx166_1 := ZC HB.out hx166_1
      have HR166_0 := A_ hi166_0
      have HC166_0 := A_ hl166_0
      clear hi166_0 hl166_0
      have HR166_1 := A_ hi166_1
      have HC166_1 := A_ hl166_1
      clear hi166_1 hl166_1
      replace p166 := eq_true p166
      replace q166 := eq_true q166
      go_upto_region 7 with (first | ((with_reducible refine gate_dst (N := 10) rfl ?_); refine box_event ?hg (N := 10) ?hd (cs := #[.slice none 0 0, .slice none 0 0]) (t := 41) ?hr ?_; (case hd => rfl); (case hg => rfl); (case hr => exact Z28); intro gb167 hg w11 hbox hb; have n0_ := A_ (Kd.S_below (Kd.S_elderB (Z29 HO_7.out) gb167 (Nat.le_of_eq hg.symm)) hb); have n1_ := A_ (below_step Z1 hb); have n2_ := A_ (hbox); have n3_ := A_ ((by rw [hg]; exact (below_size Z1) : w.heap.size ≤ gb167)); have n4_ := A_ ((by rw [hg]; exact (below_size Z1) : w.heap.size ≤ gb167)); clear HO_7; clear HB; have HO_7 := n0_; have HB := n1_; have BK167 := n2_; have GW167 := n3_; have GE167 := n4_; clear n0_ n1_ n2_ n3_ n4_; clear hb hbox hg; have hcz12_0 : w11.cell? ⟨gb167, 0, none⟩ = some (.slice none 0 0) := (blk_cell BK167.out 0).trans rfl; have hcz12_1 : w11.cell? ⟨gb167, 1, none⟩ = some (.slice none 0 0) := (blk_cell BK167.out 1).trans rfl; have hfz12_0 := blk_frozen BK167.out 0; have hfz12_1 := blk_frozen BK167.out 1) | ((with_reducible refine gate_callee (f := 44) rfl ?_); refine goesL_ (some 22) rfl rfl Try.func44 (by kernel_rfl) rfl #[.slice A1 l1.length c1, .slice A166_0 ((rd_T41 l0 x15_1).f0).length c166_0] rfl Z3 ?_; (with_reducible refine (impl_placeCmp.calls k1 _ _ l1 _ _ ((rd_T41 l0 x15_1).f0) t168 _ ?side1 ?side2 ?side3 ?side4 A9.out).mono ?_); (case side1 => exact Kd.C_below HR1.out (Z2 GE167.out)); (case side2 => exact HC1.out); (case side3 => exact Kd.C_below HR166_0.out (Z2 GE167.out)); (case side4 => exact HC166_0.out); rintro e w13 ⟨rfl, hb⟩; refine ⟨_, rfl, ?_⟩; have n0_ := A_ (Kd.S_below (by (with_reducible repeat (first | apply Kd.S_alloc | apply Kd.S_drewN | apply Kd.S_drew)); exact (Kd.S_mono (Kd.S_far (p := ⟨gb167, 1, none⟩) (Kd.S_far (p := ⟨gb167, 0, none⟩) (Kd.S_mono HO_7.out (fun k_ hk => (⟨hk, hk.2⟩ : _ ∧ k_ ≠ gb167))) (fun _ hk => hk.2) (.slice A166_0 ((rd_T41 l0 x15_1).f0).length c166_0)) (fun _ hk => hk.2) (.slice A166_1 ((rd_T41 l0 x15_1).f1).length c166_1)) (fun _ h_ => h_.1))) hb); have n1_ := A_ (blk_below (g := gb167) (o := .cells #[.slice A166_0 ((rd_T41 l0 x15_1).f0).length c166_0, .slice A166_1 ((rd_T41 l0 x15_1).f1).length c166_1] 41 (0, 0)) (by (with_reducible repeat (first | refine blk_drewN ?_ _ | refine blk_drew ?_ | refine blk_alloc ?_ _)); refine blk_put (cs := #[.slice A166_0 ((rd_T41 l0 x15_1).f0).length c166_0, .slice none 0 0]) ?_ 1 _ rfl; (with_reducible repeat (first | refine blk_drewN ?_ _ | refine blk_drew ?_ | refine blk_alloc ?_ _)); refine blk_put (cs := #[.slice none 0 0, .slice none 0 0]) ?_ 0 _ rfl; (with_reducible repeat (first | refine blk_drewN ?_ _ | refine blk_drew ?_ | refine blk_alloc ?_ _)); exact BK167.out) hb); have n2_ := A_ (below_step (Z2 GE167.out) hb); clear HO_7; clear BK167; clear HB; have HO_7 := n0_; have BK167 := n1_; have HB := n2_; clear n0_ n1_ n2_; (try clear hb); (try clear hb2); (try clear hk); (try clear hi)))
      (try simp only [Act.put, List.setIfInBounds_toArray, List.set_cons_zero, List.set_cons_succ])
      go_cut [28] (fun v28 wc => ∃ (kq : Nat) (x28_9 : Bool), v28 = .bool x28_9 ∧ Aside0 (impl_storeSet.j1 kq l1 l2 x7_1 x8_1 t168 l0 (l0.length : Int) x15_1 x28_9 ((rd_T41 l0 x15_1).f0) ((rd_T41 l0 x15_1).f1) = some r) ∧ Aside0 (kq ≤ k1) ∧ Aside0 (Kd.S k41 41 wc w.heap.size (fun k_ => k_ ≠ gb167) u7 x7_1) ∧ Aside0 (wc.heap[gb167]? = some (.cells #[(.slice A166_0 ((rd_T41 l0 x15_1).f0).length c166_0), (.slice A166_1 ((rd_T41 l0 x15_1).f1).length c166_1)] 41 (0, 0))) ∧ Aside0 (Below w.heap.size w wc))
      case first =>
       have H := HC10.out
       clear HC10
       by_cases c14 : t168 ≤ 0
       ·rw [if_pos c14] at H
        have c14b0 : decide (t168 ≤ 0) = true := decide_eq_true c14
        clear c14
        (first | rw [c14b0] | (simp only [i64_w, i32_w]; rw [c14b0]) | skip)
        have H' := A_ H
        clear H
        go_wp2
        go_meet
        case rel => exact ⟨_, (!x8_1), Z21, H', ⟨by have := HK1.out; first | omega | exact Nat.le_refl _⟩, ⟨by (with_reducible repeat (first | apply Kd.S_alloc | apply Kd.S_drewN | apply Kd.S_drew)); exact Kd.S_mono HO_7.out (fun _ hk => hk.2)⟩, ⟨Z6 BK167.out⟩, ⟨Z2 GE167.out⟩⟩
       ·rw [if_neg c14] at H
        have c14b0 : decide (t168 ≤ 0) = false := decide_eq_false c14
        clear c14
        (first | rw [c14b0] | (simp only [i64_w, i32_w]; rw [c14b0]) | skip)
        have H' := A_ H
        clear H
        go_wp2
        go_meet
        case rel => exact ⟨_, (false), Z21, H', ⟨by have := HK1.out; first | omega | exact Nat.le_refl _⟩, ⟨by (with_reducible repeat (first | apply Kd.S_alloc | apply Kd.S_drewN | apply Kd.S_drew)); exact Kd.S_mono HO_7.out (fun _ hk => hk.2)⟩, ⟨Z6 BK167.out⟩, ⟨Z2 GE167.out⟩⟩
      case rest =>
       clear HC10
       try clear c1
       try clear p1
       try clear q1
       try clear hx1
       try clear c2
       try clear p2
       try clear c4
       try clear c5
       try clear c6
       try clear c6b0
       try clear c7
       try clear c7b0
       try clear c8
       try clear c8b0
       try clear c14
       try clear c14b0
       try clear hcz12_0
       try clear hcz12_1
       try clear hfz12_0
       try clear hfz12_1
       try clear hx166_0
       try clear hx166_1
       try clear p166
       try clear p2
       try clear q166
       obtain ⟨kq, x28_9, rfl, HA, HJ9, HO_7, BK167, HB⟩ := hcut
       cases kq with
       | zero => exact absurd HA.out (by simp [impl_storeSet.j1])
       | succ kj9 =>
        have H := HA.out
        clear HA
        simp only [impl_storeSet.j1] at H
        by_cases c15 : x28_9 = true
        ·subst c15
         have H1 : ((impl_placeCopy.f l1).bind fun t169 => ((impl_valsCopy.f l2).bind fun t172 => (if x7_1.length < 2932031007402 then ((some (x7_1 ++ [(⟨t169, t172⟩ : S41)] : List (S41))).bind fun y175 => (if t168 = 0 then (impl_storeSet.l0 kj9 l1 l2 y175 true l0 (l0.length : Int) (wrap64 (x15_1 + 1))) else ((impl_cellCopy.f ((rd_T41 l0 x15_1).f0) ((rd_T41 l0 x15_1).f1)).bind fun bt178 => (if y175.length < 2932031007402 then (impl_storeSet.l0 kj9 l1 l2 (y175 ++ [(⟨bt178.1, bt178.2⟩ : S41)]) true l0 (l0.length : Int) (wrap64 (x15_1 + 1))) else (none))))) else (none)))) = some r := by rw [if_pos rfl] at H; exact H
         clear H
         have H := H1
         clear H1
         replace H := Option.bind_eq_some_iff.mp H
         obtain ⟨t169, A160, H⟩ := H
         replace H : ((impl_valsCopy.f l2).bind fun t172 => (if x7_1.length < 2932031007402 then ((some (x7_1 ++ [(⟨t169, t172⟩ : S41)] : List (S41))).bind fun y175 => (if t168 = 0 then (impl_storeSet.l0 kj9 l1 l2 y175 true l0 (l0.length : Int) (wrap64 (x15_1 + 1))) else ((impl_cellCopy.f ((rd_T41 l0 x15_1).f0) ((rd_T41 l0 x15_1).f1)).bind fun bt178 => (if y175.length < 2932031007402 then (impl_storeSet.l0 kj9 l1 l2 (y175 ++ [(⟨bt178.1, bt178.2⟩ : S41)]) true l0 (l0.length : Int) (wrap64 (x15_1 + 1))) else (none))))) else (none))) = some r := H
         have A16 := A_ A160
         clear A160
         replace H := Option.bind_eq_some_iff.mp H
         obtain ⟨t172, A170, H⟩ := H
         replace H : (if x7_1.length < 2932031007402 then ((some (x7_1 ++ [(⟨t169, t172⟩ : S41)] : List (S41))).bind fun y175 => (if t168 = 0 then (impl_storeSet.l0 kj9 l1 l2 y175 true l0 (l0.length : Int) (wrap64 (x15_1 + 1))) else ((impl_cellCopy.f ((rd_T41 l0 x15_1).f0) ((rd_T41 l0 x15_1).f1)).bind fun bt178 => (if y175.length < 2932031007402 then (impl_storeSet.l0 kj9 l1 l2 (y175 ++ [(⟨bt178.1, bt178.2⟩ : S41)]) true l0 (l0.length : Int) (wrap64 (x15_1 + 1))) else (none))))) else (none)) = some r := H
         have A17 := A_ A170
         clear A170
         by_cases c18 : x7_1.length < 2932031007402
         ·rw [if_pos c18] at H
          have LMc18 := A_ c18
          clear c18
          obtain ⟨y175, hy175⟩ : ∃ y_ : List (S41), y_ = (x7_1 ++ [(⟨t169, t172⟩ : S41)]) := ⟨_, rfl⟩
          replace H : (if t168 = 0 then (impl_storeSet.l0 kj9 l1 l2 y175 true l0 (l0.length : Int) (wrap64 (x15_1 + 1))) else ((impl_cellCopy.f ((rd_T41 l0 x15_1).f0) ((rd_T41 l0 x15_1).f1)).bind fun bt178 => (if y175.length < 2932031007402 then (impl_storeSet.l0 kj9 l1 l2 (y175 ++ [(⟨bt178.1, bt178.2⟩ : S41)]) true l0 (l0.length : Int) (wrap64 (x15_1 + 1))) else (none)))) = some r := by first | (rw [hy175]; with_reducible exact H) | (have H2_ := (Option.bind_some _ _).symm.trans H; rw [hy175]; with_reducible exact H2_) | (have H2_ := (Option.bind_some _ _).symm.trans H; with_reducible exact H2_) | with_reducible exact H | (rw [hy175]; exact H) | exact H
          have Ny175 := A_ hy175
          clear hy175
          by_cases c19 : t168 = 0
          ·rw [if_pos c19] at H
           have c19b0 : (t168 == 0) = true := beq_iff_eq.mpr c19
           have c19b1 : (t168 != 0) = false := bne_eq_false_iff_eq.mpr c19
           clear c19
           have H' := A_ H
           clear H
           go_wp2_with (first | ((with_reducible refine gate_callee (f := 67) rfl ?_); refine goesL_ (some 31) rfl rfl Try.func67 (by kernel_rfl) rfl #[.slice A1 l1.length c1] rfl Z3 ?_; (with_reducible refine (impl_placeCopy.calls _ _ l1 t169 _ ?side1 ?side2 A16.out).mono ?_); (case side1 => exact Z5 HR1.out); (case side2 => exact HC1.out); rintro e w20 ⟨v170, rfl, ho0, hb⟩; refine ⟨_, rfl, ?_⟩; have n0_ := A_ (Kd.S_elder' (Z29 HO_7.out) (Kd.R_base ho0) hb); have n1_ := A_ (Kd.R_lower ho0 (below_size (Z2 GE167.out))); have n2_ := A_ (blk_below (g := gb167) (o := .cells #[.slice A166_0 ((rd_T41 l0 x15_1).f0).length c166_0, .slice A166_1 ((rd_T41 l0 x15_1).f1).length c166_1] 41 (0, 0)) (Z6 BK167.out) hb); have n3_ := A_ (below_step (Z2 GE167.out) hb); clear HO_7; clear BK167; clear HB; have HO_7 := n0_; have HO171 := n1_; have BK167 := n2_; have HB := n3_; clear n0_ n1_ n2_ n3_; (try clear hb); (try clear hb2); (try clear hk); (try clear hi); (try clear ho0)) | ((with_reducible refine gate_callee (f := 47) rfl ?_); refine goesL_ (some 33) rfl rfl Try.func47 (by kernel_rfl) rfl #[.slice A2 l2.length c2] rfl Z3 ?_; (with_reducible refine (impl_valsCopy.calls _ _ l2 t172 _ ?side1 ?side2 A17.out).mono ?_); (case side1 => exact Z5 HR2.out); (case side2 => exact HC2.out); rintro e w21 ⟨v173, rfl, ho0, hb⟩; refine ⟨_, rfl, ?_⟩; have n0_ := A_ (Kd.S_elder' (Z29 HO_7.out) (Kd.R_base ho0) hb); have n1_ := A_ (Kd.R_below (Z13 HO171.out) hb); have n2_ := A_ (Kd.R_lower ho0 (below_size (Z2 GE167.out))); have n3_ := A_ (blk_below (g := gb167) (o := .cells #[.slice A166_0 ((rd_T41 l0 x15_1).f0).length c166_0, .slice A166_1 ((rd_T41 l0 x15_1).f1).length c166_1] 41 (0, 0)) (Z6 BK167.out) hb); have n4_ := A_ (below_step (Z2 GE167.out) hb); clear HO_7; clear HO171; clear BK167; clear HB; have HO_7 := n0_; have HO171 := n1_; have HO174 := n2_; have BK167 := n3_; have HB := n4_; clear n0_ n1_ n2_ n3_ n4_; (try clear hb); (try clear hb2); (try clear hk); (try clear hi); (try clear ho0); obtain ⟨Ao22, co22, eo22⟩ := Kd.R_slice HO174.out; subst eo22; obtain ⟨Ao23, co23, eo23⟩ := Kd.R_slice HO171.out; subst eo23) | ((with_reducible refine gate_builtin (b := .append) (xs := #[.tmp 29, .tmp 35]) rfl ?_); at_builtin; refine Kd.S_append k41 (w0 := w) w.heap.size rfl (.tmp 29) (.tmp 35) 33 41 (.agg #[(.slice none 0 0), (.slice none 0 0)]) 48 rfl Try.underlying33 info41 rfl (by decide) (by omega) u7 x7_1 (⟨t169, t172⟩ : S41) [.slice Ao23 t169.length co23, .slice Ao22 t172.length co22] (fun k_ => k_ ≠ gb167) (fun k_ => some k_ = (.slice Ao23 t169.length co23 : Value).ownBlock ∨ some k_ = (.slice Ao22 t172.length co22 : Value).ownBlock) rfl rfl ?aP (fun k_ hk_ => hk_.elim (fun h_ => ((Kd.R_mono (ok' := fun k_ => ((fun k_ => k_ ≠ gb167)) k_ ∧ some k_ ≠ (u7 : Value).ownBlock) (Kd.R_types (Kd.R_apart' (HO171.out) (Kd.S_typed HO_7.out) (by decide)) BK167.out (by decide)) (fun k_ hk => ⟨hk.2, hk.1.2⟩))).1 k_ h_.symm) (fun h_ => ((Kd.R_mono (ok' := fun k_ => ((fun k_ => k_ ≠ gb167)) k_ ∧ some k_ ≠ (u7 : Value).ownBlock) (Kd.R_types (Kd.R_apart' (HO174.out) (Kd.S_typed HO_7.out) (by decide)) BK167.out (by decide)) (fun k_ hk => ⟨hk.2, hk.1.2⟩))).1 k_ h_.symm)) ?aF ?aO ?aB ?aS ?aL ?_; (case aP => exact k41_mkM _ _ _ (⟨t169, t172⟩ : S41) (Kd.R_mono (Kd.R_tight rfl (Kd.R_mono (ok' := fun k_ => ((fun k_ => k_ ≠ gb167)) k_ ∧ some k_ ≠ (u7 : Value).ownBlock) (Kd.R_types (Kd.R_apart' (HO171.out) (Kd.S_typed HO_7.out) (by decide)) BK167.out (by decide)) (fun k_ hk => ⟨hk.2, hk.1.2⟩))) (fun _ h_ => Or.inl h_)) (Kd.R_mono (Kd.R_tight rfl (Kd.R_mono (ok' := fun k_ => ((fun k_ => k_ ≠ gb167)) k_ ∧ some k_ ≠ (u7 : Value).ownBlock) (Kd.R_types (Kd.R_apart' (HO174.out) (Kd.S_typed HO_7.out) (by decide)) BK167.out (by decide)) (fun k_ hk => ⟨hk.2, hk.1.2⟩))) (fun _ h_ => Or.inr (h_)))); (case aB => exact (Z2 GE167.out)); (case aF => exact Z42 BK167.out); (case aO => exact Z39 HO_7.out); (case aS => exact (below_size (Z2 GE167.out))); (case aL => have := LMc18.out; omega); intro v176 w24 ho hb hg hat; rw [← Ny175.out] at ho; have n0_ := A_ (blk_grown (g := gb167) (o := .cells #[.slice A166_0 ((rd_T41 l0 x15_1).f0).length c166_0, .slice A166_1 ((rd_T41 l0 x15_1).f1).length c166_1] 41 (0, 0)) (Z6 BK167.out) hg (Kd.S_away HO_7.out (fun _ hk => hk.1.1))); have n1_ := A_ (hb); have n2_ := A_ (ho); clear BK167; clear HB; clear HO_7; clear HO171; clear HO174; have BK167 := n0_; have HB := n1_; have HO177 := n2_; clear n0_ n1_ n2_; clear ho hb hg hat))
           go_roundg kj9
           case measure => have := HK1.out; have := HJ9.out; omega
           case rel => exact ⟨(y175), (true), (wrap64 (x15_1 + 1)), Z21, Z21, H', ⟨by have := HK1.out; have := HJ9.out; omega⟩, ⟨by (with_reducible repeat (first | apply Kd.S_alloc | apply Kd.S_drewN | apply Kd.S_drew)); exact Kd.S_mono HO177.out (fun _ hk => trivial)⟩, ⟨Z2 GE167.out⟩⟩
          ·rw [if_neg c19] at H
           have c19b0 : (t168 == 0) = false := beq_eq_false_iff_ne.mpr c19
           have c19b1 : (t168 != 0) = true := bne_iff_ne.mpr c19
           replace H := Option.bind_eq_some_iff.mp H
           obtain ⟨⟨t178, t181⟩, A250, H⟩ := H
           replace H : (if y175.length < 2932031007402 then (impl_storeSet.l0 kj9 l1 l2 (y175 ++ [(⟨t178, t181⟩ : S41)]) true l0 (l0.length : Int) (wrap64 (x15_1 + 1))) else (none)) = some r := H
           have A25 := A_ A250
           clear A250
           by_cases c26 : y175.length < 2932031007402
           ·rw [if_pos c26] at H
            have LMc26 := A_ c26
            clear c26
            obtain ⟨y184, hy184⟩ : ∃ y_ : List (S41), y_ = (y175 ++ [(⟨t178, t181⟩ : S41)]) := ⟨_, rfl⟩
            replace H : (impl_storeSet.l0 kj9 l1 l2 y184 true l0 (l0.length : Int) (wrap64 (x15_1 + 1))) = some r := by first | (rw [hy184]; with_reducible exact H) | (have H2_ := (Option.bind_some _ _).symm.trans H; rw [hy184]; with_reducible exact H2_) | (have H2_ := (Option.bind_some _ _).symm.trans H; with_reducible exact H2_) | with_reducible exact H | (rw [hy184]; exact H) | exact H
            have Ny184 := A_ hy184
            clear hy184
            have H' := A_ H
            clear H
            go_wp2_with (first | ((with_reducible refine gate_callee (f := 67) rfl ?_); refine goesL_ (some 31) rfl rfl Try.func67 (by kernel_rfl) rfl #[.slice A1 l1.length c1] rfl Z3 ?_; (with_reducible refine (impl_placeCopy.calls _ _ l1 t169 _ ?side1 ?side2 A16.out).mono ?_); (case side1 => exact Z5 HR1.out); (case side2 => exact HC1.out); rintro e w27 ⟨v170, rfl, ho0, hb⟩; refine ⟨_, rfl, ?_⟩; have n0_ := A_ (Kd.S_elder' (Z29 HO_7.out) (Kd.R_base ho0) hb); have n1_ := A_ (Kd.R_lower ho0 (below_size (Z2 GE167.out))); have n2_ := A_ (blk_below (g := gb167) (o := .cells #[.slice A166_0 ((rd_T41 l0 x15_1).f0).length c166_0, .slice A166_1 ((rd_T41 l0 x15_1).f1).length c166_1] 41 (0, 0)) (Z6 BK167.out) hb); have n3_ := A_ (below_step (Z2 GE167.out) hb); clear HO_7; clear BK167; clear HB; have HO_7 := n0_; have HO171 := n1_; have BK167 := n2_; have HB := n3_; clear n0_ n1_ n2_ n3_; (try clear hb); (try clear hb2); (try clear hk); (try clear hi); (try clear ho0)) | ((with_reducible refine gate_callee (f := 47) rfl ?_); refine goesL_ (some 33) rfl rfl Try.func47 (by kernel_rfl) rfl #[.slice A2 l2.length c2] rfl Z3 ?_; (with_reducible refine (impl_valsCopy.calls _ _ l2 t172 _ ?side1 ?side2 A17.out).mono ?_); (case side1 => exact Z5 HR2.out); (case side2 => exact HC2.out); rintro e w28 ⟨v173, rfl, ho0, hb⟩; refine ⟨_, rfl, ?_⟩; have n0_ := A_ (Kd.S_elder' (Z29 HO_7.out) (Kd.R_base ho0) hb); have n1_ := A_ (Kd.R_below (Z13 HO171.out) hb); have n2_ := A_ (Kd.R_lower ho0 (below_size (Z2 GE167.out))); have n3_ := A_ (blk_below (g := gb167) (o := .cells #[.slice A166_0 ((rd_T41 l0 x15_1).f0).length c166_0, .slice A166_1 ((rd_T41 l0 x15_1).f1).length c166_1] 41 (0, 0)) (Z6 BK167.out) hb); have n4_ := A_ (below_step (Z2 GE167.out) hb); clear HO_7; clear HO171; clear BK167; clear HB; have HO_7 := n0_; have HO171 := n1_; have HO174 := n2_; have BK167 := n3_; have HB := n4_; clear n0_ n1_ n2_ n3_ n4_; (try clear hb); (try clear hb2); (try clear hk); (try clear hi); (try clear ho0); obtain ⟨Ao29, co29, eo29⟩ := Kd.R_slice HO174.out; subst eo29; obtain ⟨Ao30, co30, eo30⟩ := Kd.R_slice HO171.out; subst eo30) | ((with_reducible refine gate_builtin (b := .append) (xs := #[.tmp 29, .tmp 35]) rfl ?_); at_builtin; refine Kd.S_append k41 (w0 := w) w.heap.size rfl (.tmp 29) (.tmp 35) 33 41 (.agg #[(.slice none 0 0), (.slice none 0 0)]) 48 rfl Try.underlying33 info41 rfl (by decide) (by omega) u7 x7_1 (⟨t169, t172⟩ : S41) [.slice Ao30 t169.length co30, .slice Ao29 t172.length co29] (fun k_ => k_ ≠ gb167) (fun k_ => some k_ = (.slice Ao30 t169.length co30 : Value).ownBlock ∨ some k_ = (.slice Ao29 t172.length co29 : Value).ownBlock) rfl rfl ?aP (fun k_ hk_ => hk_.elim (fun h_ => ((Kd.R_mono (ok' := fun k_ => ((fun k_ => k_ ≠ gb167)) k_ ∧ some k_ ≠ (u7 : Value).ownBlock) (Kd.R_types (Kd.R_apart' (HO171.out) (Kd.S_typed HO_7.out) (by decide)) BK167.out (by decide)) (fun k_ hk => ⟨hk.2, hk.1.2⟩))).1 k_ h_.symm) (fun h_ => ((Kd.R_mono (ok' := fun k_ => ((fun k_ => k_ ≠ gb167)) k_ ∧ some k_ ≠ (u7 : Value).ownBlock) (Kd.R_types (Kd.R_apart' (HO174.out) (Kd.S_typed HO_7.out) (by decide)) BK167.out (by decide)) (fun k_ hk => ⟨hk.2, hk.1.2⟩))).1 k_ h_.symm)) ?aF ?aO ?aB ?aS ?aL ?_; (case aP => exact k41_mkM _ _ _ (⟨t169, t172⟩ : S41) (Kd.R_mono (Kd.R_tight rfl (Kd.R_mono (ok' := fun k_ => ((fun k_ => k_ ≠ gb167)) k_ ∧ some k_ ≠ (u7 : Value).ownBlock) (Kd.R_types (Kd.R_apart' (HO171.out) (Kd.S_typed HO_7.out) (by decide)) BK167.out (by decide)) (fun k_ hk => ⟨hk.2, hk.1.2⟩))) (fun _ h_ => Or.inl h_)) (Kd.R_mono (Kd.R_tight rfl (Kd.R_mono (ok' := fun k_ => ((fun k_ => k_ ≠ gb167)) k_ ∧ some k_ ≠ (u7 : Value).ownBlock) (Kd.R_types (Kd.R_apart' (HO174.out) (Kd.S_typed HO_7.out) (by decide)) BK167.out (by decide)) (fun k_ hk => ⟨hk.2, hk.1.2⟩))) (fun _ h_ => Or.inr (h_)))); (case aB => exact (Z2 GE167.out)); (case aF => exact Z42 BK167.out); (case aO => exact Z39 HO_7.out); (case aS => exact (below_size (Z2 GE167.out))); (case aL => have := LMc18.out; omega); intro v176 w31 ho hb hg hat; rw [← Ny175.out] at ho; have n0_ := A_ (blk_grown (g := gb167) (o := .cells #[.slice A166_0 ((rd_T41 l0 x15_1).f0).length c166_0, .slice A166_1 ((rd_T41 l0 x15_1).f1).length c166_1] 41 (0, 0)) (Z6 BK167.out) hg (Kd.S_away HO_7.out (fun _ hk => hk.1.1))); have n1_ := A_ (hb); have n2_ := A_ (ho); clear BK167; clear HB; clear HO_7; clear HO171; clear HO174; have BK167 := n0_; have HB := n1_; have HO177 := n2_; clear n0_ n1_ n2_; clear ho hb hg hat; have hcz32_0 : w31.cell? ⟨gb167, 0, none⟩ = some (.slice A166_0 ((rd_T41 l0 x15_1).f0).length c166_0) := (blk_cell BK167.out 0).trans rfl; have hcz32_1 : w31.cell? ⟨gb167, 1, none⟩ = some (.slice A166_1 ((rd_T41 l0 x15_1).f1).length c166_1) := (blk_cell BK167.out 1).trans rfl; have hfz32_0 := blk_frozen BK167.out 0; have hfz32_1 := blk_frozen BK167.out 1) | ((with_reducible refine gate_callee (f := 50) rfl ?_); refine goesL_ (some 41) rfl rfl Try.func50 (by kernel_rfl) rfl #[.agg #[.slice A166_0 ((rd_T41 l0 x15_1).f0).length c166_0, .slice A166_1 ((rd_T41 l0 x15_1).f1).length c166_1]] rfl Z3 ?_; (with_reducible refine (impl_cellCopy.calls _ _ ((rd_T41 l0 x15_1).f0) _ _ ((rd_T41 l0 x15_1).f1) t178 t181 _ ?side1 ?side2 ?side3 ?side4 A25.out).mono ?_); (case side1 => exact Z5 HR166_0.out); (case side2 => exact HC166_0.out); (case side3 => exact Z5 HR166_1.out); (case side4 => exact HC166_1.out); rintro e w33 ⟨v179, v182, rfl, ho0, ho1, hb⟩; refine ⟨_, rfl, ?_⟩; have n0_ := A_ (Kd.S_mono (Kd.S_told (Kd.S_told (Kd.S_old (Z29 HO177.out) hb) (Kd.R_base ho0)) (Kd.R_base ho1)) (fun _ h_ => h_.1)); have n1_ := A_ (Kd.R_lower ho0 (below_size (Z2 GE167.out))); have n2_ := A_ (Kd.R_lower ho1 (below_size (Z2 GE167.out))); have n3_ := A_ (blk_below (g := gb167) (o := .cells #[.slice A166_0 ((rd_T41 l0 x15_1).f0).length c166_0, .slice A166_1 ((rd_T41 l0 x15_1).f1).length c166_1] 41 (0, 0)) (Z6 BK167.out) hb); have n4_ := A_ (below_step (Z2 GE167.out) hb); clear HO177; clear BK167; clear HB; have HO177 := n0_; have HO180 := n1_; have HO183 := n2_; have BK167 := n3_; have HB := n4_; clear n0_ n1_ n2_ n3_ n4_; (try clear hb); (try clear hb2); (try clear hk); (try clear hi); (try clear ho0); (try clear ho1); obtain ⟨Ao35, co35, eo35⟩ := Kd.R_slice HO180.out; subst eo35; obtain ⟨Ao36, co36, eo36⟩ := Kd.R_slice HO183.out; subst eo36) | ((with_reducible refine gate_builtin (b := .append) (xs := #[.tmp 39, .tmp 42]) rfl ?_); at_builtin; refine Kd.S_append k41 (w0 := w) w.heap.size rfl (.tmp 39) (.tmp 42) 33 41 (.agg #[(.slice none 0 0), (.slice none 0 0)]) 48 rfl Try.underlying33 info41 rfl (by decide) (by omega) v176 y175 (⟨t178, t181⟩ : S41) [.slice Ao35 t178.length co35, .slice Ao36 t181.length co36] (fun k_ => k_ ≠ gb167) (fun k_ => some k_ = (.slice Ao35 t178.length co35 : Value).ownBlock ∨ some k_ = (.slice Ao36 t181.length co36 : Value).ownBlock) rfl rfl ?aP (fun k_ hk_ => hk_.elim (fun h_ => ((Kd.R_mono (ok' := fun k_ => ((fun k_ => k_ ≠ gb167)) k_ ∧ some k_ ≠ (v176 : Value).ownBlock) (Kd.R_types (Kd.R_apart' (HO180.out) (Kd.S_typed HO177.out) (by decide)) BK167.out (by decide)) (fun k_ hk => ⟨hk.2, hk.1.2⟩))).1 k_ h_.symm) (fun h_ => ((Kd.R_mono (ok' := fun k_ => ((fun k_ => k_ ≠ gb167)) k_ ∧ some k_ ≠ (v176 : Value).ownBlock) (Kd.R_types (Kd.R_apart' (HO183.out) (Kd.S_typed HO177.out) (by decide)) BK167.out (by decide)) (fun k_ hk => ⟨hk.2, hk.1.2⟩))).1 k_ h_.symm)) ?aF ?aO ?aB ?aS ?aL ?_; (case aP => exact k41_mkM _ _ _ (⟨t178, t181⟩ : S41) (Kd.R_mono (Kd.R_tight rfl (Kd.R_mono (ok' := fun k_ => ((fun k_ => k_ ≠ gb167)) k_ ∧ some k_ ≠ (v176 : Value).ownBlock) (Kd.R_types (Kd.R_apart' (HO180.out) (Kd.S_typed HO177.out) (by decide)) BK167.out (by decide)) (fun k_ hk => ⟨hk.2, hk.1.2⟩))) (fun _ h_ => Or.inl h_)) (Kd.R_mono (Kd.R_tight rfl (Kd.R_mono (ok' := fun k_ => ((fun k_ => k_ ≠ gb167)) k_ ∧ some k_ ≠ (v176 : Value).ownBlock) (Kd.R_types (Kd.R_apart' (HO183.out) (Kd.S_typed HO177.out) (by decide)) BK167.out (by decide)) (fun k_ hk => ⟨hk.2, hk.1.2⟩))) (fun _ h_ => Or.inr (h_)))); (case aB => exact (Z2 GE167.out)); (case aF => exact Z42 BK167.out); (case aO => exact Z39 HO177.out); (case aS => exact (below_size (Z2 GE167.out))); (case aL => have := LMc26.out; omega); intro v185 w34 ho hb hg hat; rw [← Ny184.out] at ho; have n0_ := A_ (blk_grown (g := gb167) (o := .cells #[.slice A166_0 ((rd_T41 l0 x15_1).f0).length c166_0, .slice A166_1 ((rd_T41 l0 x15_1).f1).length c166_1] 41 (0, 0)) (Z6 BK167.out) hg (Kd.S_away HO177.out (fun _ hk => hk.1.1))); have n1_ := A_ (hb); have n2_ := A_ (ho); clear BK167; clear HB; clear HO177; clear HO180; clear HO183; have BK167 := n0_; have HB := n1_; have HO186 := n2_; clear n0_ n1_ n2_; clear ho hb hg hat))
            go_roundg kj9
            case measure => have := HK1.out; have := HJ9.out; omega
            case rel => exact ⟨(y184), (true), (wrap64 (x15_1 + 1)), Z21, Z21, H', ⟨by have := HK1.out; have := HJ9.out; omega⟩, ⟨by (with_reducible repeat (first | apply Kd.S_alloc | apply Kd.S_drewN | apply Kd.S_drew)); exact Kd.S_mono HO186.out (fun _ hk => trivial)⟩, ⟨Z2 GE167.out⟩⟩
           ·rw [if_neg c26] at H
            exact absurd H (by simp)
         ·rw [if_neg c18] at H
          exact absurd H (by simp)
        ·replace c15 := Bool.eq_false_iff.mpr c15
         subst c15
         have H1 : ((impl_cellCopy.f ((rd_T41 l0 x15_1).f0) ((rd_T41 l0 x15_1).f1)).bind fun bt187 => (if x7_1.length < 2932031007402 then (impl_storeSet.l0 kj9 l1 l2 (x7_1 ++ [(⟨bt187.1, bt187.2⟩ : S41)]) x8_1 l0 (l0.length : Int) (wrap64 (x15_1 + 1))) else (none))) = some r := by rw [if_neg (show ¬ (false = true) by decide)] at H; exact H
         clear H
         have H := H1
         clear H1
         replace H := Option.bind_eq_some_iff.mp H
         obtain ⟨⟨t187, t190⟩, A370, H⟩ := H
         replace H : (if x7_1.length < 2932031007402 then (impl_storeSet.l0 kj9 l1 l2 (x7_1 ++ [(⟨t187, t190⟩ : S41)]) x8_1 l0 (l0.length : Int) (wrap64 (x15_1 + 1))) else (none)) = some r := H
         have A37 := A_ A370
         clear A370
         by_cases c38 : x7_1.length < 2932031007402
         ·rw [if_pos c38] at H
          have LMc38 := A_ c38
          clear c38
          obtain ⟨y193, hy193⟩ : ∃ y_ : List (S41), y_ = (x7_1 ++ [(⟨t187, t190⟩ : S41)]) := ⟨_, rfl⟩
          replace H : (impl_storeSet.l0 kj9 l1 l2 y193 x8_1 l0 (l0.length : Int) (wrap64 (x15_1 + 1))) = some r := by first | (rw [hy193]; with_reducible exact H) | (have H2_ := (Option.bind_some _ _).symm.trans H; rw [hy193]; with_reducible exact H2_) | (have H2_ := (Option.bind_some _ _).symm.trans H; with_reducible exact H2_) | with_reducible exact H | (rw [hy193]; exact H) | exact H
          have Ny193 := A_ hy193
          clear hy193
          have H' := A_ H
          clear H
          have hcz39_0 : wc.cell? ⟨gb167, 0, none⟩ = some (.slice A166_0 ((rd_T41 l0 x15_1).f0).length c166_0) := (blk_cell BK167.out 0).trans rfl
          have hcz39_1 : wc.cell? ⟨gb167, 1, none⟩ = some (.slice A166_1 ((rd_T41 l0 x15_1).f1).length c166_1) := (blk_cell BK167.out 1).trans rfl
          have hfz39_0 := blk_frozen BK167.out 0
          have hfz39_1 := blk_frozen BK167.out 1
          go_wp2_with (first | ((with_reducible refine gate_callee (f := 50) rfl ?_); refine goesL_ (some 41) rfl rfl Try.func50 (by kernel_rfl) rfl #[.agg #[.slice A166_0 ((rd_T41 l0 x15_1).f0).length c166_0, .slice A166_1 ((rd_T41 l0 x15_1).f1).length c166_1]] rfl Z3 ?_; (with_reducible refine (impl_cellCopy.calls _ _ ((rd_T41 l0 x15_1).f0) _ _ ((rd_T41 l0 x15_1).f1) t187 t190 _ ?side1 ?side2 ?side3 ?side4 A37.out).mono ?_); (case side1 => exact Z5 HR166_0.out); (case side2 => exact HC166_0.out); (case side3 => exact Z5 HR166_1.out); (case side4 => exact HC166_1.out); rintro e w40 ⟨v188, v191, rfl, ho0, ho1, hb⟩; refine ⟨_, rfl, ?_⟩; have n0_ := A_ (Kd.S_mono (Kd.S_told (Kd.S_told (Kd.S_old (Z29 HO_7.out) hb) (Kd.R_base ho0)) (Kd.R_base ho1)) (fun _ h_ => h_.1)); have n1_ := A_ (Kd.R_lower ho0 (below_size (Z2 GE167.out))); have n2_ := A_ (Kd.R_lower ho1 (below_size (Z2 GE167.out))); have n3_ := A_ (blk_below (g := gb167) (o := .cells #[.slice A166_0 ((rd_T41 l0 x15_1).f0).length c166_0, .slice A166_1 ((rd_T41 l0 x15_1).f1).length c166_1] 41 (0, 0)) (Z6 BK167.out) hb); have n4_ := A_ (below_step (Z2 GE167.out) hb); clear HO_7; clear BK167; clear HB; have HO_7 := n0_; have HO189 := n1_; have HO192 := n2_; have BK167 := n3_; have HB := n4_; clear n0_ n1_ n2_ n3_ n4_; (try clear hb); (try clear hb2); (try clear hk); (try clear hi); (try clear ho0); (try clear ho1); obtain ⟨Ao42, co42, eo42⟩ := Kd.R_slice HO189.out; subst eo42; obtain ⟨Ao43, co43, eo43⟩ := Kd.R_slice HO192.out; subst eo43) | ((with_reducible refine gate_builtin (b := .append) (xs := #[.tmp 39, .tmp 42]) rfl ?_); at_builtin; refine Kd.S_append k41 (w0 := w) w.heap.size rfl (.tmp 39) (.tmp 42) 33 41 (.agg #[(.slice none 0 0), (.slice none 0 0)]) 48 rfl Try.underlying33 info41 rfl (by decide) (by omega) u7 x7_1 (⟨t187, t190⟩ : S41) [.slice Ao42 t187.length co42, .slice Ao43 t190.length co43] (fun k_ => k_ ≠ gb167) (fun k_ => some k_ = (.slice Ao42 t187.length co42 : Value).ownBlock ∨ some k_ = (.slice Ao43 t190.length co43 : Value).ownBlock) rfl rfl ?aP (fun k_ hk_ => hk_.elim (fun h_ => ((Kd.R_mono (ok' := fun k_ => ((fun k_ => k_ ≠ gb167)) k_ ∧ some k_ ≠ (u7 : Value).ownBlock) (Kd.R_types (Kd.R_apart' (HO189.out) (Kd.S_typed HO_7.out) (by decide)) BK167.out (by decide)) (fun k_ hk => ⟨hk.2, hk.1.2⟩))).1 k_ h_.symm) (fun h_ => ((Kd.R_mono (ok' := fun k_ => ((fun k_ => k_ ≠ gb167)) k_ ∧ some k_ ≠ (u7 : Value).ownBlock) (Kd.R_types (Kd.R_apart' (HO192.out) (Kd.S_typed HO_7.out) (by decide)) BK167.out (by decide)) (fun k_ hk => ⟨hk.2, hk.1.2⟩))).1 k_ h_.symm)) ?aF ?aO ?aB ?aS ?aL ?_; (case aP => exact k41_mkM _ _ _ (⟨t187, t190⟩ : S41) (Kd.R_mono (Kd.R_tight rfl (Kd.R_mono (ok' := fun k_ => ((fun k_ => k_ ≠ gb167)) k_ ∧ some k_ ≠ (u7 : Value).ownBlock) (Kd.R_types (Kd.R_apart' (HO189.out) (Kd.S_typed HO_7.out) (by decide)) BK167.out (by decide)) (fun k_ hk => ⟨hk.2, hk.1.2⟩))) (fun _ h_ => Or.inl h_)) (Kd.R_mono (Kd.R_tight rfl (Kd.R_mono (ok' := fun k_ => ((fun k_ => k_ ≠ gb167)) k_ ∧ some k_ ≠ (u7 : Value).ownBlock) (Kd.R_types (Kd.R_apart' (HO192.out) (Kd.S_typed HO_7.out) (by decide)) BK167.out (by decide)) (fun k_ hk => ⟨hk.2, hk.1.2⟩))) (fun _ h_ => Or.inr (h_)))); (case aB => exact (Z2 GE167.out)); (case aF => exact Z42 BK167.out); (case aO => exact Z39 HO_7.out); (case aS => exact (below_size (Z2 GE167.out))); (case aL => have := LMc38.out; omega); intro v194 w41 ho hb hg hat; rw [← Ny193.out] at ho; have n0_ := A_ (blk_grown (g := gb167) (o := .cells #[.slice A166_0 ((rd_T41 l0 x15_1).f0).length c166_0, .slice A166_1 ((rd_T41 l0 x15_1).f1).length c166_1] 41 (0, 0)) (Z6 BK167.out) hg (Kd.S_away HO_7.out (fun _ hk => hk.1.1))); have n1_ := A_ (hb); have n2_ := A_ (ho); clear BK167; clear HB; clear HO_7; clear HO189; clear HO192; have BK167 := n0_; have HB := n1_; have HO195 := n2_; clear n0_ n1_ n2_; clear ho hb hg hat))
          go_roundg kj9
          case measure => have := HK1.out; have := HJ9.out; omega
          case rel => exact ⟨(y193), (x8_1), (wrap64 (x15_1 + 1)), Z21, Z21, H', ⟨by have := HK1.out; have := HJ9.out; omega⟩, ⟨by (with_reducible repeat (first | apply Kd.S_alloc | apply Kd.S_drewN | apply Kd.S_drew)); exact Kd.S_mono HO195.out (fun _ hk => trivial)⟩, ⟨Z2 GE167.out⟩⟩
         ·rw [if_neg c38] at H
          exact absurd H (by simp)
     ·rw [if_neg c8] at H
      exact absurd H (by simp)
    ·rw [if_neg c7] at H
     exact absurd H (by simp)
   ·rw [if_neg c6] at H
    have c6b0 : decide (x15_1 < (l0.length : Int)) = false := decide_eq_false c6
    clear c6
    by_cases c44 : x8_1 = true
    ·subst c44
     have H1 : (some x7_1) = some r := by rw [if_pos rfl] at H; exact H
     clear H
     have H := H1
     clear H1
     obtain rfl := Option.some.inj H
     go_wp2
     go_ret
     exact ⟨_, Z16, Z29 HO_7.out, Z1⟩
    ·replace c44 := Bool.eq_false_iff.mpr c44
     subst c44
     have H1 : ((impl_placeCopy.f l1).bind fun t196 => ((impl_valsCopy.f l2).bind fun t199 => (if x7_1.length < 2932031007402 then (some (x7_1 ++ [(⟨t196, t199⟩ : S41)])) else (none)))) = some r := by rw [if_neg (show ¬ (false = true) by decide)] at H; exact H
     clear H
     have H := H1
     clear H1
     replace H := Option.bind_eq_some_iff.mp H
     obtain ⟨t196, A450, H⟩ := H
     replace H : ((impl_valsCopy.f l2).bind fun t199 => (if x7_1.length < 2932031007402 then (some (x7_1 ++ [(⟨t196, t199⟩ : S41)])) else (none))) = some r := H
     have A45 := A_ A450
     clear A450
     replace H := Option.bind_eq_some_iff.mp H
     obtain ⟨t199, A460, H⟩ := H
     replace H : (if x7_1.length < 2932031007402 then (some (x7_1 ++ [(⟨t196, t199⟩ : S41)])) else (none)) = some r := H
     have A46 := A_ A460
     clear A460
     by_cases c47 : x7_1.length < 2932031007402
     ·rw [if_pos c47] at H
      have LMc47 := A_ c47
      clear c47
      obtain ⟨y202, hy202⟩ : ∃ y_ : List (S41), y_ = (x7_1 ++ [(⟨t196, t199⟩ : S41)]) := ⟨_, rfl⟩
      replace H : (some y202) = some r := by first | (rw [hy202]; with_reducible exact H) | (have H2_ := (Option.bind_some _ _).symm.trans H; rw [hy202]; with_reducible exact H2_) | (have H2_ := (Option.bind_some _ _).symm.trans H; with_reducible exact H2_) | with_reducible exact H | (rw [hy202]; exact H) | exact H
      have Ny202 := A_ hy202
      clear hy202
      obtain rfl := Option.some.inj H
      go_wp2_with (first | ((with_reducible refine gate_callee (f := 67) rfl ?_); refine goesL_ (some 49) rfl rfl Try.func67 (by kernel_rfl) rfl #[.slice A1 l1.length c1] rfl Z3 ?_; (with_reducible refine (impl_placeCopy.calls _ _ l1 t196 _ ?side1 ?side2 A45.out).mono ?_); (case side1 => exact Z5 HR1.out); (case side2 => exact HC1.out); rintro e w48 ⟨v197, rfl, ho0, hb⟩; refine ⟨_, rfl, ?_⟩; have n0_ := A_ (Kd.S_elder' (Z29 HO_7.out) (Kd.R_base ho0) hb); have n1_ := A_ (Kd.R_lower ho0 (below_size Z1)); have n2_ := A_ (below_step Z1 hb); clear HO_7; clear HB; have HO_7 := n0_; have HO198 := n1_; have HB := n2_; clear n0_ n1_ n2_; (try clear hb); (try clear hb2); (try clear hk); (try clear hi); (try clear ho0)) | ((with_reducible refine gate_callee (f := 47) rfl ?_); refine goesL_ (some 51) rfl rfl Try.func47 (by kernel_rfl) rfl #[.slice A2 l2.length c2] rfl Z3 ?_; (with_reducible refine (impl_valsCopy.calls _ _ l2 t199 _ ?side1 ?side2 A46.out).mono ?_); (case side1 => exact Z5 HR2.out); (case side2 => exact HC2.out); rintro e w49 ⟨v200, rfl, ho0, hb⟩; refine ⟨_, rfl, ?_⟩; have n0_ := A_ (Kd.S_elder' (Z29 HO_7.out) (Kd.R_base ho0) hb); have n1_ := A_ (Kd.R_below (Z13 HO198.out) hb); have n2_ := A_ (Kd.R_lower ho0 (below_size Z1)); have n3_ := A_ (below_step Z1 hb); clear HO_7; clear HO198; clear HB; have HO_7 := n0_; have HO198 := n1_; have HO201 := n2_; have HB := n3_; clear n0_ n1_ n2_ n3_; (try clear hb); (try clear hb2); (try clear hk); (try clear hi); (try clear ho0); obtain ⟨Ao50, co50, eo50⟩ := Kd.R_slice HO201.out; subst eo50; obtain ⟨Ao51, co51, eo51⟩ := Kd.R_slice HO198.out; subst eo51) | ((with_reducible refine gate_builtin (b := .append) (xs := #[.tmp 47, .tmp 53]) rfl ?_); at_builtin; refine Kd.S_append k41 (w0 := w) w.heap.size rfl (.tmp 47) (.tmp 53) 33 41 (.agg #[(.slice none 0 0), (.slice none 0 0)]) 48 rfl Try.underlying33 info41 rfl (by decide) (by omega) u7 x7_1 (⟨t196, t199⟩ : S41) [.slice Ao51 t196.length co51, .slice Ao50 t199.length co50] (fun _ => True) (fun k_ => some k_ = (.slice Ao51 t196.length co51 : Value).ownBlock ∨ some k_ = (.slice Ao50 t199.length co50 : Value).ownBlock) rfl rfl ?aP (fun k_ hk_ => hk_.elim (fun h_ => ((Kd.R_mono (ok' := fun k_ => ((fun _ => True)) k_ ∧ some k_ ≠ (u7 : Value).ownBlock) (Kd.R_apart' (HO198.out) (Kd.S_typed HO_7.out) (by decide)) (fun k_ hk => ⟨trivial, hk.2⟩))).1 k_ h_.symm) (fun h_ => ((Kd.R_mono (ok' := fun k_ => ((fun _ => True)) k_ ∧ some k_ ≠ (u7 : Value).ownBlock) (Kd.R_apart' (HO201.out) (Kd.S_typed HO_7.out) (by decide)) (fun k_ hk => ⟨trivial, hk.2⟩))).1 k_ h_.symm)) ?aF ?aO ?aB ?aS ?aL ?_; (case aP => exact k41_mkM _ _ _ (⟨t196, t199⟩ : S41) (Kd.R_mono (Kd.R_tight rfl (Kd.R_mono (ok' := fun k_ => ((fun _ => True)) k_ ∧ some k_ ≠ (u7 : Value).ownBlock) (Kd.R_apart' (HO198.out) (Kd.S_typed HO_7.out) (by decide)) (fun k_ hk => ⟨trivial, hk.2⟩))) (fun _ h_ => Or.inl h_)) (Kd.R_mono (Kd.R_tight rfl (Kd.R_mono (ok' := fun k_ => ((fun _ => True)) k_ ∧ some k_ ≠ (u7 : Value).ownBlock) (Kd.R_apart' (HO201.out) (Kd.S_typed HO_7.out) (by decide)) (fun k_ hk => ⟨trivial, hk.2⟩))) (fun _ h_ => Or.inr (h_)))); (case aB => exact Z1); (case aF => exact (fun _ _ => trivial)); (case aO => exact (by (with_reducible repeat (first | apply Kd.S_alloc | apply Kd.S_drewN | apply Kd.S_drew)); exact Kd.S_mono HO_7.out (fun k_ hk => ⟨trivial, fun e_ => e_.elim (fun h_ => hk.1.2 h_) (fun h_ => hk.2 h_)⟩))); (case aS => exact (below_size Z1)); (case aL => have := LMc47.out; omega); intro v203 w52 ho hb hg hat; rw [← Ny202.out] at ho; have n0_ := A_ (hb); have n1_ := A_ (ho); clear HB; clear HO_7; clear HO198; clear HO201; have HB := n0_; have HO204 := n1_; clear n0_ n1_; clear ho hb hg hat))
      go_ret
      exact ⟨_, Z16, Z29 HO204.out, Z1⟩
     ·rw [if_neg c47] at H
      exact absurd H (by simp)
def impl_StorePut.j0 : Nat → List (S41) → List (S68) → List (S28) → Bool → Option ((List (S41)) × Bool)
 | 0, _, _, _, _ => none
 | k + 1, x0, x1, x2, x26 => if x26 = true then (some (([] : List (S41)), false)) else ((impl_storeSet.f k x0 x1 x2).bind fun t208 => (if (t208.length : Int) > 200 then (some (([] : List (S41)), false)) else (some (t208, true))))
def impl_StorePut.f (k : Nat) (l0 : List (S41)) (l1 : List (S68)) (l2 : List (S28)) : Option ((List (S41)) × Bool) := (impl_StoreOk.f k l0).bind fun t205 => (if t205 = true then ((impl_PlaceOk.f k l1).bind fun t206 => (if t206 = true then (if (l2.length : Int) > 3 then (impl_StorePut.j0 k l0 l1 l2 true) else ((impl_valsOk.f k l2).bind fun t207 => (impl_StorePut.j0 k l0 l1 l2 (!t207)))) else (impl_StorePut.j0 k l0 l1 l2 true))) else (impl_StorePut.j0 k l0 l1 l2 true))
theorem impl_StorePut.mono_l : ∀ k, (∀ y0 y1 y2 y3, LeO (impl_StorePut.j0 k y0 y1 y2 y3) (impl_StorePut.j0 (k + 1) y0 y1 y2 y3))
 | 0 => fun _ _ _ _ r h => by simp [impl_StorePut.j0] at h
 | k + 1 => by
  have ih0 := impl_StorePut.mono_l k
  ·intro y0 y1 y2 y3
   unfold impl_StorePut.j0
   repeat' first
   | (with_reducible exact ih0 _ _ _ _)
   | (with_reducible exact impl_PlaceOk.mono _ _)
   | (with_reducible exact impl_StoreOk.mono _ _)
   | (with_reducible exact impl_storeSet.mono _ _ _ _)
   | (with_reducible exact impl_valsOk.mono _ _)
   | (with_reducible exact LeO.refl _)
   | (with_reducible exact LeO.none _)
   | (with_reducible refine LeO.ite ?_ ?_)
   | (with_reducible refine LeO.bind ?_ (fun _ => ?_))
   | exact ih0 _ _ _ _
   | exact impl_PlaceOk.mono _ _
   | exact impl_StoreOk.mono _ _
   | exact impl_storeSet.mono _ _ _ _
   | exact impl_valsOk.mono _ _
   | exact LeO.none _
   | refine LeO.ite ?_ ?_
   | refine LeO.bind ?_ (fun _ => ?_)
theorem impl_StorePut.mono : ∀ a0 a1 a2 k, LeO (impl_StorePut.f k a0 a1 a2) (impl_StorePut.f (k + 1) a0 a1 a2) := by
 intro a0 a1 a2 k
 have ih0 := impl_StorePut.mono_l k
 unfold impl_StorePut.f
 repeat' first
   | (with_reducible exact ih0 _ _ _ _)
   | (with_reducible exact impl_PlaceOk.mono _ _)
   | (with_reducible exact impl_StoreOk.mono _ _)
   | (with_reducible exact impl_storeSet.mono _ _ _ _)
   | (with_reducible exact impl_valsOk.mono _ _)
   | (with_reducible exact LeO.refl _)
   | (with_reducible exact LeO.none _)
   | (with_reducible refine LeO.ite ?_ ?_)
   | (with_reducible refine LeO.bind ?_ (fun _ => ?_))
   | exact ih0 _ _ _ _
   | exact impl_PlaceOk.mono _ _
   | exact impl_StoreOk.mono _ _
   | exact impl_storeSet.mono _ _ _ _
   | exact impl_valsOk.mono _ _
   | exact LeO.none _
   | refine LeO.ite ?_ ?_
   | refine LeO.bind ?_ (fun _ => ?_)
set_option maxHeartbeats 8000000 in
set_option maxRecDepth 100000 in
theorem impl_StorePut.calls (k : Nat) (A0 : Option Addr) (c0 : Nat) (l0 : List (S41)) (A1 : Option Addr) (c1 : Nat) (l1 : List (S68)) (A2 : Option Addr) (c2 : Nat) (l2 : List (S28)) (r1 : List (S41)) (r2 : Bool) (w : World) (hr0 : Kd.C k41 w A0 l0.length l0) (hc0 : l0.length ≤ c0) (hr1 : Kd.C k68 w A1 l1.length l1) (hc1 : l1.length ≤ c1) (hr2 : Kd.C k28 w A2 l2.length l2) (hc2 : l2.length ≤ c2) (h : impl_StorePut.f k l0 l1 l2 = some (r1, r2)) :
  Calls Try.prog 28 #[.slice A0 l0.length c0, .slice A1 l1.length c1, .slice A2 l2.length c2] w fun e w' => ∃ v0_ : Value, e = .returned (.tuple #[v0_, .bool r2]) ∧ Kd.S k41 41 w' w.heap.size (fun _ => True) v0_ r1 ∧ Below w.heap.size w w' := by
 have HR0 := A_ hr0
 have HC0 := A_ hc0
 clear hr0 hc0
 have HR1 := A_ hr1
 have HC1 := A_ hc1
 clear hr1 hc1
 have HR2 := A_ hr2
 have HC2 := A_ hc2
 clear hr2 hc2
 have HB := A_ (Below.refl w.heap.size w)
 have H : ((impl_StoreOk.f k l0).bind fun t205 => (if t205 = true then ((impl_PlaceOk.f k l1).bind fun t206 => (if t206 = true then (if (l2.length : Int) > 3 then (impl_StorePut.j0 k l0 l1 l2 true) else ((impl_valsOk.f k l2).bind fun t207 => (impl_StorePut.j0 k l0 l1 l2 (!t207)))) else (impl_StorePut.j0 k l0 l1 l2 true))) else (impl_StorePut.j0 k l0 l1 l2 true))) = some (r1, r2) := h
 clear h
 have HC4 := A_ H
 clear H
 go_enter Try.func28, Try.ntmps28
 go_upto_region 1 with (fail)
 go_cut [26] (fun v26 wc => ∃ (kq : Nat) (x26_3 : Bool), v26 = .bool x26_3 ∧ Aside0 (impl_StorePut.j0 kq l0 l1 l2 x26_3 = some (r1, r2)) ∧ Aside0 (kq ≤ k) ∧ Aside0 (Below w.heap.size w wc))
 case first =>
  have H := HC4.out
  clear HC4
  replace H := Option.bind_eq_some_iff.mp H
  obtain ⟨t205, A50, H⟩ := H
  replace H : (if t205 = true then ((impl_PlaceOk.f k l1).bind fun t206 => (if t206 = true then (if (l2.length : Int) > 3 then (impl_StorePut.j0 k l0 l1 l2 true) else ((impl_valsOk.f k l2).bind fun t207 => (impl_StorePut.j0 k l0 l1 l2 (!t207)))) else (impl_StorePut.j0 k l0 l1 l2 true))) else (impl_StorePut.j0 k l0 l1 l2 true)) = some (r1, r2) := H
  have A5 := A_ A50
  clear A50
  by_cases c6 : t205 = true
  ·subst c6
   have H1 : ((impl_PlaceOk.f k l1).bind fun t206 => (if t206 = true then (if (l2.length : Int) > 3 then (impl_StorePut.j0 k l0 l1 l2 true) else ((impl_valsOk.f k l2).bind fun t207 => (impl_StorePut.j0 k l0 l1 l2 (!t207)))) else (impl_StorePut.j0 k l0 l1 l2 true))) = some (r1, r2) := by rw [if_pos rfl] at H; exact H
   clear H
   have H := H1
   clear H1
   replace H := Option.bind_eq_some_iff.mp H
   obtain ⟨t206, A70, H⟩ := H
   replace H : (if t206 = true then (if (l2.length : Int) > 3 then (impl_StorePut.j0 k l0 l1 l2 true) else ((impl_valsOk.f k l2).bind fun t207 => (impl_StorePut.j0 k l0 l1 l2 (!t207)))) else (impl_StorePut.j0 k l0 l1 l2 true)) = some (r1, r2) := H
   have A7 := A_ A70
   clear A70
   by_cases c8 : t206 = true
   ·subst c8
    have H1 : (if (l2.length : Int) > 3 then (impl_StorePut.j0 k l0 l1 l2 true) else ((impl_valsOk.f k l2).bind fun t207 => (impl_StorePut.j0 k l0 l1 l2 (!t207)))) = some (r1, r2) := by rw [if_pos rfl] at H; exact H
    clear H
    have H := H1
    clear H1
    by_cases c9 : (l2.length : Int) > 3
    ·rw [if_pos c9] at H
     have c9b0 : decide (3 < (l2.length : Int)) = true := decide_eq_true c9
     have c9b1 : decide (3 < l2.length) = true := decide_eq_true (by omega)
     clear c9
     (first | rw [c9b0] | (simp only [i64_w, i32_w]; rw [c9b0]) | skip)
     have H' := A_ H
     clear H
     go_wp2_with (first | ((with_reducible refine gate_callee (f := 16) rfl ?_); refine goesL_ (some 10) rfl rfl Try.func16 (by kernel_rfl) rfl #[.slice A0 l0.length c0] rfl Z3 ?_; (with_reducible refine (impl_StoreOk.calls k _ _ l0 true _ ?side1 ?side2 A5.out).mono ?_); (case side1 => exact Z5 HR0.out); (case side2 => exact HC0.out); rintro e w10 ⟨rfl, hb⟩; refine ⟨_, rfl, ?_⟩; have n0_ := A_ (below_step Z1 hb); clear HB; have HB := n0_; clear n0_; (try clear hb); (try clear hb2); (try clear hk); (try clear hi)) | (go_at_call 24; (with_reducible refine (impl_PlaceOk.calls k _ _ l1 true _ ?side1 ?side2 A7.out).mono ?_); (case side1 => exact Z5 HR1.out); (case side2 => exact HC1.out); rintro e w11 ⟨rfl, hb⟩; have n0_ := A_ (below_step Z1 hb); clear HB; have HB := n0_; clear n0_; (try clear hb); (try clear hb2); (try clear hk); (try clear hi)))
     go_meet
     case rel => exact ⟨_, (true), Z21, H', ⟨Z50⟩, ⟨Z1⟩⟩
    ·rw [if_neg c9] at H
     have c9b0 : decide (3 < (l2.length : Int)) = false := decide_eq_false c9
     have c9b1 : decide (3 < l2.length) = false := decide_eq_false (by omega)
     clear c9
     (first | rw [c9b0] | (simp only [i64_w, i32_w]; rw [c9b0]) | skip)
     replace H := Option.bind_eq_some_iff.mp H
     obtain ⟨t207, A120, H⟩ := H
     replace H : (impl_StorePut.j0 k l0 l1 l2 (!t207)) = some (r1, r2) := H
     have A12 := A_ A120
     clear A120
     have H' := A_ H
     clear H
     go_wp2_with (first | ((with_reducible refine gate_callee (f := 16) rfl ?_); refine goesL_ (some 10) rfl rfl Try.func16 (by kernel_rfl) rfl #[.slice A0 l0.length c0] rfl Z3 ?_; (with_reducible refine (impl_StoreOk.calls k _ _ l0 true _ ?side1 ?side2 A5.out).mono ?_); (case side1 => exact Z5 HR0.out); (case side2 => exact HC0.out); rintro e w13 ⟨rfl, hb⟩; refine ⟨_, rfl, ?_⟩; have n0_ := A_ (below_step Z1 hb); clear HB; have HB := n0_; clear n0_; (try clear hb); (try clear hb2); (try clear hk); (try clear hi)) | (go_at_call 24; (with_reducible refine (impl_PlaceOk.calls k _ _ l1 true _ ?side1 ?side2 A7.out).mono ?_); (case side1 => exact Z5 HR1.out); (case side2 => exact HC1.out); rintro e w14 ⟨rfl, hb⟩; have n0_ := A_ (below_step Z1 hb); clear HB; have HB := n0_; clear n0_; (try clear hb); (try clear hb2); (try clear hk); (try clear hi)) | (go_at_call 43; (with_reducible refine (impl_valsOk.calls k _ _ l2 t207 _ ?side1 ?side2 A12.out).mono ?_); (case side1 => exact Z5 HR2.out); (case side2 => exact HC2.out); rintro e w15 ⟨rfl, hb⟩; have n0_ := A_ (below_step Z1 hb); clear HB; have HB := n0_; clear n0_; (try clear hb); (try clear hb2); (try clear hk); (try clear hi)))
     go_meet
     case rel => exact ⟨_, (!t207), Z21, H', ⟨Z50⟩, ⟨Z1⟩⟩
   ·replace c8 := Bool.eq_false_iff.mpr c8
    subst c8
    have H1 : (impl_StorePut.j0 k l0 l1 l2 true) = some (r1, r2) := by rw [if_neg (show ¬ (false = true) by decide)] at H; exact H
    clear H
    have H := H1
    clear H1
    have H' := A_ H
    clear H
    go_wp2_with (first | ((with_reducible refine gate_callee (f := 16) rfl ?_); refine goesL_ (some 10) rfl rfl Try.func16 (by kernel_rfl) rfl #[.slice A0 l0.length c0] rfl Z3 ?_; (with_reducible refine (impl_StoreOk.calls k _ _ l0 true _ ?side1 ?side2 A5.out).mono ?_); (case side1 => exact Z5 HR0.out); (case side2 => exact HC0.out); rintro e w16 ⟨rfl, hb⟩; refine ⟨_, rfl, ?_⟩; have n0_ := A_ (below_step Z1 hb); clear HB; have HB := n0_; clear n0_; (try clear hb); (try clear hb2); (try clear hk); (try clear hi)) | (go_at_call 24; (with_reducible refine (impl_PlaceOk.calls k _ _ l1 false _ ?side1 ?side2 A7.out).mono ?_); (case side1 => exact Z5 HR1.out); (case side2 => exact HC1.out); rintro e w17 ⟨rfl, hb⟩; have n0_ := A_ (below_step Z1 hb); clear HB; have HB := n0_; clear n0_; (try clear hb); (try clear hb2); (try clear hk); (try clear hi)))
    go_meet
    case rel => exact ⟨_, (true), Z21, H', ⟨Z50⟩, ⟨Z1⟩⟩
  ·replace c6 := Bool.eq_false_iff.mpr c6
   subst c6
   have H1 : (impl_StorePut.j0 k l0 l1 l2 true) = some (r1, r2) := by rw [if_neg (show ¬ (false = true) by decide)] at H; exact H
   clear H
   have H := H1
   clear H1
   have H' := A_ H
   clear H
   go_wp2_with (first | ((with_reducible refine gate_callee (f := 16) rfl ?_); refine goesL_ (some 10) rfl rfl Try.func16 (by kernel_rfl) rfl #[.slice A0 l0.length c0] rfl Z3 ?_; (with_reducible refine (impl_StoreOk.calls k _ _ l0 false _ ?side1 ?side2 A5.out).mono ?_); (case side1 => exact Z5 HR0.out); (case side2 => exact HC0.out); rintro e w18 ⟨rfl, hb⟩; refine ⟨_, rfl, ?_⟩; have n0_ := A_ (below_step Z1 hb); clear HB; have HB := n0_; clear n0_; (try clear hb); (try clear hb2); (try clear hk); (try clear hi)))
   go_meet
   case rel => exact ⟨_, (true), Z21, H', ⟨Z50⟩, ⟨Z1⟩⟩
 case rest =>
  clear HC4
  try clear c1
  try clear c2
  try clear p2
  try clear c6
  try clear c8
  try clear c9
  try clear c9b0
  try clear c9b1
  try clear c16
  obtain ⟨kq, x26_3, rfl, HA, HJ3, HB⟩ := hcut
  cases kq with
  | zero => exact absurd HA.out (by simp [impl_StorePut.j0])
  | succ kj3 =>
   have H := HA.out
   clear HA
   simp only [impl_StorePut.j0] at H
   by_cases c19 : x26_3 = true
   ·subst c19
    have H1 : (some (([] : List (S41)), false)) = some (r1, r2) := by rw [if_pos rfl] at H; exact H
    clear H
    have H := H1
    clear H1
    simp only [Option.some.injEq, Prod.mk.injEq] at H
    obtain ⟨rfl, rfl⟩ := H
    go_wp2
    go_ret2
    exact ⟨_, Z16, Z46, Z1⟩
   ·replace c19 := Bool.eq_false_iff.mpr c19
    subst c19
    have H1 : ((impl_storeSet.f kj3 l0 l1 l2).bind fun t208 => (if (t208.length : Int) > 200 then (some (([] : List (S41)), false)) else (some (t208, true)))) = some (r1, r2) := by rw [if_neg (show ¬ (false = true) by decide)] at H; exact H
    clear H
    have H := H1
    clear H1
    replace H := Option.bind_eq_some_iff.mp H
    obtain ⟨t208, A200, H⟩ := H
    replace H : (if (t208.length : Int) > 200 then (some (([] : List (S41)), false)) else (some (t208, true))) = some (r1, r2) := H
    have A20 := A_ A200
    clear A200
    by_cases c21 : (t208.length : Int) > 200
    ·rw [if_pos c21] at H
     have c21b0 : decide (200 < (t208.length : Int)) = true := decide_eq_true c21
     have c21b1 : decide (200 < t208.length) = true := decide_eq_true (by omega)
     clear c21
     simp only [Option.some.injEq, Prod.mk.injEq] at H
     obtain ⟨rfl, rfl⟩ := H
     go_wp2_with (first | ((with_reducible refine gate_callee (f := 57) rfl ?_); refine goesL_ (some 30) rfl rfl Try.func57 (by kernel_rfl) rfl #[.slice A0 l0.length c0, .slice A1 l1.length c1, .slice A2 l2.length c2] rfl Z3 ?_; (with_reducible refine (impl_storeSet.calls kj3 _ _ l0 _ _ l1 _ _ l2 t208 _ ?side1 ?side2 ?side3 ?side4 ?side5 ?side6 A20.out).mono ?_); (case side1 => exact Z5 HR0.out); (case side2 => exact HC0.out); (case side3 => exact Z5 HR1.out); (case side4 => exact HC1.out); (case side5 => exact Z5 HR2.out); (case side6 => exact HC2.out); rintro e w22 ⟨v209, rfl, ho0, hb⟩; refine ⟨_, rfl, ?_⟩; have n0_ := A_ (Kd.S_lower ho0 (below_size Z1)); have n1_ := A_ (below_step Z1 hb); clear HB; have HO210 := n0_; have HB := n1_; clear n0_ n1_; (try clear hb); (try clear hb2); (try clear hk); (try clear hi); (try clear ho0); obtain ⟨Ao23, co23, eo23⟩ := Kd.S_slice HO210.out; subst eo23))
     go_ret2
     exact ⟨_, Z16, Z46, Z1⟩
    ·rw [if_neg c21] at H
     have c21b0 : decide (200 < (t208.length : Int)) = false := decide_eq_false c21
     have c21b1 : decide (200 < t208.length) = false := decide_eq_false (by omega)
     clear c21
     simp only [Option.some.injEq, Prod.mk.injEq] at H
     obtain ⟨rfl, rfl⟩ := H
     go_wp2_with (first | ((with_reducible refine gate_callee (f := 57) rfl ?_); refine goesL_ (some 30) rfl rfl Try.func57 (by kernel_rfl) rfl #[.slice A0 l0.length c0, .slice A1 l1.length c1, .slice A2 l2.length c2] rfl Z3 ?_; (with_reducible refine (impl_storeSet.calls kj3 _ _ l0 _ _ l1 _ _ l2 t208 _ ?side1 ?side2 ?side3 ?side4 ?side5 ?side6 A20.out).mono ?_); (case side1 => exact Z5 HR0.out); (case side2 => exact HC0.out); (case side3 => exact Z5 HR1.out); (case side4 => exact HC1.out); (case side5 => exact Z5 HR2.out); (case side6 => exact HC2.out); rintro e w24 ⟨v209, rfl, ho0, hb⟩; refine ⟨_, rfl, ?_⟩; have n0_ := A_ (Kd.S_lower ho0 (below_size Z1)); have n1_ := A_ (below_step Z1 hb); clear HB; have HO210 := n0_; have HB := n1_; clear n0_ n1_; (try clear hb); (try clear hb2); (try clear hk); (try clear hi); (try clear ho0); obtain ⟨Ao25, co25, eo25⟩ := Kd.S_slice HO210.out; subst eo25))
     go_ret2
     exact ⟨_, Z16, Z29 HO210.out, Z1⟩
def IsS77 (w0 W : World) (g : Nat) (f0 : List Int) (f1 : Int) (f2 : Int) : Prop := ∃ A0 c0, W.heap[g]? = some (.cells #[.slice A0 f0.length c0, .int .i64 f1, .int .i64 f2] 77 (0, 0)) ∧ w0.heap.size ≤ g ∧ Kd.C (Kd.int .u8) w0 A0 f0.length f0
theorem IsS77.grown {w0 W : World} {g : Nat} {f0 : List Int} {f1 : Int} {f2 : Int} {W1 : World} {row : Option Nat} (h : IsS77 w0 W g f0 f1 f2) (hw : W.grownBy W1 row) (hne : some g ≠ row) : IsS77 w0 W1 g f0 f1 f2 := by
 obtain ⟨A0, c0, hb, hg, hr0⟩ := h
 exact ⟨A0, c0, blk_grown hb hw hne, hg, hr0⟩
theorem IsS77.own_neN {w0 W : World} {g : Nat} {f0 : List Int} {f1 : Int} {f2 : Int} {α : Type} {d : Kd α} {e : Nat} {base : Nat} {ok : Nat → Prop} {v : Value} {xs : List α} (h : IsS77 w0 W g f0 f1 f2) (ho : Kd.N d e W base ok v xs) (ht : e ≠ 77) : some g ≠ v.ownBlock := by
 obtain ⟨A0, c0, hb, hg, hr0⟩ := h
 exact Kd.N_ne ho hb ht
theorem IsS77.fresh {w0 W : World} {g : Nat} {f0 : List Int} {f1 : Int} {f2 : Int} (h : IsS77 w0 W g f0 f1 f2) : ∀ k, W.heap.size ≤ k → k ≠ g := by
 obtain ⟨A0, c0, hb, hg, hr0⟩ := h
 exact Kd.freshB hb
theorem IsS77.kept {w0 W : World} {g : Nat} {f0 : List Int} {f1 : Int} {f2 : Int} {W1 : World} {S : Nat → Prop} (h : IsS77 w0 W g f0 f1 f2) (hk : Kept W W1 S) (hne : ¬ S g) : IsS77 w0 W1 g f0 f1 f2 := by
 obtain ⟨A0, c0, hb, hg, hr0⟩ := h
 exact ⟨A0, c0, blk_kept hb hk hne, hg, hr0⟩
theorem IsS77.below {w0 W : World} {g : Nat} {f0 : List Int} {f1 : Int} {f2 : Int} {W1 : World} (h : IsS77 w0 W g f0 f1 f2) (hw : Below W.heap.size W W1) : IsS77 w0 W1 g f0 f1 f2 := h.grown (grown_of_below hw none) (by simp)
theorem IsS77.alloc {w0 W : World} {g : Nat} {f0 : List Int} {f1 : Int} {f2 : Int} (h : IsS77 w0 W g f0 f1 f2) (o : Obj) : IsS77 w0 (W.alloc o) g f0 f1 f2 := h.below (below_alloc (Below.refl _ _) o)
theorem IsS77.drewN {w0 W : World} {g : Nat} {f0 : List Int} {f1 : Int} {f2 : Int} (h : IsS77 w0 W g f0 f1 f2) (m : Nat) : IsS77 w0 (W.drewN m) g f0 f1 f2 := h
theorem IsS77.drew {w0 W : World} {g : Nat} {f0 : List Int} {f1 : Int} {f2 : Int} (h : IsS77 w0 W g f0 f1 f2) : IsS77 w0 W.drew g f0 f1 f2 := h
theorem IsS77.at_ {w0 W : World} {g : Nat} {f0 : List Int} {f1 : Int} {f2 : Int} {w' : World} {m : Nat} (hq : W.drewN m = w') (h : IsS77 w0 W g f0 f1 f2) : IsS77 w0 w' g f0 f1 f2 := by subst hq; exact IsS77.drewN h m
theorem IsS77.apart {w0 W : World} {g : Nat} {f0 : List Int} {f1 : Int} {f2 : Int} {α : Type} {d : Kd α} {e : Nat} {base : Nat} {ok : Nat → Prop} {v : Value} {xs : List α} (h : IsS77 w0 W g f0 f1 f2) (ho : d.R e W base ok v xs) (ht : ∀ q, q ∈ e :: d.E → q ≠ 77) : d.R e W base (fun k => ok k ∧ k ≠ g) v xs := by
 obtain ⟨A0, c0, hb, hg, hr0⟩ := h
 exact Kd.R_types ho hb ht
theorem IsS77.own_ne {w0 W : World} {g : Nat} {f0 : List Int} {f1 : Int} {f2 : Int} {α : Type} {d : Kd α} {e : Nat} {base : Nat} {ok : Nat → Prop} {v : Value} {xs : List α} (h : IsS77 w0 W g f0 f1 f2) (ho : d.R e W base ok v xs) (ht : e ≠ 77) : some g ≠ v.ownBlock := by
 obtain ⟨A0, c0, hb, hg, hr0⟩ := h
 exact Kd.R_ne ho hb ht
theorem IsS77.apartQ {w0 W : World} {g : Nat} {f0 : List Int} {f1 : Int} {f2 : Int} {α : Type} {d : Kd α} {e : Nat} {base : Nat} {ok : Nat → Prop} {v : Value} {xs : List α} (h : IsS77 w0 W g f0 f1 f2) (ho : d.Q e W base ok v xs) (ht : ∀ q, q ∈ e :: d.E → q ≠ 77) : d.Q e W base (fun k => ok k ∧ k ≠ g) v xs := by
 obtain ⟨A0, c0, hb, hg, hr0⟩ := h
 exact Kd.Q_types ho hb ht
theorem IsS77.own_neQ {w0 W : World} {g : Nat} {f0 : List Int} {f1 : Int} {f2 : Int} {α : Type} {d : Kd α} {e : Nat} {base : Nat} {ok : Nat → Prop} {v : Value} {xs : List α} (h : IsS77 w0 W g f0 f1 f2) (ho : d.Q e W base ok v xs) (ht : e ≠ 77) : some g ≠ v.ownBlock := by
 obtain ⟨A0, c0, hb, hg, hr0⟩ := h
 exact Kd.Q_ne ho hb ht
theorem IsS77.apartS {w0 W : World} {g : Nat} {f0 : List Int} {f1 : Int} {f2 : Int} {α : Type} {d : Kd α} {e : Nat} {base : Nat} {ok : Nat → Prop} {v : Value} {xs : List α} (h : IsS77 w0 W g f0 f1 f2) (ho : d.S e W base ok v xs) (ht : ∀ q, q ∈ e :: d.E → q ≠ 77) : d.S e W base (fun k => ok k ∧ k ≠ g) v xs := by
 obtain ⟨A0, c0, hb, hg, hr0⟩ := h
 exact Kd.S_types ho hb ht
theorem IsS77.own_neS {w0 W : World} {g : Nat} {f0 : List Int} {f1 : Int} {f2 : Int} {α : Type} {d : Kd α} {e : Nat} {base : Nat} {ok : Nat → Prop} {v : Value} {xs : List α} (h : IsS77 w0 W g f0 f1 f2) (ho : d.S e W base ok v xs) (ht : e ≠ 77) : some g ≠ v.ownBlock := by
 obtain ⟨A0, c0, hb, hg, hr0⟩ := h
 exact Kd.S_ne ho hb ht
theorem IsS77.lt {w0 W : World} {g : Nat} {f0 : List Int} {f1 : Int} {f2 : Int} (h : IsS77 w0 W g f0 f1 f2) : g < W.heap.size := by
 obtain ⟨A0, c0, hb, hg, hr0⟩ := h
 exact blk_lt hb
theorem IsS77.ge {w0 W : World} {g : Nat} {f0 : List Int} {f1 : Int} {f2 : Int} (h : IsS77 w0 W g f0 f1 f2) : w0.heap.size ≤ g := by
 obtain ⟨A0, c0, hb, hg, hr0⟩ := h
 exact hg
theorem IsS77.ne_blk {w0 W : World} {g : Nat} {f0 : List Int} {f1 : Int} {f2 : Int} {a : Nat} {cs : Array Value} {t : TypeId} {fr : Nat × Nat} (h : IsS77 w0 W g f0 f1 f2) (hb2 : W.heap[a]? = some (.cells cs t fr)) (ht : t ≠ 77) : g ≠ a := by
 obtain ⟨A0, c0, hb, hg, hr0⟩ := h
 rintro rfl
 rw [hb] at hb2
 injection hb2 with hb2
 injection hb2 with _ ht2
 exact ht ht2.symm
theorem IsS77.far {w0 W : World} {g : Nat} {f0 : List Int} {f1 : Int} {f2 : Int} {p : Addr} (h : IsS77 w0 W g f0 f1 f2) (hne : g ≠ p.block) (u : Value) : IsS77 w0 (W.setCell p u) g f0 f1 f2 := by
 obtain ⟨A0, c0, hb, hg, hr0⟩ := h
 exact ⟨A0, c0, blk_far hb hne u, hg, hr0⟩
theorem cellS77_0 {W : World} {g : Nat} {A0 : Option Addr} {c0 : Nat} {f0 : List Int} {f1 : Int} {f2 : Int} (h : W.heap[g]? = some (.cells #[.slice A0 f0.length c0, .int .i64 f1, .int .i64 f2] 77 (0, 0))) : W.cell? ⟨g, 0, none⟩ = some (.slice A0 f0.length c0) := (blk_cell h 0).trans rfl
theorem cellS77_1 {W : World} {g : Nat} {A0 : Option Addr} {c0 : Nat} {f0 : List Int} {f1 : Int} {f2 : Int} (h : W.heap[g]? = some (.cells #[.slice A0 f0.length c0, .int .i64 f1, .int .i64 f2] 77 (0, 0))) : W.cell? ⟨g, 1, none⟩ = some (.int .i64 f1) := (blk_cell h 1).trans rfl
theorem IsS77.set_1 {w0 W : World} {g : Nat} {f0 : List Int} {f1 : Int} {f2 : Int} (h : IsS77 w0 W g f0 f1 f2) (x : Int) : IsS77 w0 (W.setCell ⟨g, 1, none⟩ (.int .i64 x)) g f0 x f2 := by
 obtain ⟨A0, c0, hb, hg, hr0⟩ := h
 exact ⟨A0, c0, by simpa using blk_set hb 1 (.int .i64 x), hg, hr0⟩
theorem cellS77_2 {W : World} {g : Nat} {A0 : Option Addr} {c0 : Nat} {f0 : List Int} {f1 : Int} {f2 : Int} (h : W.heap[g]? = some (.cells #[.slice A0 f0.length c0, .int .i64 f1, .int .i64 f2] 77 (0, 0))) : W.cell? ⟨g, 2, none⟩ = some (.int .i64 f2) := (blk_cell h 2).trans rfl
theorem IsS77.set_2 {w0 W : World} {g : Nat} {f0 : List Int} {f1 : Int} {f2 : Int} (h : IsS77 w0 W g f0 f1 f2) (x : Int) : IsS77 w0 (W.setCell ⟨g, 2, none⟩ (.int .i64 x)) g f0 f1 x := by
 obtain ⟨A0, c0, hb, hg, hr0⟩ := h
 exact ⟨A0, c0, by simpa using blk_set hb 2 (.int .i64 x), hg, hr0⟩
theorem IsS77.new (w0 W : World) (A0 : Option Addr) (c0 : Nat) (f0 : List Int) (f1 : Int) (f2 : Int) (hB : Below w0.heap.size w0 W) (hr0 : Kd.C (Kd.int .u8) w0 A0 f0.length f0) : IsS77 w0 (W.alloc (.cells #[.slice A0 f0.length c0, .int .i64 f1, .int .i64 f2] 77)) W.heap.size f0 f1 f2 := ⟨A0, c0, by simpa using heap_alloc_new W _, hB.size, hr0⟩
def spec_newSource.f (l0 : List Int) : Option (List Int × Int × Int) := some (l0, 0, 4000)
set_option maxHeartbeats 8000000 in
set_option maxRecDepth 100000 in
theorem spec_newSource.calls (A0 : Option Addr) (c0 : Nat) (l0 : List Int) (r1 : List Int) (r2 : Int) (r3 : Int) (w0 w : World) (hB : Below w0.heap.size w0 w) (hr0 : Kd.C (Kd.int .u8) w0 A0 l0.length l0) (hc0 : l0.length ≤ c0) (h : spec_newSource.f l0 = some (r1, r2, r3)) :
  Calls Try.prog 32 #[.slice A0 l0.length c0] w fun e w' => ∃ g_ : Nat, e = .returned (.pointer (some ⟨g_, 0, none⟩)) ∧ IsS77 w0 w' g_ r1 r2 r3 ∧ Below w0.heap.size w0 w' ∧ Below w.heap.size w w' := by
 have hu77 := Try.underlying77
 have HR0 := A_ hr0
 have HC0 := A_ hc0
 clear hr0 hc0
 have HBW := A_ (Below.refl w.heap.size w)
 have HW0 := A_ hB.size
 have HB := A_ hB
 clear hB
 have H : (some (l0, 0, 4000)) = some (r1, r2, r3) := h
 clear h
 simp only [Option.some.injEq, Prod.mk.injEq] at H
 obtain ⟨rfl, rfl, rfl⟩ := H
 go_enter Try.func32, Try.ntmps32
 go_wp2_with (first | ((with_reducible refine gate_dst (N := 5) rfl ?_); refine box_event ?hg (N := 5) ?hd (cs := #[.slice A0 l0.length c0, .int .i64 0, .int .i64 4000]) (t := 77) ?hr ?_; (case hd => rfl); (case hg => rfl); (case hr => exact Z28); intro gb211 hg w2 hbox hb; have n0_ := A_ (below_step HBW.out hb); have n1_ := A_ (below_step Z1 hb); have n2_ := A_ (hbox); have n3_ := A_ ((by rw [hg]; exact (below_size (by repeat (first | (with_reducible first | exact HBW.out | apply below_alloc | apply pw_below_drewN | apply below_drew1) | exact HBW.out))) : w.heap.size ≤ gb211)); have n4_ := A_ ((Nat.le_trans HW0.out (by rw [hg]; exact (below_size (by repeat (first | (with_reducible first | exact HBW.out | apply below_alloc | apply pw_below_drewN | apply below_drew1) | exact HBW.out))) : w.heap.size ≤ gb211) : w0.heap.size ≤ gb211)); clear HBW; clear HB; have HBW := n0_; have HB := n1_; have BK211 := n2_; have GW211 := n3_; have GE211 := n4_; clear n0_ n1_ n2_ n3_ n4_; clear hb hbox hg))
 go_ret
 exact ⟨_, rfl, (show IsS77 w0 _ gb211 l0 0 4000 from ⟨_, _, Z6 BK211.out, GE211.out, HR0.out⟩), Z2 GE211.out, by repeat (first | (with_reducible first | exact HBW.out | apply below_alloc | apply pw_below_drewN | apply below_drew1 | refine below_set ?_ GW211.out) | exact HBW.out)⟩
end Go.Proofs.Ytheifobeaemegaa.PFnStorePut
