/- Walks of the functions that the law 'FnExactStorePut' reaches, part 14: for each a Lean function and the proof that Go's comes to just its answer (lines of the print, under own names; no condition). -/
import Derived.Test.YtpadhphdglbciaaZFnExactStorePutQFnExactStorePutx0
import Derived.Test.YtpadhphdglbciaaZFnExactStorePutQFnExactStorePutx10
import Derived.Test.YtpadhphdglbciaaZFnExactStorePutQFnExactStorePutx11
import Derived.Test.YtpadhphdglbciaaZFnExactStorePutQFnExactStorePutx12
import Derived.Test.YtpadhphdglbciaaZFnExactStorePutQFnExactStorePutx13
namespace Go.Proofs.Ytpadhphdglbciaa.PFnExactStorePut
open Go.RowKit Go.Proofs.YtpadhphdglbciaaW.PrintWords Go.Proofs.YtpadhphdglbciaaW.PrintLast Go.Proofs.YtpadhphdglbciaaW.PrintMore
attribute [local go_sem] max2_int min2_int max_two min_two max_three min_three max_four min_four
set_option linter.unusedVariables false
set_option linter.unusedSimpArgs false
def impl_placeCopy.f (l0 : List (S92)) : Option ((List (S92))) := if ([] : List (S92)).length + l0.length < 8796093022208 then (some (([] : List (S92)) ++ l0)) else (none)
set_option maxHeartbeats 8000000 in
set_option maxRecDepth 100000 in
theorem impl_placeCopy.calls (A0 : Option Addr) (c0 : Nat) (l0 : List (S92)) (r : List (S92)) (w : World) (hr0 : Kd.C k92 w A0 l0.length l0) (hc0 : l0.length ≤ c0) (h : impl_placeCopy.f l0 = some r) :
  Calls Try.prog 55 #[.slice A0 l0.length c0] w fun e w' => ∃ v0_ : Value, e = .returned (v0_) ∧ Kd.R k92 92 w' w.heap.size (fun _ => True) v0_ r ∧ Below w.heap.size w w' := by
 have HR0 := A_ hr0
 have HC0 := A_ hc0
 clear hr0 hc0
 have HB := A_ (Below.refl w.heap.size w)
 have H : (if ([] : List (S92)).length + l0.length < 8796093022208 then (some (([] : List (S92)) ++ l0)) else (none)) = some r := h
 clear h
 by_cases c2 : ([] : List (S92)).length + l0.length < 8796093022208
 ·rw [if_pos c2] at H
  have LMc2 := A_ c2
  clear c2
  obtain ⟨y309, hy309⟩ : ∃ y_ : List (S92), y_ = (([] : List (S92)) ++ l0) := ⟨_, rfl⟩
  replace H : (some y309) = some r := by first | (rw [hy309]; with_reducible exact H) | (have H2_ := (Option.bind_some _ _).symm.trans H; rw [hy309]; with_reducible exact H2_) | (have H2_ := (Option.bind_some _ _).symm.trans H; with_reducible exact H2_) | with_reducible exact H | (rw [hy309]; exact H) | exact H
  have Ny309 := A_ hy309
  clear hy309
  obtain rfl := Option.some.inj H
  go_enter Try.func55, Try.ntmps55
  go_wp2_with (first | ((with_reducible refine gate_builtin (b := .append) (xs := #[.const (.slice none 0 0), .tmp 3]) rfl ?_); at_builtin; refine Kd.R_append_rows k92 (w0 := w) w.heap.size rfl (.const (.slice none 0 0)) (.tmp 3) 43 92 (.agg #[(.int .i64 0), (.int .i64 0)]) 16 rfl Try.underlying43 info92 rfl (by decide) (by omega) (.slice none 0 0) ([] : List (S92)) l0 _ _ _ (fun _ => True) (fun _ => False) rfl rfl ?aO ?aR (fun _ _ h => h) (fun _ h => h.elim) ?aF ?aB ?aS ?aL ?_; (case aR => exact Z24 HR0.out); (case aB => exact Z0); (case aF => exact (fun _ _ => trivial)); (case aO => exact ((Kd.R_nil _ _ _ _ (fun _ => True)))); (case aS => exact (below_size Z0)); (case aL => have := LMc2.out; omega); intro v310 w3 ho hb hg hat; rw [← Ny309.out] at ho; have n0_ := A_ (hb); have n1_ := A_ (ho); clear HB; have HB := n0_; have HO311 := n1_; clear n0_ n1_; clear ho hb hg hat))
  go_ret
  exact ⟨_, Z14, Z6 HO311.out, Z0⟩
 ·rw [if_neg c2] at H
  exact absurd H (by simp)
def impl_valsCopy.f (l0 : List (S99)) : Option ((List (S99))) := if ([] : List (S99)).length + l0.length < 4398046511104 then (some (([] : List (S99)) ++ l0)) else (none)
set_option maxHeartbeats 8000000 in
set_option maxRecDepth 100000 in
theorem impl_valsCopy.calls (A0 : Option Addr) (c0 : Nat) (l0 : List (S99)) (r : List (S99)) (w : World) (hr0 : Kd.C k99 w A0 l0.length l0) (hc0 : l0.length ≤ c0) (h : impl_valsCopy.f l0 = some r) :
  Calls Try.prog 65 #[.slice A0 l0.length c0] w fun e w' => ∃ v0_ : Value, e = .returned (v0_) ∧ Kd.R k99 99 w' w.heap.size (fun _ => True) v0_ r ∧ Below w.heap.size w w' := by
 have HR0 := A_ hr0
 have HC0 := A_ hc0
 clear hr0 hc0
 have HB := A_ (Below.refl w.heap.size w)
 have H : (if ([] : List (S99)).length + l0.length < 4398046511104 then (some (([] : List (S99)) ++ l0)) else (none)) = some r := h
 clear h
 by_cases c2 : ([] : List (S99)).length + l0.length < 4398046511104
 ·rw [if_pos c2] at H
  have LMc2 := A_ c2
  clear c2
  obtain ⟨y312, hy312⟩ : ∃ y_ : List (S99), y_ = (([] : List (S99)) ++ l0) := ⟨_, rfl⟩
  replace H : (some y312) = some r := by first | (rw [hy312]; with_reducible exact H) | (have H2_ := (Option.bind_some _ _).symm.trans H; rw [hy312]; with_reducible exact H2_) | (have H2_ := (Option.bind_some _ _).symm.trans H; with_reducible exact H2_) | with_reducible exact H | (rw [hy312]; exact H) | exact H
  have Ny312 := A_ hy312
  clear hy312
  obtain rfl := Option.some.inj H
  go_enter Try.func65, Try.ntmps65
  go_wp2_with (first | ((with_reducible refine gate_builtin (b := .append) (xs := #[.const (.slice none 0 0), .tmp 3]) rfl ?_); at_builtin; refine Kd.R_append_rows k99 (w0 := w) w.heap.size rfl (.const (.slice none 0 0)) (.tmp 3) 38 99 (.agg #[(.int .i64 0), (.int .i64 0), (.string ⟨#[]⟩)]) 32 rfl Try.underlying38 info99 rfl (by decide) (by omega) (.slice none 0 0) ([] : List (S99)) l0 _ _ _ (fun _ => True) (fun _ => False) rfl rfl ?aO ?aR (fun _ _ h => h) (fun _ h => h.elim) ?aF ?aB ?aS ?aL ?_; (case aR => exact Z24 HR0.out); (case aB => exact Z0); (case aF => exact (fun _ _ => trivial)); (case aO => exact ((Kd.R_nil _ _ _ _ (fun _ => True)))); (case aS => exact (below_size Z0)); (case aL => have := LMc2.out; omega); intro v313 w3 ho hb hg hat; rw [← Ny312.out] at ho; have n0_ := A_ (hb); have n1_ := A_ (ho); clear HB; have HB := n0_; have HO314 := n1_; clear n0_ n1_; clear ho hb hg hat))
  go_ret
  exact ⟨_, Z14, Z6 HO314.out, Z0⟩
 ·rw [if_neg c2] at H
  exact absurd H (by simp)
def impl_cellCopy.f (l0_0 : List (S92)) (l0_1 : List (S99)) : Option ((List (S92)) × (List (S99))) := (impl_placeCopy.f l0_0).bind fun t317 => ((impl_valsCopy.f l0_1).bind fun t320 => (some (t317, t320)))
def impl_cellCopy.T1 : Bool × List (List Nat × List Nat) := (true, [([], []), ([0], [0]), ([1], [1]), ([], []), ([3], [3]), ([4, 2], [4]), ([2, 5], [2, 5]), ([6, 5, 0, 1, 2, 3, 4, 5, 6], [6])])
def impl_cellCopy.B1 : List Nat := [0, 1, 3, 0, 8, 31, 63, 127]
theorem impl_cellCopy.tab1 : rtab .any (opsOf Try.f73 1) = impl_cellCopy.T1 := by kernel_rfl
theorem impl_cellCopy.bits1 : waitsOk impl_cellCopy.T1.2 impl_cellCopy.B1 = true := by kernel_rfl
set_option maxHeartbeats 8000000 in
set_option maxRecDepth 100000 in
theorem impl_cellCopy.calls (A0_0 : Option Addr) (c0_0 : Nat) (l0_0 : List (S92)) (A0_1 : Option Addr) (c0_1 : Nat) (l0_1 : List (S99)) (r1 : List (S92)) (r2 : List (S99)) (w : World) (hr0_0 : Kd.C k92 w A0_0 l0_0.length l0_0) (hc0_0 : l0_0.length ≤ c0_0) (hr0_1 : Kd.C k99 w A0_1 l0_1.length l0_1) (hc0_1 : l0_1.length ≤ c0_1) (h : impl_cellCopy.f l0_0 l0_1 = some (r1, r2)) :
  Calls Try.prog 73 #[.agg #[.slice A0_0 l0_0.length c0_0, .slice A0_1 l0_1.length c0_1]] w fun e w' => ∃ v0_ v1_ : Value, e = .returned (.agg #[v0_, v1_]) ∧ Kd.R k92 92 w' w.heap.size (fun _ => True) v0_ r1 ∧ Kd.R k99 99 w' w.heap.size (fun _ => True) v1_ r2 ∧ Below w.heap.size w w' := by
 have hu89 := Try.underlying89
 have HR0_0 := A_ hr0_0
 have HC0_0 := A_ hc0_0
 clear hr0_0 hc0_0
 have HR0_1 := A_ hr0_1
 have HC0_1 := A_ hc0_1
 clear hr0_1 hc0_1
 have HB := A_ (Below.refl w.heap.size w)
 have H : ((impl_placeCopy.f l0_0).bind fun t317 => ((impl_valsCopy.f l0_1).bind fun t320 => (some (t317, t320)))) = some (r1, r2) := h
 clear h
 replace H := Option.bind_eq_some_iff.mp H
 obtain ⟨t317, A20, H⟩ := H
 replace H : ((impl_valsCopy.f l0_1).bind fun t320 => (some (t317, t320))) = some (r1, r2) := H
 have A2 := A_ A20
 clear A20
 replace H := Option.bind_eq_some_iff.mp H
 obtain ⟨t320, A30, H⟩ := H
 replace H : (some (t317, t320)) = some (r1, r2) := H
 have A3 := A_ A30
 clear A30
 simp only [Option.some.injEq, Prod.mk.injEq] at H
 obtain ⟨rfl, rfl⟩ := H
 go_enter Try.func73, Try.ntmps73
 try go_wp2_with (first | ((with_reducible refine gate_dst (N := 1) rfl ?_); refine box_event ?hg (N := 1) ?hd (cs := #[.slice A0_0 l0_0.length c0_0, .slice A0_1 l0_1.length c0_1]) (t := 89) ?hr ?_; (case hd => rfl); (case hg => rfl); (case hr => exact Z20); intro gb315 hg w4 hbox hb; have n0_ := A_ (below_step Z0 hb); have n1_ := A_ (hbox); have n2_ := A_ ((by rw [hg]; exact (below_size Z0) : w.heap.size ≤ gb315)); have n3_ := A_ ((by rw [hg]; exact (below_size Z0) : w.heap.size ≤ gb315)); clear HB; have HB := n0_; have BK315 := n1_; have GW315 := n2_; have GE315 := n3_; clear n0_ n1_ n2_ n3_; clear hb hbox hg) | ((with_reducible refine gate_dst (N := 2) rfl ?_); refine box_event ?hg (N := 2) ?hd (cs := #[.slice none 0 0, .slice none 0 0]) (t := 89) ?hr ?_; (case hd => rfl); (case hg => rfl); (case hr => exact Z20); intro gb316 hg w5 hbox hb; have n0_ := A_ (blk_below (g := gb315) (o := .cells #[.slice A0_0 l0_0.length c0_0, .slice A0_1 l0_1.length c0_1] 89 (0, 0)) (Z4 BK315.out) hb); have n1_ := A_ (below_step (Z2 GE315.out) hb); have n2_ := A_ (hbox); have n3_ := A_ ((by rw [hg]; exact (below_size (Z2 GE315.out)) : w.heap.size ≤ gb316)); have n4_ := A_ ((by rw [hg]; exact (below_size (Z2 GE315.out)) : w.heap.size ≤ gb316)); have n5_ := A_ ((by rw [hg]; exact Nat.ne_of_lt (blk_lt (g := gb315) (o := .cells #[.slice A0_0 l0_0.length c0_0, .slice A0_1 l0_1.length c0_1] 89 (0, 0)) (Z4 BK315.out)) : gb315 ≠ gb316)); have n6_ := A_ ((by rw [hg]; exact Nat.ne_of_gt (blk_lt (g := gb315) (o := .cells #[.slice A0_0 l0_0.length c0_0, .slice A0_1 l0_1.length c0_1] 89 (0, 0)) (Z4 BK315.out)) : gb316 ≠ gb315)); clear BK315; clear HB; have BK315 := n0_; have HB := n1_; have BK316 := n2_; have GW316 := n3_; have GE316 := n4_; have NB315_316 := n5_; have NB316_315 := n6_; clear n0_ n1_ n2_ n3_ n4_ n5_ n6_; clear hb hbox hg))
 have n0_ := A_ (blk_drew BK315.out)
 have n1_ := A_ (blk_drew BK316.out)
 have n2_ := A_ (below_drew1 HB.out)
 clear BK315
 clear BK316
 clear HB
 have BK315 := n0_
 have BK316 := n1_
 have HB := n2_
 clear n0_ n1_ n2_
 refine start_ (n := 8) (S := fun w' => w'.cell? ⟨gb315, 0, none⟩ = some (.slice A0_0 l0_0.length c0_0) ∧ w'.cell? ⟨gb315, 1, none⟩ = some (.slice A0_1 l0_1.length c0_1)) (ds := []) #[F,F,F,F,F,F,F,F] (by kernel_rfl) rfl rfl ⟨(blk_cell BK315.out 0).trans rfl, (blk_cell BK315.out 1).trans rfl⟩ (fun hHeld => ?_); refine with_tabW impl_cellCopy.tab1 impl_cellCopy.bits1 (fun HT_ HW_ => ?_)
 generalize w5.drew = w6 at BK315 BK316 HB hHeld ⊢
 refine pure_ (i := 0) (N := some 3) (v := ?_) (a' := ?_) #[T,F,F,F,F,F,F,F] rfl rfl ZA ZF (Or.inl ⟨by rfl, ?_⟩) ?_ ?_
 rotate_left
 ·exact Z15
 rotate_left
 ·exact Z1
 refine pure_ (i := 3) (N := some 6) (v := ?_) (a' := ?_) #[T,F,F,T,F,F,F,F] rfl rfl ZA ZF (Or.inl ⟨by rfl, ?_⟩) ?_ ?_
 rotate_left
 ·exact Z15
 rotate_left
 ·exact Z1
 refine take_ (i := 1) (N := some 4) (v := ?_) (a' := ?_) #[T,T,F,T,F,F,F,F] rfl rfl (take_ofW HT_.out HW_.out (by kernel_rfl)) ZF (Or.inl ⟨by rfl, ?_⟩) hHeld ?_ ?_
 rotate_left
 ·exact Z44
 rotate_left
 ·exact Z1
 refine take_ (i := 4) (N := some 7) (v := ?_) (a' := ?_) #[T,T,F,T,T,F,F,F] rfl rfl (take_ofW HT_.out HW_.out (by kernel_rfl)) ZF (Or.inl ⟨by rfl, ?_⟩) hHeld ?_ ?_
 rotate_left
 ·exact Z44
 rotate_left
 ·exact Z1
 refine one_ (i := 2) (N := some 5) #[T,T,T,T,T,F,F,F] rfl rfl (one_of HT_.out (by kernel_rfl)) (by decide) (fun K hK => ?_)
 refine goes_ Try.func55 (by kernel_rfl) rfl #[.slice A0_0 l0_0.length c0_0] (by rfl) rfl rfl Z5 ?_
 with_reducible refine (impl_placeCopy.calls _ _ l0_0 t317 _ ?side1 ?side2 A2.out).mono ?_
 (case side1 => exact Z3 HR0_0.out)
 (case side2 => exact HC0_0.out)
 rintro e w7 ⟨v318, rfl, ho0, hb⟩
 refine ⟨_, rfl, ?_⟩
 have n0_ := A_ (Kd.R_lower ho0 (below_size (Z12 GE315.out GE316.out)))
 have n1_ := A_ (blk_below (g := gb315) (o := .cells #[.slice A0_0 l0_0.length c0_0, .slice A0_1 l0_1.length c0_1] 89 (0, 0)) (Z4 BK315.out) hb)
 have n2_ := A_ (blk_below (g := gb316) (o := .cells #[.slice none 0 0, .slice none 0 0] 89 (0, 0)) (Z4 BK316.out) hb)
 have n3_ := A_ (below_step (Z12 GE315.out GE316.out) hb)
 clear BK315
 clear BK316
 clear HB
 have HO319 := n0_
 have BK315 := n1_
 have BK316 := n2_
 have HB := n3_
 clear n0_ n1_ n2_ n3_
 (try clear hb)
 (try clear hb2)
 (try clear hk)
 (try clear hi)
 (try clear ho0)
 refine hK.out _ _ ⟨(blk_cell BK315.out 0).trans rfl, (blk_cell BK315.out 1).trans rfl⟩ (fun hHeld => ?_)
 clear hK K
 refine norm_ (a' := ?_) ?_ ?_
 rotate_left
 ·show Act.put _ (some 5) _ = _
  simp only [Act.put, List.setIfInBounds_toArray, List.set_cons_zero, List.set_cons_succ, i64_w, i32_w]
  rfl
 refine one_ (i := 5) (N := some 8) #[T,T,T,T,T,T,F,F] rfl rfl (one_of HT_.out (by kernel_rfl)) (by decide) (fun K hK => ?_)
 refine goes_ Try.func65 (by kernel_rfl) rfl #[.slice A0_1 l0_1.length c0_1] (by rfl) rfl rfl Z5 ?_
 with_reducible refine (impl_valsCopy.calls _ _ l0_1 t320 _ ?side1 ?side2 A3.out).mono ?_
 (case side1 => exact Z3 HR0_1.out)
 (case side2 => exact HC0_1.out)
 rintro e w8 ⟨v321, rfl, ho0, hb⟩
 refine ⟨_, rfl, ?_⟩
 have n0_ := A_ (Kd.R_below (Z6 HO319.out) hb)
 have n1_ := A_ (Kd.R_lower ho0 (below_size (Z12 GE315.out GE316.out)))
 have n2_ := A_ (blk_below (g := gb315) (o := .cells #[.slice A0_0 l0_0.length c0_0, .slice A0_1 l0_1.length c0_1] 89 (0, 0)) (Z4 BK315.out) hb)
 have n3_ := A_ (blk_below (g := gb316) (o := .cells #[.slice none 0 0, .slice none 0 0] 89 (0, 0)) (Z4 BK316.out) hb)
 have n4_ := A_ (below_step (Z12 GE315.out GE316.out) hb)
 clear HO319
 clear BK315
 clear BK316
 clear HB
 have HO319 := n0_
 have HO322 := n1_
 have BK315 := n2_
 have BK316 := n3_
 have HB := n4_
 clear n0_ n1_ n2_ n3_ n4_
 (try clear hb)
 (try clear hb2)
 (try clear hk)
 (try clear hi)
 (try clear ho0)
 obtain ⟨Ao9, co9, eo9⟩ := Kd.R_slice HO322.out
 (first | subst eo9 | (injection eo9 with f1_ f2_ f3_; have f4_ := f1_.symm; have f5_ := f3_.symm; clear f1_ f2_ f3_; subst f4_; subst f5_))
 obtain ⟨Ao10, co10, eo10⟩ := Kd.R_slice HO319.out
 (first | subst eo10 | (injection eo10 with f1_ f2_ f3_; have f4_ := f1_.symm; have f5_ := f3_.symm; clear f1_ f2_ f3_; subst f4_; subst f5_))
 refine hK.out _ _ ⟨(blk_cell BK315.out 0).trans rfl, (blk_cell BK315.out 1).trans rfl⟩ (fun hHeld => ?_)
 clear hK K
 refine norm_ (a' := ?_) ?_ ?_
 rotate_left
 ·show Act.put _ (some 8) _ = _
  simp only [Act.put, List.setIfInBounds_toArray, List.set_cons_zero, List.set_cons_succ, i64_w, i32_w]
  rfl
 refine pure_ (i := 6) (N := some 9) (v := ?_) (a' := ?_) #[T,T,T,T,T,T,T,F] rfl rfl ZA ZF (Or.inl ⟨by rfl, ?_⟩) ?_ ?_
 rotate_left
 ·exact Z15
 rotate_left
 ·exact Z1
 refine one_ (i := 7) (N := none) #[T,T,T,T,T,T,T,T] rfl rfl (one_of HT_.out (by kernel_rfl)) (by decide) (fun K hK => ?_)
 have hs11 : w8.cell? ⟨gb316, 0, none⟩ = some (.slice none 0 0) := (blk_cell BK316.out 0).trans rfl
 have hfs11 := blk_frozen BK316.out 0
 have hns11_0 := NB315_316.out
 have hms11_0 := NB316_315.out
 have hs12 : w8.cell? ⟨gb316, 1, none⟩ = some (.slice none 0 0) := (blk_cell BK316.out 1).trans rfl
 have hfs12 := blk_frozen BK316.out 1
 have hns12_0 := NB315_316.out
 have hms12_0 := NB316_315.out
 refine skip_ (w1 := ?_) (by rfl) rfl ?_ ?_
 rotate_left
 ·go_simp
  rfl
 refine hK.out _ _ ⟨((cell_far (p := ⟨gb316, _, none⟩) NB315_316.out _).trans (((cell_far (p := ⟨gb316, _, none⟩) NB315_316.out _).trans (hHeld.1)))), ((cell_far (p := ⟨gb316, _, none⟩) NB315_316.out _).trans (((cell_far (p := ⟨gb316, _, none⟩) NB315_316.out _).trans (hHeld.2))))⟩ (fun hHeld => ?_)
 clear hK K
 refine done_ (done_of HT_.out (by kernel_rfl)) ?_
 try go_wp2
 refine bodyPost_ret (results_cell_row rfl _ _ gb316 89 #[.slice Ao10 t317.length co10, .slice Ao9 t320.length co9] (0, 0) _ rfl (by (with_reducible repeat (first | refine blk_drewN ?_ _ | refine blk_drew ?_ | refine blk_alloc ?_ _)); refine blk_put (cs := #[.slice Ao10 t317.length co10, .slice none 0 0]) ?_ 1 _ rfl; (with_reducible repeat (first | refine blk_drewN ?_ _ | refine blk_drew ?_ | refine blk_alloc ?_ _)); refine blk_put (cs := #[.slice none 0 0, .slice none 0 0]) ?_ 0 _ rfl; (with_reducible repeat (first | refine blk_drewN ?_ _ | refine blk_drew ?_ | refine blk_alloc ?_ _)); exact BK316.out) Try.underlying89 rfl (by kernel_rfl)) rfl ?_
 exact ⟨_, _, Z14, by (with_reducible repeat (first | apply Kd.R_alloc | apply Kd.R_drewN | apply Kd.R_drew)); exact Kd.R_mono (Kd.R_far (p := ⟨gb316, 1, none⟩) (Kd.R_far (p := ⟨gb316, 0, none⟩) (Kd.R_types HO319.out BK316.out (by decide)) (fun _ hk => hk.2) (.slice Ao10 t317.length co10)) (fun _ hk => hk.2) (.slice Ao9 t320.length co9)) (fun _ hk => trivial), by (with_reducible repeat (first | apply Kd.R_alloc | apply Kd.R_drewN | apply Kd.R_drew)); exact Kd.R_mono (Kd.R_far (p := ⟨gb316, 1, none⟩) (Kd.R_far (p := ⟨gb316, 0, none⟩) (Kd.R_types HO322.out BK316.out (by decide)) (fun _ hk => hk.2) (.slice Ao10 t317.length co10)) (fun _ hk => hk.2) (.slice Ao9 t320.length co9)) (fun _ hk => trivial), Z12 GE315.out GE316.out⟩
mutual
def impl_storeSet.l0 : Nat → List (S92) → List (S99) → List (S89) → Bool → List (S89) → Int → Int → Option ((List (S89)))
 | 0, _, _, _, _, _, _, _ => none
 | k + 1, x1, x2, x7, x8, x13, x14, x15 => if x15 < x14 then (if 0 ≤ x15 then (if x15 < (x13.length : Int) then ((impl_placeCmp.f k x1 ((rd_T89 x13 x15).f0)).bind fun t328 => (if t328 ≤ 0 then (impl_storeSet.j1 k x1 x2 x7 x8 t328 x13 x14 x15 (!x8) ((rd_T89 x13 x15).f0) ((rd_T89 x13 x15).f1)) else (impl_storeSet.j1 k x1 x2 x7 x8 t328 x13 x14 x15 false ((rd_T89 x13 x15).f0) ((rd_T89 x13 x15).f1)))) else (none)) else (none)) else (if x8 = true then (some x7) else ((impl_placeCopy.f x1).bind fun t356 => ((impl_valsCopy.f x2).bind fun t359 => (if x7.length < 2932031007402 then (some (x7 ++ [(⟨t356, t359⟩ : S89)])) else (none)))))
def impl_storeSet.j1 : Nat → List (S92) → List (S99) → List (S89) → Bool → Int → List (S89) → Int → Int → Bool → List (S92) → List (S99) → Option ((List (S89)))
 | 0, _, _, _, _, _, _, _, _, _, _, _ => none
 | k + 1, x1, x2, x7, x8, x11, x13, x14, x15, x28, x328000, x328001 => if x28 = true then ((impl_placeCopy.f x1).bind fun t329 => ((impl_valsCopy.f x2).bind fun t332 => (if x7.length < 2932031007402 then ((some (x7 ++ [(⟨t329, t332⟩ : S89)] : List (S89))).bind fun y335 => (if x11 = 0 then (impl_storeSet.l0 k x1 x2 y335 true x13 x14 (wrap64 (x15 + 1))) else ((impl_cellCopy.f x328000 x328001).bind fun bt338 => (if y335.length < 2932031007402 then (impl_storeSet.l0 k x1 x2 (y335 ++ [(⟨bt338.1, bt338.2⟩ : S89)]) true x13 x14 (wrap64 (x15 + 1))) else (none))))) else (none)))) else ((impl_cellCopy.f x328000 x328001).bind fun bt347 => (if x7.length < 2932031007402 then (impl_storeSet.l0 k x1 x2 (x7 ++ [(⟨bt347.1, bt347.2⟩ : S89)]) x8 x13 x14 (wrap64 (x15 + 1))) else (none)))
end
def impl_storeSet.f (k : Nat) (l0 : List (S89)) (l1 : List (S92)) (l2 : List (S99)) : Option ((List (S89))) := impl_storeSet.l0 k l1 l2 (([] : List (S89))) false l0 (l0.length : Int) 0
theorem impl_storeSet.mono_l : ∀ k, (∀ y0 y1 y2 y3 y4 y5 y6, LeO (impl_storeSet.l0 k y0 y1 y2 y3 y4 y5 y6) (impl_storeSet.l0 (k + 1) y0 y1 y2 y3 y4 y5 y6)) ∧ (∀ y0 y1 y2 y3 y4 y5 y6 y7 y8 y9 y10, LeO (impl_storeSet.j1 k y0 y1 y2 y3 y4 y5 y6 y7 y8 y9 y10) (impl_storeSet.j1 (k + 1) y0 y1 y2 y3 y4 y5 y6 y7 y8 y9 y10))
 | 0 => ⟨fun _ _ _ _ _ _ _ r h => by simp [impl_storeSet.l0] at h, fun _ _ _ _ _ _ _ _ _ _ _ r h => by simp [impl_storeSet.j1] at h⟩
 | k + 1 => by
  obtain ⟨ih0, ih1⟩ := impl_storeSet.mono_l k
  refine ⟨?_, ?_⟩
  ·intro y0 y1 y2 y3 y4 y5 y6
   unfold impl_storeSet.l0
   repeat' first
   | (with_reducible exact ih0 _ _ _ _ _ _ _)
   | (with_reducible exact ih1 _ _ _ _ _ _ _ _ _ _ _)
   | (with_reducible exact impl_placeCmp.mono _ _ _)
   | (with_reducible exact LeO.refl _)
   | (with_reducible exact LeO.none _)
   | (with_reducible refine LeO.ite ?_ ?_)
   | (with_reducible refine LeO.bind ?_ (fun _ => ?_))
   | exact ih0 _ _ _ _ _ _ _
   | exact ih1 _ _ _ _ _ _ _ _ _ _ _
   | exact impl_placeCmp.mono _ _ _
   | exact LeO.none _
   | refine LeO.ite ?_ ?_
   | refine LeO.bind ?_ (fun _ => ?_)
  ·intro y0 y1 y2 y3 y4 y5 y6 y7 y8 y9 y10
   unfold impl_storeSet.j1
   repeat' first
   | (with_reducible exact ih0 _ _ _ _ _ _ _)
   | (with_reducible exact ih1 _ _ _ _ _ _ _ _ _ _ _)
   | (with_reducible exact impl_placeCmp.mono _ _ _)
   | (with_reducible exact LeO.refl _)
   | (with_reducible exact LeO.none _)
   | (with_reducible refine LeO.ite ?_ ?_)
   | (with_reducible refine LeO.bind ?_ (fun _ => ?_))
   | exact ih0 _ _ _ _ _ _ _
   | exact ih1 _ _ _ _ _ _ _ _ _ _ _
   | exact impl_placeCmp.mono _ _ _
   | exact LeO.none _
   | refine LeO.ite ?_ ?_
   | refine LeO.bind ?_ (fun _ => ?_)
theorem impl_storeSet.mono : ∀ a0 a1 a2 k, LeO (impl_storeSet.f k a0 a1 a2) (impl_storeSet.f (k + 1) a0 a1 a2) := by
 intro a0 a1 a2 k
 obtain ⟨ih0, ih1⟩ := impl_storeSet.mono_l k
 unfold impl_storeSet.f
 repeat' first
   | (with_reducible exact ih0 _ _ _ _ _ _ _)
   | (with_reducible exact ih1 _ _ _ _ _ _ _ _ _ _ _)
   | (with_reducible exact impl_placeCmp.mono _ _ _)
   | (with_reducible exact LeO.refl _)
   | (with_reducible exact LeO.none _)
   | (with_reducible refine LeO.ite ?_ ?_)
   | (with_reducible refine LeO.bind ?_ (fun _ => ?_))
   | exact ih0 _ _ _ _ _ _ _
   | exact ih1 _ _ _ _ _ _ _ _ _ _ _
   | exact impl_placeCmp.mono _ _ _
   | exact LeO.none _
   | refine LeO.ite ?_ ?_
   | refine LeO.bind ?_ (fun _ => ?_)
set_option maxHeartbeats 8000000 in
set_option maxRecDepth 100000 in
theorem impl_storeSet.calls (k : Nat) (A0 : Option Addr) (c0 : Nat) (l0 : List (S89)) (A1 : Option Addr) (c1 : Nat) (l1 : List (S92)) (A2 : Option Addr) (c2 : Nat) (l2 : List (S99)) (r : List (S89)) (w : World) (hr0 : Kd.C k89 w A0 l0.length l0) (hc0 : l0.length ≤ c0) (hr1 : Kd.C k92 w A1 l1.length l1) (hc1 : l1.length ≤ c1) (hr2 : Kd.C k99 w A2 l2.length l2) (hc2 : l2.length ≤ c2) (h : impl_storeSet.f k l0 l1 l2 = some r) :
  Calls Try.prog 79 #[.slice A0 l0.length c0, .slice A1 l1.length c1, .slice A2 l2.length c2] w fun e w' => ∃ v0_ : Value, e = .returned (v0_) ∧ Kd.S k89 89 w' w.heap.size (fun _ => True) v0_ r ∧ Below w.heap.size w w' := by
 have hu89 := Try.underlying89
 have HR0 := A_ hr0
 have HC0 := A_ hc0
 clear hr0 hc0
 have HR1 := A_ hr1
 have HC1 := A_ hc1
 clear hr1 hc1
 have HR2 := A_ hr2
 have HC2 := A_ hc2
 clear hr2 hc2
 have HB := A_ (Below.refl w.heap.size w)
 have H : (impl_storeSet.l0 k l1 l2 (([] : List (S89))) false l0 (l0.length : Int) 0) = some r := h
 clear h
 obtain ⟨y323, hy323⟩ : ∃ y_ : List (S89), y_ = (([] : List (S89))) := ⟨_, rfl⟩
 replace H : (impl_storeSet.l0 k l1 l2 y323 false l0 (l0.length : Int) 0) = some r := by first | (rw [hy323]; with_reducible exact H) | (have H2_ := (Option.bind_some _ _).symm.trans H; rw [hy323]; with_reducible exact H2_) | (have H2_ := (Option.bind_some _ _).symm.trans H; with_reducible exact H2_) | with_reducible exact H | (rw [hy323]; exact H) | exact H
 have Ny323 := A_ hy323
 clear hy323
 have H' := A_ H
 clear H
 go_enter Try.func79, Try.ntmps79
 go_wp2_with (first | ((with_reducible refine gate_dst (N := 12) rfl ?_); refine Kd.S_lit k89 _ 89 ?hg (N := 12) ?hd (xs := ([] : List (S89))) (inner := []) (ok := fun _ => True) (okp := fun _ => True) ?hr ?hp (fun _ hk => hk) trivial (Below.refl _ _) (Nat.le_refl _) (by simp) ?_; (case hd => rfl); (case hg => rfl); (case hr => exact Z20); (case hp => exact (Reps.none _ _)); intro v324 w4 ho5 hb hg_ hnew_; clear hg_ hnew_; (first | rw [← Ny323.out] at ho5 | (simp only [Int.reduceToNat] at ho5; rw [← Ny323.out] at ho5)); have n0_ := A_ (Kd.S_lower ho5 (below_size Z0)); have n1_ := A_ (below_step Z0 hb); clear HB; have HO325 := n0_; have HB := n1_; clear n0_ n1_; clear hb ho5))
 go_loopg [7, 8, 15] k (fun kq v7 v8 v15 w' => ∃ (x7_1 : List (S89)) (x8_1 : Bool) (x15_1 : Int), v8 = .bool x8_1 ∧ v15 = .int .i64 x15_1 ∧ Aside0 (impl_storeSet.l0 kq l1 l2 x7_1 x8_1 l0 (l0.length : Int) x15_1 = some r) ∧ Aside0 (kq ≤ k) ∧ Aside0 (Kd.S k89 89 w' w.heap.size (fun _ => True) v7 x7_1) ∧ Aside0 (Below w.heap.size w w'))
 case atStart => exact ⟨(y323), (false), (0), Z17, Z17, H', ⟨Nat.le_refl _⟩, ⟨Z11 HO325.out⟩, ⟨Z0⟩⟩
 case round =>
  clear H'
  try clear c1
  try clear c2
  try clear p2
  obtain ⟨x7_1, x8_1, x15_1, rfl, rfl, HA, HK1, HO_7, HB⟩ := hrel
  cases gk with
  | zero => exact absurd HA.out (by simp [impl_storeSet.l0])
  | succ k1 =>
   have H := HA.out
   clear HA
   simp only [impl_storeSet.l0] at H
   by_cases c6 : x15_1 < (l0.length : Int)
   ·rw [if_pos c6] at H
    have c6b0 : decide (x15_1 < (l0.length : Int)) = true := decide_eq_true c6
    clear c6
    by_cases c7 : 0 ≤ x15_1
    ·rw [if_pos c7] at H
     have c7b0 : decide (0 ≤ x15_1) = true := decide_eq_true c7
     clear c7
     by_cases c8 : x15_1 < (l0.length : Int)
     ·rw [if_pos c8] at H
      have c8b0 : decide (x15_1 < (l0.length : Int)) = true := decide_eq_true c8
      clear c8
      replace H := Option.bind_eq_some_iff.mp H
      obtain ⟨t328, A90, H⟩ := H
      replace H : (if t328 ≤ 0 then (impl_storeSet.j1 k1 l1 l2 x7_1 x8_1 t328 l0 (l0.length : Int) x15_1 (!x8_1) ((rd_T89 l0 x15_1).f0) ((rd_T89 l0 x15_1).f1)) else (impl_storeSet.j1 k1 l1 l2 x7_1 x8_1 t328 l0 (l0.length : Int) x15_1 false ((rd_T89 l0 x15_1).f0) ((rd_T89 l0 x15_1).f1))) = some r := H
      have A9 := A_ A90
      clear A90
      have HC10 := A_ H
      clear H
      have p326 : 0 ≤ (x15_1 : Int) := of_decide_eq_true Z13
      have q326 : x15_1 < (l0.length : Int) := of_decide_eq_true Z13
      obtain ⟨ad326, A326_0, c326_0, A326_1, c326_1, e326, hx326_0, hx326_1, hl326_0, hi326_0, hl326_1, hi326_1⟩ := at_T89 HR0.out x15_1 p326 q326
      cases e326
      replace hx326_0 := ZC HB.out hx326_0
      replace hx326_1 := ZC HB.out hx326_1
      have HR326_0 := A_ hi326_0
      have HC326_0 := A_ hl326_0
      clear hi326_0 hl326_0
      have HR326_1 := A_ hi326_1
      have HC326_1 := A_ hl326_1
      clear hi326_1 hl326_1
      replace p326 := eq_true p326
      replace q326 := eq_true q326
      go_upto_region 7 with (first | ((with_reducible refine gate_dst (N := 10) rfl ?_); refine box_event ?hg (N := 10) ?hd (cs := #[.slice none 0 0, .slice none 0 0]) (t := 89) ?hr ?_; (case hd => rfl); (case hg => rfl); (case hr => exact Z20); intro gb327 hg w11 hbox hb; have n0_ := A_ (Kd.S_below (Kd.S_elderB (Z11 HO_7.out) gb327 (Nat.le_of_eq hg.symm)) hb); have n1_ := A_ (below_step Z0 hb); have n2_ := A_ (hbox); have n3_ := A_ ((by rw [hg]; exact (below_size Z0) : w.heap.size ≤ gb327)); have n4_ := A_ ((by rw [hg]; exact (below_size Z0) : w.heap.size ≤ gb327)); clear HO_7; clear HB; have HO_7 := n0_; have HB := n1_; have BK327 := n2_; have GW327 := n3_; have GE327 := n4_; clear n0_ n1_ n2_ n3_ n4_; clear hb hbox hg; have hcz12_0 : w11.cell? ⟨gb327, 0, none⟩ = some (.slice none 0 0) := (blk_cell BK327.out 0).trans rfl; have hcz12_1 : w11.cell? ⟨gb327, 1, none⟩ = some (.slice none 0 0) := (blk_cell BK327.out 1).trans rfl; have hfz12_0 := blk_frozen BK327.out 0; have hfz12_1 := blk_frozen BK327.out 1) | ((with_reducible refine gate_callee (f := 54) rfl ?_); refine goesL_ (some 22) rfl rfl Try.func54 (by kernel_rfl) rfl #[.slice A1 l1.length c1, .slice A326_0 ((rd_T89 l0 x15_1).f0).length c326_0] rfl Z5 ?_; (with_reducible refine (impl_placeCmp.calls k1 _ _ l1 _ _ ((rd_T89 l0 x15_1).f0) t328 _ ?side1 ?side2 ?side3 ?side4 A9.out).mono ?_); (case side1 => exact Kd.C_below HR1.out (Z2 GE327.out)); (case side2 => exact HC1.out); (case side3 => exact Kd.C_below HR326_0.out (Z2 GE327.out)); (case side4 => exact HC326_0.out); rintro e w13 ⟨rfl, hb⟩; refine ⟨_, rfl, ?_⟩; have n0_ := A_ (Kd.S_below (by (with_reducible repeat (first | apply Kd.S_alloc | apply Kd.S_drewN | apply Kd.S_drew)); exact (Kd.S_mono (Kd.S_far (p := ⟨gb327, 1, none⟩) (Kd.S_far (p := ⟨gb327, 0, none⟩) (Kd.S_mono HO_7.out (fun k_ hk => (⟨hk, hk.2⟩ : _ ∧ k_ ≠ gb327))) (fun _ hk => hk.2) (.slice A326_0 ((rd_T89 l0 x15_1).f0).length c326_0)) (fun _ hk => hk.2) (.slice A326_1 ((rd_T89 l0 x15_1).f1).length c326_1)) (fun _ h_ => h_.1))) hb); have n1_ := A_ (blk_below (g := gb327) (o := .cells #[.slice A326_0 ((rd_T89 l0 x15_1).f0).length c326_0, .slice A326_1 ((rd_T89 l0 x15_1).f1).length c326_1] 89 (0, 0)) (by (with_reducible repeat (first | refine blk_drewN ?_ _ | refine blk_drew ?_ | refine blk_alloc ?_ _)); refine blk_put (cs := #[.slice A326_0 ((rd_T89 l0 x15_1).f0).length c326_0, .slice none 0 0]) ?_ 1 _ rfl; (with_reducible repeat (first | refine blk_drewN ?_ _ | refine blk_drew ?_ | refine blk_alloc ?_ _)); refine blk_put (cs := #[.slice none 0 0, .slice none 0 0]) ?_ 0 _ rfl; (with_reducible repeat (first | refine blk_drewN ?_ _ | refine blk_drew ?_ | refine blk_alloc ?_ _)); exact BK327.out) hb); have n2_ := A_ (below_step (Z2 GE327.out) hb); clear HO_7; clear BK327; clear HB; have HO_7 := n0_; have BK327 := n1_; have HB := n2_; clear n0_ n1_ n2_; (try clear hb); (try clear hb2); (try clear hk); (try clear hi)))
      (try simp only [Act.put, List.setIfInBounds_toArray, List.set_cons_zero, List.set_cons_succ])
      go_cut [28] (fun v28 wc => ∃ (kq : Nat) (x28_9 : Bool), v28 = .bool x28_9 ∧ Aside0 (impl_storeSet.j1 kq l1 l2 x7_1 x8_1 t328 l0 (l0.length : Int) x15_1 x28_9 ((rd_T89 l0 x15_1).f0) ((rd_T89 l0 x15_1).f1) = some r) ∧ Aside0 (kq ≤ k1) ∧ Aside0 (Kd.S k89 89 wc w.heap.size (fun k_ => k_ ≠ gb327) u7 x7_1) ∧ Aside0 (wc.heap[gb327]? = some (.cells #[(.slice A326_0 ((rd_T89 l0 x15_1).f0).length c326_0), (.slice A326_1 ((rd_T89 l0 x15_1).f1).length c326_1)] 89 (0, 0))) ∧ Aside0 (Below w.heap.size w wc))
      case first =>
       have H := HC10.out
       clear HC10
       by_cases c14 : t328 ≤ 0
       ·rw [if_pos c14] at H
        have c14b0 : decide (t328 ≤ 0) = true := decide_eq_true c14
        clear c14
        (first | rw [c14b0] | (simp only [i64_w, i32_w]; rw [c14b0]) | skip)
        have H' := A_ H
        clear H
        go_wp2
        go_meet
        case rel => exact ⟨_, (!x8_1), Z17, H', ⟨by have := HK1.out; first | omega | exact Nat.le_refl _⟩, ⟨by (with_reducible repeat (first | apply Kd.S_alloc | apply Kd.S_drewN | apply Kd.S_drew)); exact Kd.S_mono HO_7.out (fun _ hk => hk.2)⟩, ⟨Z4 BK327.out⟩, ⟨Z2 GE327.out⟩⟩
       ·rw [if_neg c14] at H
        have c14b0 : decide (t328 ≤ 0) = false := decide_eq_false c14
        clear c14
        (first | rw [c14b0] | (simp only [i64_w, i32_w]; rw [c14b0]) | skip)
        have H' := A_ H
        clear H
        go_wp2
        go_meet
        case rel => exact ⟨_, (false), Z17, H', ⟨by have := HK1.out; first | omega | exact Nat.le_refl _⟩, ⟨by (with_reducible repeat (first | apply Kd.S_alloc | apply Kd.S_drewN | apply Kd.S_drew)); exact Kd.S_mono HO_7.out (fun _ hk => hk.2)⟩, ⟨Z4 BK327.out⟩, ⟨Z2 GE327.out⟩⟩
      case rest =>
       clear HC10
       try clear c1
       try clear c2
       try clear p2
       try clear c3
       try clear p3
       try clear q3
       try clear hx3
       try clear c5
       try clear c6
       try clear c6b0
       try clear c7
       try clear c7b0
       try clear c8
       try clear c8b0
       try clear c14
       try clear c14b0
       try clear hcz12_0
       try clear hcz12_1
       try clear hfz12_0
       try clear hfz12_1
       try clear hx326_0
       try clear hx326_1
       try clear p2
       try clear p326
       try clear q326
       obtain ⟨kq, x28_9, rfl, HA, HJ9, HO_7, BK327, HB⟩ := hcut
       cases kq with
       | zero => exact absurd HA.out (by simp [impl_storeSet.j1])
       | succ kj9 =>
        have H := HA.out
        clear HA
        simp only [impl_storeSet.j1] at H
        by_cases c15 : x28_9 = true
        ·subst c15
         have H1 : ((impl_placeCopy.f l1).bind fun t329 => ((impl_valsCopy.f l2).bind fun t332 => (if x7_1.length < 2932031007402 then ((some (x7_1 ++ [(⟨t329, t332⟩ : S89)] : List (S89))).bind fun y335 => (if t328 = 0 then (impl_storeSet.l0 kj9 l1 l2 y335 true l0 (l0.length : Int) (wrap64 (x15_1 + 1))) else ((impl_cellCopy.f ((rd_T89 l0 x15_1).f0) ((rd_T89 l0 x15_1).f1)).bind fun bt338 => (if y335.length < 2932031007402 then (impl_storeSet.l0 kj9 l1 l2 (y335 ++ [(⟨bt338.1, bt338.2⟩ : S89)]) true l0 (l0.length : Int) (wrap64 (x15_1 + 1))) else (none))))) else (none)))) = some r := by rw [if_pos rfl] at H; exact H
         clear H
         have H := H1
         clear H1
         replace H := Option.bind_eq_some_iff.mp H
         obtain ⟨t329, A160, H⟩ := H
         replace H : ((impl_valsCopy.f l2).bind fun t332 => (if x7_1.length < 2932031007402 then ((some (x7_1 ++ [(⟨t329, t332⟩ : S89)] : List (S89))).bind fun y335 => (if t328 = 0 then (impl_storeSet.l0 kj9 l1 l2 y335 true l0 (l0.length : Int) (wrap64 (x15_1 + 1))) else ((impl_cellCopy.f ((rd_T89 l0 x15_1).f0) ((rd_T89 l0 x15_1).f1)).bind fun bt338 => (if y335.length < 2932031007402 then (impl_storeSet.l0 kj9 l1 l2 (y335 ++ [(⟨bt338.1, bt338.2⟩ : S89)]) true l0 (l0.length : Int) (wrap64 (x15_1 + 1))) else (none))))) else (none))) = some r := H
         have A16 := A_ A160
         clear A160
         replace H := Option.bind_eq_some_iff.mp H
         obtain ⟨t332, A170, H⟩ := H
         replace H : (if x7_1.length < 2932031007402 then ((some (x7_1 ++ [(⟨t329, t332⟩ : S89)] : List (S89))).bind fun y335 => (if t328 = 0 then (impl_storeSet.l0 kj9 l1 l2 y335 true l0 (l0.length : Int) (wrap64 (x15_1 + 1))) else ((impl_cellCopy.f ((rd_T89 l0 x15_1).f0) ((rd_T89 l0 x15_1).f1)).bind fun bt338 => (if y335.length < 2932031007402 then (impl_storeSet.l0 kj9 l1 l2 (y335 ++ [(⟨bt338.1, bt338.2⟩ : S89)]) true l0 (l0.length : Int) (wrap64 (x15_1 + 1))) else (none))))) else (none)) = some r := H
         have A17 := A_ A170
         clear A170
         by_cases c18 : x7_1.length < 2932031007402
         ·rw [if_pos c18] at H
          have LMc18 := A_ c18
          clear c18
          obtain ⟨y335, hy335⟩ : ∃ y_ : List (S89), y_ = (x7_1 ++ [(⟨t329, t332⟩ : S89)]) := ⟨_, rfl⟩
          replace H : (if t328 = 0 then (impl_storeSet.l0 kj9 l1 l2 y335 true l0 (l0.length : Int) (wrap64 (x15_1 + 1))) else ((impl_cellCopy.f ((rd_T89 l0 x15_1).f0) ((rd_T89 l0 x15_1).f1)).bind fun bt338 => (if y335.length < 2932031007402 then (impl_storeSet.l0 kj9 l1 l2 (y335 ++ [(⟨bt338.1, bt338.2⟩ : S89)]) true l0 (l0.length : Int) (wrap64 (x15_1 + 1))) else (none)))) = some r := by first | (rw [hy335]; with_reducible exact H) | (have H2_ := (Option.bind_some _ _).symm.trans H; rw [hy335]; with_reducible exact H2_) | (have H2_ := (Option.bind_some _ _).symm.trans H; with_reducible exact H2_) | with_reducible exact H | (rw [hy335]; exact H) | exact H
          have Ny335 := A_ hy335
          clear hy335
          by_cases c19 : t328 = 0
          ·rw [if_pos c19] at H
           have c19b0 : (t328 == 0) = true := beq_iff_eq.mpr c19
           have c19b1 : (t328 != 0) = false := bne_eq_false_iff_eq.mpr c19
           clear c19
           have H' := A_ H
           clear H
           go_wp2_with (first | ((with_reducible refine gate_callee (f := 55) rfl ?_); refine goesL_ (some 31) rfl rfl Try.func55 (by kernel_rfl) rfl #[.slice A1 l1.length c1] rfl Z5 ?_; (with_reducible refine (impl_placeCopy.calls _ _ l1 t329 _ ?side1 ?side2 A16.out).mono ?_); (case side1 => exact Z3 HR1.out); (case side2 => exact HC1.out); rintro e w20 ⟨v330, rfl, ho0, hb⟩; refine ⟨_, rfl, ?_⟩; have n0_ := A_ (Kd.S_elder' (Z11 HO_7.out) (Kd.R_base ho0) hb); have n1_ := A_ (Kd.R_lower ho0 (below_size (Z2 GE327.out))); have n2_ := A_ (blk_below (g := gb327) (o := .cells #[.slice A326_0 ((rd_T89 l0 x15_1).f0).length c326_0, .slice A326_1 ((rd_T89 l0 x15_1).f1).length c326_1] 89 (0, 0)) (Z4 BK327.out) hb); have n3_ := A_ (below_step (Z2 GE327.out) hb); clear HO_7; clear BK327; clear HB; have HO_7 := n0_; have HO331 := n1_; have BK327 := n2_; have HB := n3_; clear n0_ n1_ n2_ n3_; (try clear hb); (try clear hb2); (try clear hk); (try clear hi); (try clear ho0)) | ((with_reducible refine gate_callee (f := 65) rfl ?_); refine goesL_ (some 33) rfl rfl Try.func65 (by kernel_rfl) rfl #[.slice A2 l2.length c2] rfl Z5 ?_; (with_reducible refine (impl_valsCopy.calls _ _ l2 t332 _ ?side1 ?side2 A17.out).mono ?_); (case side1 => exact Z3 HR2.out); (case side2 => exact HC2.out); rintro e w21 ⟨v333, rfl, ho0, hb⟩; refine ⟨_, rfl, ?_⟩; have n0_ := A_ (Kd.S_elder' (Z11 HO_7.out) (Kd.R_base ho0) hb); have n1_ := A_ (Kd.R_below (Z6 HO331.out) hb); have n2_ := A_ (Kd.R_lower ho0 (below_size (Z2 GE327.out))); have n3_ := A_ (blk_below (g := gb327) (o := .cells #[.slice A326_0 ((rd_T89 l0 x15_1).f0).length c326_0, .slice A326_1 ((rd_T89 l0 x15_1).f1).length c326_1] 89 (0, 0)) (Z4 BK327.out) hb); have n4_ := A_ (below_step (Z2 GE327.out) hb); clear HO_7; clear HO331; clear BK327; clear HB; have HO_7 := n0_; have HO331 := n1_; have HO334 := n2_; have BK327 := n3_; have HB := n4_; clear n0_ n1_ n2_ n3_ n4_; (try clear hb); (try clear hb2); (try clear hk); (try clear hi); (try clear ho0); obtain ⟨Ao22, co22, eo22⟩ := Kd.R_slice HO334.out; subst eo22; obtain ⟨Ao23, co23, eo23⟩ := Kd.R_slice HO331.out; subst eo23) | ((with_reducible refine gate_builtin (b := .append) (xs := #[.tmp 29, .tmp 35]) rfl ?_); at_builtin; refine Kd.S_append k89 (w0 := w) w.heap.size rfl (.tmp 29) (.tmp 35) 41 89 (.agg #[(.slice none 0 0), (.slice none 0 0)]) 48 rfl Try.underlying41 info89 rfl (by decide) (by omega) u7 x7_1 (⟨t329, t332⟩ : S89) [.slice Ao23 t329.length co23, .slice Ao22 t332.length co22] (fun k_ => k_ ≠ gb327) (fun k_ => some k_ = (.slice Ao23 t329.length co23 : Value).ownBlock ∨ some k_ = (.slice Ao22 t332.length co22 : Value).ownBlock) rfl rfl ?aP (fun k_ hk_ => hk_.elim (fun h_ => ((Kd.R_mono (ok' := fun k_ => ((fun k_ => k_ ≠ gb327)) k_ ∧ some k_ ≠ (u7 : Value).ownBlock) (Kd.R_types (Kd.R_apart' (HO331.out) (Kd.S_typed HO_7.out) (by decide)) BK327.out (by decide)) (fun k_ hk => ⟨hk.2, hk.1.2⟩))).1 k_ h_.symm) (fun h_ => ((Kd.R_mono (ok' := fun k_ => ((fun k_ => k_ ≠ gb327)) k_ ∧ some k_ ≠ (u7 : Value).ownBlock) (Kd.R_types (Kd.R_apart' (HO334.out) (Kd.S_typed HO_7.out) (by decide)) BK327.out (by decide)) (fun k_ hk => ⟨hk.2, hk.1.2⟩))).1 k_ h_.symm)) ?aF ?aO ?aB ?aS ?aL ?_; (case aP => exact k89_mkM _ _ _ (⟨t329, t332⟩ : S89) (Kd.R_mono (Kd.R_tight rfl (Kd.R_mono (ok' := fun k_ => ((fun k_ => k_ ≠ gb327)) k_ ∧ some k_ ≠ (u7 : Value).ownBlock) (Kd.R_types (Kd.R_apart' (HO331.out) (Kd.S_typed HO_7.out) (by decide)) BK327.out (by decide)) (fun k_ hk => ⟨hk.2, hk.1.2⟩))) (fun _ h_ => Or.inl h_)) (Kd.R_mono (Kd.R_tight rfl (Kd.R_mono (ok' := fun k_ => ((fun k_ => k_ ≠ gb327)) k_ ∧ some k_ ≠ (u7 : Value).ownBlock) (Kd.R_types (Kd.R_apart' (HO334.out) (Kd.S_typed HO_7.out) (by decide)) BK327.out (by decide)) (fun k_ hk => ⟨hk.2, hk.1.2⟩))) (fun _ h_ => Or.inr (h_)))); (case aB => exact (Z2 GE327.out)); (case aF => exact Z38 BK327.out); (case aO => exact Z37 HO_7.out); (case aS => exact (below_size (Z2 GE327.out))); (case aL => have := LMc18.out; omega); intro v336 w24 ho hb hg hat; rw [← Ny335.out] at ho; have n0_ := A_ (blk_grown (g := gb327) (o := .cells #[.slice A326_0 ((rd_T89 l0 x15_1).f0).length c326_0, .slice A326_1 ((rd_T89 l0 x15_1).f1).length c326_1] 89 (0, 0)) (Z4 BK327.out) hg (Kd.S_away HO_7.out (fun _ hk => hk.1.1))); have n1_ := A_ (hb); have n2_ := A_ (ho); clear BK327; clear HB; clear HO_7; clear HO331; clear HO334; have BK327 := n0_; have HB := n1_; have HO337 := n2_; clear n0_ n1_ n2_; clear ho hb hg hat))
           go_roundg kj9
           case measure => have := HK1.out; have := HJ9.out; omega
           case rel => exact ⟨(y335), (true), (wrap64 (x15_1 + 1)), Z17, Z17, H', ⟨by have := HK1.out; have := HJ9.out; omega⟩, ⟨by (with_reducible repeat (first | apply Kd.S_alloc | apply Kd.S_drewN | apply Kd.S_drew)); exact Kd.S_mono HO337.out (fun _ hk => trivial)⟩, ⟨Z2 GE327.out⟩⟩
          ·rw [if_neg c19] at H
           have c19b0 : (t328 == 0) = false := beq_eq_false_iff_ne.mpr c19
           have c19b1 : (t328 != 0) = true := bne_iff_ne.mpr c19
           replace H := Option.bind_eq_some_iff.mp H
           obtain ⟨⟨t338, t341⟩, A250, H⟩ := H
           replace H : (if y335.length < 2932031007402 then (impl_storeSet.l0 kj9 l1 l2 (y335 ++ [(⟨t338, t341⟩ : S89)]) true l0 (l0.length : Int) (wrap64 (x15_1 + 1))) else (none)) = some r := H
           have A25 := A_ A250
           clear A250
           by_cases c26 : y335.length < 2932031007402
           ·rw [if_pos c26] at H
            have LMc26 := A_ c26
            clear c26
            obtain ⟨y344, hy344⟩ : ∃ y_ : List (S89), y_ = (y335 ++ [(⟨t338, t341⟩ : S89)]) := ⟨_, rfl⟩
            replace H : (impl_storeSet.l0 kj9 l1 l2 y344 true l0 (l0.length : Int) (wrap64 (x15_1 + 1))) = some r := by first | (rw [hy344]; with_reducible exact H) | (have H2_ := (Option.bind_some _ _).symm.trans H; rw [hy344]; with_reducible exact H2_) | (have H2_ := (Option.bind_some _ _).symm.trans H; with_reducible exact H2_) | with_reducible exact H | (rw [hy344]; exact H) | exact H
            have Ny344 := A_ hy344
            clear hy344
            have H' := A_ H
            clear H
            go_wp2_with (first | ((with_reducible refine gate_callee (f := 55) rfl ?_); refine goesL_ (some 31) rfl rfl Try.func55 (by kernel_rfl) rfl #[.slice A1 l1.length c1] rfl Z5 ?_; (with_reducible refine (impl_placeCopy.calls _ _ l1 t329 _ ?side1 ?side2 A16.out).mono ?_); (case side1 => exact Z3 HR1.out); (case side2 => exact HC1.out); rintro e w27 ⟨v330, rfl, ho0, hb⟩; refine ⟨_, rfl, ?_⟩; have n0_ := A_ (Kd.S_elder' (Z11 HO_7.out) (Kd.R_base ho0) hb); have n1_ := A_ (Kd.R_lower ho0 (below_size (Z2 GE327.out))); have n2_ := A_ (blk_below (g := gb327) (o := .cells #[.slice A326_0 ((rd_T89 l0 x15_1).f0).length c326_0, .slice A326_1 ((rd_T89 l0 x15_1).f1).length c326_1] 89 (0, 0)) (Z4 BK327.out) hb); have n3_ := A_ (below_step (Z2 GE327.out) hb); clear HO_7; clear BK327; clear HB; have HO_7 := n0_; have HO331 := n1_; have BK327 := n2_; have HB := n3_; clear n0_ n1_ n2_ n3_; (try clear hb); (try clear hb2); (try clear hk); (try clear hi); (try clear ho0)) | ((with_reducible refine gate_callee (f := 65) rfl ?_); refine goesL_ (some 33) rfl rfl Try.func65 (by kernel_rfl) rfl #[.slice A2 l2.length c2] rfl Z5 ?_; (with_reducible refine (impl_valsCopy.calls _ _ l2 t332 _ ?side1 ?side2 A17.out).mono ?_); (case side1 => exact Z3 HR2.out); (case side2 => exact HC2.out); rintro e w28 ⟨v333, rfl, ho0, hb⟩; refine ⟨_, rfl, ?_⟩; have n0_ := A_ (Kd.S_elder' (Z11 HO_7.out) (Kd.R_base ho0) hb); have n1_ := A_ (Kd.R_below (Z6 HO331.out) hb); have n2_ := A_ (Kd.R_lower ho0 (below_size (Z2 GE327.out))); have n3_ := A_ (blk_below (g := gb327) (o := .cells #[.slice A326_0 ((rd_T89 l0 x15_1).f0).length c326_0, .slice A326_1 ((rd_T89 l0 x15_1).f1).length c326_1] 89 (0, 0)) (Z4 BK327.out) hb); have n4_ := A_ (below_step (Z2 GE327.out) hb); clear HO_7; clear HO331; clear BK327; clear HB; have HO_7 := n0_; have HO331 := n1_; have HO334 := n2_; have BK327 := n3_; have HB := n4_; clear n0_ n1_ n2_ n3_ n4_; (try clear hb); (try clear hb2); (try clear hk); (try clear hi); (try clear ho0); obtain ⟨Ao29, co29, eo29⟩ := Kd.R_slice HO334.out; subst eo29; obtain ⟨Ao30, co30, eo30⟩ := Kd.R_slice HO331.out; subst eo30) | ((with_reducible refine gate_builtin (b := .append) (xs := #[.tmp 29, .tmp 35]) rfl ?_); at_builtin; refine Kd.S_append k89 (w0 := w) w.heap.size rfl (.tmp 29) (.tmp 35) 41 89 (.agg #[(.slice none 0 0), (.slice none 0 0)]) 48 rfl Try.underlying41 info89 rfl (by decide) (by omega) u7 x7_1 (⟨t329, t332⟩ : S89) [.slice Ao30 t329.length co30, .slice Ao29 t332.length co29] (fun k_ => k_ ≠ gb327) (fun k_ => some k_ = (.slice Ao30 t329.length co30 : Value).ownBlock ∨ some k_ = (.slice Ao29 t332.length co29 : Value).ownBlock) rfl rfl ?aP (fun k_ hk_ => hk_.elim (fun h_ => ((Kd.R_mono (ok' := fun k_ => ((fun k_ => k_ ≠ gb327)) k_ ∧ some k_ ≠ (u7 : Value).ownBlock) (Kd.R_types (Kd.R_apart' (HO331.out) (Kd.S_typed HO_7.out) (by decide)) BK327.out (by decide)) (fun k_ hk => ⟨hk.2, hk.1.2⟩))).1 k_ h_.symm) (fun h_ => ((Kd.R_mono (ok' := fun k_ => ((fun k_ => k_ ≠ gb327)) k_ ∧ some k_ ≠ (u7 : Value).ownBlock) (Kd.R_types (Kd.R_apart' (HO334.out) (Kd.S_typed HO_7.out) (by decide)) BK327.out (by decide)) (fun k_ hk => ⟨hk.2, hk.1.2⟩))).1 k_ h_.symm)) ?aF ?aO ?aB ?aS ?aL ?_; (case aP => exact k89_mkM _ _ _ (⟨t329, t332⟩ : S89) (Kd.R_mono (Kd.R_tight rfl (Kd.R_mono (ok' := fun k_ => ((fun k_ => k_ ≠ gb327)) k_ ∧ some k_ ≠ (u7 : Value).ownBlock) (Kd.R_types (Kd.R_apart' (HO331.out) (Kd.S_typed HO_7.out) (by decide)) BK327.out (by decide)) (fun k_ hk => ⟨hk.2, hk.1.2⟩))) (fun _ h_ => Or.inl h_)) (Kd.R_mono (Kd.R_tight rfl (Kd.R_mono (ok' := fun k_ => ((fun k_ => k_ ≠ gb327)) k_ ∧ some k_ ≠ (u7 : Value).ownBlock) (Kd.R_types (Kd.R_apart' (HO334.out) (Kd.S_typed HO_7.out) (by decide)) BK327.out (by decide)) (fun k_ hk => ⟨hk.2, hk.1.2⟩))) (fun _ h_ => Or.inr (h_)))); (case aB => exact (Z2 GE327.out)); (case aF => exact Z38 BK327.out); (case aO => exact Z37 HO_7.out); (case aS => exact (below_size (Z2 GE327.out))); (case aL => have := LMc18.out; omega); intro v336 w31 ho hb hg hat; rw [← Ny335.out] at ho; have n0_ := A_ (blk_grown (g := gb327) (o := .cells #[.slice A326_0 ((rd_T89 l0 x15_1).f0).length c326_0, .slice A326_1 ((rd_T89 l0 x15_1).f1).length c326_1] 89 (0, 0)) (Z4 BK327.out) hg (Kd.S_away HO_7.out (fun _ hk => hk.1.1))); have n1_ := A_ (hb); have n2_ := A_ (ho); clear BK327; clear HB; clear HO_7; clear HO331; clear HO334; have BK327 := n0_; have HB := n1_; have HO337 := n2_; clear n0_ n1_ n2_; clear ho hb hg hat; have hcz32_0 : w31.cell? ⟨gb327, 0, none⟩ = some (.slice A326_0 ((rd_T89 l0 x15_1).f0).length c326_0) := (blk_cell BK327.out 0).trans rfl; have hcz32_1 : w31.cell? ⟨gb327, 1, none⟩ = some (.slice A326_1 ((rd_T89 l0 x15_1).f1).length c326_1) := (blk_cell BK327.out 1).trans rfl; have hfz32_0 := blk_frozen BK327.out 0; have hfz32_1 := blk_frozen BK327.out 1) | ((with_reducible refine gate_callee (f := 73) rfl ?_); refine goesL_ (some 41) rfl rfl Try.func73 (by kernel_rfl) rfl #[.agg #[.slice A326_0 ((rd_T89 l0 x15_1).f0).length c326_0, .slice A326_1 ((rd_T89 l0 x15_1).f1).length c326_1]] rfl Z5 ?_; (with_reducible refine (impl_cellCopy.calls _ _ ((rd_T89 l0 x15_1).f0) _ _ ((rd_T89 l0 x15_1).f1) t338 t341 _ ?side1 ?side2 ?side3 ?side4 A25.out).mono ?_); (case side1 => exact Z3 HR326_0.out); (case side2 => exact HC326_0.out); (case side3 => exact Z3 HR326_1.out); (case side4 => exact HC326_1.out); rintro e w33 ⟨v339, v342, rfl, ho0, ho1, hb⟩; refine ⟨_, rfl, ?_⟩; have n0_ := A_ (Kd.S_mono (Kd.S_told (Kd.S_told (Kd.S_old (Z11 HO337.out) hb) (Kd.R_base ho0)) (Kd.R_base ho1)) (fun _ h_ => h_.1)); have n1_ := A_ (Kd.R_lower ho0 (below_size (Z2 GE327.out))); have n2_ := A_ (Kd.R_lower ho1 (below_size (Z2 GE327.out))); have n3_ := A_ (blk_below (g := gb327) (o := .cells #[.slice A326_0 ((rd_T89 l0 x15_1).f0).length c326_0, .slice A326_1 ((rd_T89 l0 x15_1).f1).length c326_1] 89 (0, 0)) (Z4 BK327.out) hb); have n4_ := A_ (below_step (Z2 GE327.out) hb); clear HO337; clear BK327; clear HB; have HO337 := n0_; have HO340 := n1_; have HO343 := n2_; have BK327 := n3_; have HB := n4_; clear n0_ n1_ n2_ n3_ n4_; (try clear hb); (try clear hb2); (try clear hk); (try clear hi); (try clear ho0); (try clear ho1); obtain ⟨Ao35, co35, eo35⟩ := Kd.R_slice HO340.out; subst eo35; obtain ⟨Ao36, co36, eo36⟩ := Kd.R_slice HO343.out; subst eo36) | ((with_reducible refine gate_builtin (b := .append) (xs := #[.tmp 39, .tmp 42]) rfl ?_); at_builtin; refine Kd.S_append k89 (w0 := w) w.heap.size rfl (.tmp 39) (.tmp 42) 41 89 (.agg #[(.slice none 0 0), (.slice none 0 0)]) 48 rfl Try.underlying41 info89 rfl (by decide) (by omega) v336 y335 (⟨t338, t341⟩ : S89) [.slice Ao35 t338.length co35, .slice Ao36 t341.length co36] (fun k_ => k_ ≠ gb327) (fun k_ => some k_ = (.slice Ao35 t338.length co35 : Value).ownBlock ∨ some k_ = (.slice Ao36 t341.length co36 : Value).ownBlock) rfl rfl ?aP (fun k_ hk_ => hk_.elim (fun h_ => ((Kd.R_mono (ok' := fun k_ => ((fun k_ => k_ ≠ gb327)) k_ ∧ some k_ ≠ (v336 : Value).ownBlock) (Kd.R_types (Kd.R_apart' (HO340.out) (Kd.S_typed HO337.out) (by decide)) BK327.out (by decide)) (fun k_ hk => ⟨hk.2, hk.1.2⟩))).1 k_ h_.symm) (fun h_ => ((Kd.R_mono (ok' := fun k_ => ((fun k_ => k_ ≠ gb327)) k_ ∧ some k_ ≠ (v336 : Value).ownBlock) (Kd.R_types (Kd.R_apart' (HO343.out) (Kd.S_typed HO337.out) (by decide)) BK327.out (by decide)) (fun k_ hk => ⟨hk.2, hk.1.2⟩))).1 k_ h_.symm)) ?aF ?aO ?aB ?aS ?aL ?_; (case aP => exact k89_mkM _ _ _ (⟨t338, t341⟩ : S89) (Kd.R_mono (Kd.R_tight rfl (Kd.R_mono (ok' := fun k_ => ((fun k_ => k_ ≠ gb327)) k_ ∧ some k_ ≠ (v336 : Value).ownBlock) (Kd.R_types (Kd.R_apart' (HO340.out) (Kd.S_typed HO337.out) (by decide)) BK327.out (by decide)) (fun k_ hk => ⟨hk.2, hk.1.2⟩))) (fun _ h_ => Or.inl h_)) (Kd.R_mono (Kd.R_tight rfl (Kd.R_mono (ok' := fun k_ => ((fun k_ => k_ ≠ gb327)) k_ ∧ some k_ ≠ (v336 : Value).ownBlock) (Kd.R_types (Kd.R_apart' (HO343.out) (Kd.S_typed HO337.out) (by decide)) BK327.out (by decide)) (fun k_ hk => ⟨hk.2, hk.1.2⟩))) (fun _ h_ => Or.inr (h_)))); (case aB => exact (Z2 GE327.out)); (case aF => exact Z38 BK327.out); (case aO => exact Z37 HO337.out); (case aS => exact (below_size (Z2 GE327.out))); (case aL => have := LMc26.out; omega); intro v345 w34 ho hb hg hat; rw [← Ny344.out] at ho; have n0_ := A_ (blk_grown (g := gb327) (o := .cells #[.slice A326_0 ((rd_T89 l0 x15_1).f0).length c326_0, .slice A326_1 ((rd_T89 l0 x15_1).f1).length c326_1] 89 (0, 0)) (Z4 BK327.out) hg (Kd.S_away HO337.out (fun _ hk => hk.1.1))); have n1_ := A_ (hb); have n2_ := A_ (ho); clear BK327; clear HB; clear HO337; clear HO340; clear HO343; have BK327 := n0_; have HB := n1_; have HO346 := n2_; clear n0_ n1_ n2_; clear ho hb hg hat))
            go_roundg kj9
            case measure => have := HK1.out; have := HJ9.out; omega
            case rel => exact ⟨(y344), (true), (wrap64 (x15_1 + 1)), Z17, Z17, H', ⟨by have := HK1.out; have := HJ9.out; omega⟩, ⟨by (with_reducible repeat (first | apply Kd.S_alloc | apply Kd.S_drewN | apply Kd.S_drew)); exact Kd.S_mono HO346.out (fun _ hk => trivial)⟩, ⟨Z2 GE327.out⟩⟩
           ·rw [if_neg c26] at H
            exact absurd H (by simp)
         ·rw [if_neg c18] at H
          exact absurd H (by simp)
        ·replace c15 := Bool.eq_false_iff.mpr c15
         subst c15
         have H1 : ((impl_cellCopy.f ((rd_T89 l0 x15_1).f0) ((rd_T89 l0 x15_1).f1)).bind fun bt347 => (if x7_1.length < 2932031007402 then (impl_storeSet.l0 kj9 l1 l2 (x7_1 ++ [(⟨bt347.1, bt347.2⟩ : S89)]) x8_1 l0 (l0.length : Int) (wrap64 (x15_1 + 1))) else (none))) = some r := by rw [if_neg (show ¬ (false = true) by decide)] at H; exact H
         clear H
         have H := H1
         clear H1
         replace H := Option.bind_eq_some_iff.mp H
         obtain ⟨⟨t347, t350⟩, A370, H⟩ := H
         replace H : (if x7_1.length < 2932031007402 then (impl_storeSet.l0 kj9 l1 l2 (x7_1 ++ [(⟨t347, t350⟩ : S89)]) x8_1 l0 (l0.length : Int) (wrap64 (x15_1 + 1))) else (none)) = some r := H
         have A37 := A_ A370
         clear A370
         by_cases c38 : x7_1.length < 2932031007402
         ·rw [if_pos c38] at H
          have LMc38 := A_ c38
          clear c38
          obtain ⟨y353, hy353⟩ : ∃ y_ : List (S89), y_ = (x7_1 ++ [(⟨t347, t350⟩ : S89)]) := ⟨_, rfl⟩
          replace H : (impl_storeSet.l0 kj9 l1 l2 y353 x8_1 l0 (l0.length : Int) (wrap64 (x15_1 + 1))) = some r := by first | (rw [hy353]; with_reducible exact H) | (have H2_ := (Option.bind_some _ _).symm.trans H; rw [hy353]; with_reducible exact H2_) | (have H2_ := (Option.bind_some _ _).symm.trans H; with_reducible exact H2_) | with_reducible exact H | (rw [hy353]; exact H) | exact H
          have Ny353 := A_ hy353
          clear hy353
          have H' := A_ H
          clear H
          have hcz39_0 : wc.cell? ⟨gb327, 0, none⟩ = some (.slice A326_0 ((rd_T89 l0 x15_1).f0).length c326_0) := (blk_cell BK327.out 0).trans rfl
          have hcz39_1 : wc.cell? ⟨gb327, 1, none⟩ = some (.slice A326_1 ((rd_T89 l0 x15_1).f1).length c326_1) := (blk_cell BK327.out 1).trans rfl
          have hfz39_0 := blk_frozen BK327.out 0
          have hfz39_1 := blk_frozen BK327.out 1
          go_wp2_with (first | ((with_reducible refine gate_callee (f := 73) rfl ?_); refine goesL_ (some 41) rfl rfl Try.func73 (by kernel_rfl) rfl #[.agg #[.slice A326_0 ((rd_T89 l0 x15_1).f0).length c326_0, .slice A326_1 ((rd_T89 l0 x15_1).f1).length c326_1]] rfl Z5 ?_; (with_reducible refine (impl_cellCopy.calls _ _ ((rd_T89 l0 x15_1).f0) _ _ ((rd_T89 l0 x15_1).f1) t347 t350 _ ?side1 ?side2 ?side3 ?side4 A37.out).mono ?_); (case side1 => exact Z3 HR326_0.out); (case side2 => exact HC326_0.out); (case side3 => exact Z3 HR326_1.out); (case side4 => exact HC326_1.out); rintro e w40 ⟨v348, v351, rfl, ho0, ho1, hb⟩; refine ⟨_, rfl, ?_⟩; have n0_ := A_ (Kd.S_mono (Kd.S_told (Kd.S_told (Kd.S_old (Z11 HO_7.out) hb) (Kd.R_base ho0)) (Kd.R_base ho1)) (fun _ h_ => h_.1)); have n1_ := A_ (Kd.R_lower ho0 (below_size (Z2 GE327.out))); have n2_ := A_ (Kd.R_lower ho1 (below_size (Z2 GE327.out))); have n3_ := A_ (blk_below (g := gb327) (o := .cells #[.slice A326_0 ((rd_T89 l0 x15_1).f0).length c326_0, .slice A326_1 ((rd_T89 l0 x15_1).f1).length c326_1] 89 (0, 0)) (Z4 BK327.out) hb); have n4_ := A_ (below_step (Z2 GE327.out) hb); clear HO_7; clear BK327; clear HB; have HO_7 := n0_; have HO349 := n1_; have HO352 := n2_; have BK327 := n3_; have HB := n4_; clear n0_ n1_ n2_ n3_ n4_; (try clear hb); (try clear hb2); (try clear hk); (try clear hi); (try clear ho0); (try clear ho1); obtain ⟨Ao42, co42, eo42⟩ := Kd.R_slice HO349.out; subst eo42; obtain ⟨Ao43, co43, eo43⟩ := Kd.R_slice HO352.out; subst eo43) | ((with_reducible refine gate_builtin (b := .append) (xs := #[.tmp 39, .tmp 42]) rfl ?_); at_builtin; refine Kd.S_append k89 (w0 := w) w.heap.size rfl (.tmp 39) (.tmp 42) 41 89 (.agg #[(.slice none 0 0), (.slice none 0 0)]) 48 rfl Try.underlying41 info89 rfl (by decide) (by omega) u7 x7_1 (⟨t347, t350⟩ : S89) [.slice Ao42 t347.length co42, .slice Ao43 t350.length co43] (fun k_ => k_ ≠ gb327) (fun k_ => some k_ = (.slice Ao42 t347.length co42 : Value).ownBlock ∨ some k_ = (.slice Ao43 t350.length co43 : Value).ownBlock) rfl rfl ?aP (fun k_ hk_ => hk_.elim (fun h_ => ((Kd.R_mono (ok' := fun k_ => ((fun k_ => k_ ≠ gb327)) k_ ∧ some k_ ≠ (u7 : Value).ownBlock) (Kd.R_types (Kd.R_apart' (HO349.out) (Kd.S_typed HO_7.out) (by decide)) BK327.out (by decide)) (fun k_ hk => ⟨hk.2, hk.1.2⟩))).1 k_ h_.symm) (fun h_ => ((Kd.R_mono (ok' := fun k_ => ((fun k_ => k_ ≠ gb327)) k_ ∧ some k_ ≠ (u7 : Value).ownBlock) (Kd.R_types (Kd.R_apart' (HO352.out) (Kd.S_typed HO_7.out) (by decide)) BK327.out (by decide)) (fun k_ hk => ⟨hk.2, hk.1.2⟩))).1 k_ h_.symm)) ?aF ?aO ?aB ?aS ?aL ?_; (case aP => exact k89_mkM _ _ _ (⟨t347, t350⟩ : S89) (Kd.R_mono (Kd.R_tight rfl (Kd.R_mono (ok' := fun k_ => ((fun k_ => k_ ≠ gb327)) k_ ∧ some k_ ≠ (u7 : Value).ownBlock) (Kd.R_types (Kd.R_apart' (HO349.out) (Kd.S_typed HO_7.out) (by decide)) BK327.out (by decide)) (fun k_ hk => ⟨hk.2, hk.1.2⟩))) (fun _ h_ => Or.inl h_)) (Kd.R_mono (Kd.R_tight rfl (Kd.R_mono (ok' := fun k_ => ((fun k_ => k_ ≠ gb327)) k_ ∧ some k_ ≠ (u7 : Value).ownBlock) (Kd.R_types (Kd.R_apart' (HO352.out) (Kd.S_typed HO_7.out) (by decide)) BK327.out (by decide)) (fun k_ hk => ⟨hk.2, hk.1.2⟩))) (fun _ h_ => Or.inr (h_)))); (case aB => exact (Z2 GE327.out)); (case aF => exact Z38 BK327.out); (case aO => exact Z37 HO_7.out); (case aS => exact (below_size (Z2 GE327.out))); (case aL => have := LMc38.out; omega); intro v354 w41 ho hb hg hat; rw [← Ny353.out] at ho; have n0_ := A_ (blk_grown (g := gb327) (o := .cells #[.slice A326_0 ((rd_T89 l0 x15_1).f0).length c326_0, .slice A326_1 ((rd_T89 l0 x15_1).f1).length c326_1] 89 (0, 0)) (Z4 BK327.out) hg (Kd.S_away HO_7.out (fun _ hk => hk.1.1))); have n1_ := A_ (hb); have n2_ := A_ (ho); clear BK327; clear HB; clear HO_7; clear HO349; clear HO352; have BK327 := n0_; have HB := n1_; have HO355 := n2_; clear n0_ n1_ n2_; clear ho hb hg hat))
          go_roundg kj9
          case measure => have := HK1.out; have := HJ9.out; omega
          case rel => exact ⟨(y353), (x8_1), (wrap64 (x15_1 + 1)), Z17, Z17, H', ⟨by have := HK1.out; have := HJ9.out; omega⟩, ⟨by (with_reducible repeat (first | apply Kd.S_alloc | apply Kd.S_drewN | apply Kd.S_drew)); exact Kd.S_mono HO355.out (fun _ hk => trivial)⟩, ⟨Z2 GE327.out⟩⟩
         ·rw [if_neg c38] at H
          exact absurd H (by simp)
     ·rw [if_neg c8] at H
      exact absurd H (by simp)
    ·rw [if_neg c7] at H
     exact absurd H (by simp)
   ·rw [if_neg c6] at H
    have c6b0 : decide (x15_1 < (l0.length : Int)) = false := decide_eq_false c6
    clear c6
    by_cases c44 : x8_1 = true
    ·subst c44
     have H1 : (some x7_1) = some r := by rw [if_pos rfl] at H; exact H
     clear H
     have H := H1
     clear H1
     obtain rfl := Option.some.inj H
     go_wp2
     go_ret
     exact ⟨_, Z14, Z11 HO_7.out, Z0⟩
    ·replace c44 := Bool.eq_false_iff.mpr c44
     subst c44
     have H1 : ((impl_placeCopy.f l1).bind fun t356 => ((impl_valsCopy.f l2).bind fun t359 => (if x7_1.length < 2932031007402 then (some (x7_1 ++ [(⟨t356, t359⟩ : S89)])) else (none)))) = some r := by rw [if_neg (show ¬ (false = true) by decide)] at H; exact H
     clear H
     have H := H1
     clear H1
     replace H := Option.bind_eq_some_iff.mp H
     obtain ⟨t356, A450, H⟩ := H
     replace H : ((impl_valsCopy.f l2).bind fun t359 => (if x7_1.length < 2932031007402 then (some (x7_1 ++ [(⟨t356, t359⟩ : S89)])) else (none))) = some r := H
     have A45 := A_ A450
     clear A450
     replace H := Option.bind_eq_some_iff.mp H
     obtain ⟨t359, A460, H⟩ := H
     replace H : (if x7_1.length < 2932031007402 then (some (x7_1 ++ [(⟨t356, t359⟩ : S89)])) else (none)) = some r := H
     have A46 := A_ A460
     clear A460
     by_cases c47 : x7_1.length < 2932031007402
     ·rw [if_pos c47] at H
      have LMc47 := A_ c47
      clear c47
      obtain ⟨y362, hy362⟩ : ∃ y_ : List (S89), y_ = (x7_1 ++ [(⟨t356, t359⟩ : S89)]) := ⟨_, rfl⟩
      replace H : (some y362) = some r := by first | (rw [hy362]; with_reducible exact H) | (have H2_ := (Option.bind_some _ _).symm.trans H; rw [hy362]; with_reducible exact H2_) | (have H2_ := (Option.bind_some _ _).symm.trans H; with_reducible exact H2_) | with_reducible exact H | (rw [hy362]; exact H) | exact H
      have Ny362 := A_ hy362
      clear hy362
      obtain rfl := Option.some.inj H
      go_wp2_with (first | ((with_reducible refine gate_callee (f := 55) rfl ?_); refine goesL_ (some 49) rfl rfl Try.func55 (by kernel_rfl) rfl #[.slice A1 l1.length c1] rfl Z5 ?_; (with_reducible refine (impl_placeCopy.calls _ _ l1 t356 _ ?side1 ?side2 A45.out).mono ?_); (case side1 => exact Z3 HR1.out); (case side2 => exact HC1.out); rintro e w48 ⟨v357, rfl, ho0, hb⟩; refine ⟨_, rfl, ?_⟩; have n0_ := A_ (Kd.S_elder' (Z11 HO_7.out) (Kd.R_base ho0) hb); have n1_ := A_ (Kd.R_lower ho0 (below_size Z0)); have n2_ := A_ (below_step Z0 hb); clear HO_7; clear HB; have HO_7 := n0_; have HO358 := n1_; have HB := n2_; clear n0_ n1_ n2_; (try clear hb); (try clear hb2); (try clear hk); (try clear hi); (try clear ho0)) | ((with_reducible refine gate_callee (f := 65) rfl ?_); refine goesL_ (some 51) rfl rfl Try.func65 (by kernel_rfl) rfl #[.slice A2 l2.length c2] rfl Z5 ?_; (with_reducible refine (impl_valsCopy.calls _ _ l2 t359 _ ?side1 ?side2 A46.out).mono ?_); (case side1 => exact Z3 HR2.out); (case side2 => exact HC2.out); rintro e w49 ⟨v360, rfl, ho0, hb⟩; refine ⟨_, rfl, ?_⟩; have n0_ := A_ (Kd.S_elder' (Z11 HO_7.out) (Kd.R_base ho0) hb); have n1_ := A_ (Kd.R_below (Z6 HO358.out) hb); have n2_ := A_ (Kd.R_lower ho0 (below_size Z0)); have n3_ := A_ (below_step Z0 hb); clear HO_7; clear HO358; clear HB; have HO_7 := n0_; have HO358 := n1_; have HO361 := n2_; have HB := n3_; clear n0_ n1_ n2_ n3_; (try clear hb); (try clear hb2); (try clear hk); (try clear hi); (try clear ho0); obtain ⟨Ao50, co50, eo50⟩ := Kd.R_slice HO361.out; subst eo50; obtain ⟨Ao51, co51, eo51⟩ := Kd.R_slice HO358.out; subst eo51) | ((with_reducible refine gate_builtin (b := .append) (xs := #[.tmp 47, .tmp 53]) rfl ?_); at_builtin; refine Kd.S_append k89 (w0 := w) w.heap.size rfl (.tmp 47) (.tmp 53) 41 89 (.agg #[(.slice none 0 0), (.slice none 0 0)]) 48 rfl Try.underlying41 info89 rfl (by decide) (by omega) u7 x7_1 (⟨t356, t359⟩ : S89) [.slice Ao51 t356.length co51, .slice Ao50 t359.length co50] (fun _ => True) (fun k_ => some k_ = (.slice Ao51 t356.length co51 : Value).ownBlock ∨ some k_ = (.slice Ao50 t359.length co50 : Value).ownBlock) rfl rfl ?aP (fun k_ hk_ => hk_.elim (fun h_ => ((Kd.R_mono (ok' := fun k_ => ((fun _ => True)) k_ ∧ some k_ ≠ (u7 : Value).ownBlock) (Kd.R_apart' (HO358.out) (Kd.S_typed HO_7.out) (by decide)) (fun k_ hk => ⟨trivial, hk.2⟩))).1 k_ h_.symm) (fun h_ => ((Kd.R_mono (ok' := fun k_ => ((fun _ => True)) k_ ∧ some k_ ≠ (u7 : Value).ownBlock) (Kd.R_apart' (HO361.out) (Kd.S_typed HO_7.out) (by decide)) (fun k_ hk => ⟨trivial, hk.2⟩))).1 k_ h_.symm)) ?aF ?aO ?aB ?aS ?aL ?_; (case aP => exact k89_mkM _ _ _ (⟨t356, t359⟩ : S89) (Kd.R_mono (Kd.R_tight rfl (Kd.R_mono (ok' := fun k_ => ((fun _ => True)) k_ ∧ some k_ ≠ (u7 : Value).ownBlock) (Kd.R_apart' (HO358.out) (Kd.S_typed HO_7.out) (by decide)) (fun k_ hk => ⟨trivial, hk.2⟩))) (fun _ h_ => Or.inl h_)) (Kd.R_mono (Kd.R_tight rfl (Kd.R_mono (ok' := fun k_ => ((fun _ => True)) k_ ∧ some k_ ≠ (u7 : Value).ownBlock) (Kd.R_apart' (HO361.out) (Kd.S_typed HO_7.out) (by decide)) (fun k_ hk => ⟨trivial, hk.2⟩))) (fun _ h_ => Or.inr (h_)))); (case aB => exact Z0); (case aF => exact (fun _ _ => trivial)); (case aO => exact (by (with_reducible repeat (first | apply Kd.S_alloc | apply Kd.S_drewN | apply Kd.S_drew)); exact Kd.S_mono HO_7.out (fun k_ hk => ⟨trivial, fun e_ => e_.elim (fun h_ => hk.1.2 h_) (fun h_ => hk.2 h_)⟩))); (case aS => exact (below_size Z0)); (case aL => have := LMc47.out; omega); intro v363 w52 ho hb hg hat; rw [← Ny362.out] at ho; have n0_ := A_ (hb); have n1_ := A_ (ho); clear HB; clear HO_7; clear HO358; clear HO361; have HB := n0_; have HO364 := n1_; clear n0_ n1_; clear ho hb hg hat))
      go_ret
      exact ⟨_, Z14, Z11 HO364.out, Z0⟩
     ·rw [if_neg c47] at H
      exact absurd H (by simp)
def impl_StorePut.j0 : Nat → List (S89) → List (S92) → List (S99) → Bool → Option ((List (S89)) × Bool)
 | 0, _, _, _, _ => none
 | k + 1, x0, x1, x2, x26 => if x26 = true then (some (([] : List (S89)), false)) else ((impl_storeSet.f k x0 x1 x2).bind fun t368 => (if (t368.length : Int) > 200 then (some (([] : List (S89)), false)) else (some (t368, true))))
def impl_StorePut.f (k : Nat) (l0 : List (S89)) (l1 : List (S92)) (l2 : List (S99)) : Option ((List (S89)) × Bool) := (impl_StoreOk.f k l0).bind fun t365 => (if t365 = true then ((impl_PlaceOk.f k l1).bind fun t366 => (if t366 = true then (if (l2.length : Int) > 3 then (impl_StorePut.j0 k l0 l1 l2 true) else ((impl_valsOk.f k l2).bind fun t367 => (impl_StorePut.j0 k l0 l1 l2 (!t367)))) else (impl_StorePut.j0 k l0 l1 l2 true))) else (impl_StorePut.j0 k l0 l1 l2 true))
theorem impl_StorePut.mono_l : ∀ k, (∀ y0 y1 y2 y3, LeO (impl_StorePut.j0 k y0 y1 y2 y3) (impl_StorePut.j0 (k + 1) y0 y1 y2 y3))
 | 0 => fun _ _ _ _ r h => by simp [impl_StorePut.j0] at h
 | k + 1 => by
  have ih0 := impl_StorePut.mono_l k
  ·intro y0 y1 y2 y3
   unfold impl_StorePut.j0
   repeat' first
   | (with_reducible exact ih0 _ _ _ _)
   | (with_reducible exact impl_PlaceOk.mono _ _)
   | (with_reducible exact impl_StoreOk.mono _ _)
   | (with_reducible exact impl_storeSet.mono _ _ _ _)
   | (with_reducible exact impl_valsOk.mono _ _)
   | (with_reducible exact LeO.refl _)
   | (with_reducible exact LeO.none _)
   | (with_reducible refine LeO.ite ?_ ?_)
   | (with_reducible refine LeO.bind ?_ (fun _ => ?_))
   | exact ih0 _ _ _ _
   | exact impl_PlaceOk.mono _ _
   | exact impl_StoreOk.mono _ _
   | exact impl_storeSet.mono _ _ _ _
   | exact impl_valsOk.mono _ _
   | exact LeO.none _
   | refine LeO.ite ?_ ?_
   | refine LeO.bind ?_ (fun _ => ?_)
theorem impl_StorePut.mono : ∀ a0 a1 a2 k, LeO (impl_StorePut.f k a0 a1 a2) (impl_StorePut.f (k + 1) a0 a1 a2) := by
 intro a0 a1 a2 k
 have ih0 := impl_StorePut.mono_l k
 unfold impl_StorePut.f
 repeat' first
   | (with_reducible exact ih0 _ _ _ _)
   | (with_reducible exact impl_PlaceOk.mono _ _)
   | (with_reducible exact impl_StoreOk.mono _ _)
   | (with_reducible exact impl_storeSet.mono _ _ _ _)
   | (with_reducible exact impl_valsOk.mono _ _)
   | (with_reducible exact LeO.refl _)
   | (with_reducible exact LeO.none _)
   | (with_reducible refine LeO.ite ?_ ?_)
   | (with_reducible refine LeO.bind ?_ (fun _ => ?_))
   | exact ih0 _ _ _ _
   | exact impl_PlaceOk.mono _ _
   | exact impl_StoreOk.mono _ _
   | exact impl_storeSet.mono _ _ _ _
   | exact impl_valsOk.mono _ _
   | exact LeO.none _
   | refine LeO.ite ?_ ?_
   | refine LeO.bind ?_ (fun _ => ?_)
set_option maxHeartbeats 8000000 in
set_option maxRecDepth 100000 in
theorem impl_StorePut.calls (k : Nat) (A0 : Option Addr) (c0 : Nat) (l0 : List (S89)) (A1 : Option Addr) (c1 : Nat) (l1 : List (S92)) (A2 : Option Addr) (c2 : Nat) (l2 : List (S99)) (r1 : List (S89)) (r2 : Bool) (w : World) (hr0 : Kd.C k89 w A0 l0.length l0) (hc0 : l0.length ≤ c0) (hr1 : Kd.C k92 w A1 l1.length l1) (hc1 : l1.length ≤ c1) (hr2 : Kd.C k99 w A2 l2.length l2) (hc2 : l2.length ≤ c2) (h : impl_StorePut.f k l0 l1 l2 = some (r1, r2)) :
  Calls Try.prog 37 #[.slice A0 l0.length c0, .slice A1 l1.length c1, .slice A2 l2.length c2] w fun e w' => ∃ v0_ : Value, e = .returned (.tuple #[v0_, .bool r2]) ∧ Kd.S k89 89 w' w.heap.size (fun _ => True) v0_ r1 ∧ Below w.heap.size w w' := by
 have HR0 := A_ hr0
 have HC0 := A_ hc0
 clear hr0 hc0
 have HR1 := A_ hr1
 have HC1 := A_ hc1
 clear hr1 hc1
 have HR2 := A_ hr2
 have HC2 := A_ hc2
 clear hr2 hc2
 have HB := A_ (Below.refl w.heap.size w)
 have H : ((impl_StoreOk.f k l0).bind fun t365 => (if t365 = true then ((impl_PlaceOk.f k l1).bind fun t366 => (if t366 = true then (if (l2.length : Int) > 3 then (impl_StorePut.j0 k l0 l1 l2 true) else ((impl_valsOk.f k l2).bind fun t367 => (impl_StorePut.j0 k l0 l1 l2 (!t367)))) else (impl_StorePut.j0 k l0 l1 l2 true))) else (impl_StorePut.j0 k l0 l1 l2 true))) = some (r1, r2) := h
 clear h
 have HC4 := A_ H
 clear H
 go_enter Try.func37, Try.ntmps37
 go_upto_region 1 with (fail)
 go_cut [26] (fun v26 wc => ∃ (kq : Nat) (x26_3 : Bool), v26 = .bool x26_3 ∧ Aside0 (impl_StorePut.j0 kq l0 l1 l2 x26_3 = some (r1, r2)) ∧ Aside0 (kq ≤ k) ∧ Aside0 (Below w.heap.size w wc))
 case first =>
  have H := HC4.out
  clear HC4
  replace H := Option.bind_eq_some_iff.mp H
  obtain ⟨t365, A50, H⟩ := H
  replace H : (if t365 = true then ((impl_PlaceOk.f k l1).bind fun t366 => (if t366 = true then (if (l2.length : Int) > 3 then (impl_StorePut.j0 k l0 l1 l2 true) else ((impl_valsOk.f k l2).bind fun t367 => (impl_StorePut.j0 k l0 l1 l2 (!t367)))) else (impl_StorePut.j0 k l0 l1 l2 true))) else (impl_StorePut.j0 k l0 l1 l2 true)) = some (r1, r2) := H
  have A5 := A_ A50
  clear A50
  by_cases c6 : t365 = true
  ·subst c6
   have H1 : ((impl_PlaceOk.f k l1).bind fun t366 => (if t366 = true then (if (l2.length : Int) > 3 then (impl_StorePut.j0 k l0 l1 l2 true) else ((impl_valsOk.f k l2).bind fun t367 => (impl_StorePut.j0 k l0 l1 l2 (!t367)))) else (impl_StorePut.j0 k l0 l1 l2 true))) = some (r1, r2) := by rw [if_pos rfl] at H; exact H
   clear H
   have H := H1
   clear H1
   replace H := Option.bind_eq_some_iff.mp H
   obtain ⟨t366, A70, H⟩ := H
   replace H : (if t366 = true then (if (l2.length : Int) > 3 then (impl_StorePut.j0 k l0 l1 l2 true) else ((impl_valsOk.f k l2).bind fun t367 => (impl_StorePut.j0 k l0 l1 l2 (!t367)))) else (impl_StorePut.j0 k l0 l1 l2 true)) = some (r1, r2) := H
   have A7 := A_ A70
   clear A70
   by_cases c8 : t366 = true
   ·subst c8
    have H1 : (if (l2.length : Int) > 3 then (impl_StorePut.j0 k l0 l1 l2 true) else ((impl_valsOk.f k l2).bind fun t367 => (impl_StorePut.j0 k l0 l1 l2 (!t367)))) = some (r1, r2) := by rw [if_pos rfl] at H; exact H
    clear H
    have H := H1
    clear H1
    by_cases c9 : (l2.length : Int) > 3
    ·rw [if_pos c9] at H
     have c9b0 : decide (3 < (l2.length : Int)) = true := decide_eq_true c9
     have c9b1 : decide (3 < l2.length) = true := decide_eq_true (by omega)
     clear c9
     (first | rw [c9b0] | (simp only [i64_w, i32_w]; rw [c9b0]) | skip)
     have H' := A_ H
     clear H
     go_wp2_with (first | ((with_reducible refine gate_callee (f := 63) rfl ?_); refine goesL_ (some 10) rfl rfl Try.func63 (by kernel_rfl) rfl #[.slice A0 l0.length c0] rfl Z5 ?_; (with_reducible refine (impl_StoreOk.calls k _ _ l0 true _ ?side1 ?side2 A5.out).mono ?_); (case side1 => exact Z3 HR0.out); (case side2 => exact HC0.out); rintro e w10 ⟨rfl, hb⟩; refine ⟨_, rfl, ?_⟩; have n0_ := A_ (below_step Z0 hb); clear HB; have HB := n0_; clear n0_; (try clear hb); (try clear hb2); (try clear hk); (try clear hi)) | (go_at_call 53; (with_reducible refine (impl_PlaceOk.calls k _ _ l1 true _ ?side1 ?side2 A7.out).mono ?_); (case side1 => exact Z3 HR1.out); (case side2 => exact HC1.out); rintro e w11 ⟨rfl, hb⟩; have n0_ := A_ (below_step Z0 hb); clear HB; have HB := n0_; clear n0_; (try clear hb); (try clear hb2); (try clear hk); (try clear hi)))
     go_meet
     case rel => exact ⟨_, (true), Z17, H', ⟨by first | omega | exact Nat.le_refl _⟩, ⟨Z0⟩⟩
    ·rw [if_neg c9] at H
     have c9b0 : decide (3 < (l2.length : Int)) = false := decide_eq_false c9
     have c9b1 : decide (3 < l2.length) = false := decide_eq_false (by omega)
     clear c9
     (first | rw [c9b0] | (simp only [i64_w, i32_w]; rw [c9b0]) | skip)
     replace H := Option.bind_eq_some_iff.mp H
     obtain ⟨t367, A120, H⟩ := H
     replace H : (impl_StorePut.j0 k l0 l1 l2 (!t367)) = some (r1, r2) := H
     have A12 := A_ A120
     clear A120
     have H' := A_ H
     clear H
     go_wp2_with (first | ((with_reducible refine gate_callee (f := 63) rfl ?_); refine goesL_ (some 10) rfl rfl Try.func63 (by kernel_rfl) rfl #[.slice A0 l0.length c0] rfl Z5 ?_; (with_reducible refine (impl_StoreOk.calls k _ _ l0 true _ ?side1 ?side2 A5.out).mono ?_); (case side1 => exact Z3 HR0.out); (case side2 => exact HC0.out); rintro e w13 ⟨rfl, hb⟩; refine ⟨_, rfl, ?_⟩; have n0_ := A_ (below_step Z0 hb); clear HB; have HB := n0_; clear n0_; (try clear hb); (try clear hb2); (try clear hk); (try clear hi)) | (go_at_call 53; (with_reducible refine (impl_PlaceOk.calls k _ _ l1 true _ ?side1 ?side2 A7.out).mono ?_); (case side1 => exact Z3 HR1.out); (case side2 => exact HC1.out); rintro e w14 ⟨rfl, hb⟩; have n0_ := A_ (below_step Z0 hb); clear HB; have HB := n0_; clear n0_; (try clear hb); (try clear hb2); (try clear hk); (try clear hi)) | (go_at_call 78; (with_reducible refine (impl_valsOk.calls k _ _ l2 t367 _ ?side1 ?side2 A12.out).mono ?_); (case side1 => exact Z3 HR2.out); (case side2 => exact HC2.out); rintro e w15 ⟨rfl, hb⟩; have n0_ := A_ (below_step Z0 hb); clear HB; have HB := n0_; clear n0_; (try clear hb); (try clear hb2); (try clear hk); (try clear hi)))
     go_meet
     case rel => exact ⟨_, (!t367), Z17, H', ⟨by first | omega | exact Nat.le_refl _⟩, ⟨Z0⟩⟩
   ·replace c8 := Bool.eq_false_iff.mpr c8
    subst c8
    have H1 : (impl_StorePut.j0 k l0 l1 l2 true) = some (r1, r2) := by rw [if_neg (show ¬ (false = true) by decide)] at H; exact H
    clear H
    have H := H1
    clear H1
    have H' := A_ H
    clear H
    go_wp2_with (first | ((with_reducible refine gate_callee (f := 63) rfl ?_); refine goesL_ (some 10) rfl rfl Try.func63 (by kernel_rfl) rfl #[.slice A0 l0.length c0] rfl Z5 ?_; (with_reducible refine (impl_StoreOk.calls k _ _ l0 true _ ?side1 ?side2 A5.out).mono ?_); (case side1 => exact Z3 HR0.out); (case side2 => exact HC0.out); rintro e w16 ⟨rfl, hb⟩; refine ⟨_, rfl, ?_⟩; have n0_ := A_ (below_step Z0 hb); clear HB; have HB := n0_; clear n0_; (try clear hb); (try clear hb2); (try clear hk); (try clear hi)) | (go_at_call 53; (with_reducible refine (impl_PlaceOk.calls k _ _ l1 false _ ?side1 ?side2 A7.out).mono ?_); (case side1 => exact Z3 HR1.out); (case side2 => exact HC1.out); rintro e w17 ⟨rfl, hb⟩; have n0_ := A_ (below_step Z0 hb); clear HB; have HB := n0_; clear n0_; (try clear hb); (try clear hb2); (try clear hk); (try clear hi)))
    go_meet
    case rel => exact ⟨_, (true), Z17, H', ⟨by first | omega | exact Nat.le_refl _⟩, ⟨Z0⟩⟩
  ·replace c6 := Bool.eq_false_iff.mpr c6
   subst c6
   have H1 : (impl_StorePut.j0 k l0 l1 l2 true) = some (r1, r2) := by rw [if_neg (show ¬ (false = true) by decide)] at H; exact H
   clear H
   have H := H1
   clear H1
   have H' := A_ H
   clear H
   go_wp2_with (first | ((with_reducible refine gate_callee (f := 63) rfl ?_); refine goesL_ (some 10) rfl rfl Try.func63 (by kernel_rfl) rfl #[.slice A0 l0.length c0] rfl Z5 ?_; (with_reducible refine (impl_StoreOk.calls k _ _ l0 false _ ?side1 ?side2 A5.out).mono ?_); (case side1 => exact Z3 HR0.out); (case side2 => exact HC0.out); rintro e w18 ⟨rfl, hb⟩; refine ⟨_, rfl, ?_⟩; have n0_ := A_ (below_step Z0 hb); clear HB; have HB := n0_; clear n0_; (try clear hb); (try clear hb2); (try clear hk); (try clear hi)))
   go_meet
   case rel => exact ⟨_, (true), Z17, H', ⟨by first | omega | exact Nat.le_refl _⟩, ⟨Z0⟩⟩
 case rest =>
  clear HC4
  try clear c1
  try clear c2
  try clear p2
  try clear c3
  try clear c6
  try clear c8
  try clear c9
  try clear c9b0
  try clear c9b1
  obtain ⟨kq, x26_3, rfl, HA, HJ3, HB⟩ := hcut
  cases kq with
  | zero => exact absurd HA.out (by simp [impl_StorePut.j0])
  | succ kj3 =>
   have H := HA.out
   clear HA
   simp only [impl_StorePut.j0] at H
   by_cases c19 : x26_3 = true
   ·subst c19
    have H1 : (some (([] : List (S89)), false)) = some (r1, r2) := by rw [if_pos rfl] at H; exact H
    clear H
    have H := H1
    clear H1
    simp only [Option.some.injEq, Prod.mk.injEq] at H
    obtain ⟨rfl, rfl⟩ := H
    go_wp2
    go_ret2
    exact ⟨_, Z14, Z46, Z0⟩
   ·replace c19 := Bool.eq_false_iff.mpr c19
    subst c19
    have H1 : ((impl_storeSet.f kj3 l0 l1 l2).bind fun t368 => (if (t368.length : Int) > 200 then (some (([] : List (S89)), false)) else (some (t368, true)))) = some (r1, r2) := by rw [if_neg (show ¬ (false = true) by decide)] at H; exact H
    clear H
    have H := H1
    clear H1
    replace H := Option.bind_eq_some_iff.mp H
    obtain ⟨t368, A200, H⟩ := H
    replace H : (if (t368.length : Int) > 200 then (some (([] : List (S89)), false)) else (some (t368, true))) = some (r1, r2) := H
    have A20 := A_ A200
    clear A200
    by_cases c21 : (t368.length : Int) > 200
    ·rw [if_pos c21] at H
     have c21b0 : decide (200 < (t368.length : Int)) = true := decide_eq_true c21
     have c21b1 : decide (200 < t368.length) = true := decide_eq_true (by omega)
     clear c21
     simp only [Option.some.injEq, Prod.mk.injEq] at H
     obtain ⟨rfl, rfl⟩ := H
     go_wp2_with (first | ((with_reducible refine gate_callee (f := 79) rfl ?_); refine goesL_ (some 30) rfl rfl Try.func79 (by kernel_rfl) rfl #[.slice A0 l0.length c0, .slice A1 l1.length c1, .slice A2 l2.length c2] rfl Z5 ?_; (with_reducible refine (impl_storeSet.calls kj3 _ _ l0 _ _ l1 _ _ l2 t368 _ ?side1 ?side2 ?side3 ?side4 ?side5 ?side6 A20.out).mono ?_); (case side1 => exact Z3 HR0.out); (case side2 => exact HC0.out); (case side3 => exact Z3 HR1.out); (case side4 => exact HC1.out); (case side5 => exact Z3 HR2.out); (case side6 => exact HC2.out); rintro e w22 ⟨v369, rfl, ho0, hb⟩; refine ⟨_, rfl, ?_⟩; have n0_ := A_ (Kd.S_lower ho0 (below_size Z0)); have n1_ := A_ (below_step Z0 hb); clear HB; have HO370 := n0_; have HB := n1_; clear n0_ n1_; (try clear hb); (try clear hb2); (try clear hk); (try clear hi); (try clear ho0); obtain ⟨Ao23, co23, eo23⟩ := Kd.S_slice HO370.out; subst eo23))
     go_ret2
     exact ⟨_, Z14, Z46, Z0⟩
    ·rw [if_neg c21] at H
     have c21b0 : decide (200 < (t368.length : Int)) = false := decide_eq_false c21
     have c21b1 : decide (200 < t368.length) = false := decide_eq_false (by omega)
     clear c21
     simp only [Option.some.injEq, Prod.mk.injEq] at H
     obtain ⟨rfl, rfl⟩ := H
     go_wp2_with (first | ((with_reducible refine gate_callee (f := 79) rfl ?_); refine goesL_ (some 30) rfl rfl Try.func79 (by kernel_rfl) rfl #[.slice A0 l0.length c0, .slice A1 l1.length c1, .slice A2 l2.length c2] rfl Z5 ?_; (with_reducible refine (impl_storeSet.calls kj3 _ _ l0 _ _ l1 _ _ l2 t368 _ ?side1 ?side2 ?side3 ?side4 ?side5 ?side6 A20.out).mono ?_); (case side1 => exact Z3 HR0.out); (case side2 => exact HC0.out); (case side3 => exact Z3 HR1.out); (case side4 => exact HC1.out); (case side5 => exact Z3 HR2.out); (case side6 => exact HC2.out); rintro e w24 ⟨v369, rfl, ho0, hb⟩; refine ⟨_, rfl, ?_⟩; have n0_ := A_ (Kd.S_lower ho0 (below_size Z0)); have n1_ := A_ (below_step Z0 hb); clear HB; have HO370 := n0_; have HB := n1_; clear n0_ n1_; (try clear hb); (try clear hb2); (try clear hk); (try clear hi); (try clear ho0); obtain ⟨Ao25, co25, eo25⟩ := Kd.S_slice HO370.out; subst eo25))
     go_ret2
     exact ⟨_, Z14, Z11 HO370.out, Z0⟩
end Go.Proofs.Ytpadhphdglbciaa.PFnExactStorePut
