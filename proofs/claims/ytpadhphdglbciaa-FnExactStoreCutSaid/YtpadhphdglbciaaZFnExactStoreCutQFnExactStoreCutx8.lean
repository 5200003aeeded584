/- Walks of the functions that the law 'FnExactStoreCut' reaches, part 8: for each a Lean function and the proof that Go's comes to just its answer (lines of the print, under own names; no condition). -/
import Derived.Test.YtpadhphdglbciaaZFnExactStoreCutQFnExactStoreCutx0
import Derived.Test.YtpadhphdglbciaaZFnExactStoreCutQFnExactStoreCutx5
import Derived.Test.YtpadhphdglbciaaZFnExactStoreCutQFnExactStoreCutx6
import Derived.Test.YtpadhphdglbciaaZFnExactStoreCutQFnExactStoreCutx7
namespace Go.Proofs.Ytpadhphdglbciaa.PFnExactStoreCut
open Go.RowKit Go.Proofs.YtpadhphdglbciaaW.PrintWords Go.Proofs.YtpadhphdglbciaaW.PrintLast Go.Proofs.YtpadhphdglbciaaW.PrintMore
attribute [local go_sem] max2_int min2_int max_two min_two max_three min_three max_four min_four
set_option linter.unusedVariables false
set_option linter.unusedSimpArgs false
def spec_under.f (k : Nat) (l0 : List (S92)) (l1 : List (S92)) : Option (Bool) := if (l0.length : Int) ≥ (l1.length : Int) then (if 0 ≤ (l1.length : Int) then (if (l1.length : Int) ≤ (l0.length : Int) then ((spec_comparePlaces.f k (l0.take ((l1.length : Int) : Int).toNat) l1).bind fun t207 => (some (t207 == 0))) else (none)) else (none)) else (some false)
theorem spec_under.mono : ∀ a0 a1 k, LeO (spec_under.f k a0 a1) (spec_under.f (k + 1) a0 a1) := by
 intro a0 a1 k
 unfold spec_under.f
 repeat' first
   | (with_reducible exact spec_comparePlaces.mono _ _ _)
   | (with_reducible exact LeO.refl _)
   | (with_reducible exact LeO.none _)
   | (with_reducible refine LeO.ite ?_ ?_)
   | (with_reducible refine LeO.bind ?_ (fun _ => ?_))
   | exact spec_comparePlaces.mono _ _ _
   | exact LeO.none _
   | refine LeO.ite ?_ ?_
   | refine LeO.bind ?_ (fun _ => ?_)
set_option maxHeartbeats 8000000 in
set_option maxRecDepth 100000 in
theorem spec_under.calls (k : Nat) (A0 : Option Addr) (c0 : Nat) (l0 : List (S92)) (A1 : Option Addr) (c1 : Nat) (l1 : List (S92)) (r : Bool) (w : World) (hr0 : Kd.C k92 w A0 l0.length l0) (hc0 : l0.length ≤ c0) (hr1 : Kd.C k92 w A1 l1.length l1) (hc1 : l1.length ≤ c1) (h : spec_under.f k l0 l1 = some r) :
  Calls Try.prog 70 #[.slice A0 l0.length c0, .slice A1 l1.length c1] w fun e w' => e = .returned (.bool r) ∧ Drawn0 w w' := by
 have HR0 := A_ hr0
 have HC0 := A_ hc0
 clear hr0 hc0
 have HR1 := A_ hr1
 have HC1 := A_ hc1
 clear hr1 hc1
 have H : (if (l0.length : Int) ≥ (l1.length : Int) then (if 0 ≤ (l1.length : Int) then (if (l1.length : Int) ≤ (l0.length : Int) then ((spec_comparePlaces.f k (l0.take ((l1.length : Int) : Int).toNat) l1).bind fun t207 => (some (t207 == 0))) else (none)) else (none)) else (some false)) = some r := h
 clear h
 by_cases c3 : (l0.length : Int) ≥ (l1.length : Int)
 ·rw [if_pos c3] at H
  have c3b0 : decide ((l1.length : Int) ≤ (l0.length : Int)) = true := decide_eq_true c3
  have c3b1 : decide (l1.length ≤ l0.length) = true := decide_eq_true (Int.ofNat_le.mp c3)
  clear c3
  by_cases c4 : 0 ≤ (l1.length : Int)
  ·rw [if_pos c4] at H
   have c4b0 := eq_true c4
   have c4b1 : decide (0 ≤ (l1.length : Int)) = true := decide_eq_true c4
   clear c4
   by_cases c5 : (l1.length : Int) ≤ (l0.length : Int)
   ·rw [if_pos c5] at H
    have c5b0 := eq_true c5
    have c5b1 : decide ((l1.length : Int) ≤ (l0.length : Int)) = true := decide_eq_true c5
    clear c5
    obtain ⟨y203, hy203⟩ : ∃ y_ : List (S92), y_ = (l0.take ((l1.length : Int) : Int).toNat) := ⟨_, rfl⟩
    replace H : ((spec_comparePlaces.f k y203 l1).bind fun t207 => (some (t207 == 0))) = some r := by first | (rw [hy203]; with_reducible exact H) | (have H2_ := (Option.bind_some _ _).symm.trans H; rw [hy203]; with_reducible exact H2_) | (have H2_ := (Option.bind_some _ _).symm.trans H; with_reducible exact H2_) | with_reducible exact H | (rw [hy203]; exact H) | exact H
    have Ny203 := A_ hy203
    clear hy203
    replace H := Option.bind_eq_some_iff.mp H
    obtain ⟨t207, A60, H⟩ := H
    replace H : (some (t207 == 0)) = some r := H
    have A6 := A_ A60
    clear A60
    obtain rfl := Option.some.inj H
    have q7 : ((l1.length : Int) : Int) ≤ ((l0.length : Int) : Int) := of_decide_eq_true Z12
    obtain ⟨i07, hi07, _, hsz7, _⟩ := info_parts info92
    have hroom7 : l0.length ≤ c0 := HC0.out
    have hC7 : Kd.C k92 _ A0 l0.length l0 := HR0.out
    have hcut7 := cut_to (P := Try.prog) 43 92 .i64 Try.underlying43 hi07 A0 l0.length c0 (l1.length : Int) (of_decide_eq_true Z12) q7 hroom7
    have hr7 := Kd.C_take (m := ((l1.length : Int) : Int).toNat) hC7 (by omega)
    have hy7 : y203.length = ((l1.length : Int) : Int).toNat := (by rw [Ny203.out, List.length_take]; omega)
    rw [← Ny203.out] at hr7
    rw [← hy7] at hcut7
    have HR206 := A_ hr7
    have HC206 := A_ (show y203.length ≤ c0 from by omega)
    clear hr7 hC7 hroom7 hi07 hsz7
    have KY7 := A_ hy7
    clear hy7
    replace q7 := eq_true q7
    go_enter Try.func70, Try.ntmps70
    go_wp2_with (first | (go_at_call 90; (with_reducible refine (spec_comparePlaces.calls k _ _ y203 _ _ l1 t207 _ ?side1 ?side2 ?side3 ?side4 A6.out).mono ?_); (case side1 => exact Z24 HR206.out); (case side2 => exact HC206.out); (case side3 => exact Z24 HR1.out); (case side4 => exact HC1.out); rintro e w' ⟨rfl, ⟨nd, rfl⟩⟩))
    go_ret
    exact ⟨Z18, Z22⟩
   ·rw [if_neg c5] at H
    exact absurd H (by simp)
  ·exact Z42
 ·rw [if_neg c3] at H
  have c3b0 : decide ((l1.length : Int) ≤ (l0.length : Int)) = false := decide_eq_false c3
  have c3b1 : decide (l1.length ≤ l0.length) = false := decide_eq_false (fun h => c3 (Int.ofNat_le.mpr h))
  clear c3
  obtain rfl := Option.some.inj H
  go_enter Try.func70, Try.ntmps70
  go_wp2
  go_ret
  exact ⟨Z18, Z22⟩
def spec_copyCell.f (l0_0 : List (S92)) (l0_1 : List (S99)) : Option ((List (S92)) × (List (S99))) := (some (([] : List (S92)) : List (S92))).bind fun y210 => (if y210.length + l0_0.length < 8796093022208 then ((some (([] : List (S99)) : List (S99))).bind fun y216 => (if y216.length + l0_1.length < 4398046511104 then (some ((y210 ++ l0_0), (y216 ++ l0_1))) else (none))) else (none))
def spec_copyCell.T1 : Bool × List (List Nat × List Nat) := (true, [([], []), ([], []), ([1], [1]), ([0, 2], [0, 2]), ([], []), ([], []), ([5], [5]), ([4, 6, 3], [4, 6]), ([3, 7], [3, 7]), ([8, 7, 0, 1, 2, 3, 4, 5, 6, 7, 8], [8])])
def spec_copyCell.B1 : List Nat := [0, 0, 2, 7, 0, 0, 32, 127, 255, 511]
theorem spec_copyCell.tab1 : rtab .any (opsOf Try.f71 1) = spec_copyCell.T1 := by kernel_rfl
theorem spec_copyCell.bits1 : waitsOk spec_copyCell.T1.2 spec_copyCell.B1 = true := by kernel_rfl
set_option maxHeartbeats 8000000 in
set_option maxRecDepth 100000 in
theorem spec_copyCell.calls (A0_0 : Option Addr) (c0_0 : Nat) (l0_0 : List (S92)) (A0_1 : Option Addr) (c0_1 : Nat) (l0_1 : List (S99)) (r1 : List (S92)) (r2 : List (S99)) (w : World) (hr0_0 : Kd.C k92 w A0_0 l0_0.length l0_0) (hc0_0 : l0_0.length ≤ c0_0) (hr0_1 : Kd.C k99 w A0_1 l0_1.length l0_1) (hc0_1 : l0_1.length ≤ c0_1) (h : spec_copyCell.f l0_0 l0_1 = some (r1, r2)) :
  Calls Try.prog 71 #[.agg #[.slice A0_0 l0_0.length c0_0, .slice A0_1 l0_1.length c0_1]] w fun e w' => ∃ v0_ v1_ : Value, e = .returned (.agg #[v0_, v1_]) ∧ Kd.R k92 92 w' w.heap.size (fun _ => True) v0_ r1 ∧ Kd.R k99 99 w' w.heap.size (fun _ => True) v1_ r2 ∧ Below w.heap.size w w' := by
 have hu89 := Try.underlying89
 have HR0_0 := A_ hr0_0
 have HC0_0 := A_ hc0_0
 clear hr0_0 hc0_0
 have HR0_1 := A_ hr0_1
 have HC0_1 := A_ hc0_1
 clear hr0_1 hc0_1
 have HB := A_ (Below.refl w.heap.size w)
 have H : ((some (([] : List (S92)) : List (S92))).bind fun y210 => (if y210.length + l0_0.length < 8796093022208 then ((some (([] : List (S99)) : List (S99))).bind fun y216 => (if y216.length + l0_1.length < 4398046511104 then (some ((y210 ++ l0_0), (y216 ++ l0_1))) else (none))) else (none))) = some (r1, r2) := h
 clear h
 obtain ⟨y210, hy210⟩ : ∃ y_ : List (S92), y_ = (([] : List (S92))) := ⟨_, rfl⟩
 replace H : (if y210.length + l0_0.length < 8796093022208 then ((some (([] : List (S99)) : List (S99))).bind fun y216 => (if y216.length + l0_1.length < 4398046511104 then (some ((y210 ++ l0_0), (y216 ++ l0_1))) else (none))) else (none)) = some (r1, r2) := by first | (rw [hy210]; with_reducible exact H) | (have H2_ := (Option.bind_some _ _).symm.trans H; rw [hy210]; with_reducible exact H2_) | (have H2_ := (Option.bind_some _ _).symm.trans H; with_reducible exact H2_) | with_reducible exact H | (rw [hy210]; exact H) | exact H
 have Ny210 := A_ hy210
 clear hy210
 by_cases c2 : y210.length + l0_0.length < 8796093022208
 ·rw [if_pos c2] at H
  have LMc2 := A_ c2
  clear c2
  obtain ⟨y213, hy213⟩ : ∃ y_ : List (S92), y_ = (y210 ++ l0_0) := ⟨_, rfl⟩
  replace H : ((some (([] : List (S99)) : List (S99))).bind fun y216 => (if y216.length + l0_1.length < 4398046511104 then (some (y213, (y216 ++ l0_1))) else (none))) = some (r1, r2) := by first | (rw [hy213]; with_reducible exact H) | (have H2_ := (Option.bind_some _ _).symm.trans H; rw [hy213]; with_reducible exact H2_) | (have H2_ := (Option.bind_some _ _).symm.trans H; with_reducible exact H2_) | with_reducible exact H | (rw [hy213]; exact H) | exact H
  have Ny213 := A_ hy213
  clear hy213
  obtain ⟨y216, hy216⟩ : ∃ y_ : List (S99), y_ = (([] : List (S99))) := ⟨_, rfl⟩
  replace H : (if y216.length + l0_1.length < 4398046511104 then (some (y213, (y216 ++ l0_1))) else (none)) = some (r1, r2) := by first | (rw [hy216]; with_reducible exact H) | (have H2_ := (Option.bind_some _ _).symm.trans H; rw [hy216]; with_reducible exact H2_) | (have H2_ := (Option.bind_some _ _).symm.trans H; with_reducible exact H2_) | with_reducible exact H | (rw [hy216]; exact H) | exact H
  have Ny216 := A_ hy216
  clear hy216
  by_cases c3 : y216.length + l0_1.length < 4398046511104
  ·rw [if_pos c3] at H
   have LMc3 := A_ c3
   clear c3
   obtain ⟨y219, hy219⟩ : ∃ y_ : List (S99), y_ = (y216 ++ l0_1) := ⟨_, rfl⟩
   replace H : (some (y213, y219)) = some (r1, r2) := by first | (rw [hy219]; with_reducible exact H) | (have H2_ := (Option.bind_some _ _).symm.trans H; rw [hy219]; with_reducible exact H2_) | (have H2_ := (Option.bind_some _ _).symm.trans H; with_reducible exact H2_) | with_reducible exact H | (rw [hy219]; exact H) | exact H
   have Ny219 := A_ hy219
   clear hy219
   simp only [Option.some.injEq, Prod.mk.injEq] at H
   obtain ⟨rfl, rfl⟩ := H
   go_enter Try.func71, Try.ntmps71
   try go_wp2_with (first | ((with_reducible refine gate_dst (N := 1) rfl ?_); refine box_event ?hg (N := 1) ?hd (cs := #[.slice A0_0 l0_0.length c0_0, .slice A0_1 l0_1.length c0_1]) (t := 89) ?hr ?_; (case hd => rfl); (case hg => rfl); (case hr => exact Z19); intro gb208 hg w4 hbox hb; have n0_ := A_ (below_step Z0 hb); have n1_ := A_ (hbox); have n2_ := A_ ((by rw [hg]; exact (below_size Z0) : w.heap.size ≤ gb208)); have n3_ := A_ ((by rw [hg]; exact (below_size Z0) : w.heap.size ≤ gb208)); clear HB; have HB := n0_; have BK208 := n1_; have GW208 := n2_; have GE208 := n3_; clear n0_ n1_ n2_ n3_; clear hb hbox hg) | ((with_reducible refine gate_dst (N := 2) rfl ?_); refine box_event ?hg (N := 2) ?hd (cs := #[.slice none 0 0, .slice none 0 0]) (t := 89) ?hr ?_; (case hd => rfl); (case hg => rfl); (case hr => exact Z19); intro gb209 hg w5 hbox hb; have n0_ := A_ (blk_below (g := gb208) (o := .cells #[.slice A0_0 l0_0.length c0_0, .slice A0_1 l0_1.length c0_1] 89 (0, 0)) (Z5 BK208.out) hb); have n1_ := A_ (below_step (Z2 GE208.out) hb); have n2_ := A_ (hbox); have n3_ := A_ ((by rw [hg]; exact (below_size (Z2 GE208.out)) : w.heap.size ≤ gb209)); have n4_ := A_ ((by rw [hg]; exact (below_size (Z2 GE208.out)) : w.heap.size ≤ gb209)); have n5_ := A_ ((by rw [hg]; exact Nat.ne_of_lt (blk_lt (g := gb208) (o := .cells #[.slice A0_0 l0_0.length c0_0, .slice A0_1 l0_1.length c0_1] 89 (0, 0)) (Z5 BK208.out)) : gb208 ≠ gb209)); have n6_ := A_ ((by rw [hg]; exact Nat.ne_of_gt (blk_lt (g := gb208) (o := .cells #[.slice A0_0 l0_0.length c0_0, .slice A0_1 l0_1.length c0_1] 89 (0, 0)) (Z5 BK208.out)) : gb209 ≠ gb208)); clear BK208; clear HB; have BK208 := n0_; have HB := n1_; have BK209 := n2_; have GW209 := n3_; have GE209 := n4_; have NB208_209 := n5_; have NB209_208 := n6_; clear n0_ n1_ n2_ n3_ n4_ n5_ n6_; clear hb hbox hg))
   have n0_ := A_ (blk_drew BK208.out)
   have n1_ := A_ (blk_drew BK209.out)
   have n2_ := A_ (below_drew1 HB.out)
   clear BK208
   clear BK209
   clear HB
   have BK208 := n0_
   have BK209 := n1_
   have HB := n2_
   clear n0_ n1_ n2_
   refine start_ (n := 10) (S := fun w' => w'.cell? ⟨gb208, 0, none⟩ = some (.slice A0_0 l0_0.length c0_0) ∧ w'.cell? ⟨gb208, 1, none⟩ = some (.slice A0_1 l0_1.length c0_1)) (ds := []) #[F,F,F,F,F,F,F,F,F,F] (by kernel_rfl) rfl rfl ⟨(blk_cell BK208.out 0).trans rfl, (blk_cell BK208.out 1).trans rfl⟩ (fun hHeld => ?_); refine with_tabW spec_copyCell.tab1 spec_copyCell.bits1 (fun HT_ HW_ => ?_)
   generalize w5.drew = w6 at BK208 BK209 HB hHeld ⊢
   refine pure_ (i := 1) (N := some 4) (v := ?_) (a' := ?_) #[F,T,F,F,F,F,F,F,F,F] rfl rfl ZA ZF (Or.inl ⟨by rfl, ?_⟩) ?_ ?_
   rotate_left
   ·exact Z16
   rotate_left
   ·exact Z1
   refine pure_ (i := 5) (N := some 8) (v := ?_) (a' := ?_) #[F,T,F,F,F,T,F,F,F,F] rfl rfl ZA ZF (Or.inl ⟨by rfl, ?_⟩) ?_ ?_
   rotate_left
   ·exact Z16
   rotate_left
   ·exact Z1
   refine take_ (i := 2) (N := some 5) (v := ?_) (a' := ?_) #[F,T,T,F,F,T,F,F,F,F] rfl rfl (take_ofW HT_.out HW_.out (by kernel_rfl)) ZF (Or.inl ⟨by rfl, ?_⟩) hHeld ?_ ?_
   rotate_left
   ·exact Z41
   rotate_left
   ·exact Z1
   refine take_ (i := 6) (N := some 9) (v := ?_) (a' := ?_) #[F,T,T,F,F,T,T,F,F,F] rfl rfl (take_ofW HT_.out HW_.out (by kernel_rfl)) ZF (Or.inl ⟨by rfl, ?_⟩) hHeld ?_ ?_
   rotate_left
   ·exact Z41
   rotate_left
   ·exact Z1
   refine join_ (σ := Value × Value × Value) 3 #[T,T,T,T,T,T,T,F,F,F] (fun s_ => [(3, s_.1), (6, s_.2.1), (7, s_.2.2)]) (fun s_ w' => (w'.cell? ⟨gb208, 0, none⟩ = some (.slice A0_0 l0_0.length c0_0) ∧ w'.cell? ⟨gb208, 1, none⟩ = some (.slice A0_1 l0_1.length c0_1)) ∧ (Kd.R k92 92 w' w.heap.size (fun _ => True) s_.2.1 y213) ∧ (Kd.R k99 99 w' w.heap.size (fun _ => True) s_.2.2 y216) ∧ (w'.heap[gb208]? = some (.cells #[.slice A0_0 l0_0.length c0_0, .slice A0_1 l0_1.length c0_1] 89 (0, 0))) ∧ (w'.heap[gb209]? = some (.cells #[.slice none 0 0, .slice none 0 0] 89 (0, 0))) ∧ (Below w.heap.size w w')) ?_ ?_
   rotate_left
   ·intro hCont
    refine two_ (i := 0) (j := 4) (Ni := some 3) (Nj := some 7) #[T,T,T,F,F,T,T,F,F,F] #[F,T,T,F,T,T,T,F,F,F] rfl rfl rfl rfl (two_of HT_.out (by kernel_rfl)) (by decide) (by decide) (fun K hK => ?_) (fun K hK => ?_)
    ·skip
     refine Kd.R_lit_step k92 _ 92 ?hg (N := 3) ?hd (xs := ([] : List (S92))) (inner := []) (ok := fun _ => True) (okp := fun _ => True) ?hr ?hp (fun _ hk => hk) trivial (Below.refl _ _) (Nat.le_refl _) (by simp) ?_; (case hd => rfl); (case hg => rfl); (case hr => exact Z19); (case hp => exact (Reps.none _ _))
     intro v211 w7 ho8 hb hg_ hnew_
     clear hg_ hnew_
     (first | rw [← Ny210.out] at ho8 | (simp only [Int.reduceToNat] at ho8; rw [← Ny210.out] at ho8))
     have n0_ := A_ (Kd.R_lower ho8 (below_size (Z11 GE208.out GE209.out)))
     have n1_ := A_ (blk_below (g := gb208) (o := .cells #[.slice A0_0 l0_0.length c0_0, .slice A0_1 l0_1.length c0_1] 89 (0, 0)) (Z5 BK208.out) hb)
     have n2_ := A_ (blk_below (g := gb209) (o := .cells #[.slice none 0 0, .slice none 0 0] 89 (0, 0)) (Z5 BK209.out) hb)
     have n3_ := A_ (below_step (Z11 GE208.out GE209.out) hb)
     clear BK208
     clear BK209
     clear HB
     have HO212 := n0_
     have BK208 := n1_
     have BK209 := n2_
     have HB := n3_
     clear n0_ n1_ n2_ n3_
     clear hb ho8
     refine hK.out _ _ ⟨(blk_cell BK208.out 0).trans rfl, (blk_cell BK208.out 1).trans rfl⟩ (fun hHeld => ?_)
     clear hK K
     refine norm_ (a' := ?_) ?_ ?_
     rotate_left
     ·show Act.put _ (some 3) _ = _
      simp only [Act.put, List.setIfInBounds_toArray, List.set_cons_zero, List.set_cons_succ, i64_w, i32_w]
      rfl
     refine two_ (i := 3) (j := 4) (Ni := some 6) (Nj := some 7) #[T,T,T,T,F,T,T,F,F,F] #[T,T,T,F,T,T,T,F,F,F] rfl rfl rfl rfl (two_of HT_.out (by kernel_rfl)) (by decide) (by decide) (fun K hK => ?_) (fun K hK => ?_)
     ·skip
      refine Kd.R_append_rows_step k92 (w0 := w) w.heap.size (by rfl) (.tmp 3) (.tmp 5) 43 92 (.agg #[(.int .i64 0), (.int .i64 0)]) 16 rfl Try.underlying43 info92 rfl (by decide) (by omega) v211 y210 l0_0 _ _ _ (fun _ => True) (fun _ => False) rfl rfl ?aO ?aR (fun _ _ h => h) (fun _ h => h.elim) ?aF ?aB ?aS ?aL ?_
      (case aR => exact Z6 HR0_0.out)
      (case aB => exact (Z11 GE208.out GE209.out))
      (case aF => exact (fun _ _ => trivial))
      (case aO => exact (Z13 HO212.out))
      (case aS => exact (below_size (Z11 GE208.out GE209.out)))
      (case aL => have := LMc2.out; omega)
      intro v214 w9 ho hb hg hat
      rw [← Ny213.out] at ho
      have n0_ := A_ (blk_grown (g := gb208) (o := .cells #[.slice A0_0 l0_0.length c0_0, .slice A0_1 l0_1.length c0_1] 89 (0, 0)) (Z5 BK208.out) hg (Kd.R_ne HO212.out BK208.out (by decide)))
      have n1_ := A_ (blk_grown (g := gb209) (o := .cells #[.slice none 0 0, .slice none 0 0] 89 (0, 0)) (Z5 BK209.out) hg (Kd.R_ne HO212.out BK209.out (by decide)))
      have n2_ := A_ (hb)
      have n3_ := A_ (ho)
      clear BK208
      clear BK209
      clear HB
      clear HO212
      have BK208 := n0_
      have BK209 := n1_
      have HB := n2_
      have HO215 := n3_
      clear n0_ n1_ n2_ n3_
      clear ho hb hg hat
      refine hK.out _ _ ⟨(blk_cell BK208.out 0).trans rfl, (blk_cell BK208.out 1).trans rfl⟩ (fun hHeld => ?_)
      clear hK K
      refine norm_ (a' := ?_) ?_ ?_
      rotate_left
      ·exact Z26
      refine one_ (i := 4) (N := some 7) #[T,T,T,T,T,T,T,F,F,F] rfl rfl (one_of HT_.out (by kernel_rfl)) (by decide) (fun K hK => ?_)
      refine Kd.R_lit_step k99 _ 99 ?hg (N := 7) ?hd (xs := ([] : List (S99))) (inner := []) (ok := fun _ => True) (okp := fun _ => True) ?hr ?hp (fun _ hk => hk) trivial (Below.refl _ _) (Nat.le_refl _) (by simp) ?_; (case hd => rfl); (case hg => rfl); (case hr => exact Z19); (case hp => exact (Reps.none _ _))
      intro v217 w10 ho11 hb hg_ hnew_
      clear hg_ hnew_
      (first | rw [← Ny216.out] at ho11 | (simp only [Int.reduceToNat] at ho11; rw [← Ny216.out] at ho11))
      have n0_ := A_ (Kd.R_below (Z13 HO215.out) hb)
      have n1_ := A_ (Kd.R_lower ho11 (below_size (Z11 GE208.out GE209.out)))
      have n2_ := A_ (blk_below (g := gb208) (o := .cells #[.slice A0_0 l0_0.length c0_0, .slice A0_1 l0_1.length c0_1] 89 (0, 0)) (Z5 BK208.out) hb)
      have n3_ := A_ (blk_below (g := gb209) (o := .cells #[.slice none 0 0, .slice none 0 0] 89 (0, 0)) (Z5 BK209.out) hb)
      have n4_ := A_ (below_step (Z11 GE208.out GE209.out) hb)
      clear HO215
      clear BK208
      clear BK209
      clear HB
      have HO215 := n0_
      have HO218 := n1_
      have BK208 := n2_
      have BK209 := n3_
      have HB := n4_
      clear n0_ n1_ n2_ n3_ n4_
      clear hb ho11
      refine hK.out _ _ ⟨(blk_cell BK208.out 0).trans rfl, (blk_cell BK208.out 1).trans rfl⟩ (fun hHeld => ?_)
      clear hK K
      refine norm_ (a' := ?_) ?_ ?_
      rotate_left
      ·exact Z25
      exact norm_ Z32 (hCont (v211, v214, v217) _ ⟨hHeld, (Z13 HO215.out), (Z13 HO218.out), (Z5 BK208.out), (Z5 BK209.out), (Z11 GE208.out GE209.out)⟩)
     ·skip
      refine Kd.R_lit_step k99 _ 99 ?hg (N := 7) ?hd (xs := ([] : List (S99))) (inner := []) (ok := fun _ => True) (okp := fun _ => True) ?hr ?hp (fun _ hk => hk) trivial (Below.refl _ _) (Nat.le_refl _) (by simp) ?_; (case hd => rfl); (case hg => rfl); (case hr => exact Z19); (case hp => exact (Reps.none _ _))
      intro v217 w9 ho10 hb hg_ hnew_
      clear hg_ hnew_
      (first | rw [← Ny216.out] at ho10 | (simp only [Int.reduceToNat] at ho10; rw [← Ny216.out] at ho10))
      have n0_ := A_ (Kd.R_below (Z13 HO212.out) hb)
      have n1_ := A_ (Kd.R_lower ho10 (below_size (Z11 GE208.out GE209.out)))
      have n2_ := A_ (blk_below (g := gb208) (o := .cells #[.slice A0_0 l0_0.length c0_0, .slice A0_1 l0_1.length c0_1] 89 (0, 0)) (Z5 BK208.out) hb)
      have n3_ := A_ (blk_below (g := gb209) (o := .cells #[.slice none 0 0, .slice none 0 0] 89 (0, 0)) (Z5 BK209.out) hb)
      have n4_ := A_ (below_step (Z11 GE208.out GE209.out) hb)
      clear HO212
      clear BK208
      clear BK209
      clear HB
      have HO212 := n0_
      have HO218 := n1_
      have BK208 := n2_
      have BK209 := n3_
      have HB := n4_
      clear n0_ n1_ n2_ n3_ n4_
      clear hb ho10
      refine hK.out _ _ ⟨(blk_cell BK208.out 0).trans rfl, (blk_cell BK208.out 1).trans rfl⟩ (fun hHeld => ?_)
      clear hK K
      refine norm_ (a' := ?_) ?_ ?_
      rotate_left
      ·exact Z25
      refine one_ (i := 3) (N := some 6) #[T,T,T,T,T,T,T,F,F,F] rfl rfl (one_of HT_.out (by kernel_rfl)) (by decide) (fun K hK => ?_)
      refine Kd.R_append_rows_step k92 (w0 := w) w.heap.size (by rfl) (.tmp 3) (.tmp 5) 43 92 (.agg #[(.int .i64 0), (.int .i64 0)]) 16 rfl Try.underlying43 info92 rfl (by decide) (by omega) v211 y210 l0_0 _ _ _ (fun _ => True) (fun _ => False) rfl rfl ?aO ?aR (fun _ _ h => h) (fun _ h => h.elim) ?aF ?aB ?aS ?aL ?_
      (case aR => exact Z6 HR0_0.out)
      (case aB => exact (Z11 GE208.out GE209.out))
      (case aF => exact (fun _ _ => trivial))
      (case aO => exact (Z13 HO212.out))
      (case aS => exact (below_size (Z11 GE208.out GE209.out)))
      (case aL => have := LMc2.out; omega)
      intro v214 w11 ho hb hg hat
      rw [← Ny213.out] at ho
      have n0_ := A_ (blk_grown (g := gb208) (o := .cells #[.slice A0_0 l0_0.length c0_0, .slice A0_1 l0_1.length c0_1] 89 (0, 0)) (Z5 BK208.out) hg (Kd.R_ne HO212.out BK208.out (by decide)))
      have n1_ := A_ (blk_grown (g := gb209) (o := .cells #[.slice none 0 0, .slice none 0 0] 89 (0, 0)) (Z5 BK209.out) hg (Kd.R_ne HO212.out BK209.out (by decide)))
      have n2_ := A_ (Kd.R_over' (Z13 HO218.out) (Kd.R_typed (Z13 HO212.out)) (by decide) hg)
      have n3_ := A_ (hb)
      have n4_ := A_ (ho)
      clear BK208
      clear BK209
      clear HO218
      clear HB
      clear HO212
      have BK208 := n0_
      have BK209 := n1_
      have HO218 := n2_
      have HB := n3_
      have HO215 := n4_
      clear n0_ n1_ n2_ n3_ n4_
      clear ho hb hg hat
      refine hK.out _ _ ⟨(blk_cell BK208.out 0).trans rfl, (blk_cell BK208.out 1).trans rfl⟩ (fun hHeld => ?_)
      clear hK K
      refine norm_ (a' := ?_) ?_ ?_
      rotate_left
      ·exact Z26
      exact norm_ Z32 (hCont (v211, v214, v217) _ ⟨hHeld, (Z13 HO215.out), (Z13 HO218.out), (Z5 BK208.out), (Z5 BK209.out), (Z11 GE208.out GE209.out)⟩)
    ·skip
     refine Kd.R_lit_step k99 _ 99 ?hg (N := 7) ?hd (xs := ([] : List (S99))) (inner := []) (ok := fun _ => True) (okp := fun _ => True) ?hr ?hp (fun _ hk => hk) trivial (Below.refl _ _) (Nat.le_refl _) (by simp) ?_; (case hd => rfl); (case hg => rfl); (case hr => exact Z19); (case hp => exact (Reps.none _ _))
     intro v217 w7 ho8 hb hg_ hnew_
     clear hg_ hnew_
     (first | rw [← Ny216.out] at ho8 | (simp only [Int.reduceToNat] at ho8; rw [← Ny216.out] at ho8))
     have n0_ := A_ (Kd.R_lower ho8 (below_size (Z11 GE208.out GE209.out)))
     have n1_ := A_ (blk_below (g := gb208) (o := .cells #[.slice A0_0 l0_0.length c0_0, .slice A0_1 l0_1.length c0_1] 89 (0, 0)) (Z5 BK208.out) hb)
     have n2_ := A_ (blk_below (g := gb209) (o := .cells #[.slice none 0 0, .slice none 0 0] 89 (0, 0)) (Z5 BK209.out) hb)
     have n3_ := A_ (below_step (Z11 GE208.out GE209.out) hb)
     clear BK208
     clear BK209
     clear HB
     have HO218 := n0_
     have BK208 := n1_
     have BK209 := n2_
     have HB := n3_
     clear n0_ n1_ n2_ n3_
     clear hb ho8
     refine hK.out _ _ ⟨(blk_cell BK208.out 0).trans rfl, (blk_cell BK208.out 1).trans rfl⟩ (fun hHeld => ?_)
     clear hK K
     refine norm_ (a' := ?_) ?_ ?_
     rotate_left
     ·exact Z25
     refine one_ (i := 0) (N := some 3) #[T,T,T,F,T,T,T,F,F,F] rfl rfl (one_of HT_.out (by kernel_rfl)) (by decide) (fun K hK => ?_)
     refine Kd.R_lit_step k92 _ 92 ?hg (N := 3) ?hd (xs := ([] : List (S92))) (inner := []) (ok := fun _ => True) (okp := fun _ => True) ?hr ?hp (fun _ hk => hk) trivial (Below.refl _ _) (Nat.le_refl _) (by simp) ?_; (case hd => rfl); (case hg => rfl); (case hr => exact Z19); (case hp => exact (Reps.none _ _))
     intro v211 w9 ho10 hb hg_ hnew_
     clear hg_ hnew_
     (first | rw [← Ny210.out] at ho10 | (simp only [Int.reduceToNat] at ho10; rw [← Ny210.out] at ho10))
     have n0_ := A_ (Kd.R_below (Z13 HO218.out) hb)
     have n1_ := A_ (Kd.R_lower ho10 (below_size (Z11 GE208.out GE209.out)))
     have n2_ := A_ (blk_below (g := gb208) (o := .cells #[.slice A0_0 l0_0.length c0_0, .slice A0_1 l0_1.length c0_1] 89 (0, 0)) (Z5 BK208.out) hb)
     have n3_ := A_ (blk_below (g := gb209) (o := .cells #[.slice none 0 0, .slice none 0 0] 89 (0, 0)) (Z5 BK209.out) hb)
     have n4_ := A_ (below_step (Z11 GE208.out GE209.out) hb)
     clear HO218
     clear BK208
     clear BK209
     clear HB
     have HO218 := n0_
     have HO212 := n1_
     have BK208 := n2_
     have BK209 := n3_
     have HB := n4_
     clear n0_ n1_ n2_ n3_ n4_
     clear hb ho10
     refine hK.out _ _ ⟨(blk_cell BK208.out 0).trans rfl, (blk_cell BK208.out 1).trans rfl⟩ (fun hHeld => ?_)
     clear hK K
     refine norm_ (a' := ?_) ?_ ?_
     rotate_left
     ·show Act.put _ (some 3) _ = _
      simp only [Act.put, List.setIfInBounds_toArray, List.set_cons_zero, List.set_cons_succ, i64_w, i32_w]
      rfl
     refine one_ (i := 3) (N := some 6) #[T,T,T,T,T,T,T,F,F,F] rfl rfl (one_of HT_.out (by kernel_rfl)) (by decide) (fun K hK => ?_)
     refine Kd.R_append_rows_step k92 (w0 := w) w.heap.size (by rfl) (.tmp 3) (.tmp 5) 43 92 (.agg #[(.int .i64 0), (.int .i64 0)]) 16 rfl Try.underlying43 info92 rfl (by decide) (by omega) v211 y210 l0_0 _ _ _ (fun _ => True) (fun _ => False) rfl rfl ?aO ?aR (fun _ _ h => h) (fun _ h => h.elim) ?aF ?aB ?aS ?aL ?_
     (case aR => exact Z6 HR0_0.out)
     (case aB => exact (Z11 GE208.out GE209.out))
     (case aF => exact (fun _ _ => trivial))
     (case aO => exact (Z13 HO212.out))
     (case aS => exact (below_size (Z11 GE208.out GE209.out)))
     (case aL => have := LMc2.out; omega)
     intro v214 w11 ho hb hg hat
     rw [← Ny213.out] at ho
     have n0_ := A_ (blk_grown (g := gb208) (o := .cells #[.slice A0_0 l0_0.length c0_0, .slice A0_1 l0_1.length c0_1] 89 (0, 0)) (Z5 BK208.out) hg (Kd.R_ne HO212.out BK208.out (by decide)))
     have n1_ := A_ (blk_grown (g := gb209) (o := .cells #[.slice none 0 0, .slice none 0 0] 89 (0, 0)) (Z5 BK209.out) hg (Kd.R_ne HO212.out BK209.out (by decide)))
     have n2_ := A_ (Kd.R_over' (Z13 HO218.out) (Kd.R_typed (Z13 HO212.out)) (by decide) hg)
     have n3_ := A_ (hb)
     have n4_ := A_ (ho)
     clear BK208
     clear BK209
     clear HO218
     clear HB
     clear HO212
     have BK208 := n0_
     have BK209 := n1_
     have HO218 := n2_
     have HB := n3_
     have HO215 := n4_
     clear n0_ n1_ n2_ n3_ n4_
     clear ho hb hg hat
     refine hK.out _ _ ⟨(blk_cell BK208.out 0).trans rfl, (blk_cell BK208.out 1).trans rfl⟩ (fun hHeld => ?_)
     clear hK K
     refine norm_ (a' := ?_) ?_ ?_
     rotate_left
     ·exact Z26
     exact norm_ Z32 (hCont (v211, v214, v217) _ ⟨hHeld, (Z13 HO215.out), (Z13 HO218.out), (Z5 BK208.out), (Z5 BK209.out), (Z11 GE208.out GE209.out)⟩)
   rintro ⟨v211, v214, v217⟩ w12 ⟨hS_, h0_, h1_, h2_, h3_, h4_⟩
   have n0_ : Aside0 (Kd.R k92 92 w12 w.heap.size (fun _ => True) v214 y213) := ⟨h0_⟩
   have n1_ : Aside0 (Kd.R k99 99 w12 w.heap.size (fun _ => True) v217 y216) := ⟨h1_⟩
   have n2_ : Aside0 (w12.heap[gb208]? = some (.cells #[.slice A0_0 l0_0.length c0_0, .slice A0_1 l0_1.length c0_1] 89 (0, 0))) := ⟨h2_⟩
   have n3_ : Aside0 (w12.heap[gb209]? = some (.cells #[.slice none 0 0, .slice none 0 0] 89 (0, 0))) := ⟨h3_⟩
   have n4_ : Aside0 (Below w.heap.size w w12) := ⟨h4_⟩
   clear BK208
   clear BK209
   clear HB
   clear h0_ h1_ h2_ h3_ h4_
   have HO215 := n0_
   have HO218 := n1_
   have BK208 := n2_
   have BK209 := n3_
   have HB := n4_
   clear n0_ n1_ n2_ n3_ n4_
   have hHeld : w12.cell? ⟨gb208, 0, none⟩ = some (.slice A0_0 l0_0.length c0_0) ∧ w12.cell? ⟨gb208, 1, none⟩ = some (.slice A0_1 l0_1.length c0_1) := hS_
   refine norm_ (a' := ?_) ?_ ?_
   rotate_left
   ·exact Z40
   refine one_ (i := 7) (N := some 10) #[T,T,T,T,T,T,T,T,F,F] rfl rfl (one_of HT_.out (by kernel_rfl)) (by decide) (fun K hK => ?_)
   refine Kd.R_append_rows_step k99 (w0 := w) w.heap.size (by rfl) (.tmp 7) (.tmp 9) 38 99 (.agg #[(.int .i64 0), (.int .i64 0), (.string ⟨#[]⟩)]) 32 rfl Try.underlying38 info99 rfl (by decide) (by omega) v217 y216 l0_1 _ _ _ (fun _ => True) (fun _ => False) rfl rfl ?aO ?aR (fun _ _ h => h) (fun _ h => h.elim) ?aF ?aB ?aS ?aL ?_
   (case aR => exact Z6 HR0_1.out)
   (case aB => exact (Z11 GE208.out GE209.out))
   (case aF => exact (fun _ _ => trivial))
   (case aO => exact (Z13 HO218.out))
   (case aS => exact (below_size (Z11 GE208.out GE209.out)))
   (case aL => have := LMc3.out; omega)
   intro v220 w13 ho hb hg hat
   rw [← Ny219.out] at ho
   have n0_ := A_ (blk_grown (g := gb208) (o := .cells #[.slice A0_0 l0_0.length c0_0, .slice A0_1 l0_1.length c0_1] 89 (0, 0)) (Z5 BK208.out) hg (Kd.R_ne HO218.out BK208.out (by decide)))
   have n1_ := A_ (blk_grown (g := gb209) (o := .cells #[.slice none 0 0, .slice none 0 0] 89 (0, 0)) (Z5 BK209.out) hg (Kd.R_ne HO218.out BK209.out (by decide)))
   have n2_ := A_ (Kd.R_over' (Z13 HO215.out) (Kd.R_typed (Z13 HO218.out)) (by decide) hg)
   have n3_ := A_ (hb)
   have n4_ := A_ (ho)
   clear BK208
   clear BK209
   clear HO215
   clear HB
   clear HO218
   have BK208 := n0_
   have BK209 := n1_
   have HO215 := n2_
   have HB := n3_
   have HO221 := n4_
   clear n0_ n1_ n2_ n3_ n4_
   clear ho hb hg hat
   obtain ⟨Ao14, co14, eo14⟩ := Kd.R_slice HO221.out
   (first | subst eo14 | (injection eo14 with f1_ f2_ f3_; have f4_ := f1_.symm; have f5_ := f3_.symm; clear f1_ f2_ f3_; subst f4_; subst f5_))
   obtain ⟨Ao15, co15, eo15⟩ := Kd.R_slice HO215.out
   (first | subst eo15 | (injection eo15 with f1_ f2_ f3_; have f4_ := f1_.symm; have f5_ := f3_.symm; clear f1_ f2_ f3_; subst f4_; subst f5_))
   refine hK.out _ _ ⟨(blk_cell BK208.out 0).trans rfl, (blk_cell BK208.out 1).trans rfl⟩ (fun hHeld => ?_)
   clear hK K
   refine norm_ (a' := ?_) ?_ ?_
   rotate_left
   ·show Act.put _ (some 10) _ = _
    simp only [Act.put, List.setIfInBounds_toArray, List.set_cons_zero, List.set_cons_succ, i64_w, i32_w]
    rfl
   refine pure_ (i := 8) (N := some 11) (v := ?_) (a' := ?_) #[T,T,T,T,T,T,T,T,T,F] rfl rfl ZA ZF (Or.inl ⟨by rfl, ?_⟩) ?_ ?_
   rotate_left
   ·exact Z16
   rotate_left
   ·exact Z1
   refine one_ (i := 9) (N := none) #[T,T,T,T,T,T,T,T,T,T] rfl rfl (one_of HT_.out (by kernel_rfl)) (by decide) (fun K hK => ?_)
   have hs16 : w13.cell? ⟨gb209, 0, none⟩ = some (.slice none 0 0) := (blk_cell BK209.out 0).trans rfl
   have hfs16 := blk_frozen BK209.out 0
   have hns16_0 := NB208_209.out
   have hms16_0 := NB209_208.out
   have hs17 : w13.cell? ⟨gb209, 1, none⟩ = some (.slice none 0 0) := (blk_cell BK209.out 1).trans rfl
   have hfs17 := blk_frozen BK209.out 1
   have hns17_0 := NB208_209.out
   have hms17_0 := NB209_208.out
   refine skip_ (w1 := ?_) (by rfl) rfl ?_ ?_
   rotate_left
   ·go_simp
    rfl
   refine hK.out _ _ ⟨((cell_far (p := ⟨gb209, _, none⟩) NB208_209.out _).trans (((cell_far (p := ⟨gb209, _, none⟩) NB208_209.out _).trans (hHeld.1)))), ((cell_far (p := ⟨gb209, _, none⟩) NB208_209.out _).trans (((cell_far (p := ⟨gb209, _, none⟩) NB208_209.out _).trans (hHeld.2))))⟩ (fun hHeld => ?_)
   clear hK K
   refine done_ (done_of HT_.out (by kernel_rfl)) ?_
   try go_wp2
   refine bodyPost_ret (results_cell_row rfl _ _ gb209 89 #[.slice Ao15 y213.length co15, .slice Ao14 y219.length co14] (0, 0) _ rfl (by (with_reducible repeat (first | refine blk_drewN ?_ _ | refine blk_drew ?_ | refine blk_alloc ?_ _)); refine blk_put (cs := #[.slice Ao15 y213.length co15, .slice none 0 0]) ?_ 1 _ rfl; (with_reducible repeat (first | refine blk_drewN ?_ _ | refine blk_drew ?_ | refine blk_alloc ?_ _)); refine blk_put (cs := #[.slice none 0 0, .slice none 0 0]) ?_ 0 _ rfl; (with_reducible repeat (first | refine blk_drewN ?_ _ | refine blk_drew ?_ | refine blk_alloc ?_ _)); exact BK209.out) Try.underlying89 rfl (by kernel_rfl)) rfl ?_
   exact ⟨_, _, Z15, by (with_reducible repeat (first | apply Kd.R_alloc | apply Kd.R_drewN | apply Kd.R_drew)); exact Kd.R_mono (Kd.R_far (p := ⟨gb209, 1, none⟩) (Kd.R_far (p := ⟨gb209, 0, none⟩) (Kd.R_types HO215.out BK209.out (by decide)) (fun _ hk => hk.2) (.slice Ao15 y213.length co15)) (fun _ hk => hk.2) (.slice Ao14 y219.length co14)) (fun _ hk => trivial), by (with_reducible repeat (first | apply Kd.R_alloc | apply Kd.R_drewN | apply Kd.R_drew)); exact Kd.R_mono (Kd.R_far (p := ⟨gb209, 1, none⟩) (Kd.R_far (p := ⟨gb209, 0, none⟩) (Kd.R_types HO221.out BK209.out (by decide)) (fun _ hk => hk.2) (.slice Ao15 y213.length co15)) (fun _ hk => hk.2) (.slice Ao14 y219.length co14)) (fun _ hk => trivial), Z11 GE208.out GE209.out⟩
  ·rw [if_neg c3] at H
   exact absurd H (by simp)
 ·rw [if_neg c2] at H
  exact absurd H (by simp)
mutual
def spec_StoreCut.j0 : Nat → List (S89) → List (S92) → Bool → Option ((List (S89)))
 | 0, _, _, _ => none
 | k + 1, x0, x1, x14 => if x14 = true then (some ([] : List (S89))) else (spec_StoreCut.l0 k x0 x1 (([] : List (S89))) 0)
def spec_StoreCut.l0 : Nat → List (S89) → List (S92) → List (S89) → Int → Option ((List (S89)))
 | 0, _, _, _, _ => none
 | k + 1, x0, x1, x5, x6 => if x6 < (x0.length : Int) then (if 0 ≤ x6 then ((spec_under.f k ((rd_T89 x0 x6).f0) x1).bind fun t228 => (if t228 = true then (spec_StoreCut.l0 k x0 x1 x5 (wrap64 (x6 + 1))) else ((spec_copyCell.f ((rd_T89 x0 x6).f0) ((rd_T89 x0 x6).f1)).bind fun bt230 => (if x5.length < 2932031007402 then (spec_StoreCut.l0 k x0 x1 (x5 ++ [(⟨bt230.1, bt230.2⟩ : S89)]) (wrap64 (x6 + 1))) else (none))))) else (none)) else (some x5)
end
def spec_StoreCut.f (k : Nat) (l0 : List (S89)) (l1 : List (S92)) : Option ((List (S89))) := (spec_validStore.f k l0).bind fun t222 => (if t222 = true then ((spec_validPlace.f k l1).bind fun t223 => (spec_StoreCut.j0 k l0 l1 (!t223))) else (spec_StoreCut.j0 k l0 l1 true))
theorem spec_StoreCut.mono_l : ∀ k, (∀ y0 y1 y2, LeO (spec_StoreCut.j0 k y0 y1 y2) (spec_StoreCut.j0 (k + 1) y0 y1 y2)) ∧ (∀ y0 y1 y2 y3, LeO (spec_StoreCut.l0 k y0 y1 y2 y3) (spec_StoreCut.l0 (k + 1) y0 y1 y2 y3))
 | 0 => ⟨fun _ _ _ r h => by simp [spec_StoreCut.j0] at h, fun _ _ _ _ r h => by simp [spec_StoreCut.l0] at h⟩
 | k + 1 => by
  obtain ⟨ih0, ih1⟩ := spec_StoreCut.mono_l k
  refine ⟨?_, ?_⟩
  ·intro y0 y1 y2
   unfold spec_StoreCut.j0
   repeat' first
   | (with_reducible exact ih0 _ _ _)
   | (with_reducible exact ih1 _ _ _ _)
   | (with_reducible exact spec_under.mono _ _ _)
   | (with_reducible exact spec_validPlace.mono _ _)
   | (with_reducible exact spec_validStore.mono _ _)
   | (with_reducible exact LeO.refl _)
   | (with_reducible exact LeO.none _)
   | (with_reducible refine LeO.ite ?_ ?_)
   | (with_reducible refine LeO.bind ?_ (fun _ => ?_))
   | exact ih0 _ _ _
   | exact ih1 _ _ _ _
   | exact spec_under.mono _ _ _
   | exact spec_validPlace.mono _ _
   | exact spec_validStore.mono _ _
   | exact LeO.none _
   | refine LeO.ite ?_ ?_
   | refine LeO.bind ?_ (fun _ => ?_)
  ·intro y0 y1 y2 y3
   unfold spec_StoreCut.l0
   repeat' first
   | (with_reducible exact ih0 _ _ _)
   | (with_reducible exact ih1 _ _ _ _)
   | (with_reducible exact spec_under.mono _ _ _)
   | (with_reducible exact spec_validPlace.mono _ _)
   | (with_reducible exact spec_validStore.mono _ _)
   | (with_reducible exact LeO.refl _)
   | (with_reducible exact LeO.none _)
   | (with_reducible refine LeO.ite ?_ ?_)
   | (with_reducible refine LeO.bind ?_ (fun _ => ?_))
   | exact ih0 _ _ _
   | exact ih1 _ _ _ _
   | exact spec_under.mono _ _ _
   | exact spec_validPlace.mono _ _
   | exact spec_validStore.mono _ _
   | exact LeO.none _
   | refine LeO.ite ?_ ?_
   | refine LeO.bind ?_ (fun _ => ?_)
theorem spec_StoreCut.mono : ∀ a0 a1 k, LeO (spec_StoreCut.f k a0 a1) (spec_StoreCut.f (k + 1) a0 a1) := by
 intro a0 a1 k
 obtain ⟨ih0, ih1⟩ := spec_StoreCut.mono_l k
 unfold spec_StoreCut.f
 repeat' first
   | (with_reducible exact ih0 _ _ _)
   | (with_reducible exact ih1 _ _ _ _)
   | (with_reducible exact spec_under.mono _ _ _)
   | (with_reducible exact spec_validPlace.mono _ _)
   | (with_reducible exact spec_validStore.mono _ _)
   | (with_reducible exact LeO.refl _)
   | (with_reducible exact LeO.none _)
   | (with_reducible refine LeO.ite ?_ ?_)
   | (with_reducible refine LeO.bind ?_ (fun _ => ?_))
   | exact ih0 _ _ _
   | exact ih1 _ _ _ _
   | exact spec_under.mono _ _ _
   | exact spec_validPlace.mono _ _
   | exact spec_validStore.mono _ _
   | exact LeO.none _
   | refine LeO.ite ?_ ?_
   | refine LeO.bind ?_ (fun _ => ?_)
set_option maxHeartbeats 8000000 in
set_option maxRecDepth 100000 in
theorem spec_StoreCut.calls (k : Nat) (A0 : Option Addr) (c0 : Nat) (l0 : List (S89)) (A1 : Option Addr) (c1 : Nat) (l1 : List (S92)) (r : List (S89)) (w : World) (hr0 : Kd.C k89 w A0 l0.length l0) (hc0 : l0.length ≤ c0) (hr1 : Kd.C k92 w A1 l1.length l1) (hc1 : l1.length ≤ c1) (h : spec_StoreCut.f k l0 l1 = some r) :
  Calls Try.prog 31 #[.slice A0 l0.length c0, .slice A1 l1.length c1] w fun e w' => ∃ v0_ : Value, e = .returned (v0_) ∧ Kd.S k89 89 w' w.heap.size (fun _ => True) v0_ r ∧ Below w.heap.size w w' := by
 have hu89 := Try.underlying89
 have HR0 := A_ hr0
 have HC0 := A_ hc0
 clear hr0 hc0
 have HR1 := A_ hr1
 have HC1 := A_ hc1
 clear hr1 hc1
 have HB := A_ (Below.refl w.heap.size w)
 have H : ((spec_validStore.f k l0).bind fun t222 => (if t222 = true then ((spec_validPlace.f k l1).bind fun t223 => (spec_StoreCut.j0 k l0 l1 (!t223))) else (spec_StoreCut.j0 k l0 l1 true))) = some r := h
 clear h
 have HC3 := A_ H
 clear H
 go_enter Try.func31, Try.ntmps31
 go_upto_region 1 with (fail)
 go_cut [14] (fun v14 wc => ∃ (kq : Nat) (x14_2 : Bool), v14 = .bool x14_2 ∧ Aside0 (spec_StoreCut.j0 kq l0 l1 x14_2 = some r) ∧ Aside0 (kq ≤ k) ∧ Aside0 (Below w.heap.size w wc))
 case first =>
  have H := HC3.out
  clear HC3
  replace H := Option.bind_eq_some_iff.mp H
  obtain ⟨t222, A40, H⟩ := H
  replace H : (if t222 = true then ((spec_validPlace.f k l1).bind fun t223 => (spec_StoreCut.j0 k l0 l1 (!t223))) else (spec_StoreCut.j0 k l0 l1 true)) = some r := H
  have A4 := A_ A40
  clear A40
  by_cases c5 : t222 = true
  ·subst c5
   have H1 : ((spec_validPlace.f k l1).bind fun t223 => (spec_StoreCut.j0 k l0 l1 (!t223))) = some r := by rw [if_pos rfl] at H; exact H
   clear H
   have H := H1
   clear H1
   replace H := Option.bind_eq_some_iff.mp H
   obtain ⟨t223, A60, H⟩ := H
   replace H : (spec_StoreCut.j0 k l0 l1 (!t223)) = some r := H
   have A6 := A_ A60
   clear A60
   have H' := A_ H
   clear H
   go_wp2_with (first | ((with_reducible refine gate_callee (f := 59) rfl ?_); refine goesL_ (some 8) rfl rfl Try.func59 (by kernel_rfl) rfl #[.slice A0 l0.length c0] rfl Z3 ?_; (with_reducible refine (spec_validStore.calls k _ _ l0 true _ ?side1 ?side2 A4.out).mono ?_); (case side1 => exact Z6 HR0.out); (case side2 => exact HC0.out); rintro e w7 ⟨rfl, hb⟩; refine ⟨_, rfl, ?_⟩; have n0_ := A_ (below_step Z0 hb); clear HB; have HB := n0_; clear n0_; (try clear hb); (try clear hb2); (try clear hk); (try clear hi)) | (go_at_call 49; (with_reducible refine (spec_validPlace.calls k _ _ l1 t223 _ ?side1 ?side2 A6.out).mono ?_); (case side1 => exact Z6 HR1.out); (case side2 => exact HC1.out); rintro e w8 ⟨rfl, hb⟩; have n0_ := A_ (below_step Z0 hb); clear HB; have HB := n0_; clear n0_; (try clear hb); (try clear hb2); (try clear hk); (try clear hi)))
   go_meet
   case rel => exact ⟨_, (!t223), Z18, H', ⟨by first | omega | exact Nat.le_refl _⟩, ⟨Z0⟩⟩
  ·replace c5 := Bool.eq_false_iff.mpr c5
   subst c5
   have H1 : (spec_StoreCut.j0 k l0 l1 true) = some r := by rw [if_neg (show ¬ (false = true) by decide)] at H; exact H
   clear H
   have H := H1
   clear H1
   have H' := A_ H
   clear H
   go_wp2_with (first | ((with_reducible refine gate_callee (f := 59) rfl ?_); refine goesL_ (some 8) rfl rfl Try.func59 (by kernel_rfl) rfl #[.slice A0 l0.length c0] rfl Z3 ?_; (with_reducible refine (spec_validStore.calls k _ _ l0 false _ ?side1 ?side2 A4.out).mono ?_); (case side1 => exact Z6 HR0.out); (case side2 => exact HC0.out); rintro e w9 ⟨rfl, hb⟩; refine ⟨_, rfl, ?_⟩; have n0_ := A_ (below_step Z0 hb); clear HB; have HB := n0_; clear n0_; (try clear hb); (try clear hb2); (try clear hk); (try clear hi)))
   go_meet
   case rel => exact ⟨_, (true), Z18, H', ⟨by first | omega | exact Nat.le_refl _⟩, ⟨Z0⟩⟩
 case rest =>
  clear HC3
  try clear c1
  try clear p2
  try clear c3
  try clear c5
  obtain ⟨kq, x14_2, rfl, HA, HJ2, HB⟩ := hcut
  cases kq with
  | zero => exact absurd HA.out (by simp [spec_StoreCut.j0])
  | succ kj2 =>
   have H := HA.out
   clear HA
   simp only [spec_StoreCut.j0] at H
   by_cases c10 : x14_2 = true
   ·subst c10
    have H1 : (some ([] : List (S89))) = some r := by rw [if_pos rfl] at H; exact H
    clear H
    have H := H1
    clear H1
    obtain rfl := Option.some.inj H
    go_wp2
    go_ret
    exact ⟨_, Z15, by first | exact Kd.S_nil _ _ _ _ _ | exact Kd.N_nil _ _ _ _ _ | exact Kd.V_nil _ _ _ _ _ | exact Kd.Q_nil _ _ _ _ _ | exact Kd.R_nil _ _ _ _ _, Z0⟩
   ·replace c10 := Bool.eq_false_iff.mpr c10
    subst c10
    have H1 : (spec_StoreCut.l0 kj2 l0 l1 (([] : List (S89))) 0) = some r := by rw [if_neg (show ¬ (false = true) by decide)] at H; exact H
    clear H
    have H := H1
    clear H1
    obtain ⟨y224, hy224⟩ : ∃ y_ : List (S89), y_ = (([] : List (S89))) := ⟨_, rfl⟩
    replace H : (spec_StoreCut.l0 kj2 l0 l1 y224 0) = some r := by first | (rw [hy224]; with_reducible exact H) | (have H2_ := (Option.bind_some _ _).symm.trans H; rw [hy224]; with_reducible exact H2_) | (have H2_ := (Option.bind_some _ _).symm.trans H; with_reducible exact H2_) | with_reducible exact H | (rw [hy224]; exact H) | exact H
    have Ny224 := A_ hy224
    clear hy224
    have H' := A_ H
    clear H
    go_wp2_with (first | ((with_reducible refine gate_dst (N := 15) rfl ?_); refine Kd.S_lit k89 _ 89 ?hg (N := 15) ?hd (xs := ([] : List (S89))) (inner := []) (ok := fun _ => True) (okp := fun _ => True) ?hr ?hp (fun _ hk => hk) trivial (Below.refl _ _) (Nat.le_refl _) (by simp) ?_; (case hd => rfl); (case hg => rfl); (case hr => exact Z19); (case hp => exact (Reps.none _ _)); intro v225 w11 ho12 hb hg_ hnew_; clear hg_ hnew_; (first | rw [← Ny224.out] at ho12 | (simp only [Int.reduceToNat] at ho12; rw [← Ny224.out] at ho12)); have n0_ := A_ (Kd.S_lower ho12 (below_size Z0)); have n1_ := A_ (below_step Z0 hb); clear HB; have HO226 := n0_; have HB := n1_; clear n0_ n1_; clear hb ho12))
    go_loopg [5, 6] kj2 (fun kq v5 v6 w' => ∃ (x5_2 : List (S89)) (x6_2 : Int), v6 = .int .i64 x6_2 ∧ Aside0 (spec_StoreCut.l0 kq l0 l1 x5_2 x6_2 = some r) ∧ Aside0 (kq ≤ kj2) ∧ Aside0 (Kd.S k89 89 w' w.heap.size (fun _ => True) v5 x5_2) ∧ Aside0 (Below w.heap.size w w'))
    case atStart => exact ⟨(y224), (0), Z18, H', ⟨Nat.le_refl _⟩, ⟨Z4 HO226.out⟩, ⟨Z0⟩⟩
    case round =>
     clear H'
     try clear c1
     try clear p2
     try clear c3
     try clear c5
     try clear c10
     try clear p2
     obtain ⟨x5_2, x6_2, rfl, HA, HK2, HO_5, HB⟩ := hrel
     cases gk with
     | zero => exact absurd HA.out (by simp [spec_StoreCut.l0])
     | succ k2 =>
      have H := HA.out
      clear HA
      simp only [spec_StoreCut.l0] at H
      by_cases c13 : x6_2 < (l0.length : Int)
      ·rw [if_pos c13] at H
       have c13b0 : decide (x6_2 < (l0.length : Int)) = true := decide_eq_true c13
       clear c13
       by_cases c14 : 0 ≤ x6_2
       ·rw [if_pos c14] at H
        have c14b0 : decide (0 ≤ x6_2) = true := decide_eq_true c14
        clear c14
        replace H := Option.bind_eq_some_iff.mp H
        obtain ⟨t228, A150, H⟩ := H
        replace H : (if t228 = true then (spec_StoreCut.l0 k2 l0 l1 x5_2 (wrap64 (x6_2 + 1))) else ((spec_copyCell.f ((rd_T89 l0 x6_2).f0) ((rd_T89 l0 x6_2).f1)).bind fun bt230 => (if x5_2.length < 2932031007402 then (spec_StoreCut.l0 k2 l0 l1 (x5_2 ++ [(⟨bt230.1, bt230.2⟩ : S89)]) (wrap64 (x6_2 + 1))) else (none)))) = some r := H
        have A15 := A_ A150
        clear A150
        by_cases c16 : t228 = true
        ·subst c16
         have H1 : (spec_StoreCut.l0 k2 l0 l1 x5_2 (wrap64 (x6_2 + 1))) = some r := by rw [if_pos rfl] at H; exact H
         clear H
         have H := H1
         clear H1
         have H' := A_ H
         clear H
         have p227 : 0 ≤ (x6_2 : Int) := of_decide_eq_true Z12
         have q227 : x6_2 < (l0.length : Int) := of_decide_eq_true Z12
         obtain ⟨ad227, A227_0, c227_0, A227_1, c227_1, e227, hx227_0, hx227_1, hl227_0, hi227_0, hl227_1, hi227_1⟩ := at_T89 HR0.out x6_2 p227 q227
         cases e227
         replace hx227_0 := ZC HB.out hx227_0
         replace hx227_1 := ZC HB.out hx227_1
         have HR227_0 := A_ hi227_0
         have HC227_0 := A_ hl227_0
         clear hi227_0 hl227_0
         have HR227_1 := A_ hi227_1
         have HC227_1 := A_ hl227_1
         clear hi227_1 hl227_1
         replace p227 := eq_true p227
         replace q227 := eq_true q227
         go_wp2_with (first | ((with_reducible refine gate_callee (f := 70) rfl ?_); refine goesL_ (some 28) rfl rfl Try.func70 (by kernel_rfl) rfl #[.slice A227_0 ((rd_T89 l0 x6_2).f0).length c227_0, .slice A1 l1.length c1] rfl Z3 ?_; (with_reducible refine (spec_under.calls k2 _ _ ((rd_T89 l0 x6_2).f0) _ _ l1 true _ ?side1 ?side2 ?side3 ?side4 A15.out).mono ?_); (case side1 => exact Z6 HR227_0.out); (case side2 => exact HC227_0.out); (case side3 => exact Z6 HR1.out); (case side4 => exact HC1.out); rintro e w' ⟨rfl, ⟨nd, rfl⟩⟩; refine ⟨_, rfl, ?_⟩))
         go_roundg k2
         case measure => have := HJ2.out; have := HK2.out; omega
         case rel => exact ⟨(x5_2), (wrap64 (x6_2 + 1)), Z18, H', ⟨by have := HJ2.out; have := HK2.out; omega⟩, ⟨Z4 HO_5.out⟩, ⟨Z0⟩⟩
        ·replace c16 := Bool.eq_false_iff.mpr c16
         subst c16
         have H1 : ((spec_copyCell.f ((rd_T89 l0 x6_2).f0) ((rd_T89 l0 x6_2).f1)).bind fun bt230 => (if x5_2.length < 2932031007402 then (spec_StoreCut.l0 k2 l0 l1 (x5_2 ++ [(⟨bt230.1, bt230.2⟩ : S89)]) (wrap64 (x6_2 + 1))) else (none))) = some r := by rw [if_neg (show ¬ (false = true) by decide)] at H; exact H
         clear H
         have H := H1
         clear H1
         replace H := Option.bind_eq_some_iff.mp H
         obtain ⟨⟨t230, t233⟩, A170, H⟩ := H
         replace H : (if x5_2.length < 2932031007402 then (spec_StoreCut.l0 k2 l0 l1 (x5_2 ++ [(⟨t230, t233⟩ : S89)]) (wrap64 (x6_2 + 1))) else (none)) = some r := H
         have A17 := A_ A170
         clear A170
         by_cases c18 : x5_2.length < 2932031007402
         ·rw [if_pos c18] at H
          have LMc18 := A_ c18
          clear c18
          obtain ⟨y236, hy236⟩ : ∃ y_ : List (S89), y_ = (x5_2 ++ [(⟨t230, t233⟩ : S89)]) := ⟨_, rfl⟩
          replace H : (spec_StoreCut.l0 k2 l0 l1 y236 (wrap64 (x6_2 + 1))) = some r := by first | (rw [hy236]; with_reducible exact H) | (have H2_ := (Option.bind_some _ _).symm.trans H; rw [hy236]; with_reducible exact H2_) | (have H2_ := (Option.bind_some _ _).symm.trans H; with_reducible exact H2_) | with_reducible exact H | (rw [hy236]; exact H) | exact H
          have Ny236 := A_ hy236
          clear hy236
          have H' := A_ H
          clear H
          have p227 : 0 ≤ (x6_2 : Int) := of_decide_eq_true Z12
          have q227 : x6_2 < (l0.length : Int) := of_decide_eq_true Z12
          obtain ⟨ad227, A227_0, c227_0, A227_1, c227_1, e227, hx227_0, hx227_1, hl227_0, hi227_0, hl227_1, hi227_1⟩ := at_T89 HR0.out x6_2 p227 q227
          cases e227
          replace hx227_0 := ZC HB.out hx227_0
          replace hx227_1 := ZC HB.out hx227_1
          have HR227_0 := A_ hi227_0
          have HC227_0 := A_ hl227_0
          clear hi227_0 hl227_0
          have HR227_1 := A_ hi227_1
          have HC227_1 := A_ hl227_1
          clear hi227_1 hl227_1
          replace p227 := eq_true p227
          replace q227 := eq_true q227
          go_wp2_with (first | ((with_reducible refine gate_callee (f := 70) rfl ?_); refine goesL_ (some 28) rfl rfl Try.func70 (by kernel_rfl) rfl #[.slice A227_0 ((rd_T89 l0 x6_2).f0).length c227_0, .slice A1 l1.length c1] rfl Z3 ?_; (with_reducible refine (spec_under.calls k2 _ _ ((rd_T89 l0 x6_2).f0) _ _ l1 false _ ?side1 ?side2 ?side3 ?side4 A15.out).mono ?_); (case side1 => exact Z6 HR227_0.out); (case side2 => exact HC227_0.out); (case side3 => exact Z6 HR1.out); (case side4 => exact HC1.out); rintro e w' ⟨rfl, ⟨nd, rfl⟩⟩; refine ⟨_, rfl, ?_⟩; have p229 : 0 ≤ (x6_2 : Int) := of_decide_eq_true Z12; have q229 : x6_2 < (l0.length : Int) := of_decide_eq_true Z12; obtain ⟨ad229, A229_0, c229_0, A229_1, c229_1, e229, hx229_0, hx229_1, hl229_0, hi229_0, hl229_1, hi229_1⟩ := at_T89 HR0.out x6_2 p229 q229; obtain rfl : ad227 = ad229 := (by injection e229); replace hx229_0 := ZC HB.out hx229_0; replace hx229_1 := ZC HB.out hx229_1; have HR229_0 := A_ hi229_0; have HC229_0 := A_ hl229_0; clear hi229_0 hl229_0; have HR229_1 := A_ hi229_1; have HC229_1 := A_ hl229_1; clear hi229_1 hl229_1; replace p229 := eq_true p229; replace q229 := eq_true q229; have ea_ := Option.some.inj (hx227_0.symm.trans hx229_0); injection ea_ with ea_ en_ ec_; subst ea_; subst ec_; clear en_; have ea_ := Option.some.inj (hx227_1.symm.trans hx229_1); injection ea_ with ea_ en_ ec_; subst ea_; subst ec_; clear en_) | ((with_reducible refine gate_callee (f := 71) rfl ?_); refine goesL_ (some 35) rfl rfl Try.func71 (by kernel_rfl) rfl #[.agg #[.slice A227_0 ((rd_T89 l0 x6_2).f0).length c227_0, .slice A227_1 ((rd_T89 l0 x6_2).f1).length c227_1]] rfl Z3 ?_; (with_reducible refine (spec_copyCell.calls _ _ ((rd_T89 l0 x6_2).f0) _ _ ((rd_T89 l0 x6_2).f1) t230 t233 _ ?side1 ?side2 ?side3 ?side4 A17.out).mono ?_); (case side1 => exact Z31 HR229_0.out); (case side2 => exact HC229_0.out); (case side3 => exact Z31 HR229_1.out); (case side4 => exact HC229_1.out); rintro e w19 ⟨v231, v234, rfl, ho0, ho1, hb⟩; refine ⟨_, rfl, ?_⟩; have n0_ := A_ (Kd.S_mono (Kd.S_told (Kd.S_told (Kd.S_old (Z4 HO_5.out) hb) (Kd.R_base ho0)) (Kd.R_base ho1)) (fun _ h_ => h_.1)); have n1_ := A_ (Kd.R_lower ho0 (below_size Z0)); have n2_ := A_ (Kd.R_lower ho1 (below_size Z0)); have n3_ := A_ (below_step Z0 hb); clear HO_5; clear HB; have HO_5 := n0_; have HO232 := n1_; have HO235 := n2_; have HB := n3_; clear n0_ n1_ n2_ n3_; (try clear hb); (try clear hb2); (try clear hk); (try clear hi); (try clear ho0); (try clear ho1); obtain ⟨Ao21, co21, eo21⟩ := Kd.R_slice HO232.out; subst eo21; obtain ⟨Ao22, co22, eo22⟩ := Kd.R_slice HO235.out; subst eo22) | ((with_reducible refine gate_builtin (b := .append) (xs := #[.tmp 30, .tmp 36]) rfl ?_); at_builtin; refine Kd.S_append k89 (w0 := w) w.heap.size rfl (.tmp 30) (.tmp 36) 41 89 (.agg #[(.slice none 0 0), (.slice none 0 0)]) 48 rfl Try.underlying41 info89 rfl (by decide) (by omega) u5 x5_2 (⟨t230, t233⟩ : S89) [.slice Ao21 t230.length co21, .slice Ao22 t233.length co22] (fun _ => True) (fun k_ => some k_ = (.slice Ao21 t230.length co21 : Value).ownBlock ∨ some k_ = (.slice Ao22 t233.length co22 : Value).ownBlock) rfl rfl ?aP (fun k_ hk_ => hk_.elim (fun h_ => ((Kd.R_mono (ok' := fun k_ => ((fun _ => True)) k_ ∧ some k_ ≠ (u5 : Value).ownBlock) (Kd.R_apart' (HO232.out) (Kd.S_typed HO_5.out) (by decide)) (fun k_ hk => ⟨trivial, hk.2⟩))).1 k_ h_.symm) (fun h_ => ((Kd.R_mono (ok' := fun k_ => ((fun _ => True)) k_ ∧ some k_ ≠ (u5 : Value).ownBlock) (Kd.R_apart' (HO235.out) (Kd.S_typed HO_5.out) (by decide)) (fun k_ hk => ⟨trivial, hk.2⟩))).1 k_ h_.symm)) ?aF ?aO ?aB ?aS ?aL ?_; (case aP => exact k89_mkM _ _ _ (⟨t230, t233⟩ : S89) (Kd.R_mono (Kd.R_tight rfl (Kd.R_mono (ok' := fun k_ => ((fun _ => True)) k_ ∧ some k_ ≠ (u5 : Value).ownBlock) (Kd.R_apart' (HO232.out) (Kd.S_typed HO_5.out) (by decide)) (fun k_ hk => ⟨trivial, hk.2⟩))) (fun _ h_ => Or.inl h_)) (Kd.R_mono (Kd.R_tight rfl (Kd.R_mono (ok' := fun k_ => ((fun _ => True)) k_ ∧ some k_ ≠ (u5 : Value).ownBlock) (Kd.R_apart' (HO235.out) (Kd.S_typed HO_5.out) (by decide)) (fun k_ hk => ⟨trivial, hk.2⟩))) (fun _ h_ => Or.inr (h_)))); (case aB => exact Z0); (case aF => exact (fun _ _ => trivial)); (case aO => exact (by (with_reducible repeat (first | apply Kd.S_alloc | apply Kd.S_drewN | apply Kd.S_drew)); exact Kd.S_mono HO_5.out (fun k_ hk => ⟨trivial, fun e_ => e_.elim (fun h_ => hk.1.2 h_) (fun h_ => hk.2 h_)⟩))); (case aS => exact (below_size Z0)); (case aL => have := LMc18.out; omega); intro v237 w20 ho hb hg hat; rw [← Ny236.out] at ho; have n0_ := A_ (hb); have n1_ := A_ (ho); clear HB; clear HO_5; clear HO232; clear HO235; have HB := n0_; have HO238 := n1_; clear n0_ n1_; clear ho hb hg hat))
          go_roundg k2
          case measure => have := HJ2.out; have := HK2.out; omega
          case rel => exact ⟨(y236), (wrap64 (x6_2 + 1)), Z18, H', ⟨by have := HJ2.out; have := HK2.out; omega⟩, ⟨Z4 HO238.out⟩, ⟨Z0⟩⟩
         ·rw [if_neg c18] at H
          exact absurd H (by simp)
       ·rw [if_neg c14] at H
        exact absurd H (by simp)
      ·rw [if_neg c13] at H
       have c13b0 : decide (x6_2 < (l0.length : Int)) = false := decide_eq_false c13
       clear c13
       obtain rfl := Option.some.inj H
       go_wp2
       go_ret
       exact ⟨_, Z15, Z4 HO_5.out, Z0⟩
def impl_within.f (a0 : Int) (a1 : Int) (a2 : Int) : Option (Bool) := if a0 ≥ a1 then (some (decide (a0 ≤ a2))) else (some false)
set_option maxHeartbeats 8000000 in
set_option maxRecDepth 100000 in
theorem impl_within.calls (a0 : Int) (a1 : Int) (a2 : Int) (r : Bool) (w : World) (h : impl_within.f a0 a1 a2 = some r) :
  Calls Try.prog 52 #[.int .i64 a0, .int .i64 a1, .int .i64 a2] w fun e w' => e = .returned (.bool r) ∧ Drawn0 w w' := by
 have H : (if a0 ≥ a1 then (some (decide (a0 ≤ a2))) else (some false)) = some r := h
 clear h
 by_cases c4 : a0 ≥ a1
 ·rw [if_pos c4] at H
  have c4b0 : decide (a1 ≤ a0) = true := decide_eq_true c4
  clear c4
  obtain rfl := Option.some.inj H
  go_enter Try.func52, Try.ntmps52
  go_wp2
  go_ret
  exact ⟨Z18, Z22⟩
 ·rw [if_neg c4] at H
  have c4b0 : decide (a1 ≤ a0) = false := decide_eq_false c4
  clear c4
  obtain rfl := Option.some.inj H
  go_enter Try.func52, Try.ntmps52
  go_wp2
  go_ret
  exact ⟨Z18, Z22⟩
end Go.Proofs.Ytpadhphdglbciaa.PFnExactStoreCut
