/- Walks of the functions that the law 'FnExactStorePut' reaches, part 9: for each a Lean function and the proof that Go's comes to just its answer (lines of the print, under own names; no condition). -/
import Derived.Test.YtpadhphdglbciaaZFnExactStorePutQFnExactStorePutx0
import Derived.Test.YtpadhphdglbciaaZFnExactStorePutQFnExactStorePutx7
namespace Go.Proofs.Ytpadhphdglbciaa.PFnExactStorePut
open Go.RowKit Go.Proofs.YtpadhphdglbciaaW.PrintWords Go.Proofs.YtpadhphdglbciaaW.PrintLast Go.Proofs.YtpadhphdglbciaaW.PrintMore
attribute [local go_sem] max2_int min2_int max_two min_two max_three min_three max_four min_four
set_option linter.unusedVariables false
set_option linter.unusedSimpArgs false
def spec_cellAt.l0 : Nat → List (S89) → List (S92) → Int → Option (Int × Bool)
 | 0, _, _, _ => none
 | k + 1, x0, x1, x6 => if x6 < (x0.length : Int) then (if 0 ≤ x6 then ((spec_comparePlaces.f k ((rd_T89 x0 x6).f0) x1).bind fun t214 => (if t214 < 0 then (spec_cellAt.l0 k x0 x1 (wrap64 (x6 + 1))) else ((spec_comparePlaces.f k ((rd_T89 x0 x6).f0) x1).bind fun t216 => (some (x6, (t216 == 0)))))) else (none)) else (some (x6, false))
def spec_cellAt.f (k : Nat) (l0 : List (S89)) (l1 : List (S92)) : Option (Int × Bool) := spec_cellAt.l0 k l0 l1 0
theorem spec_cellAt.mono_l : ∀ k, (∀ y0 y1 y2, LeO (spec_cellAt.l0 k y0 y1 y2) (spec_cellAt.l0 (k + 1) y0 y1 y2))
 | 0 => fun _ _ _ r h => by simp [spec_cellAt.l0] at h
 | k + 1 => by
  have ih0 := spec_cellAt.mono_l k
  ·intro y0 y1 y2
   unfold spec_cellAt.l0
   repeat' first
   | (with_reducible exact ih0 _ _ _)
   | (with_reducible exact spec_comparePlaces.mono _ _ _)
   | (with_reducible exact LeO.refl _)
   | (with_reducible exact LeO.none _)
   | (with_reducible refine LeO.ite ?_ ?_)
   | (with_reducible refine LeO.bind ?_ (fun _ => ?_))
   | exact ih0 _ _ _
   | exact spec_comparePlaces.mono _ _ _
   | exact LeO.none _
   | refine LeO.ite ?_ ?_
   | refine LeO.bind ?_ (fun _ => ?_)
theorem spec_cellAt.mono : ∀ a0 a1 k, LeO (spec_cellAt.f k a0 a1) (spec_cellAt.f (k + 1) a0 a1) := by
 intro a0 a1 k
 have ih0 := spec_cellAt.mono_l k
 unfold spec_cellAt.f
 repeat' first
   | (with_reducible exact ih0 _ _ _)
   | (with_reducible exact spec_comparePlaces.mono _ _ _)
   | (with_reducible exact LeO.refl _)
   | (with_reducible exact LeO.none _)
   | (with_reducible refine LeO.ite ?_ ?_)
   | (with_reducible refine LeO.bind ?_ (fun _ => ?_))
   | exact ih0 _ _ _
   | exact spec_comparePlaces.mono _ _ _
   | exact LeO.none _
   | refine LeO.ite ?_ ?_
   | refine LeO.bind ?_ (fun _ => ?_)
set_option maxHeartbeats 8000000 in
set_option maxRecDepth 100000 in
theorem spec_cellAt.calls (k : Nat) (A0 : Option Addr) (c0 : Nat) (l0 : List (S89)) (A1 : Option Addr) (c1 : Nat) (l1 : List (S92)) (r1 : Int) (r2 : Bool) (w : World) (hr0 : Kd.C k89 w A0 l0.length l0) (hc0 : l0.length ≤ c0) (hr1 : Kd.C k92 w A1 l1.length l1) (hc1 : l1.length ≤ c1) (h : spec_cellAt.f k l0 l1 = some (r1, r2)) :
  Calls Try.prog 60 #[.slice A0 l0.length c0, .slice A1 l1.length c1] w fun e w' => e = .returned (.tuple #[.int .i64 r1, .bool r2]) ∧ Drawn0 w w' := by
 have HR0 := A_ hr0
 have HC0 := A_ hc0
 clear hr0 hc0
 have HR1 := A_ hr1
 have HC1 := A_ hc1
 clear hr1 hc1
 have H : (spec_cellAt.l0 k l0 l1 0) = some (r1, r2) := h
 clear h
 have H' := A_ H
 clear H
 go_enter Try.func60, Try.ntmps60
 go_wp2
 go_loopg [6] k (fun kq v6 w' => ∃ (x6_1 : Int), v6 = .int .i64 x6_1 ∧ Aside0 (spec_cellAt.l0 kq l0 l1 x6_1 = some (r1, r2)) ∧ Aside0 (kq ≤ k) ∧ Drawn0 w w')
 case atStart => exact ⟨(0), Z17, H', ⟨Nat.le_refl _⟩, Z23⟩
 case round =>
  clear H'
  try clear c1
  try clear p2
  obtain ⟨x6_1, rfl, HA, HK1, ⟨m1, rfl⟩⟩ := hrel
  cases gk with
  | zero => exact absurd HA.out (by simp [spec_cellAt.l0])
  | succ k1 =>
   have H := HA.out
   clear HA
   simp only [spec_cellAt.l0] at H
   by_cases c3 : x6_1 < (l0.length : Int)
   ·rw [if_pos c3] at H
    have c3b0 : decide (x6_1 < (l0.length : Int)) = true := decide_eq_true c3
    clear c3
    by_cases c4 : 0 ≤ x6_1
    ·rw [if_pos c4] at H
     have c4b0 : decide (0 ≤ x6_1) = true := decide_eq_true c4
     clear c4
     replace H := Option.bind_eq_some_iff.mp H
     obtain ⟨t214, A50, H⟩ := H
     replace H : (if t214 < 0 then (spec_cellAt.l0 k1 l0 l1 (wrap64 (x6_1 + 1))) else ((spec_comparePlaces.f k1 ((rd_T89 l0 x6_1).f0) l1).bind fun t216 => (some (x6_1, (t216 == 0))))) = some (r1, r2) := H
     have A5 := A_ A50
     clear A50
     by_cases c6 : t214 < 0
     ·rw [if_pos c6] at H
      have c6b0 : decide (t214 < 0) = true := decide_eq_true c6
      clear c6
      have H' := A_ H
      clear H
      have p213 : 0 ≤ (x6_1 : Int) := of_decide_eq_true Z13
      have q213 : x6_1 < (l0.length : Int) := of_decide_eq_true Z13
      obtain ⟨ad213, A213_0, c213_0, A213_1, c213_1, e213, hx213_0, hx213_1, hl213_0, hi213_0, hl213_1, hi213_1⟩ := at_T89 HR0.out x6_1 p213 q213
      cases e213
      have HR213_0 := A_ hi213_0
      have HC213_0 := A_ hl213_0
      clear hi213_0 hl213_0
      have HR213_1 := A_ hi213_1
      have HC213_1 := A_ hl213_1
      clear hi213_1 hl213_1
      replace p213 := eq_true p213
      replace q213 := eq_true q213
      go_wp2_with (first | (go_at_call 90; (with_reducible refine (spec_comparePlaces.calls k1 _ _ ((rd_T89 l0 x6_1).f0) _ _ l1 t214 _ ?side1 ?side2 ?side3 ?side4 A5.out).mono ?_); (case side1 => exact Z24 HR213_0.out); (case side2 => exact HC213_0.out); (case side3 => exact Z24 HR1.out); (case side4 => exact HC1.out); rintro e w' ⟨rfl, ⟨nd, rfl⟩⟩))
      go_roundg k1
      case measure => have := HK1.out; omega
      case rel => exact ⟨(wrap64 (x6_1 + 1)), Z17, H', ⟨by have := HK1.out; omega⟩, Z23⟩
     ·rw [if_neg c6] at H
      have c6b0 : decide (t214 < 0) = false := decide_eq_false c6
      clear c6
      replace H := Option.bind_eq_some_iff.mp H
      obtain ⟨t216, A70, H⟩ := H
      replace H : (some (x6_1, (t216 == 0))) = some (r1, r2) := H
      have A7 := A_ A70
      clear A70
      simp only [Option.some.injEq, Prod.mk.injEq] at H
      obtain ⟨rfl, rfl⟩ := H
      have p213 : 0 ≤ (x6_1 : Int) := of_decide_eq_true Z13
      have q213 : x6_1 < (l0.length : Int) := of_decide_eq_true Z13
      obtain ⟨ad213, A213_0, c213_0, A213_1, c213_1, e213, hx213_0, hx213_1, hl213_0, hi213_0, hl213_1, hi213_1⟩ := at_T89 HR0.out x6_1 p213 q213
      cases e213
      have HR213_0 := A_ hi213_0
      have HC213_0 := A_ hl213_0
      clear hi213_0 hl213_0
      have HR213_1 := A_ hi213_1
      have HC213_1 := A_ hl213_1
      clear hi213_1 hl213_1
      replace p213 := eq_true p213
      replace q213 := eq_true q213
      go_wp2_with (first | (go_at_call 90; (with_reducible refine (spec_comparePlaces.calls k1 _ _ ((rd_T89 l0 x6_1).f0) _ _ l1 t214 _ ?side1 ?side2 ?side3 ?side4 A5.out).mono ?_); (case side1 => exact Z24 HR213_0.out); (case side2 => exact HC213_0.out); (case side3 => exact Z24 HR1.out); (case side4 => exact HC1.out); rintro e w' ⟨rfl, ⟨nd, rfl⟩⟩; have p215 : 0 ≤ (x6_1 : Int) := of_decide_eq_true Z13; have q215 : x6_1 < (l0.length : Int) := of_decide_eq_true Z13; obtain ⟨ad215, A215_0, c215_0, A215_1, c215_1, e215, hx215_0, hx215_1, hl215_0, hi215_0, hl215_1, hi215_1⟩ := at_T89 HR0.out x6_1 p215 q215; obtain rfl : ad213 = ad215 := (by injection e215); have HR215_0 := A_ hi215_0; have HC215_0 := A_ hl215_0; clear hi215_0 hl215_0; have HR215_1 := A_ hi215_1; have HC215_1 := A_ hl215_1; clear hi215_1 hl215_1; replace p215 := eq_true p215; replace q215 := eq_true q215; have ea_ := Option.some.inj (hx213_0.symm.trans hx215_0); injection ea_ with ea_ en_ ec_; subst ea_; subst ec_; clear en_; have ea_ := Option.some.inj (hx213_1.symm.trans hx215_1); injection ea_ with ea_ en_ ec_; subst ea_; subst ec_; clear en_) | (go_at_call 90; (with_reducible refine (spec_comparePlaces.calls k1 _ _ ((rd_T89 l0 x6_1).f0) _ _ l1 t216 _ ?side1 ?side2 ?side3 ?side4 A7.out).mono ?_); (case side1 => exact Z24 HR215_0.out); (case side2 => exact HC215_0.out); (case side3 => exact Z24 HR1.out); (case side4 => exact HC1.out); rintro e w' ⟨rfl, ⟨nd, rfl⟩⟩))
      go_ret2
      (try (have et_ := Option.some.inj (A5.out.symm.trans A7.out); subst et_))
      exact ⟨Z17, Z23⟩
    ·exact Z45
   ·rw [if_neg c3] at H
    have c3b0 : decide (x6_1 < (l0.length : Int)) = false := decide_eq_false c3
    clear c3
    simp only [Option.some.injEq, Prod.mk.injEq] at H
    obtain ⟨rfl, rfl⟩ := H
    go_wp2
    go_ret2
    (try (have et_ := Option.some.inj (A5.out.symm.trans A7.out); subst et_))
    exact ⟨Z17, Z23⟩
def spec_copyCell.f (l0_0 : List (S92)) (l0_1 : List (S99)) : Option ((List (S92)) × (List (S99))) := (some (([] : List (S92)) : List (S92))).bind fun y219 => (if y219.length + l0_0.length < 8796093022208 then ((some (([] : List (S99)) : List (S99))).bind fun y225 => (if y225.length + l0_1.length < 4398046511104 then (some ((y219 ++ l0_0), (y225 ++ l0_1))) else (none))) else (none))
def spec_copyCell.T1 : Bool × List (List Nat × List Nat) := (true, [([], []), ([], []), ([1], [1]), ([0, 2], [0, 2]), ([], []), ([], []), ([5], [5]), ([4, 6, 3], [4, 6]), ([3, 7], [3, 7]), ([8, 7, 0, 1, 2, 3, 4, 5, 6, 7, 8], [8])])
def spec_copyCell.B1 : List Nat := [0, 0, 2, 7, 0, 0, 32, 127, 255, 511]
theorem spec_copyCell.tab1 : rtab .any (opsOf Try.f71 1) = spec_copyCell.T1 := by kernel_rfl
theorem spec_copyCell.bits1 : waitsOk spec_copyCell.T1.2 spec_copyCell.B1 = true := by kernel_rfl
set_option maxHeartbeats 8000000 in
set_option maxRecDepth 100000 in
theorem spec_copyCell.calls (A0_0 : Option Addr) (c0_0 : Nat) (l0_0 : List (S92)) (A0_1 : Option Addr) (c0_1 : Nat) (l0_1 : List (S99)) (r1 : List (S92)) (r2 : List (S99)) (w : World) (hr0_0 : Kd.C k92 w A0_0 l0_0.length l0_0) (hc0_0 : l0_0.length ≤ c0_0) (hr0_1 : Kd.C k99 w A0_1 l0_1.length l0_1) (hc0_1 : l0_1.length ≤ c0_1) (h : spec_copyCell.f l0_0 l0_1 = some (r1, r2)) :
  Calls Try.prog 71 #[.agg #[.slice A0_0 l0_0.length c0_0, .slice A0_1 l0_1.length c0_1]] w fun e w' => ∃ v0_ v1_ : Value, e = .returned (.agg #[v0_, v1_]) ∧ Kd.R k92 92 w' w.heap.size (fun _ => True) v0_ r1 ∧ Kd.R k99 99 w' w.heap.size (fun _ => True) v1_ r2 ∧ Below w.heap.size w w' := by
 have hu89 := Try.underlying89
 have HR0_0 := A_ hr0_0
 have HC0_0 := A_ hc0_0
 clear hr0_0 hc0_0
 have HR0_1 := A_ hr0_1
 have HC0_1 := A_ hc0_1
 clear hr0_1 hc0_1
 have HB := A_ (Below.refl w.heap.size w)
 have H : ((some (([] : List (S92)) : List (S92))).bind fun y219 => (if y219.length + l0_0.length < 8796093022208 then ((some (([] : List (S99)) : List (S99))).bind fun y225 => (if y225.length + l0_1.length < 4398046511104 then (some ((y219 ++ l0_0), (y225 ++ l0_1))) else (none))) else (none))) = some (r1, r2) := h
 clear h
 obtain ⟨y219, hy219⟩ : ∃ y_ : List (S92), y_ = (([] : List (S92))) := ⟨_, rfl⟩
 replace H : (if y219.length + l0_0.length < 8796093022208 then ((some (([] : List (S99)) : List (S99))).bind fun y225 => (if y225.length + l0_1.length < 4398046511104 then (some ((y219 ++ l0_0), (y225 ++ l0_1))) else (none))) else (none)) = some (r1, r2) := by first | (rw [hy219]; with_reducible exact H) | (have H2_ := (Option.bind_some _ _).symm.trans H; rw [hy219]; with_reducible exact H2_) | (have H2_ := (Option.bind_some _ _).symm.trans H; with_reducible exact H2_) | with_reducible exact H | (rw [hy219]; exact H) | exact H
 have Ny219 := A_ hy219
 clear hy219
 by_cases c2 : y219.length + l0_0.length < 8796093022208
 ·rw [if_pos c2] at H
  have LMc2 := A_ c2
  clear c2
  obtain ⟨y222, hy222⟩ : ∃ y_ : List (S92), y_ = (y219 ++ l0_0) := ⟨_, rfl⟩
  replace H : ((some (([] : List (S99)) : List (S99))).bind fun y225 => (if y225.length + l0_1.length < 4398046511104 then (some (y222, (y225 ++ l0_1))) else (none))) = some (r1, r2) := by first | (rw [hy222]; with_reducible exact H) | (have H2_ := (Option.bind_some _ _).symm.trans H; rw [hy222]; with_reducible exact H2_) | (have H2_ := (Option.bind_some _ _).symm.trans H; with_reducible exact H2_) | with_reducible exact H | (rw [hy222]; exact H) | exact H
  have Ny222 := A_ hy222
  clear hy222
  obtain ⟨y225, hy225⟩ : ∃ y_ : List (S99), y_ = (([] : List (S99))) := ⟨_, rfl⟩
  replace H : (if y225.length + l0_1.length < 4398046511104 then (some (y222, (y225 ++ l0_1))) else (none)) = some (r1, r2) := by first | (rw [hy225]; with_reducible exact H) | (have H2_ := (Option.bind_some _ _).symm.trans H; rw [hy225]; with_reducible exact H2_) | (have H2_ := (Option.bind_some _ _).symm.trans H; with_reducible exact H2_) | with_reducible exact H | (rw [hy225]; exact H) | exact H
  have Ny225 := A_ hy225
  clear hy225
  by_cases c3 : y225.length + l0_1.length < 4398046511104
  ·rw [if_pos c3] at H
   have LMc3 := A_ c3
   clear c3
   obtain ⟨y228, hy228⟩ : ∃ y_ : List (S99), y_ = (y225 ++ l0_1) := ⟨_, rfl⟩
   replace H : (some (y222, y228)) = some (r1, r2) := by first | (rw [hy228]; with_reducible exact H) | (have H2_ := (Option.bind_some _ _).symm.trans H; rw [hy228]; with_reducible exact H2_) | (have H2_ := (Option.bind_some _ _).symm.trans H; with_reducible exact H2_) | with_reducible exact H | (rw [hy228]; exact H) | exact H
   have Ny228 := A_ hy228
   clear hy228
   simp only [Option.some.injEq, Prod.mk.injEq] at H
   obtain ⟨rfl, rfl⟩ := H
   go_enter Try.func71, Try.ntmps71
   try go_wp2_with (first | ((with_reducible refine gate_dst (N := 1) rfl ?_); refine box_event ?hg (N := 1) ?hd (cs := #[.slice A0_0 l0_0.length c0_0, .slice A0_1 l0_1.length c0_1]) (t := 89) ?hr ?_; (case hd => rfl); (case hg => rfl); (case hr => exact Z20); intro gb217 hg w4 hbox hb; have n0_ := A_ (below_step Z0 hb); have n1_ := A_ (hbox); have n2_ := A_ ((by rw [hg]; exact (below_size Z0) : w.heap.size ≤ gb217)); have n3_ := A_ ((by rw [hg]; exact (below_size Z0) : w.heap.size ≤ gb217)); clear HB; have HB := n0_; have BK217 := n1_; have GW217 := n2_; have GE217 := n3_; clear n0_ n1_ n2_ n3_; clear hb hbox hg) | ((with_reducible refine gate_dst (N := 2) rfl ?_); refine box_event ?hg (N := 2) ?hd (cs := #[.slice none 0 0, .slice none 0 0]) (t := 89) ?hr ?_; (case hd => rfl); (case hg => rfl); (case hr => exact Z20); intro gb218 hg w5 hbox hb; have n0_ := A_ (blk_below (g := gb217) (o := .cells #[.slice A0_0 l0_0.length c0_0, .slice A0_1 l0_1.length c0_1] 89 (0, 0)) (Z4 BK217.out) hb); have n1_ := A_ (below_step (Z2 GE217.out) hb); have n2_ := A_ (hbox); have n3_ := A_ ((by rw [hg]; exact (below_size (Z2 GE217.out)) : w.heap.size ≤ gb218)); have n4_ := A_ ((by rw [hg]; exact (below_size (Z2 GE217.out)) : w.heap.size ≤ gb218)); have n5_ := A_ ((by rw [hg]; exact Nat.ne_of_lt (blk_lt (g := gb217) (o := .cells #[.slice A0_0 l0_0.length c0_0, .slice A0_1 l0_1.length c0_1] 89 (0, 0)) (Z4 BK217.out)) : gb217 ≠ gb218)); have n6_ := A_ ((by rw [hg]; exact Nat.ne_of_gt (blk_lt (g := gb217) (o := .cells #[.slice A0_0 l0_0.length c0_0, .slice A0_1 l0_1.length c0_1] 89 (0, 0)) (Z4 BK217.out)) : gb218 ≠ gb217)); clear BK217; clear HB; have BK217 := n0_; have HB := n1_; have BK218 := n2_; have GW218 := n3_; have GE218 := n4_; have NB217_218 := n5_; have NB218_217 := n6_; clear n0_ n1_ n2_ n3_ n4_ n5_ n6_; clear hb hbox hg))
   have n0_ := A_ (blk_drew BK217.out)
   have n1_ := A_ (blk_drew BK218.out)
   have n2_ := A_ (below_drew1 HB.out)
   clear BK217
   clear BK218
   clear HB
   have BK217 := n0_
   have BK218 := n1_
   have HB := n2_
   clear n0_ n1_ n2_
   refine start_ (n := 10) (S := fun w' => w'.cell? ⟨gb217, 0, none⟩ = some (.slice A0_0 l0_0.length c0_0) ∧ w'.cell? ⟨gb217, 1, none⟩ = some (.slice A0_1 l0_1.length c0_1)) (ds := []) #[F,F,F,F,F,F,F,F,F,F] (by kernel_rfl) rfl rfl ⟨(blk_cell BK217.out 0).trans rfl, (blk_cell BK217.out 1).trans rfl⟩ (fun hHeld => ?_); refine with_tabW spec_copyCell.tab1 spec_copyCell.bits1 (fun HT_ HW_ => ?_)
   generalize w5.drew = w6 at BK217 BK218 HB hHeld ⊢
   refine pure_ (i := 1) (N := some 4) (v := ?_) (a' := ?_) #[F,T,F,F,F,F,F,F,F,F] rfl rfl ZA ZF (Or.inl ⟨by rfl, ?_⟩) ?_ ?_
   rotate_left
   ·exact Z15
   rotate_left
   ·exact Z1
   refine pure_ (i := 5) (N := some 8) (v := ?_) (a' := ?_) #[F,T,F,F,F,T,F,F,F,F] rfl rfl ZA ZF (Or.inl ⟨by rfl, ?_⟩) ?_ ?_
   rotate_left
   ·exact Z15
   rotate_left
   ·exact Z1
   refine take_ (i := 2) (N := some 5) (v := ?_) (a' := ?_) #[F,T,T,F,F,T,F,F,F,F] rfl rfl (take_ofW HT_.out HW_.out (by kernel_rfl)) ZF (Or.inl ⟨by rfl, ?_⟩) hHeld ?_ ?_
   rotate_left
   ·exact Z44
   rotate_left
   ·exact Z1
   refine take_ (i := 6) (N := some 9) (v := ?_) (a' := ?_) #[F,T,T,F,F,T,T,F,F,F] rfl rfl (take_ofW HT_.out HW_.out (by kernel_rfl)) ZF (Or.inl ⟨by rfl, ?_⟩) hHeld ?_ ?_
   rotate_left
   ·exact Z44
   rotate_left
   ·exact Z1
   refine join_ (σ := Value × Value × Value) 3 #[T,T,T,T,T,T,T,F,F,F] (fun s_ => [(3, s_.1), (6, s_.2.1), (7, s_.2.2)]) (fun s_ w' => (w'.cell? ⟨gb217, 0, none⟩ = some (.slice A0_0 l0_0.length c0_0) ∧ w'.cell? ⟨gb217, 1, none⟩ = some (.slice A0_1 l0_1.length c0_1)) ∧ (Kd.R k92 92 w' w.heap.size (fun _ => True) s_.2.1 y222) ∧ (Kd.R k99 99 w' w.heap.size (fun _ => True) s_.2.2 y225) ∧ (w'.heap[gb217]? = some (.cells #[.slice A0_0 l0_0.length c0_0, .slice A0_1 l0_1.length c0_1] 89 (0, 0))) ∧ (w'.heap[gb218]? = some (.cells #[.slice none 0 0, .slice none 0 0] 89 (0, 0))) ∧ (Below w.heap.size w w')) ?_ ?_
   rotate_left
   ·intro hCont
    refine two_ (i := 0) (j := 4) (Ni := some 3) (Nj := some 7) #[T,T,T,F,F,T,T,F,F,F] #[F,T,T,F,T,T,T,F,F,F] rfl rfl rfl rfl (two_of HT_.out (by kernel_rfl)) (by decide) (by decide) (fun K hK => ?_) (fun K hK => ?_)
    ·skip
     refine Kd.R_lit_step k92 _ 92 ?hg (N := 3) ?hd (xs := ([] : List (S92))) (inner := []) (ok := fun _ => True) (okp := fun _ => True) ?hr ?hp (fun _ hk => hk) trivial (Below.refl _ _) (Nat.le_refl _) (by simp) ?_; (case hd => rfl); (case hg => rfl); (case hr => exact Z20); (case hp => exact (Reps.none _ _))
     intro v220 w7 ho8 hb hg_ hnew_
     clear hg_ hnew_
     (first | rw [← Ny219.out] at ho8 | (simp only [Int.reduceToNat] at ho8; rw [← Ny219.out] at ho8))
     have n0_ := A_ (Kd.R_lower ho8 (below_size (Z12 GE217.out GE218.out)))
     have n1_ := A_ (blk_below (g := gb217) (o := .cells #[.slice A0_0 l0_0.length c0_0, .slice A0_1 l0_1.length c0_1] 89 (0, 0)) (Z4 BK217.out) hb)
     have n2_ := A_ (blk_below (g := gb218) (o := .cells #[.slice none 0 0, .slice none 0 0] 89 (0, 0)) (Z4 BK218.out) hb)
     have n3_ := A_ (below_step (Z12 GE217.out GE218.out) hb)
     clear BK217
     clear BK218
     clear HB
     have HO221 := n0_
     have BK217 := n1_
     have BK218 := n2_
     have HB := n3_
     clear n0_ n1_ n2_ n3_
     clear hb ho8
     refine hK.out _ _ ⟨(blk_cell BK217.out 0).trans rfl, (blk_cell BK217.out 1).trans rfl⟩ (fun hHeld => ?_)
     clear hK K
     refine norm_ (a' := ?_) ?_ ?_
     rotate_left
     ·show Act.put _ (some 3) _ = _
      simp only [Act.put, List.setIfInBounds_toArray, List.set_cons_zero, List.set_cons_succ, i64_w, i32_w]
      rfl
     refine two_ (i := 3) (j := 4) (Ni := some 6) (Nj := some 7) #[T,T,T,T,F,T,T,F,F,F] #[T,T,T,F,T,T,T,F,F,F] rfl rfl rfl rfl (two_of HT_.out (by kernel_rfl)) (by decide) (by decide) (fun K hK => ?_) (fun K hK => ?_)
     ·skip
      refine Kd.R_append_rows_step k92 (w0 := w) w.heap.size (by rfl) (.tmp 3) (.tmp 5) 43 92 (.agg #[(.int .i64 0), (.int .i64 0)]) 16 rfl Try.underlying43 info92 rfl (by decide) (by omega) v220 y219 l0_0 _ _ _ (fun _ => True) (fun _ => False) rfl rfl ?aO ?aR (fun _ _ h => h) (fun _ h => h.elim) ?aF ?aB ?aS ?aL ?_
      (case aR => exact Z3 HR0_0.out)
      (case aB => exact (Z12 GE217.out GE218.out))
      (case aF => exact (fun _ _ => trivial))
      (case aO => exact (Z6 HO221.out))
      (case aS => exact (below_size (Z12 GE217.out GE218.out)))
      (case aL => have := LMc2.out; omega)
      intro v223 w9 ho hb hg hat
      rw [← Ny222.out] at ho
      have n0_ := A_ (blk_grown (g := gb217) (o := .cells #[.slice A0_0 l0_0.length c0_0, .slice A0_1 l0_1.length c0_1] 89 (0, 0)) (Z4 BK217.out) hg (Kd.R_ne HO221.out BK217.out (by decide)))
      have n1_ := A_ (blk_grown (g := gb218) (o := .cells #[.slice none 0 0, .slice none 0 0] 89 (0, 0)) (Z4 BK218.out) hg (Kd.R_ne HO221.out BK218.out (by decide)))
      have n2_ := A_ (hb)
      have n3_ := A_ (ho)
      clear BK217
      clear BK218
      clear HB
      clear HO221
      have BK217 := n0_
      have BK218 := n1_
      have HB := n2_
      have HO224 := n3_
      clear n0_ n1_ n2_ n3_
      clear ho hb hg hat
      refine hK.out _ _ ⟨(blk_cell BK217.out 0).trans rfl, (blk_cell BK217.out 1).trans rfl⟩ (fun hHeld => ?_)
      clear hK K
      refine norm_ (a' := ?_) ?_ ?_
      rotate_left
      ·exact Z26
      refine one_ (i := 4) (N := some 7) #[T,T,T,T,T,T,T,F,F,F] rfl rfl (one_of HT_.out (by kernel_rfl)) (by decide) (fun K hK => ?_)
      refine Kd.R_lit_step k99 _ 99 ?hg (N := 7) ?hd (xs := ([] : List (S99))) (inner := []) (ok := fun _ => True) (okp := fun _ => True) ?hr ?hp (fun _ hk => hk) trivial (Below.refl _ _) (Nat.le_refl _) (by simp) ?_; (case hd => rfl); (case hg => rfl); (case hr => exact Z20); (case hp => exact (Reps.none _ _))
      intro v226 w10 ho11 hb hg_ hnew_
      clear hg_ hnew_
      (first | rw [← Ny225.out] at ho11 | (simp only [Int.reduceToNat] at ho11; rw [← Ny225.out] at ho11))
      have n0_ := A_ (Kd.R_below (Z6 HO224.out) hb)
      have n1_ := A_ (Kd.R_lower ho11 (below_size (Z12 GE217.out GE218.out)))
      have n2_ := A_ (blk_below (g := gb217) (o := .cells #[.slice A0_0 l0_0.length c0_0, .slice A0_1 l0_1.length c0_1] 89 (0, 0)) (Z4 BK217.out) hb)
      have n3_ := A_ (blk_below (g := gb218) (o := .cells #[.slice none 0 0, .slice none 0 0] 89 (0, 0)) (Z4 BK218.out) hb)
      have n4_ := A_ (below_step (Z12 GE217.out GE218.out) hb)
      clear HO224
      clear BK217
      clear BK218
      clear HB
      have HO224 := n0_
      have HO227 := n1_
      have BK217 := n2_
      have BK218 := n3_
      have HB := n4_
      clear n0_ n1_ n2_ n3_ n4_
      clear hb ho11
      refine hK.out _ _ ⟨(blk_cell BK217.out 0).trans rfl, (blk_cell BK217.out 1).trans rfl⟩ (fun hHeld => ?_)
      clear hK K
      refine norm_ (a' := ?_) ?_ ?_
      rotate_left
      ·exact Z25
      exact norm_ Z31 (hCont (v220, v223, v226) _ ⟨hHeld, (Z6 HO224.out), (Z6 HO227.out), (Z4 BK217.out), (Z4 BK218.out), (Z12 GE217.out GE218.out)⟩)
     ·skip
      refine Kd.R_lit_step k99 _ 99 ?hg (N := 7) ?hd (xs := ([] : List (S99))) (inner := []) (ok := fun _ => True) (okp := fun _ => True) ?hr ?hp (fun _ hk => hk) trivial (Below.refl _ _) (Nat.le_refl _) (by simp) ?_; (case hd => rfl); (case hg => rfl); (case hr => exact Z20); (case hp => exact (Reps.none _ _))
      intro v226 w9 ho10 hb hg_ hnew_
      clear hg_ hnew_
      (first | rw [← Ny225.out] at ho10 | (simp only [Int.reduceToNat] at ho10; rw [← Ny225.out] at ho10))
      have n0_ := A_ (Kd.R_below (Z6 HO221.out) hb)
      have n1_ := A_ (Kd.R_lower ho10 (below_size (Z12 GE217.out GE218.out)))
      have n2_ := A_ (blk_below (g := gb217) (o := .cells #[.slice A0_0 l0_0.length c0_0, .slice A0_1 l0_1.length c0_1] 89 (0, 0)) (Z4 BK217.out) hb)
      have n3_ := A_ (blk_below (g := gb218) (o := .cells #[.slice none 0 0, .slice none 0 0] 89 (0, 0)) (Z4 BK218.out) hb)
      have n4_ := A_ (below_step (Z12 GE217.out GE218.out) hb)
      clear HO221
      clear BK217
      clear BK218
      clear HB
      have HO221 := n0_
      have HO227 := n1_
      have BK217 := n2_
      have BK218 := n3_
      have HB := n4_
      clear n0_ n1_ n2_ n3_ n4_
      clear hb ho10
      refine hK.out _ _ ⟨(blk_cell BK217.out 0).trans rfl, (blk_cell BK217.out 1).trans rfl⟩ (fun hHeld => ?_)
      clear hK K
      refine norm_ (a' := ?_) ?_ ?_
      rotate_left
      ·exact Z25
      refine one_ (i := 3) (N := some 6) #[T,T,T,T,T,T,T,F,F,F] rfl rfl (one_of HT_.out (by kernel_rfl)) (by decide) (fun K hK => ?_)
      refine Kd.R_append_rows_step k92 (w0 := w) w.heap.size (by rfl) (.tmp 3) (.tmp 5) 43 92 (.agg #[(.int .i64 0), (.int .i64 0)]) 16 rfl Try.underlying43 info92 rfl (by decide) (by omega) v220 y219 l0_0 _ _ _ (fun _ => True) (fun _ => False) rfl rfl ?aO ?aR (fun _ _ h => h) (fun _ h => h.elim) ?aF ?aB ?aS ?aL ?_
      (case aR => exact Z3 HR0_0.out)
      (case aB => exact (Z12 GE217.out GE218.out))
      (case aF => exact (fun _ _ => trivial))
      (case aO => exact (Z6 HO221.out))
      (case aS => exact (below_size (Z12 GE217.out GE218.out)))
      (case aL => have := LMc2.out; omega)
      intro v223 w11 ho hb hg hat
      rw [← Ny222.out] at ho
      have n0_ := A_ (blk_grown (g := gb217) (o := .cells #[.slice A0_0 l0_0.length c0_0, .slice A0_1 l0_1.length c0_1] 89 (0, 0)) (Z4 BK217.out) hg (Kd.R_ne HO221.out BK217.out (by decide)))
      have n1_ := A_ (blk_grown (g := gb218) (o := .cells #[.slice none 0 0, .slice none 0 0] 89 (0, 0)) (Z4 BK218.out) hg (Kd.R_ne HO221.out BK218.out (by decide)))
      have n2_ := A_ (Kd.R_over' (Z6 HO227.out) (Kd.R_typed (Z6 HO221.out)) (by decide) hg)
      have n3_ := A_ (hb)
      have n4_ := A_ (ho)
      clear BK217
      clear BK218
      clear HO227
      clear HB
      clear HO221
      have BK217 := n0_
      have BK218 := n1_
      have HO227 := n2_
      have HB := n3_
      have HO224 := n4_
      clear n0_ n1_ n2_ n3_ n4_
      clear ho hb hg hat
      refine hK.out _ _ ⟨(blk_cell BK217.out 0).trans rfl, (blk_cell BK217.out 1).trans rfl⟩ (fun hHeld => ?_)
      clear hK K
      refine norm_ (a' := ?_) ?_ ?_
      rotate_left
      ·exact Z26
      exact norm_ Z31 (hCont (v220, v223, v226) _ ⟨hHeld, (Z6 HO224.out), (Z6 HO227.out), (Z4 BK217.out), (Z4 BK218.out), (Z12 GE217.out GE218.out)⟩)
    ·skip
     refine Kd.R_lit_step k99 _ 99 ?hg (N := 7) ?hd (xs := ([] : List (S99))) (inner := []) (ok := fun _ => True) (okp := fun _ => True) ?hr ?hp (fun _ hk => hk) trivial (Below.refl _ _) (Nat.le_refl _) (by simp) ?_; (case hd => rfl); (case hg => rfl); (case hr => exact Z20); (case hp => exact (Reps.none _ _))
     intro v226 w7 ho8 hb hg_ hnew_
     clear hg_ hnew_
     (first | rw [← Ny225.out] at ho8 | (simp only [Int.reduceToNat] at ho8; rw [← Ny225.out] at ho8))
     have n0_ := A_ (Kd.R_lower ho8 (below_size (Z12 GE217.out GE218.out)))
     have n1_ := A_ (blk_below (g := gb217) (o := .cells #[.slice A0_0 l0_0.length c0_0, .slice A0_1 l0_1.length c0_1] 89 (0, 0)) (Z4 BK217.out) hb)
     have n2_ := A_ (blk_below (g := gb218) (o := .cells #[.slice none 0 0, .slice none 0 0] 89 (0, 0)) (Z4 BK218.out) hb)
     have n3_ := A_ (below_step (Z12 GE217.out GE218.out) hb)
     clear BK217
     clear BK218
     clear HB
     have HO227 := n0_
     have BK217 := n1_
     have BK218 := n2_
     have HB := n3_
     clear n0_ n1_ n2_ n3_
     clear hb ho8
     refine hK.out _ _ ⟨(blk_cell BK217.out 0).trans rfl, (blk_cell BK217.out 1).trans rfl⟩ (fun hHeld => ?_)
     clear hK K
     refine norm_ (a' := ?_) ?_ ?_
     rotate_left
     ·exact Z25
     refine one_ (i := 0) (N := some 3) #[T,T,T,F,T,T,T,F,F,F] rfl rfl (one_of HT_.out (by kernel_rfl)) (by decide) (fun K hK => ?_)
     refine Kd.R_lit_step k92 _ 92 ?hg (N := 3) ?hd (xs := ([] : List (S92))) (inner := []) (ok := fun _ => True) (okp := fun _ => True) ?hr ?hp (fun _ hk => hk) trivial (Below.refl _ _) (Nat.le_refl _) (by simp) ?_; (case hd => rfl); (case hg => rfl); (case hr => exact Z20); (case hp => exact (Reps.none _ _))
     intro v220 w9 ho10 hb hg_ hnew_
     clear hg_ hnew_
     (first | rw [← Ny219.out] at ho10 | (simp only [Int.reduceToNat] at ho10; rw [← Ny219.out] at ho10))
     have n0_ := A_ (Kd.R_below (Z6 HO227.out) hb)
     have n1_ := A_ (Kd.R_lower ho10 (below_size (Z12 GE217.out GE218.out)))
     have n2_ := A_ (blk_below (g := gb217) (o := .cells #[.slice A0_0 l0_0.length c0_0, .slice A0_1 l0_1.length c0_1] 89 (0, 0)) (Z4 BK217.out) hb)
     have n3_ := A_ (blk_below (g := gb218) (o := .cells #[.slice none 0 0, .slice none 0 0] 89 (0, 0)) (Z4 BK218.out) hb)
     have n4_ := A_ (below_step (Z12 GE217.out GE218.out) hb)
     clear HO227
     clear BK217
     clear BK218
     clear HB
     have HO227 := n0_
     have HO221 := n1_
     have BK217 := n2_
     have BK218 := n3_
     have HB := n4_
     clear n0_ n1_ n2_ n3_ n4_
     clear hb ho10
     refine hK.out _ _ ⟨(blk_cell BK217.out 0).trans rfl, (blk_cell BK217.out 1).trans rfl⟩ (fun hHeld => ?_)
     clear hK K
     refine norm_ (a' := ?_) ?_ ?_
     rotate_left
     ·show Act.put _ (some 3) _ = _
      simp only [Act.put, List.setIfInBounds_toArray, List.set_cons_zero, List.set_cons_succ, i64_w, i32_w]
      rfl
     refine one_ (i := 3) (N := some 6) #[T,T,T,T,T,T,T,F,F,F] rfl rfl (one_of HT_.out (by kernel_rfl)) (by decide) (fun K hK => ?_)
     refine Kd.R_append_rows_step k92 (w0 := w) w.heap.size (by rfl) (.tmp 3) (.tmp 5) 43 92 (.agg #[(.int .i64 0), (.int .i64 0)]) 16 rfl Try.underlying43 info92 rfl (by decide) (by omega) v220 y219 l0_0 _ _ _ (fun _ => True) (fun _ => False) rfl rfl ?aO ?aR (fun _ _ h => h) (fun _ h => h.elim) ?aF ?aB ?aS ?aL ?_
     (case aR => exact Z3 HR0_0.out)
     (case aB => exact (Z12 GE217.out GE218.out))
     (case aF => exact (fun _ _ => trivial))
     (case aO => exact (Z6 HO221.out))
     (case aS => exact (below_size (Z12 GE217.out GE218.out)))
     (case aL => have := LMc2.out; omega)
     intro v223 w11 ho hb hg hat
     rw [← Ny222.out] at ho
     have n0_ := A_ (blk_grown (g := gb217) (o := .cells #[.slice A0_0 l0_0.length c0_0, .slice A0_1 l0_1.length c0_1] 89 (0, 0)) (Z4 BK217.out) hg (Kd.R_ne HO221.out BK217.out (by decide)))
     have n1_ := A_ (blk_grown (g := gb218) (o := .cells #[.slice none 0 0, .slice none 0 0] 89 (0, 0)) (Z4 BK218.out) hg (Kd.R_ne HO221.out BK218.out (by decide)))
     have n2_ := A_ (Kd.R_over' (Z6 HO227.out) (Kd.R_typed (Z6 HO221.out)) (by decide) hg)
     have n3_ := A_ (hb)
     have n4_ := A_ (ho)
     clear BK217
     clear BK218
     clear HO227
     clear HB
     clear HO221
     have BK217 := n0_
     have BK218 := n1_
     have HO227 := n2_
     have HB := n3_
     have HO224 := n4_
     clear n0_ n1_ n2_ n3_ n4_
     clear ho hb hg hat
     refine hK.out _ _ ⟨(blk_cell BK217.out 0).trans rfl, (blk_cell BK217.out 1).trans rfl⟩ (fun hHeld => ?_)
     clear hK K
     refine norm_ (a' := ?_) ?_ ?_
     rotate_left
     ·exact Z26
     exact norm_ Z31 (hCont (v220, v223, v226) _ ⟨hHeld, (Z6 HO224.out), (Z6 HO227.out), (Z4 BK217.out), (Z4 BK218.out), (Z12 GE217.out GE218.out)⟩)
   rintro ⟨v220, v223, v226⟩ w12 ⟨hS_, h0_, h1_, h2_, h3_, h4_⟩
   have n0_ : Aside0 (Kd.R k92 92 w12 w.heap.size (fun _ => True) v223 y222) := ⟨h0_⟩
   have n1_ : Aside0 (Kd.R k99 99 w12 w.heap.size (fun _ => True) v226 y225) := ⟨h1_⟩
   have n2_ : Aside0 (w12.heap[gb217]? = some (.cells #[.slice A0_0 l0_0.length c0_0, .slice A0_1 l0_1.length c0_1] 89 (0, 0))) := ⟨h2_⟩
   have n3_ : Aside0 (w12.heap[gb218]? = some (.cells #[.slice none 0 0, .slice none 0 0] 89 (0, 0))) := ⟨h3_⟩
   have n4_ : Aside0 (Below w.heap.size w w12) := ⟨h4_⟩
   clear BK217
   clear BK218
   clear HB
   clear h0_ h1_ h2_ h3_ h4_
   have HO224 := n0_
   have HO227 := n1_
   have BK217 := n2_
   have BK218 := n3_
   have HB := n4_
   clear n0_ n1_ n2_ n3_ n4_
   have hHeld : w12.cell? ⟨gb217, 0, none⟩ = some (.slice A0_0 l0_0.length c0_0) ∧ w12.cell? ⟨gb217, 1, none⟩ = some (.slice A0_1 l0_1.length c0_1) := hS_
   refine norm_ (a' := ?_) ?_ ?_
   rotate_left
   ·exact Z43
   refine one_ (i := 7) (N := some 10) #[T,T,T,T,T,T,T,T,F,F] rfl rfl (one_of HT_.out (by kernel_rfl)) (by decide) (fun K hK => ?_)
   refine Kd.R_append_rows_step k99 (w0 := w) w.heap.size (by rfl) (.tmp 7) (.tmp 9) 38 99 (.agg #[(.int .i64 0), (.int .i64 0), (.string ⟨#[]⟩)]) 32 rfl Try.underlying38 info99 rfl (by decide) (by omega) v226 y225 l0_1 _ _ _ (fun _ => True) (fun _ => False) rfl rfl ?aO ?aR (fun _ _ h => h) (fun _ h => h.elim) ?aF ?aB ?aS ?aL ?_
   (case aR => exact Z3 HR0_1.out)
   (case aB => exact (Z12 GE217.out GE218.out))
   (case aF => exact (fun _ _ => trivial))
   (case aO => exact (Z6 HO227.out))
   (case aS => exact (below_size (Z12 GE217.out GE218.out)))
   (case aL => have := LMc3.out; omega)
   intro v229 w13 ho hb hg hat
   rw [← Ny228.out] at ho
   have n0_ := A_ (blk_grown (g := gb217) (o := .cells #[.slice A0_0 l0_0.length c0_0, .slice A0_1 l0_1.length c0_1] 89 (0, 0)) (Z4 BK217.out) hg (Kd.R_ne HO227.out BK217.out (by decide)))
   have n1_ := A_ (blk_grown (g := gb218) (o := .cells #[.slice none 0 0, .slice none 0 0] 89 (0, 0)) (Z4 BK218.out) hg (Kd.R_ne HO227.out BK218.out (by decide)))
   have n2_ := A_ (Kd.R_over' (Z6 HO224.out) (Kd.R_typed (Z6 HO227.out)) (by decide) hg)
   have n3_ := A_ (hb)
   have n4_ := A_ (ho)
   clear BK217
   clear BK218
   clear HO224
   clear HB
   clear HO227
   have BK217 := n0_
   have BK218 := n1_
   have HO224 := n2_
   have HB := n3_
   have HO230 := n4_
   clear n0_ n1_ n2_ n3_ n4_
   clear ho hb hg hat
   obtain ⟨Ao14, co14, eo14⟩ := Kd.R_slice HO230.out
   (first | subst eo14 | (injection eo14 with f1_ f2_ f3_; have f4_ := f1_.symm; have f5_ := f3_.symm; clear f1_ f2_ f3_; subst f4_; subst f5_))
   obtain ⟨Ao15, co15, eo15⟩ := Kd.R_slice HO224.out
   (first | subst eo15 | (injection eo15 with f1_ f2_ f3_; have f4_ := f1_.symm; have f5_ := f3_.symm; clear f1_ f2_ f3_; subst f4_; subst f5_))
   refine hK.out _ _ ⟨(blk_cell BK217.out 0).trans rfl, (blk_cell BK217.out 1).trans rfl⟩ (fun hHeld => ?_)
   clear hK K
   refine norm_ (a' := ?_) ?_ ?_
   rotate_left
   ·show Act.put _ (some 10) _ = _
    simp only [Act.put, List.setIfInBounds_toArray, List.set_cons_zero, List.set_cons_succ, i64_w, i32_w]
    rfl
   refine pure_ (i := 8) (N := some 11) (v := ?_) (a' := ?_) #[T,T,T,T,T,T,T,T,T,F] rfl rfl ZA ZF (Or.inl ⟨by rfl, ?_⟩) ?_ ?_
   rotate_left
   ·exact Z15
   rotate_left
   ·exact Z1
   refine one_ (i := 9) (N := none) #[T,T,T,T,T,T,T,T,T,T] rfl rfl (one_of HT_.out (by kernel_rfl)) (by decide) (fun K hK => ?_)
   have hs16 : w13.cell? ⟨gb218, 0, none⟩ = some (.slice none 0 0) := (blk_cell BK218.out 0).trans rfl
   have hfs16 := blk_frozen BK218.out 0
   have hns16_0 := NB217_218.out
   have hms16_0 := NB218_217.out
   have hs17 : w13.cell? ⟨gb218, 1, none⟩ = some (.slice none 0 0) := (blk_cell BK218.out 1).trans rfl
   have hfs17 := blk_frozen BK218.out 1
   have hns17_0 := NB217_218.out
   have hms17_0 := NB218_217.out
   refine skip_ (w1 := ?_) (by rfl) rfl ?_ ?_
   rotate_left
   ·go_simp
    rfl
   refine hK.out _ _ ⟨((cell_far (p := ⟨gb218, _, none⟩) NB217_218.out _).trans (((cell_far (p := ⟨gb218, _, none⟩) NB217_218.out _).trans (hHeld.1)))), ((cell_far (p := ⟨gb218, _, none⟩) NB217_218.out _).trans (((cell_far (p := ⟨gb218, _, none⟩) NB217_218.out _).trans (hHeld.2))))⟩ (fun hHeld => ?_)
   clear hK K
   refine done_ (done_of HT_.out (by kernel_rfl)) ?_
   try go_wp2
   refine bodyPost_ret (results_cell_row rfl _ _ gb218 89 #[.slice Ao15 y222.length co15, .slice Ao14 y228.length co14] (0, 0) _ rfl (by (with_reducible repeat (first | refine blk_drewN ?_ _ | refine blk_drew ?_ | refine blk_alloc ?_ _)); refine blk_put (cs := #[.slice Ao15 y222.length co15, .slice none 0 0]) ?_ 1 _ rfl; (with_reducible repeat (first | refine blk_drewN ?_ _ | refine blk_drew ?_ | refine blk_alloc ?_ _)); refine blk_put (cs := #[.slice none 0 0, .slice none 0 0]) ?_ 0 _ rfl; (with_reducible repeat (first | refine blk_drewN ?_ _ | refine blk_drew ?_ | refine blk_alloc ?_ _)); exact BK218.out) Try.underlying89 rfl (by kernel_rfl)) rfl ?_
   exact ⟨_, _, Z14, by (with_reducible repeat (first | apply Kd.R_alloc | apply Kd.R_drewN | apply Kd.R_drew)); exact Kd.R_mono (Kd.R_far (p := ⟨gb218, 1, none⟩) (Kd.R_far (p := ⟨gb218, 0, none⟩) (Kd.R_types HO224.out BK218.out (by decide)) (fun _ hk => hk.2) (.slice Ao15 y222.length co15)) (fun _ hk => hk.2) (.slice Ao14 y228.length co14)) (fun _ hk => trivial), by (with_reducible repeat (first | apply Kd.R_alloc | apply Kd.R_drewN | apply Kd.R_drew)); exact Kd.R_mono (Kd.R_far (p := ⟨gb218, 1, none⟩) (Kd.R_far (p := ⟨gb218, 0, none⟩) (Kd.R_types HO230.out BK218.out (by decide)) (fun _ hk => hk.2) (.slice Ao15 y222.length co15)) (fun _ hk => hk.2) (.slice Ao14 y228.length co14)) (fun _ hk => trivial), Z12 GE217.out GE218.out⟩
  ·rw [if_neg c3] at H
   exact absurd H (by simp)
 ·rw [if_neg c2] at H
  exact absurd H (by simp)
def spec_copyStore.l0 : Nat → List (S89) → List (S89) → Int → Option ((List (S89)))
 | 0, _, _, _ => none
 | k + 1, x0, x3, x4 => if x4 < (x0.length : Int) then (if 0 ≤ x4 then ((spec_copyCell.f ((rd_T89 x0 x4).f0) ((rd_T89 x0 x4).f1)).bind fun bt235 => (if x3.length < 2932031007402 then (spec_copyStore.l0 k x0 (x3 ++ [(⟨bt235.1, bt235.2⟩ : S89)]) (wrap64 (x4 + 1))) else (none))) else (none)) else (some x3)
def spec_copyStore.f (k : Nat) (l0 : List (S89)) : Option ((List (S89))) := spec_copyStore.l0 k l0 (([] : List (S89))) 0
theorem spec_copyStore.mono_l : ∀ k, (∀ y0 y1 y2, LeO (spec_copyStore.l0 k y0 y1 y2) (spec_copyStore.l0 (k + 1) y0 y1 y2))
 | 0 => fun _ _ _ r h => by simp [spec_copyStore.l0] at h
 | k + 1 => by
  have ih0 := spec_copyStore.mono_l k
  ·intro y0 y1 y2
   unfold spec_copyStore.l0
   repeat' first
   | (with_reducible exact ih0 _ _ _)
   | (with_reducible exact LeO.refl _)
   | (with_reducible exact LeO.none _)
   | (with_reducible refine LeO.ite ?_ ?_)
   | (with_reducible refine LeO.bind ?_ (fun _ => ?_))
   | exact ih0 _ _ _
   | exact LeO.none _
   | refine LeO.ite ?_ ?_
   | refine LeO.bind ?_ (fun _ => ?_)
theorem spec_copyStore.mono : ∀ a0 k, LeO (spec_copyStore.f k a0) (spec_copyStore.f (k + 1) a0) := by
 intro a0 k
 have ih0 := spec_copyStore.mono_l k
 unfold spec_copyStore.f
 repeat' first
   | (with_reducible exact ih0 _ _ _)
   | (with_reducible exact LeO.refl _)
   | (with_reducible exact LeO.none _)
   | (with_reducible refine LeO.ite ?_ ?_)
   | (with_reducible refine LeO.bind ?_ (fun _ => ?_))
   | exact ih0 _ _ _
   | exact LeO.none _
   | refine LeO.ite ?_ ?_
   | refine LeO.bind ?_ (fun _ => ?_)
set_option maxHeartbeats 8000000 in
set_option maxRecDepth 100000 in
theorem spec_copyStore.calls (k : Nat) (A0 : Option Addr) (c0 : Nat) (l0 : List (S89)) (r : List (S89)) (w : World) (hr0 : Kd.C k89 w A0 l0.length l0) (hc0 : l0.length ≤ c0) (h : spec_copyStore.f k l0 = some r) :
  Calls Try.prog 93 #[.slice A0 l0.length c0] w fun e w' => ∃ v0_ : Value, e = .returned (v0_) ∧ Kd.S k89 89 w' w.heap.size (fun _ => True) v0_ r ∧ Below w.heap.size w w' := by
 have hu89 := Try.underlying89
 have HR0 := A_ hr0
 have HC0 := A_ hc0
 clear hr0 hc0
 have HB := A_ (Below.refl w.heap.size w)
 have H : (spec_copyStore.l0 k l0 (([] : List (S89))) 0) = some r := h
 clear h
 obtain ⟨y231, hy231⟩ : ∃ y_ : List (S89), y_ = (([] : List (S89))) := ⟨_, rfl⟩
 replace H : (spec_copyStore.l0 k l0 y231 0) = some r := by first | (rw [hy231]; with_reducible exact H) | (have H2_ := (Option.bind_some _ _).symm.trans H; rw [hy231]; with_reducible exact H2_) | (have H2_ := (Option.bind_some _ _).symm.trans H; with_reducible exact H2_) | with_reducible exact H | (rw [hy231]; exact H) | exact H
 have Ny231 := A_ hy231
 clear hy231
 have H' := A_ H
 clear H
 go_enter Try.func93, Try.ntmps93
 go_wp2_with (first | ((with_reducible refine gate_dst (N := 5) rfl ?_); refine Kd.S_lit k89 _ 89 ?hg (N := 5) ?hd (xs := ([] : List (S89))) (inner := []) (ok := fun _ => True) (okp := fun _ => True) ?hr ?hp (fun _ hk => hk) trivial (Below.refl _ _) (Nat.le_refl _) (by simp) ?_; (case hd => rfl); (case hg => rfl); (case hr => exact Z20); (case hp => exact (Reps.none _ _)); intro v232 w2 ho3 hb hg_ hnew_; clear hg_ hnew_; (first | rw [← Ny231.out] at ho3 | (simp only [Int.reduceToNat] at ho3; rw [← Ny231.out] at ho3)); have n0_ := A_ (Kd.S_lower ho3 (below_size Z0)); have n1_ := A_ (below_step Z0 hb); clear HB; have HO233 := n0_; have HB := n1_; clear n0_ n1_; clear hb ho3))
 go_loopg [3, 4] k (fun kq v3 v4 w' => ∃ (x3_1 : List (S89)) (x4_1 : Int), v4 = .int .i64 x4_1 ∧ Aside0 (spec_copyStore.l0 kq l0 x3_1 x4_1 = some r) ∧ Aside0 (kq ≤ k) ∧ Aside0 (Kd.S k89 89 w' w.heap.size (fun _ => True) v3 x3_1) ∧ Aside0 (Below w.heap.size w w'))
 case atStart => exact ⟨(y231), (0), Z17, H', ⟨Nat.le_refl _⟩, ⟨Z11 HO233.out⟩, ⟨Z0⟩⟩
 case round =>
  clear H'
  try clear p2
  obtain ⟨x3_1, x4_1, rfl, HA, HK1, HO_3, HB⟩ := hrel
  cases gk with
  | zero => exact absurd HA.out (by simp [spec_copyStore.l0])
  | succ k1 =>
   have H := HA.out
   clear HA
   simp only [spec_copyStore.l0] at H
   by_cases c4 : x4_1 < (l0.length : Int)
   ·rw [if_pos c4] at H
    have c4b0 : decide (x4_1 < (l0.length : Int)) = true := decide_eq_true c4
    clear c4
    by_cases c5 : 0 ≤ x4_1
    ·rw [if_pos c5] at H
     have c5b0 : decide (0 ≤ x4_1) = true := decide_eq_true c5
     clear c5
     replace H := Option.bind_eq_some_iff.mp H
     obtain ⟨⟨t235, t238⟩, A60, H⟩ := H
     replace H : (if x3_1.length < 2932031007402 then (spec_copyStore.l0 k1 l0 (x3_1 ++ [(⟨t235, t238⟩ : S89)]) (wrap64 (x4_1 + 1))) else (none)) = some r := H
     have A6 := A_ A60
     clear A60
     by_cases c7 : x3_1.length < 2932031007402
     ·rw [if_pos c7] at H
      have LMc7 := A_ c7
      clear c7
      obtain ⟨y241, hy241⟩ : ∃ y_ : List (S89), y_ = (x3_1 ++ [(⟨t235, t238⟩ : S89)]) := ⟨_, rfl⟩
      replace H : (spec_copyStore.l0 k1 l0 y241 (wrap64 (x4_1 + 1))) = some r := by first | (rw [hy241]; with_reducible exact H) | (have H2_ := (Option.bind_some _ _).symm.trans H; rw [hy241]; with_reducible exact H2_) | (have H2_ := (Option.bind_some _ _).symm.trans H; with_reducible exact H2_) | with_reducible exact H | (rw [hy241]; exact H) | exact H
      have Ny241 := A_ hy241
      clear hy241
      have H' := A_ H
      clear H
      have p234 : 0 ≤ (x4_1 : Int) := of_decide_eq_true Z13
      have q234 : x4_1 < (l0.length : Int) := of_decide_eq_true Z13
      obtain ⟨ad234, A234_0, c234_0, A234_1, c234_1, e234, hx234_0, hx234_1, hl234_0, hi234_0, hl234_1, hi234_1⟩ := at_T89 HR0.out x4_1 p234 q234
      cases e234
      replace hx234_0 := ZC HB.out hx234_0
      replace hx234_1 := ZC HB.out hx234_1
      have HR234_0 := A_ hi234_0
      have HC234_0 := A_ hl234_0
      clear hi234_0 hl234_0
      have HR234_1 := A_ hi234_1
      have HC234_1 := A_ hl234_1
      clear hi234_1 hl234_1
      replace p234 := eq_true p234
      replace q234 := eq_true q234
      go_wp2_with (first | ((with_reducible refine gate_callee (f := 71) rfl ?_); refine goesL_ (some 17) rfl rfl Try.func71 (by kernel_rfl) rfl #[.agg #[.slice A234_0 ((rd_T89 l0 x4_1).f0).length c234_0, .slice A234_1 ((rd_T89 l0 x4_1).f1).length c234_1]] rfl Z5 ?_; (with_reducible refine (spec_copyCell.calls _ _ ((rd_T89 l0 x4_1).f0) _ _ ((rd_T89 l0 x4_1).f1) t235 t238 _ ?side1 ?side2 ?side3 ?side4 A6.out).mono ?_); (case side1 => exact Z3 HR234_0.out); (case side2 => exact HC234_0.out); (case side3 => exact Z3 HR234_1.out); (case side4 => exact HC234_1.out); rintro e w8 ⟨v236, v239, rfl, ho0, ho1, hb⟩; refine ⟨_, rfl, ?_⟩; have n0_ := A_ (Kd.S_mono (Kd.S_told (Kd.S_told (Kd.S_old (Z11 HO_3.out) hb) (Kd.R_base ho0)) (Kd.R_base ho1)) (fun _ h_ => h_.1)); have n1_ := A_ (Kd.R_lower ho0 (below_size Z0)); have n2_ := A_ (Kd.R_lower ho1 (below_size Z0)); have n3_ := A_ (below_step Z0 hb); clear HO_3; clear HB; have HO_3 := n0_; have HO237 := n1_; have HO240 := n2_; have HB := n3_; clear n0_ n1_ n2_ n3_; (try clear hb); (try clear hb2); (try clear hk); (try clear hi); (try clear ho0); (try clear ho1); obtain ⟨Ao10, co10, eo10⟩ := Kd.R_slice HO237.out; subst eo10; obtain ⟨Ao11, co11, eo11⟩ := Kd.R_slice HO240.out; subst eo11) | ((with_reducible refine gate_builtin (b := .append) (xs := #[.tmp 12, .tmp 18]) rfl ?_); at_builtin; refine Kd.S_append k89 (w0 := w) w.heap.size rfl (.tmp 12) (.tmp 18) 41 89 (.agg #[(.slice none 0 0), (.slice none 0 0)]) 48 rfl Try.underlying41 info89 rfl (by decide) (by omega) u3 x3_1 (⟨t235, t238⟩ : S89) [.slice Ao10 t235.length co10, .slice Ao11 t238.length co11] (fun _ => True) (fun k_ => some k_ = (.slice Ao10 t235.length co10 : Value).ownBlock ∨ some k_ = (.slice Ao11 t238.length co11 : Value).ownBlock) rfl rfl ?aP (fun k_ hk_ => hk_.elim (fun h_ => ((Kd.R_mono (ok' := fun k_ => ((fun _ => True)) k_ ∧ some k_ ≠ (u3 : Value).ownBlock) (Kd.R_apart' (HO237.out) (Kd.S_typed HO_3.out) (by decide)) (fun k_ hk => ⟨trivial, hk.2⟩))).1 k_ h_.symm) (fun h_ => ((Kd.R_mono (ok' := fun k_ => ((fun _ => True)) k_ ∧ some k_ ≠ (u3 : Value).ownBlock) (Kd.R_apart' (HO240.out) (Kd.S_typed HO_3.out) (by decide)) (fun k_ hk => ⟨trivial, hk.2⟩))).1 k_ h_.symm)) ?aF ?aO ?aB ?aS ?aL ?_; (case aP => exact k89_mkM _ _ _ (⟨t235, t238⟩ : S89) (Kd.R_mono (Kd.R_tight rfl (Kd.R_mono (ok' := fun k_ => ((fun _ => True)) k_ ∧ some k_ ≠ (u3 : Value).ownBlock) (Kd.R_apart' (HO237.out) (Kd.S_typed HO_3.out) (by decide)) (fun k_ hk => ⟨trivial, hk.2⟩))) (fun _ h_ => Or.inl h_)) (Kd.R_mono (Kd.R_tight rfl (Kd.R_mono (ok' := fun k_ => ((fun _ => True)) k_ ∧ some k_ ≠ (u3 : Value).ownBlock) (Kd.R_apart' (HO240.out) (Kd.S_typed HO_3.out) (by decide)) (fun k_ hk => ⟨trivial, hk.2⟩))) (fun _ h_ => Or.inr (h_)))); (case aB => exact Z0); (case aF => exact (fun _ _ => trivial)); (case aO => exact (by (with_reducible repeat (first | apply Kd.S_alloc | apply Kd.S_drewN | apply Kd.S_drew)); exact Kd.S_mono HO_3.out (fun k_ hk => ⟨trivial, fun e_ => e_.elim (fun h_ => hk.1.2 h_) (fun h_ => hk.2 h_)⟩))); (case aS => exact (below_size Z0)); (case aL => have := LMc7.out; omega); intro v242 w9 ho hb hg hat; rw [← Ny241.out] at ho; have n0_ := A_ (hb); have n1_ := A_ (ho); clear HB; clear HO_3; clear HO237; clear HO240; have HB := n0_; have HO243 := n1_; clear n0_ n1_; clear ho hb hg hat))
      go_roundg k1
      case measure => have := HK1.out; omega
      case rel => exact ⟨(y241), (wrap64 (x4_1 + 1)), Z17, H', ⟨by have := HK1.out; omega⟩, ⟨Z11 HO243.out⟩, ⟨Z0⟩⟩
     ·rw [if_neg c7] at H
      exact absurd H (by simp)
    ·rw [if_neg c5] at H
     exact absurd H (by simp)
   ·rw [if_neg c4] at H
    have c4b0 : decide (x4_1 < (l0.length : Int)) = false := decide_eq_false c4
    clear c4
    obtain rfl := Option.some.inj H
    go_wp2
    go_ret
    exact ⟨_, Z14, Z11 HO_3.out, Z0⟩
def spec_put.f (k : Nat) (l0 : List (S89)) (l1_0 : List (S92)) (l1_1 : List (S99)) : Option ((List (S89))) := (spec_cellAt.f k l0 l1_0).bind fun bt245 => (if 0 ≤ bt245.1 then (if bt245.1 ≤ (l0.length : Int) then ((spec_copyStore.f k (l0.take (bt245.1 : Int).toNat)).bind fun t251 => ((spec_copyCell.f l1_0 l1_1).bind fun bt254 => (if t251.length < 2932031007402 then ((some (t251 ++ [(⟨bt254.1, bt254.2⟩ : S89)] : List (S89))).bind fun y260 => (if bt245.2 = true then (if 0 ≤ (wrap64 (bt245.1 + 1)) then (if (wrap64 (bt245.1 + 1)) ≤ (l0.length : Int) then ((spec_copyStore.f k (l0.drop ((wrap64 (bt245.1 + 1)) : Int).toNat)).bind fun t267 => (if y260.length + t267.length < 2932031007402 then (some (y260 ++ t267)) else (none))) else (none)) else (none)) else ((spec_copyStore.f k (l0.drop (bt245.1 : Int).toNat)).bind fun t277 => (if y260.length + t277.length < 2932031007402 then (some (y260 ++ t277)) else (none))))) else (none)))) else (none)) else (none))
theorem spec_put.mono : ∀ a0 a1 a2 k, LeO (spec_put.f k a0 a1 a2) (spec_put.f (k + 1) a0 a1 a2) := by
 intro a0 a1 a2 k
 unfold spec_put.f
 repeat' first
   | (with_reducible exact spec_cellAt.mono _ _ _)
   | (with_reducible exact spec_copyStore.mono _ _)
   | (with_reducible exact LeO.refl _)
   | (with_reducible exact LeO.none _)
   | (with_reducible refine LeO.ite ?_ ?_)
   | (with_reducible refine LeO.bind ?_ (fun _ => ?_))
   | exact spec_cellAt.mono _ _ _
   | exact spec_copyStore.mono _ _
   | exact LeO.none _
   | refine LeO.ite ?_ ?_
   | refine LeO.bind ?_ (fun _ => ?_)
set_option maxHeartbeats 8000000 in
set_option maxRecDepth 100000 in
theorem spec_put.calls (k : Nat) (A0 : Option Addr) (c0 : Nat) (l0 : List (S89)) (A1_0 : Option Addr) (c1_0 : Nat) (l1_0 : List (S92)) (A1_1 : Option Addr) (c1_1 : Nat) (l1_1 : List (S99)) (r : List (S89)) (w : World) (hr0 : Kd.C k89 w A0 l0.length l0) (hc0 : l0.length ≤ c0) (hr1_0 : Kd.C k92 w A1_0 l1_0.length l1_0) (hc1_0 : l1_0.length ≤ c1_0) (hr1_1 : Kd.C k99 w A1_1 l1_1.length l1_1) (hc1_1 : l1_1.length ≤ c1_1) (h : spec_put.f k l0 l1_0 l1_1 = some r) :
  Calls Try.prog 76 #[.slice A0 l0.length c0, .agg #[.slice A1_0 l1_0.length c1_0, .slice A1_1 l1_1.length c1_1]] w fun e w' => ∃ v0_ : Value, e = .returned (v0_) ∧ Kd.N k89 89 w' w.heap.size (fun k_ => (w.heap.size ≤ k_)) v0_ r ∧ Below w.heap.size w w' := by
 have hu89 := Try.underlying89
 have HR0 := A_ hr0
 have HC0 := A_ hc0
 clear hr0 hc0
 have HR1_0 := A_ hr1_0
 have HC1_0 := A_ hc1_0
 clear hr1_0 hc1_0
 have HR1_1 := A_ hr1_1
 have HC1_1 := A_ hc1_1
 clear hr1_1 hc1_1
 have HB := A_ (Below.refl w.heap.size w)
 have H : ((spec_cellAt.f k l0 l1_0).bind fun bt245 => (if 0 ≤ bt245.1 then (if bt245.1 ≤ (l0.length : Int) then ((spec_copyStore.f k (l0.take (bt245.1 : Int).toNat)).bind fun t251 => ((spec_copyCell.f l1_0 l1_1).bind fun bt254 => (if t251.length < 2932031007402 then ((some (t251 ++ [(⟨bt254.1, bt254.2⟩ : S89)] : List (S89))).bind fun y260 => (if bt245.2 = true then (if 0 ≤ (wrap64 (bt245.1 + 1)) then (if (wrap64 (bt245.1 + 1)) ≤ (l0.length : Int) then ((spec_copyStore.f k (l0.drop ((wrap64 (bt245.1 + 1)) : Int).toNat)).bind fun t267 => (if y260.length + t267.length < 2932031007402 then (some (y260 ++ t267)) else (none))) else (none)) else (none)) else ((spec_copyStore.f k (l0.drop (bt245.1 : Int).toNat)).bind fun t277 => (if y260.length + t277.length < 2932031007402 then (some (y260 ++ t277)) else (none))))) else (none)))) else (none)) else (none))) = some r := h
 clear h
 replace H := Option.bind_eq_some_iff.mp H
 obtain ⟨⟨t245, t246⟩, A30, H⟩ := H
 replace H : (if 0 ≤ t245 then (if t245 ≤ (l0.length : Int) then ((spec_copyStore.f k (l0.take (t245 : Int).toNat)).bind fun t251 => ((spec_copyCell.f l1_0 l1_1).bind fun bt254 => (if t251.length < 2932031007402 then ((some (t251 ++ [(⟨bt254.1, bt254.2⟩ : S89)] : List (S89))).bind fun y260 => (if t246 = true then (if 0 ≤ (wrap64 (t245 + 1)) then (if (wrap64 (t245 + 1)) ≤ (l0.length : Int) then ((spec_copyStore.f k (l0.drop ((wrap64 (t245 + 1)) : Int).toNat)).bind fun t267 => (if y260.length + t267.length < 2932031007402 then (some (y260 ++ t267)) else (none))) else (none)) else (none)) else ((spec_copyStore.f k (l0.drop (t245 : Int).toNat)).bind fun t277 => (if y260.length + t277.length < 2932031007402 then (some (y260 ++ t277)) else (none))))) else (none)))) else (none)) else (none)) = some r := H
 have A3 := A_ A30
 clear A30
 by_cases c4 : 0 ≤ t245
 ·rw [if_pos c4] at H
  have c4b0 := eq_true c4
  have c4b1 : decide (0 ≤ t245) = true := decide_eq_true c4
  clear c4
  by_cases c5 : t245 ≤ (l0.length : Int)
  ·rw [if_pos c5] at H
   have c5b0 := eq_true c5
   have c5b1 : decide (t245 ≤ (l0.length : Int)) = true := decide_eq_true c5
   clear c5
   obtain ⟨y247, hy247⟩ : ∃ y_ : List (S89), y_ = (l0.take (t245 : Int).toNat) := ⟨_, rfl⟩
   replace H : ((spec_copyStore.f k y247).bind fun t251 => ((spec_copyCell.f l1_0 l1_1).bind fun bt254 => (if t251.length < 2932031007402 then ((some (t251 ++ [(⟨bt254.1, bt254.2⟩ : S89)] : List (S89))).bind fun y260 => (if t246 = true then (if 0 ≤ (wrap64 (t245 + 1)) then (if (wrap64 (t245 + 1)) ≤ (l0.length : Int) then ((spec_copyStore.f k (l0.drop ((wrap64 (t245 + 1)) : Int).toNat)).bind fun t267 => (if y260.length + t267.length < 2932031007402 then (some (y260 ++ t267)) else (none))) else (none)) else (none)) else ((spec_copyStore.f k (l0.drop (t245 : Int).toNat)).bind fun t277 => (if y260.length + t277.length < 2932031007402 then (some (y260 ++ t277)) else (none))))) else (none)))) = some r := by first | (rw [hy247]; with_reducible exact H) | (have H2_ := (Option.bind_some _ _).symm.trans H; rw [hy247]; with_reducible exact H2_) | (have H2_ := (Option.bind_some _ _).symm.trans H; with_reducible exact H2_) | with_reducible exact H | (rw [hy247]; exact H) | exact H
   have Ny247 := A_ hy247
   clear hy247
   replace H := Option.bind_eq_some_iff.mp H
   obtain ⟨t251, A60, H⟩ := H
   replace H : ((spec_copyCell.f l1_0 l1_1).bind fun bt254 => (if t251.length < 2932031007402 then ((some (t251 ++ [(⟨bt254.1, bt254.2⟩ : S89)] : List (S89))).bind fun y260 => (if t246 = true then (if 0 ≤ (wrap64 (t245 + 1)) then (if (wrap64 (t245 + 1)) ≤ (l0.length : Int) then ((spec_copyStore.f k (l0.drop ((wrap64 (t245 + 1)) : Int).toNat)).bind fun t267 => (if y260.length + t267.length < 2932031007402 then (some (y260 ++ t267)) else (none))) else (none)) else (none)) else ((spec_copyStore.f k (l0.drop (t245 : Int).toNat)).bind fun t277 => (if y260.length + t277.length < 2932031007402 then (some (y260 ++ t277)) else (none))))) else (none))) = some r := H
   have A6 := A_ A60
   clear A60
   replace H := Option.bind_eq_some_iff.mp H
   obtain ⟨⟨t254, t257⟩, A70, H⟩ := H
   replace H : (if t251.length < 2932031007402 then ((some (t251 ++ [(⟨t254, t257⟩ : S89)] : List (S89))).bind fun y260 => (if t246 = true then (if 0 ≤ (wrap64 (t245 + 1)) then (if (wrap64 (t245 + 1)) ≤ (l0.length : Int) then ((spec_copyStore.f k (l0.drop ((wrap64 (t245 + 1)) : Int).toNat)).bind fun t267 => (if y260.length + t267.length < 2932031007402 then (some (y260 ++ t267)) else (none))) else (none)) else (none)) else ((spec_copyStore.f k (l0.drop (t245 : Int).toNat)).bind fun t277 => (if y260.length + t277.length < 2932031007402 then (some (y260 ++ t277)) else (none))))) else (none)) = some r := H
   have A7 := A_ A70
   clear A70
   by_cases c8 : t251.length < 2932031007402
   ·rw [if_pos c8] at H
    have LMc8 := A_ c8
    clear c8
    obtain ⟨y260, hy260⟩ : ∃ y_ : List (S89), y_ = (t251 ++ [(⟨t254, t257⟩ : S89)]) := ⟨_, rfl⟩
    replace H : (if t246 = true then (if 0 ≤ (wrap64 (t245 + 1)) then (if (wrap64 (t245 + 1)) ≤ (l0.length : Int) then ((spec_copyStore.f k (l0.drop ((wrap64 (t245 + 1)) : Int).toNat)).bind fun t267 => (if y260.length + t267.length < 2932031007402 then (some (y260 ++ t267)) else (none))) else (none)) else (none)) else ((spec_copyStore.f k (l0.drop (t245 : Int).toNat)).bind fun t277 => (if y260.length + t277.length < 2932031007402 then (some (y260 ++ t277)) else (none)))) = some r := by first | (rw [hy260]; with_reducible exact H) | (have H2_ := (Option.bind_some _ _).symm.trans H; rw [hy260]; with_reducible exact H2_) | (have H2_ := (Option.bind_some _ _).symm.trans H; with_reducible exact H2_) | with_reducible exact H | (rw [hy260]; exact H) | exact H
    have Ny260 := A_ hy260
    clear hy260
    by_cases c9 : t246 = true
    ·subst c9
     have H1 : (if 0 ≤ (wrap64 (t245 + 1)) then (if (wrap64 (t245 + 1)) ≤ (l0.length : Int) then ((spec_copyStore.f k (l0.drop ((wrap64 (t245 + 1)) : Int).toNat)).bind fun t267 => (if y260.length + t267.length < 2932031007402 then (some (y260 ++ t267)) else (none))) else (none)) else (none)) = some r := by rw [if_pos rfl] at H; exact H
     clear H
     have H := H1
     clear H1
     obtain ⟨ji10, hji10⟩ : ∃ j_ : Int, (wrap64 (t245 + 1)) = j_ := ⟨_, rfl⟩
     replace H : (if 0 ≤ (ji10) then (if (ji10) ≤ (l0.length : Int) then ((spec_copyStore.f k (l0.drop ((ji10) : Int).toNat)).bind fun t267 => (if y260.length + t267.length < 2932031007402 then (some (y260 ++ t267)) else (none))) else (none)) else (none)) = some r := by first | (rw [hji10] at H; exact H) | (simp only [hji10] at H ⊢; exact H)
     (try rw [hji10] at A3)
     (try rw [hji10] at A6)
     (try rw [hji10] at A7)
     have hji10w : (IntKind.i64.wrap (t245 + 1)) = ji10 := (i64_w _).trans hji10
     by_cases c11 : 0 ≤ (ji10)
     ·rw [if_pos c11] at H
      have c11b0 := eq_true c11
      have c11b1 : decide (0 ≤ (ji10)) = true := decide_eq_true c11
      clear c11
      by_cases c12 : (ji10) ≤ (l0.length : Int)
      ·rw [if_pos c12] at H
       have c12b0 := eq_true c12
       have c12b1 : decide ((ji10) ≤ (l0.length : Int)) = true := decide_eq_true c12
       clear c12
       obtain ⟨y263, hy263⟩ : ∃ y_ : List (S89), y_ = (l0.drop ((ji10) : Int).toNat) := ⟨_, rfl⟩
       replace H : ((spec_copyStore.f k y263).bind fun t267 => (if y260.length + t267.length < 2932031007402 then (some (y260 ++ t267)) else (none))) = some r := by first | (rw [hy263]; with_reducible exact H) | (have H2_ := (Option.bind_some _ _).symm.trans H; rw [hy263]; with_reducible exact H2_) | (have H2_ := (Option.bind_some _ _).symm.trans H; with_reducible exact H2_) | with_reducible exact H | (rw [hy263]; exact H) | exact H
       have Ny263 := A_ hy263
       clear hy263
       replace H := Option.bind_eq_some_iff.mp H
       obtain ⟨t267, A130, H⟩ := H
       replace H : (if y260.length + t267.length < 2932031007402 then (some (y260 ++ t267)) else (none)) = some r := H
       have A13 := A_ A130
       clear A130
       by_cases c14 : y260.length + t267.length < 2932031007402
       ·rw [if_pos c14] at H
        have LMc14 := A_ c14
        clear c14
        obtain ⟨y270, hy270⟩ : ∃ y_ : List (S89), y_ = (y260 ++ t267) := ⟨_, rfl⟩
        replace H : (some y270) = some r := by first | (rw [hy270]; with_reducible exact H) | (have H2_ := (Option.bind_some _ _).symm.trans H; rw [hy270]; with_reducible exact H2_) | (have H2_ := (Option.bind_some _ _).symm.trans H; with_reducible exact H2_) | with_reducible exact H | (rw [hy270]; exact H) | exact H
        have Ny270 := A_ hy270
        clear hy270
        obtain rfl := Option.some.inj H
        go_enter Try.func76, Try.ntmps76
        go_wp2_with (first | ((with_reducible refine gate_dst (N := 3) rfl ?_); refine box_event ?hg (N := 3) ?hd (cs := #[.slice A1_0 l1_0.length c1_0, .slice A1_1 l1_1.length c1_1]) (t := 89) ?hr ?_; (case hd => rfl); (case hg => rfl); (case hr => exact Z20); intro gb244 hg w15 hbox hb; have n0_ := A_ (below_step Z0 hb); have n1_ := A_ (hbox); have n2_ := A_ ((by rw [hg]; exact (below_size Z0) : w.heap.size ≤ gb244)); have n3_ := A_ ((by rw [hg]; exact (below_size Z0) : w.heap.size ≤ gb244)); clear HB; have HB := n0_; have BK244 := n1_; have GW244 := n2_; have GE244 := n3_; clear n0_ n1_ n2_ n3_; clear hb hbox hg; have hcz16_0 : w15.cell? ⟨gb244, 0, none⟩ = some (.slice A1_0 l1_0.length c1_0) := (blk_cell BK244.out 0).trans rfl; have hcz16_1 : w15.cell? ⟨gb244, 1, none⟩ = some (.slice A1_1 l1_1.length c1_1) := (blk_cell BK244.out 1).trans rfl; have hfz16_0 := blk_frozen BK244.out 0; have hfz16_1 := blk_frozen BK244.out 1) | ((with_reducible refine gate_callee (f := 60) rfl ?_); refine goesL_ (some 12) rfl rfl Try.func60 (by kernel_rfl) rfl #[.slice A0 l0.length c0, .slice A1_0 l1_0.length c1_0] rfl Z5 ?_; (with_reducible refine (spec_cellAt.calls k _ _ l0 _ _ l1_0 t245 true _ ?side1 ?side2 ?side3 ?side4 A3.out).mono ?_); (case side1 => exact Z3 HR0.out); (case side2 => exact HC0.out); (case side3 => exact Z3 HR1_0.out); (case side4 => exact HC1_0.out); rintro e w' ⟨rfl, ⟨nd, rfl⟩⟩; refine ⟨_, rfl, ?_⟩; have q17 : (t245 : Int) ≤ ((l0.length : Int) : Int) := of_decide_eq_true Z13; obtain ⟨i017, hi017, _, hsz17, _⟩ := info_parts info89; have hroom17 : l0.length ≤ c0 := HC0.out; have hC17 : Kd.C k89 _ A0 l0.length l0 := HR0.out; have hcut17 := cut_to (P := Try.prog) 41 89 .i64 Try.underlying41 hi017 A0 l0.length c0 t245 (of_decide_eq_true Z13) q17 hroom17; have hr17 := Kd.C_take (m := (t245 : Int).toNat) hC17 (by omega); have hy17 : y247.length = (t245 : Int).toNat := (by rw [Ny247.out, List.length_take]; omega); rw [← Ny247.out] at hr17; rw [← hy17] at hcut17; have HR250 := A_ hr17; have HC250 := A_ (show y247.length ≤ c0 from by omega); clear hr17 hC17 hroom17 hi017 hsz17; have KY17 := A_ hy17; clear hy17; replace q17 := eq_true q17) | ((with_reducible refine gate_callee (f := 93) rfl ?_); refine goesL_ (some 18) rfl rfl Try.func93 (by kernel_rfl) rfl #[.slice A0 y247.length c0] rfl Z5 ?_; (with_reducible refine (spec_copyStore.calls k _ _ y247 t251 _ ?side1 ?side2 A6.out).mono ?_); (case side1 => exact Z40 HR250.out GE244.out); (case side2 => exact HC250.out); rintro e w18 ⟨v252, rfl, ho0, hb⟩; refine ⟨_, rfl, ?_⟩; have n0_ := A_ (Kd.N_lower (Kd.N_mono (ok' := fun k_ => (w.heap.size ≤ k_) ∧ k_ ≠ gb244) (Kd.S_N (Kd.S_bound ho0)) (fun k_ hk_ => ⟨(Nat.le_trans (below_size (Z2 GE244.out)) hk_.2.1), (Kd.freshB (g := gb244) (o := .cells #[.slice A1_0 l1_0.length c1_0, .slice A1_1 l1_1.length c1_1] 89 (0, 0)) (Z4 BK244.out) k_ hk_.2.1)⟩)) (below_size (Z2 GE244.out))); have n1_ := A_ (blk_below (g := gb244) (o := .cells #[.slice A1_0 l1_0.length c1_0, .slice A1_1 l1_1.length c1_1] 89 (0, 0)) (Z4 BK244.out) hb); have n2_ := A_ (below_step (Z2 GE244.out) hb); clear BK244; clear HB; have HO253 := n0_; have BK244 := n1_; have HB := n2_; clear n0_ n1_ n2_; (try clear hb); (try clear hb2); (try clear hk); (try clear hi); (try clear ho0); have hcz19_0 : w18.cell? ⟨gb244, 0, none⟩ = some (.slice A1_0 l1_0.length c1_0) := (blk_cell BK244.out 0).trans rfl; have hcz19_1 : w18.cell? ⟨gb244, 1, none⟩ = some (.slice A1_1 l1_1.length c1_1) := (blk_cell BK244.out 1).trans rfl; have hfz19_0 := blk_frozen BK244.out 0; have hfz19_1 := blk_frozen BK244.out 1) | ((with_reducible refine gate_callee (f := 71) rfl ?_); refine goesL_ (some 21) rfl rfl Try.func71 (by kernel_rfl) rfl #[.agg #[.slice A1_0 l1_0.length c1_0, .slice A1_1 l1_1.length c1_1]] rfl Z5 ?_; (with_reducible refine (spec_copyCell.calls _ _ l1_0 _ _ l1_1 t254 t257 _ ?side1 ?side2 ?side3 ?side4 A7.out).mono ?_); (case side1 => exact Z3 HR1_0.out); (case side2 => exact HC1_0.out); (case side3 => exact Z3 HR1_1.out); (case side4 => exact HC1_1.out); rintro e w20 ⟨v255, v258, rfl, ho0, ho1, hb⟩; refine ⟨_, rfl, ?_⟩; have n0_ := A_ (Kd.N_mono (Kd.N_told (Kd.N_told (Kd.N_old (Z18 HO253.out) hb) (Kd.R_base ho0)) (Kd.R_base ho1)) (fun _ h_ => h_.1)); have n1_ := A_ (Kd.R_lower (Kd.R_newM (M := fun k_ => (w.heap.size ≤ k_)) ho0 (below_size (Z2 GE244.out)) (fun k_ h_ => h_)) (below_size (Z2 GE244.out))); have n2_ := A_ (Kd.R_lower (Kd.R_newM (M := fun k_ => (w.heap.size ≤ k_)) ho1 (below_size (Z2 GE244.out)) (fun k_ h_ => h_)) (below_size (Z2 GE244.out))); have n3_ := A_ (blk_below (g := gb244) (o := .cells #[.slice A1_0 l1_0.length c1_0, .slice A1_1 l1_1.length c1_1] 89 (0, 0)) (Z4 BK244.out) hb); have n4_ := A_ (below_step (Z2 GE244.out) hb); clear HO253; clear BK244; clear HB; have HO253 := n0_; have HO256 := n1_; have HO259 := n2_; have BK244 := n3_; have HB := n4_; clear n0_ n1_ n2_ n3_ n4_; (try clear hb); (try clear hb2); (try clear hk); (try clear hi); (try clear ho0); (try clear ho1); obtain ⟨Ao22, co22, eo22⟩ := Kd.R_slice HO256.out; subst eo22; obtain ⟨Ao23, co23, eo23⟩ := Kd.R_slice HO259.out; subst eo23) | ((with_reducible refine gate_builtin (b := .append) (xs := #[.tmp 19, .tmp 22]) rfl ?_); at_builtin; refine Kd.N_append k89 (w0 := w) w.heap.size rfl (.tmp 19) (.tmp 22) 41 89 (.agg #[(.slice none 0 0), (.slice none 0 0)]) 48 rfl Try.underlying41 info89 rfl (by decide) (by omega) v252 t251 (⟨t254, t257⟩ : S89) [.slice Ao22 t254.length co22, .slice Ao23 t257.length co23] (fun k_ => (w.heap.size ≤ k_) ∧ k_ ≠ gb244) (fun k_ => ((fun k_ => (w.heap.size ≤ k_) ∧ k_ ≠ gb244)) k_ ∧ some k_ ≠ (v252 : Value).ownBlock) rfl rfl ?aP (fun _ hk => hk) ?aF ?aO ?aB ?aS ?aL ?_; (case aP => exact (k89_mkF _ _ (⟨t254, t257⟩ : S89) (Kd.R_reads' (Kd.R_mono (ok' := (fun k_ => ((fun k_ => (w.heap.size ≤ k_) ∧ k_ ≠ gb244)) k_ ∧ some k_ ≠ (v252 : Value).ownBlock)) (Kd.R_types (Kd.R_apart' (HO256.out) (Kd.N_typed HO253.out) (by decide)) BK244.out (by decide)) (fun k_ hk => ⟨⟨hk.1.1.1, hk.2⟩, hk.1.2⟩))).2.1 (Kd.R_F (Kd.R_mono (ok' := (fun k_ => ((fun k_ => (w.heap.size ≤ k_) ∧ k_ ≠ gb244)) k_ ∧ some k_ ≠ (v252 : Value).ownBlock)) (Kd.R_types (Kd.R_apart' (HO256.out) (Kd.N_typed HO253.out) (by decide)) BK244.out (by decide)) (fun k_ hk => ⟨⟨hk.1.1.1, hk.2⟩, hk.1.2⟩))) (Kd.R_reads' (Kd.R_mono (ok' := (fun k_ => ((fun k_ => (w.heap.size ≤ k_) ∧ k_ ≠ gb244)) k_ ∧ some k_ ≠ (v252 : Value).ownBlock)) (Kd.R_types (Kd.R_apart' (HO259.out) (Kd.N_typed HO253.out) (by decide)) BK244.out (by decide)) (fun k_ hk => ⟨⟨hk.1.1.1, hk.2⟩, hk.1.2⟩))).2.1 (Kd.R_F (Kd.R_mono (ok' := (fun k_ => ((fun k_ => (w.heap.size ≤ k_) ∧ k_ ≠ gb244)) k_ ∧ some k_ ≠ (v252 : Value).ownBlock)) (Kd.R_types (Kd.R_apart' (HO259.out) (Kd.N_typed HO253.out) (by decide)) BK244.out (by decide)) (fun k_ hk => ⟨⟨hk.1.1.1, hk.2⟩, hk.1.2⟩))))); (case aB => exact (Z2 GE244.out)); (case aF => exact Z39 GE244.out BK244.out); (case aO => exact (by (with_reducible repeat (first | apply Kd.N_alloc | apply Kd.N_drewN | apply Kd.N_drew)); exact Kd.N_mono HO253.out (fun _ hk => ⟨hk.1.1.1, hk.1.1.2⟩))); (case aS => exact (below_size (Z2 GE244.out))); (case aL => have := LMc8.out; omega); intro v261 w21 ho hb hg hat; rw [← Ny260.out] at ho; have n0_ := A_ (blk_grown (g := gb244) (o := .cells #[.slice A1_0 l1_0.length c1_0, .slice A1_1 l1_1.length c1_1] 89 (0, 0)) (Z4 BK244.out) hg (Kd.N_away HO253.out (fun _ hk => hk.1.1.2))); have n1_ := A_ (hb); have n2_ := A_ (ho); clear BK244; clear HB; clear HO253; clear HO256; clear HO259; have BK244 := n0_; have HB := n1_; have HO262 := n2_; clear n0_ n1_ n2_; clear ho hb hg hat; have q24 : ((ji10) : Int) ≤ ((l0.length : Int) : Int) := of_decide_eq_true Z13; obtain ⟨i024, hi024, _, hsz24, _⟩ := info_parts info89; have hroom24 : l0.length ≤ c0 := HC0.out; have hC24 : Kd.C k89 _ A0 l0.length l0 := HR0.out; have q024 : (0 : Int) ≤ ((ji10) : Int) := of_decide_eq_true Z13; have hcut24 := cut_from (P := Try.prog) 41 89 .i64 Try.underlying41 hi024 2 hsz24 A0 l0.length c0 (ji10) q024 q24; have hr24 := Kd.C_drop (m := ((ji10) : Int).toNat) (c := c0) hC24 (by omega) hroom24; obtain ⟨A24, hA24⟩ : ∃ A1, A1 = (if c0 = ((ji10) : Int).toNat then A0 else (A0 : Option Addr).map (·.add (((ji10) : Int).toNat * 2))) := ⟨_, rfl⟩; obtain ⟨c24, hc24⟩ : ∃ c1, c1 = c0 - ((ji10) : Int).toNat := ⟨_, rfl⟩; have hy24 : y263.length = l0.length - ((ji10) : Int).toNat := (by rw [Ny263.out, List.length_drop] <;> omega); rw [show (l0).drop ((ji10) : Int).toNat = y263 from Ny263.out.symm] at hr24; replace hr24 : Kd.C k89 _ A24 y263.length y263 := (by rw [hA24]; exact hr24); rw [← hy24, ← hA24, ← hc24] at hcut24; have HR266 := A_ hr24; have HC266 := A_ (show y263.length ≤ c24 from by rw [hy24, hc24]; exact Nat.sub_le_sub_right hroom24 _); clear hr24 hC24 hroom24 hi024 hsz24 hc24; have KY24 := A_ hy24; have KA24 := A_ hA24; clear hy24 hA24; replace q24 := eq_true q24) | ((with_reducible refine gate_callee (f := 93) rfl ?_); refine goesL_ (some 31) rfl rfl Try.func93 (by kernel_rfl) rfl #[.slice A24 y263.length c24] rfl Z5 ?_; (with_reducible refine (spec_copyStore.calls k _ _ y263 t267 _ ?side1 ?side2 A13.out).mono ?_); (case side1 => exact Z3 HR266.out); (case side2 => exact HC266.out); rintro e w25 ⟨v268, rfl, ho0, hb⟩; refine ⟨_, rfl, ?_⟩; have n0_ := A_ (Kd.N_elder' (Z18 HO262.out) (by first | exact Kd.N_base ho0 | exact Kd.S_base ho0) hb); have n1_ := A_ (Kd.N_lower (Kd.N_mono (ok' := fun k_ => (w.heap.size ≤ k_) ∧ some k_ ≠ (v261 : Value).ownBlock ∧ k_ ≠ gb244) (Kd.S_N (Kd.S_bound ho0)) (fun k_ hk_ => ⟨(Nat.le_trans (below_size (Z2 GE244.out)) hk_.2.1), (Kd.fresh' (Kd.N_lt (Z18 HO262.out)) k_ hk_.2.1), (Kd.freshB (g := gb244) (o := .cells #[.slice A1_0 l1_0.length c1_0, .slice A1_1 l1_1.length c1_1] 89 (0, 0)) (Z4 BK244.out) k_ hk_.2.1)⟩)) (below_size (Z2 GE244.out))); have n2_ := A_ (blk_below (g := gb244) (o := .cells #[.slice A1_0 l1_0.length c1_0, .slice A1_1 l1_1.length c1_1] 89 (0, 0)) (Z4 BK244.out) hb); have n3_ := A_ (below_step (Z2 GE244.out) hb); clear HO262; clear BK244; clear HB; have HO262 := n0_; have HO269 := n1_; have BK244 := n2_; have HB := n3_; clear n0_ n1_ n2_ n3_; (try clear hb); (try clear hb2); (try clear hk); (try clear hi); (try clear ho0); obtain ⟨Ao27, co27, eo27⟩ := Kd.N_slice HO269.out; subst eo27) | ((with_reducible refine gate_builtin (b := .append) (xs := #[.tmp 27, .tmp 31]) rfl ?_); at_builtin; refine Kd.N_append_rows k89 (w0 := w) w.heap.size rfl (.tmp 27) (.tmp 31) 41 89 (.agg #[(.slice none 0 0), (.slice none 0 0)]) 48 rfl Try.underlying41 info89 rfl (by decide) (by omega) v261 y260 t267 _ _ _ (fun k_ => (w.heap.size ≤ k_) ∧ k_ ≠ gb244) (fun k_ => ((fun k_ => (w.heap.size ≤ k_) ∧ k_ ≠ gb244)) k_ ∧ some k_ ≠ (v261 : Value).ownBlock) rfl rfl ?aO ?aR (fun _ hk => hk) ?aF ?aB ?aS ?aL ?_; (case aR => exact (by skip; exact Kd.N_F (Kd.N_mono (ok' := (fun k_ => ((fun k_ => (w.heap.size ≤ k_) ∧ k_ ≠ gb244)) k_ ∧ some k_ ≠ (v261 : Value).ownBlock)) (HO269.out) (fun k_ hk => ⟨⟨hk.1, hk.2.2⟩, hk.2.1⟩)))); (case aB => exact (Z2 GE244.out)); (case aF => exact Z39 GE244.out BK244.out); (case aO => exact (by (with_reducible repeat (first | apply Kd.N_alloc | apply Kd.N_drewN | apply Kd.N_drew)); exact Kd.N_mono HO262.out (fun _ hk => ⟨hk.1.1, hk.1.2⟩))); (case aS => exact (below_size (Z2 GE244.out))); (case aL => have := LMc14.out; omega); intro v271 w26 ho hb hg hat; rw [← Ny270.out] at ho; have n0_ := A_ (blk_grown (g := gb244) (o := .cells #[.slice A1_0 l1_0.length c1_0, .slice A1_1 l1_1.length c1_1] 89 (0, 0)) (Z4 BK244.out) hg (Kd.N_away HO262.out (fun _ hk => hk.1.2))); have n1_ := A_ (Kd.N_afterv (ok := (fun k_ => (w.heap.size ≤ k_) ∧ k_ ≠ gb244)) (by (with_reducible repeat (first | apply Kd.N_alloc | apply Kd.N_drewN | apply Kd.N_drew)); exact Kd.N_mono HO269.out (fun _ hk => ⟨⟨hk.1, hk.2.2⟩, hk.2.1⟩)) hg hat); have n2_ := A_ (hb); have n3_ := A_ (ho); clear BK244; clear HO269; clear HB; clear HO262; have BK244 := n0_; have HO269 := n1_; have HB := n2_; have HO272 := n3_; clear n0_ n1_ n2_ n3_; clear ho hb hg hat))
        go_ret
        exact ⟨_, by first | rfl | (simp [errW_none, errW_some] <;> rfl) | (simp only [← hji10]; first | rfl | (simp [errW_none, errW_some] <;> rfl)) | (simp [*, errW_none, errW_some] <;> rfl), by (with_reducible repeat (first | apply Kd.N_alloc | apply Kd.N_drewN | apply Kd.N_drew)); exact Kd.N_mono HO272.out (fun _ hk => hk.1), Z2 GE244.out⟩
       ·rw [if_neg c14] at H
        exact absurd H (by simp)
      ·rw [if_neg c12] at H
       exact absurd H (by simp)
     ·rw [if_neg c11] at H
      exact absurd H (by simp)
    ·replace c9 := Bool.eq_false_iff.mpr c9
     subst c9
     have H1 : ((spec_copyStore.f k (l0.drop (t245 : Int).toNat)).bind fun t277 => (if y260.length + t277.length < 2932031007402 then (some (y260 ++ t277)) else (none))) = some r := by rw [if_neg (show ¬ (false = true) by decide)] at H; exact H
     clear H
     have H := H1
     clear H1
     have c28b0 := eq_true (of_decide_eq_true Z13 : 0 ≤ t245)
     have c29b0 := eq_true (of_decide_eq_true Z13 : t245 ≤ (l0.length : Int))
     obtain ⟨y273, hy273⟩ : ∃ y_ : List (S89), y_ = (l0.drop (t245 : Int).toNat) := ⟨_, rfl⟩
     replace H : ((spec_copyStore.f k y273).bind fun t277 => (if y260.length + t277.length < 2932031007402 then (some (y260 ++ t277)) else (none))) = some r := by first | (rw [hy273]; with_reducible exact H) | (have H2_ := (Option.bind_some _ _).symm.trans H; rw [hy273]; with_reducible exact H2_) | (have H2_ := (Option.bind_some _ _).symm.trans H; with_reducible exact H2_) | with_reducible exact H | (rw [hy273]; exact H) | exact H
     have Ny273 := A_ hy273
     clear hy273
     replace H := Option.bind_eq_some_iff.mp H
     obtain ⟨t277, A300, H⟩ := H
     replace H : (if y260.length + t277.length < 2932031007402 then (some (y260 ++ t277)) else (none)) = some r := H
     have A30 := A_ A300
     clear A300
     by_cases c31 : y260.length + t277.length < 2932031007402
     ·rw [if_pos c31] at H
      have LMc31 := A_ c31
      clear c31
      obtain ⟨y280, hy280⟩ : ∃ y_ : List (S89), y_ = (y260 ++ t277) := ⟨_, rfl⟩
      replace H : (some y280) = some r := by first | (rw [hy280]; with_reducible exact H) | (have H2_ := (Option.bind_some _ _).symm.trans H; rw [hy280]; with_reducible exact H2_) | (have H2_ := (Option.bind_some _ _).symm.trans H; with_reducible exact H2_) | with_reducible exact H | (rw [hy280]; exact H) | exact H
      have Ny280 := A_ hy280
      clear hy280
      obtain rfl := Option.some.inj H
      go_enter Try.func76, Try.ntmps76
      go_wp2_with (first | ((with_reducible refine gate_dst (N := 3) rfl ?_); refine box_event ?hg (N := 3) ?hd (cs := #[.slice A1_0 l1_0.length c1_0, .slice A1_1 l1_1.length c1_1]) (t := 89) ?hr ?_; (case hd => rfl); (case hg => rfl); (case hr => exact Z20); intro gb244 hg w32 hbox hb; have n0_ := A_ (below_step Z0 hb); have n1_ := A_ (hbox); have n2_ := A_ ((by rw [hg]; exact (below_size Z0) : w.heap.size ≤ gb244)); have n3_ := A_ ((by rw [hg]; exact (below_size Z0) : w.heap.size ≤ gb244)); clear HB; have HB := n0_; have BK244 := n1_; have GW244 := n2_; have GE244 := n3_; clear n0_ n1_ n2_ n3_; clear hb hbox hg; have hcz33_0 : w32.cell? ⟨gb244, 0, none⟩ = some (.slice A1_0 l1_0.length c1_0) := (blk_cell BK244.out 0).trans rfl; have hcz33_1 : w32.cell? ⟨gb244, 1, none⟩ = some (.slice A1_1 l1_1.length c1_1) := (blk_cell BK244.out 1).trans rfl; have hfz33_0 := blk_frozen BK244.out 0; have hfz33_1 := blk_frozen BK244.out 1) | ((with_reducible refine gate_callee (f := 60) rfl ?_); refine goesL_ (some 12) rfl rfl Try.func60 (by kernel_rfl) rfl #[.slice A0 l0.length c0, .slice A1_0 l1_0.length c1_0] rfl Z5 ?_; (with_reducible refine (spec_cellAt.calls k _ _ l0 _ _ l1_0 t245 false _ ?side1 ?side2 ?side3 ?side4 A3.out).mono ?_); (case side1 => exact Z3 HR0.out); (case side2 => exact HC0.out); (case side3 => exact Z3 HR1_0.out); (case side4 => exact HC1_0.out); rintro e w' ⟨rfl, ⟨nd, rfl⟩⟩; refine ⟨_, rfl, ?_⟩; have q34 : (t245 : Int) ≤ ((l0.length : Int) : Int) := of_decide_eq_true Z13; obtain ⟨i034, hi034, _, hsz34, _⟩ := info_parts info89; have hroom34 : l0.length ≤ c0 := HC0.out; have hC34 : Kd.C k89 _ A0 l0.length l0 := HR0.out; have hcut34 := cut_to (P := Try.prog) 41 89 .i64 Try.underlying41 hi034 A0 l0.length c0 t245 (of_decide_eq_true Z13) q34 hroom34; have hr34 := Kd.C_take (m := (t245 : Int).toNat) hC34 (by omega); have hy34 : y247.length = (t245 : Int).toNat := (by rw [Ny247.out, List.length_take]; omega); rw [← Ny247.out] at hr34; rw [← hy34] at hcut34; have HR250 := A_ hr34; have HC250 := A_ (show y247.length ≤ c0 from by omega); clear hr34 hC34 hroom34 hi034 hsz34; have KY34 := A_ hy34; clear hy34; replace q34 := eq_true q34) | ((with_reducible refine gate_callee (f := 93) rfl ?_); refine goesL_ (some 18) rfl rfl Try.func93 (by kernel_rfl) rfl #[.slice A0 y247.length c0] rfl Z5 ?_; (with_reducible refine (spec_copyStore.calls k _ _ y247 t251 _ ?side1 ?side2 A6.out).mono ?_); (case side1 => exact Z40 HR250.out GE244.out); (case side2 => exact HC250.out); rintro e w35 ⟨v252, rfl, ho0, hb⟩; refine ⟨_, rfl, ?_⟩; have n0_ := A_ (Kd.N_lower (Kd.N_mono (ok' := fun k_ => (w.heap.size ≤ k_) ∧ k_ ≠ gb244) (Kd.S_N (Kd.S_bound ho0)) (fun k_ hk_ => ⟨(Nat.le_trans (below_size (Z2 GE244.out)) hk_.2.1), (Kd.freshB (g := gb244) (o := .cells #[.slice A1_0 l1_0.length c1_0, .slice A1_1 l1_1.length c1_1] 89 (0, 0)) (Z4 BK244.out) k_ hk_.2.1)⟩)) (below_size (Z2 GE244.out))); have n1_ := A_ (blk_below (g := gb244) (o := .cells #[.slice A1_0 l1_0.length c1_0, .slice A1_1 l1_1.length c1_1] 89 (0, 0)) (Z4 BK244.out) hb); have n2_ := A_ (below_step (Z2 GE244.out) hb); clear BK244; clear HB; have HO253 := n0_; have BK244 := n1_; have HB := n2_; clear n0_ n1_ n2_; (try clear hb); (try clear hb2); (try clear hk); (try clear hi); (try clear ho0); have hcz36_0 : w35.cell? ⟨gb244, 0, none⟩ = some (.slice A1_0 l1_0.length c1_0) := (blk_cell BK244.out 0).trans rfl; have hcz36_1 : w35.cell? ⟨gb244, 1, none⟩ = some (.slice A1_1 l1_1.length c1_1) := (blk_cell BK244.out 1).trans rfl; have hfz36_0 := blk_frozen BK244.out 0; have hfz36_1 := blk_frozen BK244.out 1) | ((with_reducible refine gate_callee (f := 71) rfl ?_); refine goesL_ (some 21) rfl rfl Try.func71 (by kernel_rfl) rfl #[.agg #[.slice A1_0 l1_0.length c1_0, .slice A1_1 l1_1.length c1_1]] rfl Z5 ?_; (with_reducible refine (spec_copyCell.calls _ _ l1_0 _ _ l1_1 t254 t257 _ ?side1 ?side2 ?side3 ?side4 A7.out).mono ?_); (case side1 => exact Z3 HR1_0.out); (case side2 => exact HC1_0.out); (case side3 => exact Z3 HR1_1.out); (case side4 => exact HC1_1.out); rintro e w37 ⟨v255, v258, rfl, ho0, ho1, hb⟩; refine ⟨_, rfl, ?_⟩; have n0_ := A_ (Kd.N_mono (Kd.N_told (Kd.N_told (Kd.N_old (Z18 HO253.out) hb) (Kd.R_base ho0)) (Kd.R_base ho1)) (fun _ h_ => h_.1)); have n1_ := A_ (Kd.R_lower (Kd.R_newM (M := fun k_ => (w.heap.size ≤ k_)) ho0 (below_size (Z2 GE244.out)) (fun k_ h_ => h_)) (below_size (Z2 GE244.out))); have n2_ := A_ (Kd.R_lower (Kd.R_newM (M := fun k_ => (w.heap.size ≤ k_)) ho1 (below_size (Z2 GE244.out)) (fun k_ h_ => h_)) (below_size (Z2 GE244.out))); have n3_ := A_ (blk_below (g := gb244) (o := .cells #[.slice A1_0 l1_0.length c1_0, .slice A1_1 l1_1.length c1_1] 89 (0, 0)) (Z4 BK244.out) hb); have n4_ := A_ (below_step (Z2 GE244.out) hb); clear HO253; clear BK244; clear HB; have HO253 := n0_; have HO256 := n1_; have HO259 := n2_; have BK244 := n3_; have HB := n4_; clear n0_ n1_ n2_ n3_ n4_; (try clear hb); (try clear hb2); (try clear hk); (try clear hi); (try clear ho0); (try clear ho1); obtain ⟨Ao39, co39, eo39⟩ := Kd.R_slice HO256.out; subst eo39; obtain ⟨Ao40, co40, eo40⟩ := Kd.R_slice HO259.out; subst eo40) | ((with_reducible refine gate_builtin (b := .append) (xs := #[.tmp 19, .tmp 22]) rfl ?_); at_builtin; refine Kd.N_append k89 (w0 := w) w.heap.size rfl (.tmp 19) (.tmp 22) 41 89 (.agg #[(.slice none 0 0), (.slice none 0 0)]) 48 rfl Try.underlying41 info89 rfl (by decide) (by omega) v252 t251 (⟨t254, t257⟩ : S89) [.slice Ao39 t254.length co39, .slice Ao40 t257.length co40] (fun k_ => (w.heap.size ≤ k_) ∧ k_ ≠ gb244) (fun k_ => ((fun k_ => (w.heap.size ≤ k_) ∧ k_ ≠ gb244)) k_ ∧ some k_ ≠ (v252 : Value).ownBlock) rfl rfl ?aP (fun _ hk => hk) ?aF ?aO ?aB ?aS ?aL ?_; (case aP => exact (k89_mkF _ _ (⟨t254, t257⟩ : S89) (Kd.R_reads' (Kd.R_mono (ok' := (fun k_ => ((fun k_ => (w.heap.size ≤ k_) ∧ k_ ≠ gb244)) k_ ∧ some k_ ≠ (v252 : Value).ownBlock)) (Kd.R_types (Kd.R_apart' (HO256.out) (Kd.N_typed HO253.out) (by decide)) BK244.out (by decide)) (fun k_ hk => ⟨⟨hk.1.1.1, hk.2⟩, hk.1.2⟩))).2.1 (Kd.R_F (Kd.R_mono (ok' := (fun k_ => ((fun k_ => (w.heap.size ≤ k_) ∧ k_ ≠ gb244)) k_ ∧ some k_ ≠ (v252 : Value).ownBlock)) (Kd.R_types (Kd.R_apart' (HO256.out) (Kd.N_typed HO253.out) (by decide)) BK244.out (by decide)) (fun k_ hk => ⟨⟨hk.1.1.1, hk.2⟩, hk.1.2⟩))) (Kd.R_reads' (Kd.R_mono (ok' := (fun k_ => ((fun k_ => (w.heap.size ≤ k_) ∧ k_ ≠ gb244)) k_ ∧ some k_ ≠ (v252 : Value).ownBlock)) (Kd.R_types (Kd.R_apart' (HO259.out) (Kd.N_typed HO253.out) (by decide)) BK244.out (by decide)) (fun k_ hk => ⟨⟨hk.1.1.1, hk.2⟩, hk.1.2⟩))).2.1 (Kd.R_F (Kd.R_mono (ok' := (fun k_ => ((fun k_ => (w.heap.size ≤ k_) ∧ k_ ≠ gb244)) k_ ∧ some k_ ≠ (v252 : Value).ownBlock)) (Kd.R_types (Kd.R_apart' (HO259.out) (Kd.N_typed HO253.out) (by decide)) BK244.out (by decide)) (fun k_ hk => ⟨⟨hk.1.1.1, hk.2⟩, hk.1.2⟩))))); (case aB => exact (Z2 GE244.out)); (case aF => exact Z39 GE244.out BK244.out); (case aO => exact (by (with_reducible repeat (first | apply Kd.N_alloc | apply Kd.N_drewN | apply Kd.N_drew)); exact Kd.N_mono HO253.out (fun _ hk => ⟨hk.1.1.1, hk.1.1.2⟩))); (case aS => exact (below_size (Z2 GE244.out))); (case aL => have := LMc8.out; omega); intro v261 w38 ho hb hg hat; rw [← Ny260.out] at ho; have n0_ := A_ (blk_grown (g := gb244) (o := .cells #[.slice A1_0 l1_0.length c1_0, .slice A1_1 l1_1.length c1_1] 89 (0, 0)) (Z4 BK244.out) hg (Kd.N_away HO253.out (fun _ hk => hk.1.1.2))); have n1_ := A_ (hb); have n2_ := A_ (ho); clear BK244; clear HB; clear HO253; clear HO256; clear HO259; have BK244 := n0_; have HB := n1_; have HO262 := n2_; clear n0_ n1_ n2_; clear ho hb hg hat; have q41 : (t245 : Int) ≤ ((l0.length : Int) : Int) := of_decide_eq_true Z13; obtain ⟨i041, hi041, _, hsz41, _⟩ := info_parts info89; have hroom41 : l0.length ≤ c0 := HC0.out; have hC41 : Kd.C k89 _ A0 l0.length l0 := HR0.out; have q041 : (0 : Int) ≤ (t245 : Int) := of_decide_eq_true Z13; have hcut41 := cut_from (P := Try.prog) 41 89 .i64 Try.underlying41 hi041 2 hsz41 A0 l0.length c0 t245 q041 q41; have hr41 := Kd.C_drop (m := (t245 : Int).toNat) (c := c0) hC41 (by omega) hroom41; obtain ⟨A41, hA41⟩ : ∃ A1, A1 = (if c0 = (t245 : Int).toNat then A0 else (A0 : Option Addr).map (·.add ((t245 : Int).toNat * 2))) := ⟨_, rfl⟩; obtain ⟨c41, hc41⟩ : ∃ c1, c1 = c0 - (t245 : Int).toNat := ⟨_, rfl⟩; have hy41 : y273.length = l0.length - (t245 : Int).toNat := (by rw [Ny273.out, List.length_drop] <;> omega); rw [show (l0).drop (t245 : Int).toNat = y273 from Ny273.out.symm] at hr41; replace hr41 : Kd.C k89 _ A41 y273.length y273 := (by rw [hA41]; exact hr41); rw [← hy41, ← hA41, ← hc41] at hcut41; have HR276 := A_ hr41; have HC276 := A_ (show y273.length ≤ c41 from by rw [hy41, hc41]; exact Nat.sub_le_sub_right hroom41 _); clear hr41 hC41 hroom41 hi041 hsz41 hc41; have KY41 := A_ hy41; have KA41 := A_ hA41; clear hy41 hA41; replace q41 := eq_true q41) | ((with_reducible refine gate_callee (f := 93) rfl ?_); refine goesL_ (some 31) rfl rfl Try.func93 (by kernel_rfl) rfl #[.slice A41 y273.length c41] rfl Z5 ?_; (with_reducible refine (spec_copyStore.calls k _ _ y273 t277 _ ?side1 ?side2 A30.out).mono ?_); (case side1 => exact Z3 HR276.out); (case side2 => exact HC276.out); rintro e w42 ⟨v278, rfl, ho0, hb⟩; refine ⟨_, rfl, ?_⟩; have n0_ := A_ (Kd.N_elder' (Z18 HO262.out) (by first | exact Kd.N_base ho0 | exact Kd.S_base ho0) hb); have n1_ := A_ (Kd.N_lower (Kd.N_mono (ok' := fun k_ => (w.heap.size ≤ k_) ∧ some k_ ≠ (v261 : Value).ownBlock ∧ k_ ≠ gb244) (Kd.S_N (Kd.S_bound ho0)) (fun k_ hk_ => ⟨(Nat.le_trans (below_size (Z2 GE244.out)) hk_.2.1), (Kd.fresh' (Kd.N_lt (Z18 HO262.out)) k_ hk_.2.1), (Kd.freshB (g := gb244) (o := .cells #[.slice A1_0 l1_0.length c1_0, .slice A1_1 l1_1.length c1_1] 89 (0, 0)) (Z4 BK244.out) k_ hk_.2.1)⟩)) (below_size (Z2 GE244.out))); have n2_ := A_ (blk_below (g := gb244) (o := .cells #[.slice A1_0 l1_0.length c1_0, .slice A1_1 l1_1.length c1_1] 89 (0, 0)) (Z4 BK244.out) hb); have n3_ := A_ (below_step (Z2 GE244.out) hb); clear HO262; clear BK244; clear HB; have HO262 := n0_; have HO279 := n1_; have BK244 := n2_; have HB := n3_; clear n0_ n1_ n2_ n3_; (try clear hb); (try clear hb2); (try clear hk); (try clear hi); (try clear ho0); obtain ⟨Ao44, co44, eo44⟩ := Kd.N_slice HO279.out; subst eo44) | ((with_reducible refine gate_builtin (b := .append) (xs := #[.tmp 27, .tmp 31]) rfl ?_); at_builtin; refine Kd.N_append_rows k89 (w0 := w) w.heap.size rfl (.tmp 27) (.tmp 31) 41 89 (.agg #[(.slice none 0 0), (.slice none 0 0)]) 48 rfl Try.underlying41 info89 rfl (by decide) (by omega) v261 y260 t277 _ _ _ (fun k_ => (w.heap.size ≤ k_) ∧ k_ ≠ gb244) (fun k_ => ((fun k_ => (w.heap.size ≤ k_) ∧ k_ ≠ gb244)) k_ ∧ some k_ ≠ (v261 : Value).ownBlock) rfl rfl ?aO ?aR (fun _ hk => hk) ?aF ?aB ?aS ?aL ?_; (case aR => exact (by skip; exact Kd.N_F (Kd.N_mono (ok' := (fun k_ => ((fun k_ => (w.heap.size ≤ k_) ∧ k_ ≠ gb244)) k_ ∧ some k_ ≠ (v261 : Value).ownBlock)) (HO279.out) (fun k_ hk => ⟨⟨hk.1, hk.2.2⟩, hk.2.1⟩)))); (case aB => exact (Z2 GE244.out)); (case aF => exact Z39 GE244.out BK244.out); (case aO => exact (by (with_reducible repeat (first | apply Kd.N_alloc | apply Kd.N_drewN | apply Kd.N_drew)); exact Kd.N_mono HO262.out (fun _ hk => ⟨hk.1.1, hk.1.2⟩))); (case aS => exact (below_size (Z2 GE244.out))); (case aL => have := LMc31.out; omega); intro v281 w43 ho hb hg hat; rw [← Ny280.out] at ho; have n0_ := A_ (blk_grown (g := gb244) (o := .cells #[.slice A1_0 l1_0.length c1_0, .slice A1_1 l1_1.length c1_1] 89 (0, 0)) (Z4 BK244.out) hg (Kd.N_away HO262.out (fun _ hk => hk.1.2))); have n1_ := A_ (Kd.N_afterv (ok := (fun k_ => (w.heap.size ≤ k_) ∧ k_ ≠ gb244)) (by (with_reducible repeat (first | apply Kd.N_alloc | apply Kd.N_drewN | apply Kd.N_drew)); exact Kd.N_mono HO279.out (fun _ hk => ⟨⟨hk.1, hk.2.2⟩, hk.2.1⟩)) hg hat); have n2_ := A_ (hb); have n3_ := A_ (ho); clear BK244; clear HO279; clear HB; clear HO262; have BK244 := n0_; have HO279 := n1_; have HB := n2_; have HO282 := n3_; clear n0_ n1_ n2_ n3_; clear ho hb hg hat))
      go_ret
      exact ⟨_, Z14, by (with_reducible repeat (first | apply Kd.N_alloc | apply Kd.N_drewN | apply Kd.N_drew)); exact Kd.N_mono HO282.out (fun _ hk => hk.1), Z2 GE244.out⟩
     ·rw [if_neg c31] at H
      exact absurd H (by simp)
   ·rw [if_neg c8] at H
    exact absurd H (by simp)
  ·rw [if_neg c5] at H
   exact absurd H (by simp)
 ·exact Z45
end Go.Proofs.Ytpadhphdglbciaa.PFnExactStorePut
