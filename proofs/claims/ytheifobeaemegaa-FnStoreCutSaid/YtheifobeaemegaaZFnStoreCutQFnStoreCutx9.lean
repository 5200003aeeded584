/- Walks of the functions that the law 'FnStoreCut' reaches, part 9: for each a Lean function and the proof that Go's comes to just its answer (lines of the print, under own names; no condition). -/
import Derived.Test.YtheifobeaemegaaZFnStoreCutQFnStoreCutx0
import Derived.Test.YtheifobeaemegaaZFnStoreCutQFnStoreCutx6
import Derived.Test.YtheifobeaemegaaZFnStoreCutQFnStoreCutx7
import Derived.Test.YtheifobeaemegaaZFnStoreCutQFnStoreCutx8
namespace Go.Proofs.Ytheifobeaemegaa.PFnStoreCut
open Go.RowKit Go.Proofs.YtheifobeaemegaaW.PrintWords Go.Proofs.YtheifobeaemegaaW.PrintLast Go.Proofs.YtheifobeaemegaaW.PrintMore
attribute [local go_sem] max2_int min2_int max_two min_two max_three min_three max_four min_four
set_option linter.unusedVariables false
set_option linter.unusedSimpArgs false
def spec_cellAt.l0 : Nat → List (S41) → List (S68) → Int → Option (Int × Bool)
 | 0, _, _, _ => none
 | k + 1, x0, x1, x6 => if x6 < (x0.length : Int) then (if 0 ≤ x6 then ((spec_comparePlaces.f k ((rd_T41 x0 x6).f0) x1).bind fun t250 => (if t250 < 0 then (spec_cellAt.l0 k x0 x1 (wrap64 (x6 + 1))) else ((spec_comparePlaces.f k ((rd_T41 x0 x6).f0) x1).bind fun t252 => (some (x6, (t252 == 0)))))) else (none)) else (some (x6, false))
def spec_cellAt.f (k : Nat) (l0 : List (S41)) (l1 : List (S68)) : Option (Int × Bool) := spec_cellAt.l0 k l0 l1 0
theorem spec_cellAt.mono_l : ∀ k, (∀ y0 y1 y2, LeO (spec_cellAt.l0 k y0 y1 y2) (spec_cellAt.l0 (k + 1) y0 y1 y2))
 | 0 => fun _ _ _ r h => by simp [spec_cellAt.l0] at h
 | k + 1 => by
  have ih0 := spec_cellAt.mono_l k
  ·intro y0 y1 y2
   unfold spec_cellAt.l0
   repeat' first
   | (with_reducible exact ih0 _ _ _)
   | (with_reducible exact spec_comparePlaces.mono _ _ _)
   | (with_reducible exact LeO.refl _)
   | (with_reducible exact LeO.none _)
   | (with_reducible refine LeO.ite ?_ ?_)
   | (with_reducible refine LeO.bind ?_ (fun _ => ?_))
   | exact ih0 _ _ _
   | exact spec_comparePlaces.mono _ _ _
   | exact LeO.none _
   | refine LeO.ite ?_ ?_
   | refine LeO.bind ?_ (fun _ => ?_)
theorem spec_cellAt.mono : ∀ a0 a1 k, LeO (spec_cellAt.f k a0 a1) (spec_cellAt.f (k + 1) a0 a1) := by
 intro a0 a1 k
 have ih0 := spec_cellAt.mono_l k
 unfold spec_cellAt.f
 repeat' first
   | (with_reducible exact ih0 _ _ _)
   | (with_reducible exact spec_comparePlaces.mono _ _ _)
   | (with_reducible exact LeO.refl _)
   | (with_reducible exact LeO.none _)
   | (with_reducible refine LeO.ite ?_ ?_)
   | (with_reducible refine LeO.bind ?_ (fun _ => ?_))
   | exact ih0 _ _ _
   | exact spec_comparePlaces.mono _ _ _
   | exact LeO.none _
   | refine LeO.ite ?_ ?_
   | refine LeO.bind ?_ (fun _ => ?_)
set_option maxHeartbeats 8000000 in
set_option maxRecDepth 100000 in
theorem spec_cellAt.calls (k : Nat) (A0 : Option Addr) (c0 : Nat) (l0 : List (S41)) (A1 : Option Addr) (c1 : Nat) (l1 : List (S68)) (r1 : Int) (r2 : Bool) (w : World) (hr0 : Kd.C k41 w A0 l0.length l0) (hc0 : l0.length ≤ c0) (hr1 : Kd.C k68 w A1 l1.length l1) (hc1 : l1.length ≤ c1) (h : spec_cellAt.f k l0 l1 = some (r1, r2)) :
  Calls Try.prog 56 #[.slice A0 l0.length c0, .slice A1 l1.length c1] w fun e w' => e = .returned (.tuple #[.int .i64 r1, .bool r2]) ∧ Drawn0 w w' := by
 have HR0 := A_ hr0
 have HC0 := A_ hc0
 clear hr0 hc0
 have HR1 := A_ hr1
 have HC1 := A_ hc1
 clear hr1 hc1
 have H : (spec_cellAt.l0 k l0 l1 0) = some (r1, r2) := h
 clear h
 have H' := A_ H
 clear H
 go_enter Try.func56, Try.ntmps56
 go_wp2
 go_loopg [6] k (fun kq v6 w' => ∃ (x6_1 : Int), v6 = .int .i64 x6_1 ∧ Aside0 (spec_cellAt.l0 kq l0 l1 x6_1 = some (r1, r2)) ∧ Aside0 (kq ≤ k) ∧ Drawn0 w w')
 case atStart => exact ⟨(0), Z22, H', ⟨Nat.le_refl _⟩, Z24⟩
 case round =>
  clear H'
  try clear c1
  try clear p2
  obtain ⟨x6_1, rfl, HA, HK1, ⟨m1, rfl⟩⟩ := hrel
  cases gk with
  | zero => exact absurd HA.out (by simp [spec_cellAt.l0])
  | succ k1 =>
   have H := HA.out
   clear HA
   simp only [spec_cellAt.l0] at H
   by_cases c3 : x6_1 < (l0.length : Int)
   ·rw [if_pos c3] at H
    have c3b0 : decide (x6_1 < (l0.length : Int)) = true := decide_eq_true c3
    clear c3
    by_cases c4 : 0 ≤ x6_1
    ·rw [if_pos c4] at H
     have c4b0 : decide (0 ≤ x6_1) = true := decide_eq_true c4
     clear c4
     replace H := Option.bind_eq_some_iff.mp H
     obtain ⟨t250, A50, H⟩ := H
     replace H : (if t250 < 0 then (spec_cellAt.l0 k1 l0 l1 (wrap64 (x6_1 + 1))) else ((spec_comparePlaces.f k1 ((rd_T41 l0 x6_1).f0) l1).bind fun t252 => (some (x6_1, (t252 == 0))))) = some (r1, r2) := H
     have A5 := A_ A50
     clear A50
     by_cases c6 : t250 < 0
     ·rw [if_pos c6] at H
      have c6b0 : decide (t250 < 0) = true := decide_eq_true c6
      clear c6
      have H' := A_ H
      clear H
      have p249 : 0 ≤ (x6_1 : Int) := of_decide_eq_true Z13
      have q249 : x6_1 < (l0.length : Int) := of_decide_eq_true Z13
      obtain ⟨ad249, A249_0, c249_0, A249_1, c249_1, e249, hx249_0, hx249_1, hl249_0, hi249_0, hl249_1, hi249_1⟩ := at_T41 HR0.out x6_1 p249 q249
      cases e249
      have HR249_0 := A_ hi249_0
      have HC249_0 := A_ hl249_0
      clear hi249_0 hl249_0
      have HR249_1 := A_ hi249_1
      have HC249_1 := A_ hl249_1
      clear hi249_1 hl249_1
      replace p249 := eq_true p249
      replace q249 := eq_true q249
      go_wp2_with (first | (go_at_call 62; (with_reducible refine (spec_comparePlaces.calls k1 _ _ ((rd_T41 l0 x6_1).f0) _ _ l1 t250 _ ?side1 ?side2 ?side3 ?side4 A5.out).mono ?_); (case side1 => exact Z17 HR249_0.out); (case side2 => exact HC249_0.out); (case side3 => exact Z17 HR1.out); (case side4 => exact HC1.out); rintro e w' ⟨rfl, ⟨nd, rfl⟩⟩))
      go_roundg k1
      case measure => have := HK1.out; omega
      case rel => exact ⟨(wrap64 (x6_1 + 1)), Z22, H', ⟨by have := HK1.out; omega⟩, Z24⟩
     ·rw [if_neg c6] at H
      have c6b0 : decide (t250 < 0) = false := decide_eq_false c6
      clear c6
      replace H := Option.bind_eq_some_iff.mp H
      obtain ⟨t252, A70, H⟩ := H
      replace H : (some (x6_1, (t252 == 0))) = some (r1, r2) := H
      have A7 := A_ A70
      clear A70
      simp only [Option.some.injEq, Prod.mk.injEq] at H
      obtain ⟨rfl, rfl⟩ := H
      have p249 : 0 ≤ (x6_1 : Int) := of_decide_eq_true Z13
      have q249 : x6_1 < (l0.length : Int) := of_decide_eq_true Z13
      obtain ⟨ad249, A249_0, c249_0, A249_1, c249_1, e249, hx249_0, hx249_1, hl249_0, hi249_0, hl249_1, hi249_1⟩ := at_T41 HR0.out x6_1 p249 q249
      cases e249
      have HR249_0 := A_ hi249_0
      have HC249_0 := A_ hl249_0
      clear hi249_0 hl249_0
      have HR249_1 := A_ hi249_1
      have HC249_1 := A_ hl249_1
      clear hi249_1 hl249_1
      replace p249 := eq_true p249
      replace q249 := eq_true q249
      go_wp2_with (first | (go_at_call 62; (with_reducible refine (spec_comparePlaces.calls k1 _ _ ((rd_T41 l0 x6_1).f0) _ _ l1 t250 _ ?side1 ?side2 ?side3 ?side4 A5.out).mono ?_); (case side1 => exact Z17 HR249_0.out); (case side2 => exact HC249_0.out); (case side3 => exact Z17 HR1.out); (case side4 => exact HC1.out); rintro e w' ⟨rfl, ⟨nd, rfl⟩⟩; have p251 : 0 ≤ (x6_1 : Int) := of_decide_eq_true Z13; have q251 : x6_1 < (l0.length : Int) := of_decide_eq_true Z13; obtain ⟨ad251, A251_0, c251_0, A251_1, c251_1, e251, hx251_0, hx251_1, hl251_0, hi251_0, hl251_1, hi251_1⟩ := at_T41 HR0.out x6_1 p251 q251; obtain rfl : ad249 = ad251 := (by injection e251); have HR251_0 := A_ hi251_0; have HC251_0 := A_ hl251_0; clear hi251_0 hl251_0; have HR251_1 := A_ hi251_1; have HC251_1 := A_ hl251_1; clear hi251_1 hl251_1; replace p251 := eq_true p251; replace q251 := eq_true q251; have ea_ := Option.some.inj (hx249_0.symm.trans hx251_0); injection ea_ with ea_ en_ ec_; subst ea_; subst ec_; clear en_; have ea_ := Option.some.inj (hx249_1.symm.trans hx251_1); injection ea_ with ea_ en_ ec_; subst ea_; subst ec_; clear en_) | (go_at_call 62; (with_reducible refine (spec_comparePlaces.calls k1 _ _ ((rd_T41 l0 x6_1).f0) _ _ l1 t252 _ ?side1 ?side2 ?side3 ?side4 A7.out).mono ?_); (case side1 => exact Z17 HR251_0.out); (case side2 => exact HC251_0.out); (case side3 => exact Z17 HR1.out); (case side4 => exact HC1.out); rintro e w' ⟨rfl, ⟨nd, rfl⟩⟩))
      go_ret2
      (try (have et_ := Option.some.inj (A5.out.symm.trans A7.out); subst et_))
      exact ⟨Z22, Z24⟩
    ·rw [if_neg c4] at H
     exact absurd H (by simp)
   ·rw [if_neg c3] at H
    have c3b0 : decide (x6_1 < (l0.length : Int)) = false := decide_eq_false c3
    clear c3
    simp only [Option.some.injEq, Prod.mk.injEq] at H
    obtain ⟨rfl, rfl⟩ := H
    go_wp2
    go_ret2
    (try (have et_ := Option.some.inj (A5.out.symm.trans A7.out); subst et_))
    exact ⟨Z22, Z24⟩
def spec_copyStore.l0 : Nat → List (S41) → List (S41) → Int → Option ((List (S41)))
 | 0, _, _, _ => none
 | k + 1, x0, x3, x4 => if x4 < (x0.length : Int) then (if 0 ≤ x4 then ((spec_copyCell.f ((rd_T41 x0 x4).f0) ((rd_T41 x0 x4).f1)).bind fun bt257 => (if x3.length < 2932031007402 then (spec_copyStore.l0 k x0 (x3 ++ [(⟨bt257.1, bt257.2⟩ : S41)]) (wrap64 (x4 + 1))) else (none))) else (none)) else (some x3)
def spec_copyStore.f (k : Nat) (l0 : List (S41)) : Option ((List (S41))) := spec_copyStore.l0 k l0 (([] : List (S41))) 0
theorem spec_copyStore.mono_l : ∀ k, (∀ y0 y1 y2, LeO (spec_copyStore.l0 k y0 y1 y2) (spec_copyStore.l0 (k + 1) y0 y1 y2))
 | 0 => fun _ _ _ r h => by simp [spec_copyStore.l0] at h
 | k + 1 => by
  have ih0 := spec_copyStore.mono_l k
  ·intro y0 y1 y2
   unfold spec_copyStore.l0
   repeat' first
   | (with_reducible exact ih0 _ _ _)
   | (with_reducible exact LeO.refl _)
   | (with_reducible exact LeO.none _)
   | (with_reducible refine LeO.ite ?_ ?_)
   | (with_reducible refine LeO.bind ?_ (fun _ => ?_))
   | exact ih0 _ _ _
   | exact LeO.none _
   | refine LeO.ite ?_ ?_
   | refine LeO.bind ?_ (fun _ => ?_)
theorem spec_copyStore.mono : ∀ a0 k, LeO (spec_copyStore.f k a0) (spec_copyStore.f (k + 1) a0) := by
 intro a0 k
 have ih0 := spec_copyStore.mono_l k
 unfold spec_copyStore.f
 repeat' first
   | (with_reducible exact ih0 _ _ _)
   | (with_reducible exact LeO.refl _)
   | (with_reducible exact LeO.none _)
   | (with_reducible refine LeO.ite ?_ ?_)
   | (with_reducible refine LeO.bind ?_ (fun _ => ?_))
   | exact ih0 _ _ _
   | exact LeO.none _
   | refine LeO.ite ?_ ?_
   | refine LeO.bind ?_ (fun _ => ?_)
set_option maxHeartbeats 8000000 in
set_option maxRecDepth 100000 in
theorem spec_copyStore.calls (k : Nat) (A0 : Option Addr) (c0 : Nat) (l0 : List (S41)) (r : List (S41)) (w : World) (hr0 : Kd.C k41 w A0 l0.length l0) (hc0 : l0.length ≤ c0) (h : spec_copyStore.f k l0 = some r) :
  Calls Try.prog 69 #[.slice A0 l0.length c0] w fun e w' => ∃ v0_ : Value, e = .returned (v0_) ∧ Kd.S k41 41 w' w.heap.size (fun _ => True) v0_ r ∧ Below w.heap.size w w' := by
 have hu41 := Try.underlying41
 have HR0 := A_ hr0
 have HC0 := A_ hc0
 clear hr0 hc0
 have HB := A_ (Below.refl w.heap.size w)
 have H : (spec_copyStore.l0 k l0 (([] : List (S41))) 0) = some r := h
 clear h
 obtain ⟨y253, hy253⟩ : ∃ y_ : List (S41), y_ = (([] : List (S41))) := ⟨_, rfl⟩
 replace H : (spec_copyStore.l0 k l0 y253 0) = some r := by first | (rw [hy253]; with_reducible exact H) | (have H2_ := (Option.bind_some _ _).symm.trans H; rw [hy253]; with_reducible exact H2_) | (have H2_ := (Option.bind_some _ _).symm.trans H; with_reducible exact H2_) | with_reducible exact H | (rw [hy253]; exact H) | exact H
 have Ny253 := A_ hy253
 clear hy253
 have H' := A_ H
 clear H
 go_enter Try.func69, Try.ntmps69
 go_wp2_with (first | ((with_reducible refine gate_dst (N := 5) rfl ?_); refine Kd.S_lit k41 _ 41 ?hg (N := 5) ?hd (xs := ([] : List (S41))) (inner := []) (ok := fun _ => True) (okp := fun _ => True) ?hr ?hp (fun _ hk => hk) trivial (Below.refl _ _) (Nat.le_refl _) (by simp) ?_; (case hd => rfl); (case hg => rfl); (case hr => exact Z26); (case hp => exact (Reps.none _ _)); intro v254 w2 ho3 hb hg_ hnew_; clear hg_ hnew_; (first | rw [← Ny253.out] at ho3 | (simp only [Int.reduceToNat] at ho3; rw [← Ny253.out] at ho3)); have n0_ := A_ (Kd.S_lower ho3 (below_size Z1)); have n1_ := A_ (below_step Z1 hb); clear HB; have HO255 := n0_; have HB := n1_; clear n0_ n1_; clear hb ho3))
 go_loopg [3, 4] k (fun kq v3 v4 w' => ∃ (x3_1 : List (S41)) (x4_1 : Int), v4 = .int .i64 x4_1 ∧ Aside0 (spec_copyStore.l0 kq l0 x3_1 x4_1 = some r) ∧ Aside0 (kq ≤ k) ∧ Aside0 (Kd.S k41 41 w' w.heap.size (fun _ => True) v3 x3_1) ∧ Aside0 (Below w.heap.size w w'))
 case atStart => exact ⟨(y253), (0), Z22, H', ⟨Nat.le_refl _⟩, ⟨Z31 HO255.out⟩, ⟨Z1⟩⟩
 case round =>
  clear H'
  try clear p2
  obtain ⟨x3_1, x4_1, rfl, HA, HK1, HO_3, HB⟩ := hrel
  cases gk with
  | zero => exact absurd HA.out (by simp [spec_copyStore.l0])
  | succ k1 =>
   have H := HA.out
   clear HA
   simp only [spec_copyStore.l0] at H
   by_cases c4 : x4_1 < (l0.length : Int)
   ·rw [if_pos c4] at H
    have c4b0 : decide (x4_1 < (l0.length : Int)) = true := decide_eq_true c4
    clear c4
    by_cases c5 : 0 ≤ x4_1
    ·rw [if_pos c5] at H
     have c5b0 : decide (0 ≤ x4_1) = true := decide_eq_true c5
     clear c5
     replace H := Option.bind_eq_some_iff.mp H
     obtain ⟨⟨t257, t260⟩, A60, H⟩ := H
     replace H : (if x3_1.length < 2932031007402 then (spec_copyStore.l0 k1 l0 (x3_1 ++ [(⟨t257, t260⟩ : S41)]) (wrap64 (x4_1 + 1))) else (none)) = some r := H
     have A6 := A_ A60
     clear A60
     by_cases c7 : x3_1.length < 2932031007402
     ·rw [if_pos c7] at H
      have LMc7 := A_ c7
      clear c7
      obtain ⟨y263, hy263⟩ : ∃ y_ : List (S41), y_ = (x3_1 ++ [(⟨t257, t260⟩ : S41)]) := ⟨_, rfl⟩
      replace H : (spec_copyStore.l0 k1 l0 y263 (wrap64 (x4_1 + 1))) = some r := by first | (rw [hy263]; with_reducible exact H) | (have H2_ := (Option.bind_some _ _).symm.trans H; rw [hy263]; with_reducible exact H2_) | (have H2_ := (Option.bind_some _ _).symm.trans H; with_reducible exact H2_) | with_reducible exact H | (rw [hy263]; exact H) | exact H
      have Ny263 := A_ hy263
      clear hy263
      have H' := A_ H
      clear H
      have p256 : 0 ≤ (x4_1 : Int) := of_decide_eq_true Z13
      have q256 : x4_1 < (l0.length : Int) := of_decide_eq_true Z13
      obtain ⟨ad256, A256_0, c256_0, A256_1, c256_1, e256, hx256_0, hx256_1, hl256_0, hi256_0, hl256_1, hi256_1⟩ := at_T41 HR0.out x4_1 p256 q256
      cases e256
      replace hx256_0 := ZC HB.out hx256_0
      replace hx256_1 := ZC HB.out hx256_1
      have HR256_0 := A_ hi256_0
      have HC256_0 := A_ hl256_0
      clear hi256_0 hl256_0
      have HR256_1 := A_ hi256_1
      have HC256_1 := A_ hl256_1
      clear hi256_1 hl256_1
      replace p256 := eq_true p256
      replace q256 := eq_true q256
      go_wp2_with (first | ((with_reducible refine gate_callee (f := 53) rfl ?_); refine goesL_ (some 17) rfl rfl Try.func53 (by kernel_rfl) rfl #[.agg #[.slice A256_0 ((rd_T41 l0 x4_1).f0).length c256_0, .slice A256_1 ((rd_T41 l0 x4_1).f1).length c256_1]] rfl Z3 ?_; (with_reducible refine (spec_copyCell.calls _ _ ((rd_T41 l0 x4_1).f0) _ _ ((rd_T41 l0 x4_1).f1) t257 t260 _ ?side1 ?side2 ?side3 ?side4 A6.out).mono ?_); (case side1 => exact Z12 HR256_0.out); (case side2 => exact HC256_0.out); (case side3 => exact Z12 HR256_1.out); (case side4 => exact HC256_1.out); rintro e w8 ⟨v258, v261, rfl, ho0, ho1, hb⟩; refine ⟨_, rfl, ?_⟩; have n0_ := A_ (Kd.S_mono (Kd.S_told (Kd.S_told (Kd.S_old (Z31 HO_3.out) hb) (Kd.R_base ho0)) (Kd.R_base ho1)) (fun _ h_ => h_.1)); have n1_ := A_ (Kd.R_lower ho0 (below_size Z1)); have n2_ := A_ (Kd.R_lower ho1 (below_size Z1)); have n3_ := A_ (below_step Z1 hb); clear HO_3; clear HB; have HO_3 := n0_; have HO259 := n1_; have HO262 := n2_; have HB := n3_; clear n0_ n1_ n2_ n3_; (try clear hb); (try clear hb2); (try clear hk); (try clear hi); (try clear ho0); (try clear ho1); obtain ⟨Ao10, co10, eo10⟩ := Kd.R_slice HO259.out; subst eo10; obtain ⟨Ao11, co11, eo11⟩ := Kd.R_slice HO262.out; subst eo11) | ((with_reducible refine gate_builtin (b := .append) (xs := #[.tmp 12, .tmp 18]) rfl ?_); at_builtin; refine Kd.S_append k41 (w0 := w) w.heap.size rfl (.tmp 12) (.tmp 18) 33 41 (.agg #[(.slice none 0 0), (.slice none 0 0)]) 48 rfl Try.underlying33 info41 rfl (by decide) (by omega) u3 x3_1 (⟨t257, t260⟩ : S41) [.slice Ao10 t257.length co10, .slice Ao11 t260.length co11] (fun _ => True) (fun k_ => some k_ = (.slice Ao10 t257.length co10 : Value).ownBlock ∨ some k_ = (.slice Ao11 t260.length co11 : Value).ownBlock) rfl rfl ?aP (fun k_ hk_ => hk_.elim (fun h_ => ((Kd.R_mono (ok' := fun k_ => ((fun _ => True)) k_ ∧ some k_ ≠ (u3 : Value).ownBlock) (Kd.R_apart' (HO259.out) (Kd.S_typed HO_3.out) (by decide)) (fun k_ hk => ⟨trivial, hk.2⟩))).1 k_ h_.symm) (fun h_ => ((Kd.R_mono (ok' := fun k_ => ((fun _ => True)) k_ ∧ some k_ ≠ (u3 : Value).ownBlock) (Kd.R_apart' (HO262.out) (Kd.S_typed HO_3.out) (by decide)) (fun k_ hk => ⟨trivial, hk.2⟩))).1 k_ h_.symm)) ?aF ?aO ?aB ?aS ?aL ?_; (case aP => exact k41_mkM _ _ _ (⟨t257, t260⟩ : S41) (Kd.R_mono (Kd.R_tight rfl (Kd.R_mono (ok' := fun k_ => ((fun _ => True)) k_ ∧ some k_ ≠ (u3 : Value).ownBlock) (Kd.R_apart' (HO259.out) (Kd.S_typed HO_3.out) (by decide)) (fun k_ hk => ⟨trivial, hk.2⟩))) (fun _ h_ => Or.inl h_)) (Kd.R_mono (Kd.R_tight rfl (Kd.R_mono (ok' := fun k_ => ((fun _ => True)) k_ ∧ some k_ ≠ (u3 : Value).ownBlock) (Kd.R_apart' (HO262.out) (Kd.S_typed HO_3.out) (by decide)) (fun k_ hk => ⟨trivial, hk.2⟩))) (fun _ h_ => Or.inr (h_)))); (case aB => exact Z1); (case aF => exact (fun _ _ => trivial)); (case aO => exact (by (with_reducible repeat (first | apply Kd.S_alloc | apply Kd.S_drewN | apply Kd.S_drew)); exact Kd.S_mono HO_3.out (fun k_ hk => ⟨trivial, fun e_ => e_.elim (fun h_ => hk.1.2 h_) (fun h_ => hk.2 h_)⟩))); (case aS => exact (below_size Z1)); (case aL => have := LMc7.out; omega); intro v264 w9 ho hb hg hat; rw [← Ny263.out] at ho; have n0_ := A_ (hb); have n1_ := A_ (ho); clear HB; clear HO_3; clear HO259; clear HO262; have HB := n0_; have HO265 := n1_; clear n0_ n1_; clear ho hb hg hat))
      go_roundg k1
      case measure => have := HK1.out; omega
      case rel => exact ⟨(y263), (wrap64 (x4_1 + 1)), Z22, H', ⟨by have := HK1.out; omega⟩, ⟨Z31 HO265.out⟩, ⟨Z1⟩⟩
     ·rw [if_neg c7] at H
      exact absurd H (by simp)
    ·rw [if_neg c5] at H
     exact absurd H (by simp)
   ·rw [if_neg c4] at H
    have c4b0 : decide (x4_1 < (l0.length : Int)) = false := decide_eq_false c4
    clear c4
    obtain rfl := Option.some.inj H
    go_wp2
    go_ret
    exact ⟨_, Z18, Z31 HO_3.out, Z1⟩
def spec_put.f (k : Nat) (l0 : List (S41)) (l1_0 : List (S68)) (l1_1 : List (S28)) : Option ((List (S41))) := (spec_cellAt.f k l0 l1_0).bind fun bt267 => (if 0 ≤ bt267.1 then (if bt267.1 ≤ (l0.length : Int) then ((spec_copyStore.f k (l0.take (bt267.1 : Int).toNat)).bind fun t273 => ((spec_copyCell.f l1_0 l1_1).bind fun bt276 => (if t273.length < 2932031007402 then ((some (t273 ++ [(⟨bt276.1, bt276.2⟩ : S41)] : List (S41))).bind fun y282 => (if bt267.2 = true then (if 0 ≤ (wrap64 (bt267.1 + 1)) then (if (wrap64 (bt267.1 + 1)) ≤ (l0.length : Int) then ((spec_copyStore.f k (l0.drop ((wrap64 (bt267.1 + 1)) : Int).toNat)).bind fun t289 => (if y282.length + t289.length < 2932031007402 then (some (y282 ++ t289)) else (none))) else (none)) else (none)) else ((spec_copyStore.f k (l0.drop (bt267.1 : Int).toNat)).bind fun t299 => (if y282.length + t299.length < 2932031007402 then (some (y282 ++ t299)) else (none))))) else (none)))) else (none)) else (none))
theorem spec_put.mono : ∀ a0 a1 a2 k, LeO (spec_put.f k a0 a1 a2) (spec_put.f (k + 1) a0 a1 a2) := by
 intro a0 a1 a2 k
 unfold spec_put.f
 repeat' first
   | (with_reducible exact spec_cellAt.mono _ _ _)
   | (with_reducible exact spec_copyStore.mono _ _)
   | (with_reducible exact LeO.refl _)
   | (with_reducible exact LeO.none _)
   | (with_reducible refine LeO.ite ?_ ?_)
   | (with_reducible refine LeO.bind ?_ (fun _ => ?_))
   | exact spec_cellAt.mono _ _ _
   | exact spec_copyStore.mono _ _
   | exact LeO.none _
   | refine LeO.ite ?_ ?_
   | refine LeO.bind ?_ (fun _ => ?_)
set_option maxHeartbeats 8000000 in
set_option maxRecDepth 100000 in
theorem spec_put.calls (k : Nat) (A0 : Option Addr) (c0 : Nat) (l0 : List (S41)) (A1_0 : Option Addr) (c1_0 : Nat) (l1_0 : List (S68)) (A1_1 : Option Addr) (c1_1 : Nat) (l1_1 : List (S28)) (r : List (S41)) (w : World) (hr0 : Kd.C k41 w A0 l0.length l0) (hc0 : l0.length ≤ c0) (hr1_0 : Kd.C k68 w A1_0 l1_0.length l1_0) (hc1_0 : l1_0.length ≤ c1_0) (hr1_1 : Kd.C k28 w A1_1 l1_1.length l1_1) (hc1_1 : l1_1.length ≤ c1_1) (h : spec_put.f k l0 l1_0 l1_1 = some r) :
  Calls Try.prog 61 #[.slice A0 l0.length c0, .agg #[.slice A1_0 l1_0.length c1_0, .slice A1_1 l1_1.length c1_1]] w fun e w' => ∃ v0_ : Value, e = .returned (v0_) ∧ Kd.N k41 41 w' w.heap.size (fun k_ => (w.heap.size ≤ k_)) v0_ r ∧ Below w.heap.size w w' := by
 have hu41 := Try.underlying41
 have HR0 := A_ hr0
 have HC0 := A_ hc0
 clear hr0 hc0
 have HR1_0 := A_ hr1_0
 have HC1_0 := A_ hc1_0
 clear hr1_0 hc1_0
 have HR1_1 := A_ hr1_1
 have HC1_1 := A_ hc1_1
 clear hr1_1 hc1_1
 have HB := A_ (Below.refl w.heap.size w)
 have H : ((spec_cellAt.f k l0 l1_0).bind fun bt267 => (if 0 ≤ bt267.1 then (if bt267.1 ≤ (l0.length : Int) then ((spec_copyStore.f k (l0.take (bt267.1 : Int).toNat)).bind fun t273 => ((spec_copyCell.f l1_0 l1_1).bind fun bt276 => (if t273.length < 2932031007402 then ((some (t273 ++ [(⟨bt276.1, bt276.2⟩ : S41)] : List (S41))).bind fun y282 => (if bt267.2 = true then (if 0 ≤ (wrap64 (bt267.1 + 1)) then (if (wrap64 (bt267.1 + 1)) ≤ (l0.length : Int) then ((spec_copyStore.f k (l0.drop ((wrap64 (bt267.1 + 1)) : Int).toNat)).bind fun t289 => (if y282.length + t289.length < 2932031007402 then (some (y282 ++ t289)) else (none))) else (none)) else (none)) else ((spec_copyStore.f k (l0.drop (bt267.1 : Int).toNat)).bind fun t299 => (if y282.length + t299.length < 2932031007402 then (some (y282 ++ t299)) else (none))))) else (none)))) else (none)) else (none))) = some r := h
 clear h
 replace H := Option.bind_eq_some_iff.mp H
 obtain ⟨⟨t267, t268⟩, A30, H⟩ := H
 replace H : (if 0 ≤ t267 then (if t267 ≤ (l0.length : Int) then ((spec_copyStore.f k (l0.take (t267 : Int).toNat)).bind fun t273 => ((spec_copyCell.f l1_0 l1_1).bind fun bt276 => (if t273.length < 2932031007402 then ((some (t273 ++ [(⟨bt276.1, bt276.2⟩ : S41)] : List (S41))).bind fun y282 => (if t268 = true then (if 0 ≤ (wrap64 (t267 + 1)) then (if (wrap64 (t267 + 1)) ≤ (l0.length : Int) then ((spec_copyStore.f k (l0.drop ((wrap64 (t267 + 1)) : Int).toNat)).bind fun t289 => (if y282.length + t289.length < 2932031007402 then (some (y282 ++ t289)) else (none))) else (none)) else (none)) else ((spec_copyStore.f k (l0.drop (t267 : Int).toNat)).bind fun t299 => (if y282.length + t299.length < 2932031007402 then (some (y282 ++ t299)) else (none))))) else (none)))) else (none)) else (none)) = some r := H
 have A3 := A_ A30
 clear A30
 by_cases c4 : 0 ≤ t267
 ·rw [if_pos c4] at H
  have c4b0 := eq_true c4
  have c4b1 : decide (0 ≤ t267) = true := decide_eq_true c4
  clear c4
  by_cases c5 : t267 ≤ (l0.length : Int)
  ·rw [if_pos c5] at H
   have c5b0 := eq_true c5
   have c5b1 : decide (t267 ≤ (l0.length : Int)) = true := decide_eq_true c5
   clear c5
   obtain ⟨y269, hy269⟩ : ∃ y_ : List (S41), y_ = (l0.take (t267 : Int).toNat) := ⟨_, rfl⟩
   replace H : ((spec_copyStore.f k y269).bind fun t273 => ((spec_copyCell.f l1_0 l1_1).bind fun bt276 => (if t273.length < 2932031007402 then ((some (t273 ++ [(⟨bt276.1, bt276.2⟩ : S41)] : List (S41))).bind fun y282 => (if t268 = true then (if 0 ≤ (wrap64 (t267 + 1)) then (if (wrap64 (t267 + 1)) ≤ (l0.length : Int) then ((spec_copyStore.f k (l0.drop ((wrap64 (t267 + 1)) : Int).toNat)).bind fun t289 => (if y282.length + t289.length < 2932031007402 then (some (y282 ++ t289)) else (none))) else (none)) else (none)) else ((spec_copyStore.f k (l0.drop (t267 : Int).toNat)).bind fun t299 => (if y282.length + t299.length < 2932031007402 then (some (y282 ++ t299)) else (none))))) else (none)))) = some r := by first | (rw [hy269]; with_reducible exact H) | (have H2_ := (Option.bind_some _ _).symm.trans H; rw [hy269]; with_reducible exact H2_) | (have H2_ := (Option.bind_some _ _).symm.trans H; with_reducible exact H2_) | with_reducible exact H | (rw [hy269]; exact H) | exact H
   have Ny269 := A_ hy269
   clear hy269
   replace H := Option.bind_eq_some_iff.mp H
   obtain ⟨t273, A60, H⟩ := H
   replace H : ((spec_copyCell.f l1_0 l1_1).bind fun bt276 => (if t273.length < 2932031007402 then ((some (t273 ++ [(⟨bt276.1, bt276.2⟩ : S41)] : List (S41))).bind fun y282 => (if t268 = true then (if 0 ≤ (wrap64 (t267 + 1)) then (if (wrap64 (t267 + 1)) ≤ (l0.length : Int) then ((spec_copyStore.f k (l0.drop ((wrap64 (t267 + 1)) : Int).toNat)).bind fun t289 => (if y282.length + t289.length < 2932031007402 then (some (y282 ++ t289)) else (none))) else (none)) else (none)) else ((spec_copyStore.f k (l0.drop (t267 : Int).toNat)).bind fun t299 => (if y282.length + t299.length < 2932031007402 then (some (y282 ++ t299)) else (none))))) else (none))) = some r := H
   have A6 := A_ A60
   clear A60
   replace H := Option.bind_eq_some_iff.mp H
   obtain ⟨⟨t276, t279⟩, A70, H⟩ := H
   replace H : (if t273.length < 2932031007402 then ((some (t273 ++ [(⟨t276, t279⟩ : S41)] : List (S41))).bind fun y282 => (if t268 = true then (if 0 ≤ (wrap64 (t267 + 1)) then (if (wrap64 (t267 + 1)) ≤ (l0.length : Int) then ((spec_copyStore.f k (l0.drop ((wrap64 (t267 + 1)) : Int).toNat)).bind fun t289 => (if y282.length + t289.length < 2932031007402 then (some (y282 ++ t289)) else (none))) else (none)) else (none)) else ((spec_copyStore.f k (l0.drop (t267 : Int).toNat)).bind fun t299 => (if y282.length + t299.length < 2932031007402 then (some (y282 ++ t299)) else (none))))) else (none)) = some r := H
   have A7 := A_ A70
   clear A70
   by_cases c8 : t273.length < 2932031007402
   ·rw [if_pos c8] at H
    have LMc8 := A_ c8
    clear c8
    obtain ⟨y282, hy282⟩ : ∃ y_ : List (S41), y_ = (t273 ++ [(⟨t276, t279⟩ : S41)]) := ⟨_, rfl⟩
    replace H : (if t268 = true then (if 0 ≤ (wrap64 (t267 + 1)) then (if (wrap64 (t267 + 1)) ≤ (l0.length : Int) then ((spec_copyStore.f k (l0.drop ((wrap64 (t267 + 1)) : Int).toNat)).bind fun t289 => (if y282.length + t289.length < 2932031007402 then (some (y282 ++ t289)) else (none))) else (none)) else (none)) else ((spec_copyStore.f k (l0.drop (t267 : Int).toNat)).bind fun t299 => (if y282.length + t299.length < 2932031007402 then (some (y282 ++ t299)) else (none)))) = some r := by first | (rw [hy282]; with_reducible exact H) | (have H2_ := (Option.bind_some _ _).symm.trans H; rw [hy282]; with_reducible exact H2_) | (have H2_ := (Option.bind_some _ _).symm.trans H; with_reducible exact H2_) | with_reducible exact H | (rw [hy282]; exact H) | exact H
    have Ny282 := A_ hy282
    clear hy282
    by_cases c9 : t268 = true
    ·subst c9
     have H1 : (if 0 ≤ (wrap64 (t267 + 1)) then (if (wrap64 (t267 + 1)) ≤ (l0.length : Int) then ((spec_copyStore.f k (l0.drop ((wrap64 (t267 + 1)) : Int).toNat)).bind fun t289 => (if y282.length + t289.length < 2932031007402 then (some (y282 ++ t289)) else (none))) else (none)) else (none)) = some r := by rw [if_pos rfl] at H; exact H
     clear H
     have H := H1
     clear H1
     obtain ⟨ji10, hji10⟩ : ∃ j_ : Int, (wrap64 (t267 + 1)) = j_ := ⟨_, rfl⟩
     replace H : (if 0 ≤ (ji10) then (if (ji10) ≤ (l0.length : Int) then ((spec_copyStore.f k (l0.drop ((ji10) : Int).toNat)).bind fun t289 => (if y282.length + t289.length < 2932031007402 then (some (y282 ++ t289)) else (none))) else (none)) else (none)) = some r := by first | (rw [hji10] at H; exact H) | (simp only [hji10] at H ⊢; exact H)
     (try rw [hji10] at A3)
     (try rw [hji10] at A6)
     (try rw [hji10] at A7)
     have hji10w : (IntKind.i64.wrap (t267 + 1)) = ji10 := (i64_w _).trans hji10
     by_cases c11 : 0 ≤ (ji10)
     ·rw [if_pos c11] at H
      have c11b0 := eq_true c11
      have c11b1 : decide (0 ≤ (ji10)) = true := decide_eq_true c11
      clear c11
      by_cases c12 : (ji10) ≤ (l0.length : Int)
      ·rw [if_pos c12] at H
       have c12b0 := eq_true c12
       have c12b1 : decide ((ji10) ≤ (l0.length : Int)) = true := decide_eq_true c12
       clear c12
       obtain ⟨y285, hy285⟩ : ∃ y_ : List (S41), y_ = (l0.drop ((ji10) : Int).toNat) := ⟨_, rfl⟩
       replace H : ((spec_copyStore.f k y285).bind fun t289 => (if y282.length + t289.length < 2932031007402 then (some (y282 ++ t289)) else (none))) = some r := by first | (rw [hy285]; with_reducible exact H) | (have H2_ := (Option.bind_some _ _).symm.trans H; rw [hy285]; with_reducible exact H2_) | (have H2_ := (Option.bind_some _ _).symm.trans H; with_reducible exact H2_) | with_reducible exact H | (rw [hy285]; exact H) | exact H
       have Ny285 := A_ hy285
       clear hy285
       replace H := Option.bind_eq_some_iff.mp H
       obtain ⟨t289, A130, H⟩ := H
       replace H : (if y282.length + t289.length < 2932031007402 then (some (y282 ++ t289)) else (none)) = some r := H
       have A13 := A_ A130
       clear A130
       by_cases c14 : y282.length + t289.length < 2932031007402
       ·rw [if_pos c14] at H
        have LMc14 := A_ c14
        clear c14
        obtain ⟨y292, hy292⟩ : ∃ y_ : List (S41), y_ = (y282 ++ t289) := ⟨_, rfl⟩
        replace H : (some y292) = some r := by first | (rw [hy292]; with_reducible exact H) | (have H2_ := (Option.bind_some _ _).symm.trans H; rw [hy292]; with_reducible exact H2_) | (have H2_ := (Option.bind_some _ _).symm.trans H; with_reducible exact H2_) | with_reducible exact H | (rw [hy292]; exact H) | exact H
        have Ny292 := A_ hy292
        clear hy292
        obtain rfl := Option.some.inj H
        go_enter Try.func61, Try.ntmps61
        go_wp2_with (first | ((with_reducible refine gate_dst (N := 3) rfl ?_); refine box_event ?hg (N := 3) ?hd (cs := #[.slice A1_0 l1_0.length c1_0, .slice A1_1 l1_1.length c1_1]) (t := 41) ?hr ?_; (case hd => rfl); (case hg => rfl); (case hr => exact Z26); intro gb266 hg w15 hbox hb; have n0_ := A_ (below_step Z1 hb); have n1_ := A_ (hbox); have n2_ := A_ ((by rw [hg]; exact (below_size Z1) : w.heap.size ≤ gb266)); have n3_ := A_ ((by rw [hg]; exact (below_size Z1) : w.heap.size ≤ gb266)); clear HB; have HB := n0_; have BK266 := n1_; have GW266 := n2_; have GE266 := n3_; clear n0_ n1_ n2_ n3_; clear hb hbox hg; have hcz16_0 : w15.cell? ⟨gb266, 0, none⟩ = some (.slice A1_0 l1_0.length c1_0) := (blk_cell BK266.out 0).trans rfl; have hcz16_1 : w15.cell? ⟨gb266, 1, none⟩ = some (.slice A1_1 l1_1.length c1_1) := (blk_cell BK266.out 1).trans rfl; have hfz16_0 := blk_frozen BK266.out 0; have hfz16_1 := blk_frozen BK266.out 1) | ((with_reducible refine gate_callee (f := 56) rfl ?_); refine goesL_ (some 12) rfl rfl Try.func56 (by kernel_rfl) rfl #[.slice A0 l0.length c0, .slice A1_0 l1_0.length c1_0] rfl Z3 ?_; (with_reducible refine (spec_cellAt.calls k _ _ l0 _ _ l1_0 t267 true _ ?side1 ?side2 ?side3 ?side4 A3.out).mono ?_); (case side1 => exact Z12 HR0.out); (case side2 => exact HC0.out); (case side3 => exact Z12 HR1_0.out); (case side4 => exact HC1_0.out); rintro e w' ⟨rfl, ⟨nd, rfl⟩⟩; refine ⟨_, rfl, ?_⟩; have q17 : (t267 : Int) ≤ ((l0.length : Int) : Int) := of_decide_eq_true Z13; obtain ⟨i017, hi017, _, hsz17, _⟩ := info_parts info41; have hroom17 : l0.length ≤ c0 := HC0.out; have hC17 : Kd.C k41 _ A0 l0.length l0 := HR0.out; have hcut17 := cut_to (P := Try.prog) 33 41 .i64 Try.underlying33 hi017 A0 l0.length c0 t267 (of_decide_eq_true Z13) q17 hroom17; have hr17 := Kd.C_take (m := (t267 : Int).toNat) hC17 (by omega); have hy17 : y269.length = (t267 : Int).toNat := (by rw [Ny269.out, List.length_take]; omega); rw [← Ny269.out] at hr17; rw [← hy17] at hcut17; have HR272 := A_ hr17; have HC272 := A_ (show y269.length ≤ c0 from by omega); clear hr17 hC17 hroom17 hi017 hsz17; have KY17 := A_ hy17; clear hy17; replace q17 := eq_true q17) | ((with_reducible refine gate_callee (f := 69) rfl ?_); refine goesL_ (some 18) rfl rfl Try.func69 (by kernel_rfl) rfl #[.slice A0 y269.length c0] rfl Z3 ?_; (with_reducible refine (spec_copyStore.calls k _ _ y269 t273 _ ?side1 ?side2 A6.out).mono ?_); (case side1 => repeat (first | exact (Kd.C_below HR272.out (Z2 GE266.out)) | (with_reducible refine Kd.C_alloc ?_ _) | (with_reducible refine Kd.C_drewN ?_ _) | (with_reducible refine Kd.C_drew ?_))); (case side2 => exact HC272.out); rintro e w18 ⟨v274, rfl, ho0, hb⟩; refine ⟨_, rfl, ?_⟩; have n0_ := A_ (Kd.N_lower (Kd.N_mono (ok' := fun k_ => (w.heap.size ≤ k_) ∧ k_ ≠ gb266) (Kd.S_N (Kd.S_bound ho0)) (fun k_ hk_ => ⟨(Nat.le_trans (below_size (Z2 GE266.out)) hk_.2.1), (Kd.freshB (g := gb266) (o := .cells #[.slice A1_0 l1_0.length c1_0, .slice A1_1 l1_1.length c1_1] 41 (0, 0)) (Z5 BK266.out) k_ hk_.2.1)⟩)) (below_size (Z2 GE266.out))); have n1_ := A_ (blk_below (g := gb266) (o := .cells #[.slice A1_0 l1_0.length c1_0, .slice A1_1 l1_1.length c1_1] 41 (0, 0)) (Z5 BK266.out) hb); have n2_ := A_ (below_step (Z2 GE266.out) hb); clear BK266; clear HB; have HO275 := n0_; have BK266 := n1_; have HB := n2_; clear n0_ n1_ n2_; (try clear hb); (try clear hb2); (try clear hk); (try clear hi); (try clear ho0); have hcz19_0 : w18.cell? ⟨gb266, 0, none⟩ = some (.slice A1_0 l1_0.length c1_0) := (blk_cell BK266.out 0).trans rfl; have hcz19_1 : w18.cell? ⟨gb266, 1, none⟩ = some (.slice A1_1 l1_1.length c1_1) := (blk_cell BK266.out 1).trans rfl; have hfz19_0 := blk_frozen BK266.out 0; have hfz19_1 := blk_frozen BK266.out 1) | ((with_reducible refine gate_callee (f := 53) rfl ?_); refine goesL_ (some 21) rfl rfl Try.func53 (by kernel_rfl) rfl #[.agg #[.slice A1_0 l1_0.length c1_0, .slice A1_1 l1_1.length c1_1]] rfl Z3 ?_; (with_reducible refine (spec_copyCell.calls _ _ l1_0 _ _ l1_1 t276 t279 _ ?side1 ?side2 ?side3 ?side4 A7.out).mono ?_); (case side1 => exact Z12 HR1_0.out); (case side2 => exact HC1_0.out); (case side3 => exact Z12 HR1_1.out); (case side4 => exact HC1_1.out); rintro e w20 ⟨v277, v280, rfl, ho0, ho1, hb⟩; refine ⟨_, rfl, ?_⟩; have n0_ := A_ (Kd.N_mono (Kd.N_told (Kd.N_told (Kd.N_old (Z20 HO275.out) hb) (Kd.R_base ho0)) (Kd.R_base ho1)) (fun _ h_ => h_.1)); have n1_ := A_ (Kd.R_lower (Kd.R_newM (M := fun k_ => (w.heap.size ≤ k_)) ho0 (below_size (Z2 GE266.out)) (fun k_ h_ => h_)) (below_size (Z2 GE266.out))); have n2_ := A_ (Kd.R_lower (Kd.R_newM (M := fun k_ => (w.heap.size ≤ k_)) ho1 (below_size (Z2 GE266.out)) (fun k_ h_ => h_)) (below_size (Z2 GE266.out))); have n3_ := A_ (blk_below (g := gb266) (o := .cells #[.slice A1_0 l1_0.length c1_0, .slice A1_1 l1_1.length c1_1] 41 (0, 0)) (Z5 BK266.out) hb); have n4_ := A_ (below_step (Z2 GE266.out) hb); clear HO275; clear BK266; clear HB; have HO275 := n0_; have HO278 := n1_; have HO281 := n2_; have BK266 := n3_; have HB := n4_; clear n0_ n1_ n2_ n3_ n4_; (try clear hb); (try clear hb2); (try clear hk); (try clear hi); (try clear ho0); (try clear ho1); obtain ⟨Ao22, co22, eo22⟩ := Kd.R_slice HO278.out; subst eo22; obtain ⟨Ao23, co23, eo23⟩ := Kd.R_slice HO281.out; subst eo23) | ((with_reducible refine gate_builtin (b := .append) (xs := #[.tmp 19, .tmp 22]) rfl ?_); at_builtin; refine Kd.N_append k41 (w0 := w) w.heap.size rfl (.tmp 19) (.tmp 22) 33 41 (.agg #[(.slice none 0 0), (.slice none 0 0)]) 48 rfl Try.underlying33 info41 rfl (by decide) (by omega) v274 t273 (⟨t276, t279⟩ : S41) [.slice Ao22 t276.length co22, .slice Ao23 t279.length co23] (fun k_ => (w.heap.size ≤ k_) ∧ k_ ≠ gb266) (fun k_ => ((fun k_ => (w.heap.size ≤ k_) ∧ k_ ≠ gb266)) k_ ∧ some k_ ≠ (v274 : Value).ownBlock) rfl rfl ?aP (fun _ hk => hk) ?aF ?aO ?aB ?aS ?aL ?_; (case aP => exact (k41_mkF _ _ (⟨t276, t279⟩ : S41) (Kd.R_reads' (Kd.R_mono (ok' := (fun k_ => ((fun k_ => (w.heap.size ≤ k_) ∧ k_ ≠ gb266)) k_ ∧ some k_ ≠ (v274 : Value).ownBlock)) (Kd.R_types (Kd.R_apart' (HO278.out) (Kd.N_typed HO275.out) (by decide)) BK266.out (by decide)) (fun k_ hk => ⟨⟨hk.1.1.1, hk.2⟩, hk.1.2⟩))).2.1 (Kd.R_F (Kd.R_mono (ok' := (fun k_ => ((fun k_ => (w.heap.size ≤ k_) ∧ k_ ≠ gb266)) k_ ∧ some k_ ≠ (v274 : Value).ownBlock)) (Kd.R_types (Kd.R_apart' (HO278.out) (Kd.N_typed HO275.out) (by decide)) BK266.out (by decide)) (fun k_ hk => ⟨⟨hk.1.1.1, hk.2⟩, hk.1.2⟩))) (Kd.R_reads' (Kd.R_mono (ok' := (fun k_ => ((fun k_ => (w.heap.size ≤ k_) ∧ k_ ≠ gb266)) k_ ∧ some k_ ≠ (v274 : Value).ownBlock)) (Kd.R_types (Kd.R_apart' (HO281.out) (Kd.N_typed HO275.out) (by decide)) BK266.out (by decide)) (fun k_ hk => ⟨⟨hk.1.1.1, hk.2⟩, hk.1.2⟩))).2.1 (Kd.R_F (Kd.R_mono (ok' := (fun k_ => ((fun k_ => (w.heap.size ≤ k_) ∧ k_ ≠ gb266)) k_ ∧ some k_ ≠ (v274 : Value).ownBlock)) (Kd.R_types (Kd.R_apart' (HO281.out) (Kd.N_typed HO275.out) (by decide)) BK266.out (by decide)) (fun k_ hk => ⟨⟨hk.1.1.1, hk.2⟩, hk.1.2⟩))))); (case aB => exact (Z2 GE266.out)); (case aF => exact Z41 GE266.out BK266.out); (case aO => exact (by (with_reducible repeat (first | apply Kd.N_alloc | apply Kd.N_drewN | apply Kd.N_drew)); exact Kd.N_mono HO275.out (fun _ hk => ⟨hk.1.1.1, hk.1.1.2⟩))); (case aS => exact (below_size (Z2 GE266.out))); (case aL => have := LMc8.out; omega); intro v283 w21 ho hb hg hat; rw [← Ny282.out] at ho; have n0_ := A_ (blk_grown (g := gb266) (o := .cells #[.slice A1_0 l1_0.length c1_0, .slice A1_1 l1_1.length c1_1] 41 (0, 0)) (Z5 BK266.out) hg (Kd.N_away HO275.out (fun _ hk => hk.1.1.2))); have n1_ := A_ (hb); have n2_ := A_ (ho); clear BK266; clear HB; clear HO275; clear HO278; clear HO281; have BK266 := n0_; have HB := n1_; have HO284 := n2_; clear n0_ n1_ n2_; clear ho hb hg hat; have q24 : ((ji10) : Int) ≤ ((l0.length : Int) : Int) := of_decide_eq_true Z13; obtain ⟨i024, hi024, _, hsz24, _⟩ := info_parts info41; have hroom24 : l0.length ≤ c0 := HC0.out; have hC24 : Kd.C k41 _ A0 l0.length l0 := HR0.out; have q024 : (0 : Int) ≤ ((ji10) : Int) := of_decide_eq_true Z13; have hcut24 := cut_from (P := Try.prog) 33 41 .i64 Try.underlying33 hi024 2 hsz24 A0 l0.length c0 (ji10) q024 q24; have hr24 := Kd.C_drop (m := ((ji10) : Int).toNat) (c := c0) hC24 (by omega) hroom24; obtain ⟨A24, hA24⟩ : ∃ A1, A1 = (if c0 = ((ji10) : Int).toNat then A0 else (A0 : Option Addr).map (·.add (((ji10) : Int).toNat * 2))) := ⟨_, rfl⟩; obtain ⟨c24, hc24⟩ : ∃ c1, c1 = c0 - ((ji10) : Int).toNat := ⟨_, rfl⟩; have hy24 : y285.length = l0.length - ((ji10) : Int).toNat := (by rw [Ny285.out, List.length_drop] <;> omega); rw [show (l0).drop ((ji10) : Int).toNat = y285 from Ny285.out.symm] at hr24; replace hr24 : Kd.C k41 _ A24 y285.length y285 := (by rw [hA24]; exact hr24); rw [← hy24, ← hA24, ← hc24] at hcut24; have HR288 := A_ hr24; have HC288 := A_ (show y285.length ≤ c24 from by rw [hy24, hc24]; exact Nat.sub_le_sub_right hroom24 _); clear hr24 hC24 hroom24 hi024 hsz24 hc24; have KY24 := A_ hy24; have KA24 := A_ hA24; clear hy24 hA24; replace q24 := eq_true q24) | ((with_reducible refine gate_callee (f := 69) rfl ?_); refine goesL_ (some 31) rfl rfl Try.func69 (by kernel_rfl) rfl #[.slice A24 y285.length c24] rfl Z3 ?_; (with_reducible refine (spec_copyStore.calls k _ _ y285 t289 _ ?side1 ?side2 A13.out).mono ?_); (case side1 => exact Z12 HR288.out); (case side2 => exact HC288.out); rintro e w25 ⟨v290, rfl, ho0, hb⟩; refine ⟨_, rfl, ?_⟩; have n0_ := A_ (Kd.N_elder' (Z20 HO284.out) (by first | exact Kd.N_base ho0 | exact Kd.S_base ho0) hb); have n1_ := A_ (Kd.N_lower (Kd.N_mono (ok' := fun k_ => (w.heap.size ≤ k_) ∧ some k_ ≠ (v283 : Value).ownBlock ∧ k_ ≠ gb266) (Kd.S_N (Kd.S_bound ho0)) (fun k_ hk_ => ⟨(Nat.le_trans (below_size (Z2 GE266.out)) hk_.2.1), (Kd.fresh' (Kd.N_lt (Z20 HO284.out)) k_ hk_.2.1), (Kd.freshB (g := gb266) (o := .cells #[.slice A1_0 l1_0.length c1_0, .slice A1_1 l1_1.length c1_1] 41 (0, 0)) (Z5 BK266.out) k_ hk_.2.1)⟩)) (below_size (Z2 GE266.out))); have n2_ := A_ (blk_below (g := gb266) (o := .cells #[.slice A1_0 l1_0.length c1_0, .slice A1_1 l1_1.length c1_1] 41 (0, 0)) (Z5 BK266.out) hb); have n3_ := A_ (below_step (Z2 GE266.out) hb); clear HO284; clear BK266; clear HB; have HO284 := n0_; have HO291 := n1_; have BK266 := n2_; have HB := n3_; clear n0_ n1_ n2_ n3_; (try clear hb); (try clear hb2); (try clear hk); (try clear hi); (try clear ho0); obtain ⟨Ao27, co27, eo27⟩ := Kd.N_slice HO291.out; subst eo27) | ((with_reducible refine gate_builtin (b := .append) (xs := #[.tmp 27, .tmp 31]) rfl ?_); at_builtin; refine Kd.N_append_rows k41 (w0 := w) w.heap.size rfl (.tmp 27) (.tmp 31) 33 41 (.agg #[(.slice none 0 0), (.slice none 0 0)]) 48 rfl Try.underlying33 info41 rfl (by decide) (by omega) v283 y282 t289 _ _ _ (fun k_ => (w.heap.size ≤ k_) ∧ k_ ≠ gb266) (fun k_ => ((fun k_ => (w.heap.size ≤ k_) ∧ k_ ≠ gb266)) k_ ∧ some k_ ≠ (v283 : Value).ownBlock) rfl rfl ?aO ?aR (fun _ hk => hk) ?aF ?aB ?aS ?aL ?_; (case aR => exact (by skip; exact Kd.N_F (Kd.N_mono (ok' := (fun k_ => ((fun k_ => (w.heap.size ≤ k_) ∧ k_ ≠ gb266)) k_ ∧ some k_ ≠ (v283 : Value).ownBlock)) (HO291.out) (fun k_ hk => ⟨⟨hk.1, hk.2.2⟩, hk.2.1⟩)))); (case aB => exact (Z2 GE266.out)); (case aF => exact Z41 GE266.out BK266.out); (case aO => exact (by (with_reducible repeat (first | apply Kd.N_alloc | apply Kd.N_drewN | apply Kd.N_drew)); exact Kd.N_mono HO284.out (fun _ hk => ⟨hk.1.1, hk.1.2⟩))); (case aS => exact (below_size (Z2 GE266.out))); (case aL => have := LMc14.out; omega); intro v293 w26 ho hb hg hat; rw [← Ny292.out] at ho; have n0_ := A_ (blk_grown (g := gb266) (o := .cells #[.slice A1_0 l1_0.length c1_0, .slice A1_1 l1_1.length c1_1] 41 (0, 0)) (Z5 BK266.out) hg (Kd.N_away HO284.out (fun _ hk => hk.1.2))); have n1_ := A_ (Kd.N_afterv (ok := (fun k_ => (w.heap.size ≤ k_) ∧ k_ ≠ gb266)) (by (with_reducible repeat (first | apply Kd.N_alloc | apply Kd.N_drewN | apply Kd.N_drew)); exact Kd.N_mono HO291.out (fun _ hk => ⟨⟨hk.1, hk.2.2⟩, hk.2.1⟩)) hg hat); have n2_ := A_ (hb); have n3_ := A_ (ho); clear BK266; clear HO291; clear HB; clear HO284; have BK266 := n0_; have HO291 := n1_; have HB := n2_; have HO294 := n3_; clear n0_ n1_ n2_ n3_; clear ho hb hg hat))
        go_ret
        exact ⟨_, by first | rfl | (simp [errW_none, errW_some] <;> rfl) | (simp only [← hji10]; first | rfl | (simp [errW_none, errW_some] <;> rfl)) | (simp [*, errW_none, errW_some] <;> rfl), by (with_reducible repeat (first | apply Kd.N_alloc | apply Kd.N_drewN | apply Kd.N_drew)); exact Kd.N_mono HO294.out (fun _ hk => hk.1), Z2 GE266.out⟩
       ·rw [if_neg c14] at H
        exact absurd H (by simp)
      ·rw [if_neg c12] at H
       exact absurd H (by simp)
     ·rw [if_neg c11] at H
      exact absurd H (by simp)
    ·replace c9 := Bool.eq_false_iff.mpr c9
     subst c9
     have H1 : ((spec_copyStore.f k (l0.drop (t267 : Int).toNat)).bind fun t299 => (if y282.length + t299.length < 2932031007402 then (some (y282 ++ t299)) else (none))) = some r := by rw [if_neg (show ¬ (false = true) by decide)] at H; exact H
     clear H
     have H := H1
     clear H1
     have c28b0 := eq_true (of_decide_eq_true Z13 : 0 ≤ t267)
     have c29b0 := eq_true (of_decide_eq_true Z13 : t267 ≤ (l0.length : Int))
     obtain ⟨y295, hy295⟩ : ∃ y_ : List (S41), y_ = (l0.drop (t267 : Int).toNat) := ⟨_, rfl⟩
     replace H : ((spec_copyStore.f k y295).bind fun t299 => (if y282.length + t299.length < 2932031007402 then (some (y282 ++ t299)) else (none))) = some r := by first | (rw [hy295]; with_reducible exact H) | (have H2_ := (Option.bind_some _ _).symm.trans H; rw [hy295]; with_reducible exact H2_) | (have H2_ := (Option.bind_some _ _).symm.trans H; with_reducible exact H2_) | with_reducible exact H | (rw [hy295]; exact H) | exact H
     have Ny295 := A_ hy295
     clear hy295
     replace H := Option.bind_eq_some_iff.mp H
     obtain ⟨t299, A300, H⟩ := H
     replace H : (if y282.length + t299.length < 2932031007402 then (some (y282 ++ t299)) else (none)) = some r := H
     have A30 := A_ A300
     clear A300
     by_cases c31 : y282.length + t299.length < 2932031007402
     ·rw [if_pos c31] at H
      have LMc31 := A_ c31
      clear c31
      obtain ⟨y302, hy302⟩ : ∃ y_ : List (S41), y_ = (y282 ++ t299) := ⟨_, rfl⟩
      replace H : (some y302) = some r := by first | (rw [hy302]; with_reducible exact H) | (have H2_ := (Option.bind_some _ _).symm.trans H; rw [hy302]; with_reducible exact H2_) | (have H2_ := (Option.bind_some _ _).symm.trans H; with_reducible exact H2_) | with_reducible exact H | (rw [hy302]; exact H) | exact H
      have Ny302 := A_ hy302
      clear hy302
      obtain rfl := Option.some.inj H
      go_enter Try.func61, Try.ntmps61
      go_wp2_with (first | ((with_reducible refine gate_dst (N := 3) rfl ?_); refine box_event ?hg (N := 3) ?hd (cs := #[.slice A1_0 l1_0.length c1_0, .slice A1_1 l1_1.length c1_1]) (t := 41) ?hr ?_; (case hd => rfl); (case hg => rfl); (case hr => exact Z26); intro gb266 hg w32 hbox hb; have n0_ := A_ (below_step Z1 hb); have n1_ := A_ (hbox); have n2_ := A_ ((by rw [hg]; exact (below_size Z1) : w.heap.size ≤ gb266)); have n3_ := A_ ((by rw [hg]; exact (below_size Z1) : w.heap.size ≤ gb266)); clear HB; have HB := n0_; have BK266 := n1_; have GW266 := n2_; have GE266 := n3_; clear n0_ n1_ n2_ n3_; clear hb hbox hg; have hcz33_0 : w32.cell? ⟨gb266, 0, none⟩ = some (.slice A1_0 l1_0.length c1_0) := (blk_cell BK266.out 0).trans rfl; have hcz33_1 : w32.cell? ⟨gb266, 1, none⟩ = some (.slice A1_1 l1_1.length c1_1) := (blk_cell BK266.out 1).trans rfl; have hfz33_0 := blk_frozen BK266.out 0; have hfz33_1 := blk_frozen BK266.out 1) | ((with_reducible refine gate_callee (f := 56) rfl ?_); refine goesL_ (some 12) rfl rfl Try.func56 (by kernel_rfl) rfl #[.slice A0 l0.length c0, .slice A1_0 l1_0.length c1_0] rfl Z3 ?_; (with_reducible refine (spec_cellAt.calls k _ _ l0 _ _ l1_0 t267 false _ ?side1 ?side2 ?side3 ?side4 A3.out).mono ?_); (case side1 => exact Z12 HR0.out); (case side2 => exact HC0.out); (case side3 => exact Z12 HR1_0.out); (case side4 => exact HC1_0.out); rintro e w' ⟨rfl, ⟨nd, rfl⟩⟩; refine ⟨_, rfl, ?_⟩; have q34 : (t267 : Int) ≤ ((l0.length : Int) : Int) := of_decide_eq_true Z13; obtain ⟨i034, hi034, _, hsz34, _⟩ := info_parts info41; have hroom34 : l0.length ≤ c0 := HC0.out; have hC34 : Kd.C k41 _ A0 l0.length l0 := HR0.out; have hcut34 := cut_to (P := Try.prog) 33 41 .i64 Try.underlying33 hi034 A0 l0.length c0 t267 (of_decide_eq_true Z13) q34 hroom34; have hr34 := Kd.C_take (m := (t267 : Int).toNat) hC34 (by omega); have hy34 : y269.length = (t267 : Int).toNat := (by rw [Ny269.out, List.length_take]; omega); rw [← Ny269.out] at hr34; rw [← hy34] at hcut34; have HR272 := A_ hr34; have HC272 := A_ (show y269.length ≤ c0 from by omega); clear hr34 hC34 hroom34 hi034 hsz34; have KY34 := A_ hy34; clear hy34; replace q34 := eq_true q34) | ((with_reducible refine gate_callee (f := 69) rfl ?_); refine goesL_ (some 18) rfl rfl Try.func69 (by kernel_rfl) rfl #[.slice A0 y269.length c0] rfl Z3 ?_; (with_reducible refine (spec_copyStore.calls k _ _ y269 t273 _ ?side1 ?side2 A6.out).mono ?_); (case side1 => repeat (first | exact (Kd.C_below HR272.out (Z2 GE266.out)) | (with_reducible refine Kd.C_alloc ?_ _) | (with_reducible refine Kd.C_drewN ?_ _) | (with_reducible refine Kd.C_drew ?_))); (case side2 => exact HC272.out); rintro e w35 ⟨v274, rfl, ho0, hb⟩; refine ⟨_, rfl, ?_⟩; have n0_ := A_ (Kd.N_lower (Kd.N_mono (ok' := fun k_ => (w.heap.size ≤ k_) ∧ k_ ≠ gb266) (Kd.S_N (Kd.S_bound ho0)) (fun k_ hk_ => ⟨(Nat.le_trans (below_size (Z2 GE266.out)) hk_.2.1), (Kd.freshB (g := gb266) (o := .cells #[.slice A1_0 l1_0.length c1_0, .slice A1_1 l1_1.length c1_1] 41 (0, 0)) (Z5 BK266.out) k_ hk_.2.1)⟩)) (below_size (Z2 GE266.out))); have n1_ := A_ (blk_below (g := gb266) (o := .cells #[.slice A1_0 l1_0.length c1_0, .slice A1_1 l1_1.length c1_1] 41 (0, 0)) (Z5 BK266.out) hb); have n2_ := A_ (below_step (Z2 GE266.out) hb); clear BK266; clear HB; have HO275 := n0_; have BK266 := n1_; have HB := n2_; clear n0_ n1_ n2_; (try clear hb); (try clear hb2); (try clear hk); (try clear hi); (try clear ho0); have hcz36_0 : w35.cell? ⟨gb266, 0, none⟩ = some (.slice A1_0 l1_0.length c1_0) := (blk_cell BK266.out 0).trans rfl; have hcz36_1 : w35.cell? ⟨gb266, 1, none⟩ = some (.slice A1_1 l1_1.length c1_1) := (blk_cell BK266.out 1).trans rfl; have hfz36_0 := blk_frozen BK266.out 0; have hfz36_1 := blk_frozen BK266.out 1) | ((with_reducible refine gate_callee (f := 53) rfl ?_); refine goesL_ (some 21) rfl rfl Try.func53 (by kernel_rfl) rfl #[.agg #[.slice A1_0 l1_0.length c1_0, .slice A1_1 l1_1.length c1_1]] rfl Z3 ?_; (with_reducible refine (spec_copyCell.calls _ _ l1_0 _ _ l1_1 t276 t279 _ ?side1 ?side2 ?side3 ?side4 A7.out).mono ?_); (case side1 => exact Z12 HR1_0.out); (case side2 => exact HC1_0.out); (case side3 => exact Z12 HR1_1.out); (case side4 => exact HC1_1.out); rintro e w37 ⟨v277, v280, rfl, ho0, ho1, hb⟩; refine ⟨_, rfl, ?_⟩; have n0_ := A_ (Kd.N_mono (Kd.N_told (Kd.N_told (Kd.N_old (Z20 HO275.out) hb) (Kd.R_base ho0)) (Kd.R_base ho1)) (fun _ h_ => h_.1)); have n1_ := A_ (Kd.R_lower (Kd.R_newM (M := fun k_ => (w.heap.size ≤ k_)) ho0 (below_size (Z2 GE266.out)) (fun k_ h_ => h_)) (below_size (Z2 GE266.out))); have n2_ := A_ (Kd.R_lower (Kd.R_newM (M := fun k_ => (w.heap.size ≤ k_)) ho1 (below_size (Z2 GE266.out)) (fun k_ h_ => h_)) (below_size (Z2 GE266.out))); have n3_ := A_ (blk_below (g := gb266) (o := .cells #[.slice A1_0 l1_0.length c1_0, .slice A1_1 l1_1.length c1_1] 41 (0, 0)) (Z5 BK266.out) hb); have n4_ := A_ (below_step (Z2 GE266.out) hb); clear HO275; clear BK266; clear HB; have HO275 := n0_; have HO278 := n1_; have HO281 := n2_; have BK266 := n3_; have HB := n4_; clear n0_ n1_ n2_ n3_ n4_; (try clear hb); (try clear hb2); (try clear hk); (try clear hi); (try clear ho0); (try clear ho1); obtain ⟨Ao39, co39, eo39⟩ := Kd.R_slice HO278.out; subst eo39; obtain ⟨Ao40, co40, eo40⟩ := Kd.R_slice HO281.out; subst eo40) | ((with_reducible refine gate_builtin (b := .append) (xs := #[.tmp 19, .tmp 22]) rfl ?_); at_builtin; refine Kd.N_append k41 (w0 := w) w.heap.size rfl (.tmp 19) (.tmp 22) 33 41 (.agg #[(.slice none 0 0), (.slice none 0 0)]) 48 rfl Try.underlying33 info41 rfl (by decide) (by omega) v274 t273 (⟨t276, t279⟩ : S41) [.slice Ao39 t276.length co39, .slice Ao40 t279.length co40] (fun k_ => (w.heap.size ≤ k_) ∧ k_ ≠ gb266) (fun k_ => ((fun k_ => (w.heap.size ≤ k_) ∧ k_ ≠ gb266)) k_ ∧ some k_ ≠ (v274 : Value).ownBlock) rfl rfl ?aP (fun _ hk => hk) ?aF ?aO ?aB ?aS ?aL ?_; (case aP => exact (k41_mkF _ _ (⟨t276, t279⟩ : S41) (Kd.R_reads' (Kd.R_mono (ok' := (fun k_ => ((fun k_ => (w.heap.size ≤ k_) ∧ k_ ≠ gb266)) k_ ∧ some k_ ≠ (v274 : Value).ownBlock)) (Kd.R_types (Kd.R_apart' (HO278.out) (Kd.N_typed HO275.out) (by decide)) BK266.out (by decide)) (fun k_ hk => ⟨⟨hk.1.1.1, hk.2⟩, hk.1.2⟩))).2.1 (Kd.R_F (Kd.R_mono (ok' := (fun k_ => ((fun k_ => (w.heap.size ≤ k_) ∧ k_ ≠ gb266)) k_ ∧ some k_ ≠ (v274 : Value).ownBlock)) (Kd.R_types (Kd.R_apart' (HO278.out) (Kd.N_typed HO275.out) (by decide)) BK266.out (by decide)) (fun k_ hk => ⟨⟨hk.1.1.1, hk.2⟩, hk.1.2⟩))) (Kd.R_reads' (Kd.R_mono (ok' := (fun k_ => ((fun k_ => (w.heap.size ≤ k_) ∧ k_ ≠ gb266)) k_ ∧ some k_ ≠ (v274 : Value).ownBlock)) (Kd.R_types (Kd.R_apart' (HO281.out) (Kd.N_typed HO275.out) (by decide)) BK266.out (by decide)) (fun k_ hk => ⟨⟨hk.1.1.1, hk.2⟩, hk.1.2⟩))).2.1 (Kd.R_F (Kd.R_mono (ok' := (fun k_ => ((fun k_ => (w.heap.size ≤ k_) ∧ k_ ≠ gb266)) k_ ∧ some k_ ≠ (v274 : Value).ownBlock)) (Kd.R_types (Kd.R_apart' (HO281.out) (Kd.N_typed HO275.out) (by decide)) BK266.out (by decide)) (fun k_ hk => ⟨⟨hk.1.1.1, hk.2⟩, hk.1.2⟩))))); (case aB => exact (Z2 GE266.out)); (case aF => exact Z41 GE266.out BK266.out); (case aO => exact (by (with_reducible repeat (first | apply Kd.N_alloc | apply Kd.N_drewN | apply Kd.N_drew)); exact Kd.N_mono HO275.out (fun _ hk => ⟨hk.1.1.1, hk.1.1.2⟩))); (case aS => exact (below_size (Z2 GE266.out))); (case aL => have := LMc8.out; omega); intro v283 w38 ho hb hg hat; rw [← Ny282.out] at ho; have n0_ := A_ (blk_grown (g := gb266) (o := .cells #[.slice A1_0 l1_0.length c1_0, .slice A1_1 l1_1.length c1_1] 41 (0, 0)) (Z5 BK266.out) hg (Kd.N_away HO275.out (fun _ hk => hk.1.1.2))); have n1_ := A_ (hb); have n2_ := A_ (ho); clear BK266; clear HB; clear HO275; clear HO278; clear HO281; have BK266 := n0_; have HB := n1_; have HO284 := n2_; clear n0_ n1_ n2_; clear ho hb hg hat; have q41 : (t267 : Int) ≤ ((l0.length : Int) : Int) := of_decide_eq_true Z13; obtain ⟨i041, hi041, _, hsz41, _⟩ := info_parts info41; have hroom41 : l0.length ≤ c0 := HC0.out; have hC41 : Kd.C k41 _ A0 l0.length l0 := HR0.out; have q041 : (0 : Int) ≤ (t267 : Int) := of_decide_eq_true Z13; have hcut41 := cut_from (P := Try.prog) 33 41 .i64 Try.underlying33 hi041 2 hsz41 A0 l0.length c0 t267 q041 q41; have hr41 := Kd.C_drop (m := (t267 : Int).toNat) (c := c0) hC41 (by omega) hroom41; obtain ⟨A41, hA41⟩ : ∃ A1, A1 = (if c0 = (t267 : Int).toNat then A0 else (A0 : Option Addr).map (·.add ((t267 : Int).toNat * 2))) := ⟨_, rfl⟩; obtain ⟨c41, hc41⟩ : ∃ c1, c1 = c0 - (t267 : Int).toNat := ⟨_, rfl⟩; have hy41 : y295.length = l0.length - (t267 : Int).toNat := (by rw [Ny295.out, List.length_drop] <;> omega); rw [show (l0).drop (t267 : Int).toNat = y295 from Ny295.out.symm] at hr41; replace hr41 : Kd.C k41 _ A41 y295.length y295 := (by rw [hA41]; exact hr41); rw [← hy41, ← hA41, ← hc41] at hcut41; have HR298 := A_ hr41; have HC298 := A_ (show y295.length ≤ c41 from by rw [hy41, hc41]; exact Nat.sub_le_sub_right hroom41 _); clear hr41 hC41 hroom41 hi041 hsz41 hc41; have KY41 := A_ hy41; have KA41 := A_ hA41; clear hy41 hA41; replace q41 := eq_true q41) | ((with_reducible refine gate_callee (f := 69) rfl ?_); refine goesL_ (some 31) rfl rfl Try.func69 (by kernel_rfl) rfl #[.slice A41 y295.length c41] rfl Z3 ?_; (with_reducible refine (spec_copyStore.calls k _ _ y295 t299 _ ?side1 ?side2 A30.out).mono ?_); (case side1 => exact Z12 HR298.out); (case side2 => exact HC298.out); rintro e w42 ⟨v300, rfl, ho0, hb⟩; refine ⟨_, rfl, ?_⟩; have n0_ := A_ (Kd.N_elder' (Z20 HO284.out) (by first | exact Kd.N_base ho0 | exact Kd.S_base ho0) hb); have n1_ := A_ (Kd.N_lower (Kd.N_mono (ok' := fun k_ => (w.heap.size ≤ k_) ∧ some k_ ≠ (v283 : Value).ownBlock ∧ k_ ≠ gb266) (Kd.S_N (Kd.S_bound ho0)) (fun k_ hk_ => ⟨(Nat.le_trans (below_size (Z2 GE266.out)) hk_.2.1), (Kd.fresh' (Kd.N_lt (Z20 HO284.out)) k_ hk_.2.1), (Kd.freshB (g := gb266) (o := .cells #[.slice A1_0 l1_0.length c1_0, .slice A1_1 l1_1.length c1_1] 41 (0, 0)) (Z5 BK266.out) k_ hk_.2.1)⟩)) (below_size (Z2 GE266.out))); have n2_ := A_ (blk_below (g := gb266) (o := .cells #[.slice A1_0 l1_0.length c1_0, .slice A1_1 l1_1.length c1_1] 41 (0, 0)) (Z5 BK266.out) hb); have n3_ := A_ (below_step (Z2 GE266.out) hb); clear HO284; clear BK266; clear HB; have HO284 := n0_; have HO301 := n1_; have BK266 := n2_; have HB := n3_; clear n0_ n1_ n2_ n3_; (try clear hb); (try clear hb2); (try clear hk); (try clear hi); (try clear ho0); obtain ⟨Ao44, co44, eo44⟩ := Kd.N_slice HO301.out; subst eo44) | ((with_reducible refine gate_builtin (b := .append) (xs := #[.tmp 27, .tmp 31]) rfl ?_); at_builtin; refine Kd.N_append_rows k41 (w0 := w) w.heap.size rfl (.tmp 27) (.tmp 31) 33 41 (.agg #[(.slice none 0 0), (.slice none 0 0)]) 48 rfl Try.underlying33 info41 rfl (by decide) (by omega) v283 y282 t299 _ _ _ (fun k_ => (w.heap.size ≤ k_) ∧ k_ ≠ gb266) (fun k_ => ((fun k_ => (w.heap.size ≤ k_) ∧ k_ ≠ gb266)) k_ ∧ some k_ ≠ (v283 : Value).ownBlock) rfl rfl ?aO ?aR (fun _ hk => hk) ?aF ?aB ?aS ?aL ?_; (case aR => exact (by skip; exact Kd.N_F (Kd.N_mono (ok' := (fun k_ => ((fun k_ => (w.heap.size ≤ k_) ∧ k_ ≠ gb266)) k_ ∧ some k_ ≠ (v283 : Value).ownBlock)) (HO301.out) (fun k_ hk => ⟨⟨hk.1, hk.2.2⟩, hk.2.1⟩)))); (case aB => exact (Z2 GE266.out)); (case aF => exact Z41 GE266.out BK266.out); (case aO => exact (by (with_reducible repeat (first | apply Kd.N_alloc | apply Kd.N_drewN | apply Kd.N_drew)); exact Kd.N_mono HO284.out (fun _ hk => ⟨hk.1.1, hk.1.2⟩))); (case aS => exact (below_size (Z2 GE266.out))); (case aL => have := LMc31.out; omega); intro v303 w43 ho hb hg hat; rw [← Ny302.out] at ho; have n0_ := A_ (blk_grown (g := gb266) (o := .cells #[.slice A1_0 l1_0.length c1_0, .slice A1_1 l1_1.length c1_1] 41 (0, 0)) (Z5 BK266.out) hg (Kd.N_away HO284.out (fun _ hk => hk.1.2))); have n1_ := A_ (Kd.N_afterv (ok := (fun k_ => (w.heap.size ≤ k_) ∧ k_ ≠ gb266)) (by (with_reducible repeat (first | apply Kd.N_alloc | apply Kd.N_drewN | apply Kd.N_drew)); exact Kd.N_mono HO301.out (fun _ hk => ⟨⟨hk.1, hk.2.2⟩, hk.2.1⟩)) hg hat); have n2_ := A_ (hb); have n3_ := A_ (ho); clear BK266; clear HO301; clear HB; clear HO284; have BK266 := n0_; have HO301 := n1_; have HB := n2_; have HO304 := n3_; clear n0_ n1_ n2_ n3_; clear ho hb hg hat))
      go_ret
      exact ⟨_, Z18, by (with_reducible repeat (first | apply Kd.N_alloc | apply Kd.N_drewN | apply Kd.N_drew)); exact Kd.N_mono HO304.out (fun _ hk => hk.1), Z2 GE266.out⟩
     ·rw [if_neg c31] at H
      exact absurd H (by simp)
   ·rw [if_neg c8] at H
    exact absurd H (by simp)
  ·rw [if_neg c5] at H
   exact absurd H (by simp)
 ·rw [if_neg c4] at H
  exact absurd H (by simp)
def spec_source_cells.l0 : Nat → List (S41) → Int → List Int → Int → Int → Option ((List (S41)) × Int × Int)
 | 0, _, _, _, _, _ => none
 | k + 1, x3, x4, x1000, x1001, x1002 => if x4 > 0 then ((spec_source_slots.f k x1000 x1001 x1002).bind fun bt311 => ((spec_source_pick.f k x1000 bt311.2.1 bt311.2.2 4).bind fun bt316 => ((spec_source_goods.f k x1000 bt316.2.1 bt316.2.2 bt316.1).bind fun bt319 => ((spec_validPlace.f k bt311.1).bind fun t325 => (if t325 = true then ((spec_put.f k x3 bt311.1 bt319.1).bind fun t326 => (spec_source_cells.l0 k t326 (wrap64 (x4 - 1)) x1000 bt319.2.1 bt319.2.2)) else (spec_source_cells.l0 k x3 (wrap64 (x4 - 1)) x1000 bt319.2.1 bt319.2.2)))))) else (some (x3, x1001, x1002))
def spec_source_cells.f (k : Nat) (s0_0 : List Int) (s0_1 : Int) (s0_2 : Int) : Option ((List (S41)) × Int × Int) := (spec_source_pick.f k s0_0 s0_1 s0_2 5).bind fun bt308 => (spec_source_cells.l0 k (([] : List (S41))) bt308.1 s0_0 bt308.2.1 bt308.2.2)
theorem spec_source_cells.mono_l : ∀ k, (∀ y0 y1 y2 y3 y4, LeO (spec_source_cells.l0 k y0 y1 y2 y3 y4) (spec_source_cells.l0 (k + 1) y0 y1 y2 y3 y4))
 | 0 => fun _ _ _ _ _ r h => by simp [spec_source_cells.l0] at h
 | k + 1 => by
  have ih0 := spec_source_cells.mono_l k
  ·intro y0 y1 y2 y3 y4
   unfold spec_source_cells.l0
   repeat' first
   | (with_reducible exact ih0 _ _ _ _ _)
   | (with_reducible exact spec_put.mono _ _ _ _)
   | (with_reducible exact spec_source_goods.mono _ _ _ _ _)
   | (with_reducible exact spec_source_pick.mono _ _ _ _ _)
   | (with_reducible exact spec_source_slots.mono _ _ _ _)
   | (with_reducible exact spec_validPlace.mono _ _)
   | (with_reducible exact LeO.refl _)
   | (with_reducible exact LeO.none _)
   | (with_reducible refine LeO.ite ?_ ?_)
   | (with_reducible refine LeO.bind ?_ (fun _ => ?_))
   | exact ih0 _ _ _ _ _
   | exact spec_put.mono _ _ _ _
   | exact spec_source_goods.mono _ _ _ _ _
   | exact spec_source_pick.mono _ _ _ _ _
   | exact spec_source_slots.mono _ _ _ _
   | exact spec_validPlace.mono _ _
   | exact LeO.none _
   | refine LeO.ite ?_ ?_
   | refine LeO.bind ?_ (fun _ => ?_)
theorem spec_source_cells.mono : ∀ a0 a1 a2 k, LeO (spec_source_cells.f k a0 a1 a2) (spec_source_cells.f (k + 1) a0 a1 a2) := by
 intro a0 a1 a2 k
 have ih0 := spec_source_cells.mono_l k
 unfold spec_source_cells.f
 repeat' first
   | (with_reducible exact ih0 _ _ _ _ _)
   | (with_reducible exact spec_put.mono _ _ _ _)
   | (with_reducible exact spec_source_goods.mono _ _ _ _ _)
   | (with_reducible exact spec_source_pick.mono _ _ _ _ _)
   | (with_reducible exact spec_source_slots.mono _ _ _ _)
   | (with_reducible exact spec_validPlace.mono _ _)
   | (with_reducible exact LeO.refl _)
   | (with_reducible exact LeO.none _)
   | (with_reducible refine LeO.ite ?_ ?_)
   | (with_reducible refine LeO.bind ?_ (fun _ => ?_))
   | exact ih0 _ _ _ _ _
   | exact spec_put.mono _ _ _ _
   | exact spec_source_goods.mono _ _ _ _ _
   | exact spec_source_pick.mono _ _ _ _ _
   | exact spec_source_slots.mono _ _ _ _
   | exact spec_validPlace.mono _ _
   | exact LeO.none _
   | refine LeO.ite ?_ ?_
   | refine LeO.bind ?_ (fun _ => ?_)
set_option maxHeartbeats 8000000 in
set_option maxRecDepth 100000 in
theorem spec_source_cells.calls (k : Nat) (g : Nat) (s0_0 : List Int) (s0_1 : Int) (s0_2 : Int) (r1 : List (S41)) (r2 : Int) (r3 : Int) (w0 w : World) (hI : IsS77 w0 w g s0_0 s0_1 s0_2) (hB : Below w0.heap.size w0 w) (h : spec_source_cells.f k s0_0 s0_1 s0_2 = some (r1, r2, r3)) :
  Calls Try.prog 42 #[.pointer (some ⟨g, 0, none⟩)] w fun e w' => ∃ v0_ : Value, e = .returned (v0_) ∧ Kd.N k41 41 w' w.heap.size (fun k_ => (w.heap.size ≤ k_)) v0_ r1 ∧ IsS77 w0 w' g s0_0 r2 r3 ∧ Below w0.heap.size w0 w' ∧ KeepBut w w' g none := by
 have hu41 := Try.underlying41
 have HI0 := A_ hI
 have HK := A_ (KeepBut.refl w g none)
 have HL := A_ hB.size
 clear hI
 have HW0 := A_ hB.size
 have HB := A_ hB
 clear hB
 have H : ((spec_source_pick.f k s0_0 s0_1 s0_2 5).bind fun bt308 => (spec_source_cells.l0 k (([] : List (S41))) bt308.1 s0_0 bt308.2.1 bt308.2.2)) = some (r1, r2, r3) := h
 clear h
 obtain ⟨y305, hy305⟩ : ∃ y_ : List (S41), y_ = (([] : List (S41))) := ⟨_, rfl⟩
 replace H : ((spec_source_pick.f k s0_0 s0_1 s0_2 5).bind fun bt308 => (spec_source_cells.l0 k y305 bt308.1 s0_0 bt308.2.1 bt308.2.2)) = some (r1, r2, r3) := by first | (rw [hy305]; with_reducible exact H) | (have H2_ := (Option.bind_some _ _).symm.trans H; rw [hy305]; with_reducible exact H2_) | (have H2_ := (Option.bind_some _ _).symm.trans H; with_reducible exact H2_) | with_reducible exact H | (rw [hy305]; exact H) | exact H
 have Ny305 := A_ hy305
 clear hy305
 replace H := Option.bind_eq_some_iff.mp H
 obtain ⟨⟨t308, t309, t310⟩, A20, H⟩ := H
 replace H : (spec_source_cells.l0 k y305 t308 s0_0 t309 t310) = some (r1, r2, r3) := H
 have A2 := A_ A20
 clear A20
 have H' := A_ H
 clear H
 go_enter Try.func42, Try.ntmps42
 go_wp2_with (first | ((with_reducible refine gate_dst (N := 6) rfl ?_); refine Kd.N_lit k41 _ 41 ?hg (N' := 6) ?hd (xs := ([] : List (S41))) (inner := []) (ok := (fun k_ => (w.heap.size ≤ k_) ∧ k_ ≠ g)) (okp := (fun k_ => (w.heap.size ≤ k_) ∧ k_ ≠ g)) ?hr ?hp (fun _ hk => hk) ((show ∀ k_, w.heap.size ≤ k_ → (fun k_ => (w.heap.size ≤ k_) ∧ k_ ≠ g) k_ from fun k_ hk => ⟨(Nat.le_trans (keep_size (w := w) (g := g) (row := none) Z6) hk), IsS77.fresh (Z11 HI0.out) k_ hk⟩) _ (Nat.le_refl _)) (Below.refl _ _) (Nat.le_refl _) (by simp) ?_; (case hd => rfl); (case hg => rfl); (case hr => exact Z26); (case hp => exact (Reps.none _ _)); intro v306 w3 ho4 hb hg_ hnew_; clear hg_ hnew_; (first | rw [← Ny305.out] at ho4 | (simp only [Int.reduceToNat] at ho4; rw [← Ny305.out] at ho4)); have n0_ := A_ (Kd.N_lower ho4 (keep_size (w := w) (g := g) (row := none) Z6)); have n1_ := A_ (IsS77.below (Z11 HI0.out) hb); have n2_ := A_ (KeepBut.trans Z6 (KeepBut.of_below hb g none) (.inl rfl)); have n3_ := A_ (below_step (Z4 HI0.out) hb); clear HI0; clear HK; clear HB; have HO307 := n0_; have HI0 := n1_; have HK := n2_; have HB := n3_; clear n0_ n1_ n2_ n3_; clear hb ho4) | ((with_reducible refine gate_callee (f := 38) rfl ?_); refine goesL_ (some 8) rfl rfl Try.func38 (by kernel_rfl) rfl #[.pointer (some ⟨g, 0, none⟩), .int .i64 5] rfl Z3 ?_; (with_reducible refine (spec_source_pick.calls k g s0_0 s0_1 s0_2 5 t308 t309 t310 w0 _ ?side1 ?side2 A2.out).mono ?_); (case side1 => exact Z11 HI0.out); (case side2 => exact Z4 HI0.out); rintro e w5 ⟨rfl, hi, hb, hk⟩; refine ⟨_, rfl, ?_⟩; have n0_ := A_ (Kd.N_mono (Kd.N_keep (Kd.N_mono (ok := fun k_ => (((w.heap.size ≤ k_)) ∧ k_ ≠ g)) (Z20 HO307.out) (fun k_ hk_ => (⟨hk_, hk_.2⟩ : _ ∧ k_ ≠ g))) hk (fun _ h => h.2)) (fun _ h => h.1)); have n1_ := A_ (KeepBut.trans Z6 hk (.inl rfl)); have n2_ := A_ (hb); have n3_ := A_ (hi); clear HO307; clear HK; clear HB; clear HI0; have HO307 := n0_; have HK := n1_; have HB := n2_; have HI0 := n3_; clear n0_ n1_ n2_ n3_; (try clear hb); (try clear hb2); (try clear hk); (try clear hi)))
 go_loopg [3, 4] k (fun kq v3 v4 w' => ∃ (x3_1 : List (S41)) (x4_1 : Int) (x1001_1 : Int) (x1002_1 : Int), v4 = .int .i64 x4_1 ∧ Aside0 (spec_source_cells.l0 kq x3_1 x4_1 s0_0 x1001_1 x1002_1 = some (r1, r2, r3)) ∧ Aside0 (kq ≤ k) ∧ Aside0 (Kd.N k41 41 w' w.heap.size (fun k_ => (w.heap.size ≤ k_) ∧ k_ ≠ g) v3 x3_1) ∧ Aside0 (IsS77 w0 w' g s0_0 x1001_1 x1002_1) ∧ Aside0 (KeepBut w w' g none) ∧ Aside0 (Below w0.heap.size w0 w'))
 case atStart => exact ⟨(y305), (t308), (t309), (t310), Z22, H', ⟨Nat.le_refl _⟩, ⟨Z20 HO307.out⟩, ⟨Z11 HI0.out⟩, ⟨Z6⟩, ⟨Z4 HI0.out⟩⟩
 case round =>
  clear H'
  try clear p2
  try clear c3
  try clear c4
  obtain ⟨x3_1, x4_1, x1001_1, x1002_1, rfl, HA, HK1, HO_3, HI0, HK, HB⟩ := hrel
  cases gk with
  | zero => exact absurd HA.out (by simp [spec_source_cells.l0])
  | succ k1 =>
   have H := HA.out
   clear HA
   simp only [spec_source_cells.l0] at H
   by_cases c6 : x4_1 > 0
   ·rw [if_pos c6] at H
    have c6b0 : decide (0 < x4_1) = true := decide_eq_true c6
    clear c6
    replace H := Option.bind_eq_some_iff.mp H
    obtain ⟨⟨t311, t314, t315⟩, A70, H⟩ := H
    replace H : ((spec_source_pick.f k1 s0_0 t314 t315 4).bind fun bt316 => ((spec_source_goods.f k1 s0_0 bt316.2.1 bt316.2.2 bt316.1).bind fun bt319 => ((spec_validPlace.f k1 t311).bind fun t325 => (if t325 = true then ((spec_put.f k1 x3_1 t311 bt319.1).bind fun t326 => (spec_source_cells.l0 k1 t326 (wrap64 (x4_1 - 1)) s0_0 bt319.2.1 bt319.2.2)) else (spec_source_cells.l0 k1 x3_1 (wrap64 (x4_1 - 1)) s0_0 bt319.2.1 bt319.2.2))))) = some (r1, r2, r3) := H
    have A7 := A_ A70
    clear A70
    replace H := Option.bind_eq_some_iff.mp H
    obtain ⟨⟨t316, t317, t318⟩, A80, H⟩ := H
    replace H : ((spec_source_goods.f k1 s0_0 t317 t318 t316).bind fun bt319 => ((spec_validPlace.f k1 t311).bind fun t325 => (if t325 = true then ((spec_put.f k1 x3_1 t311 bt319.1).bind fun t326 => (spec_source_cells.l0 k1 t326 (wrap64 (x4_1 - 1)) s0_0 bt319.2.1 bt319.2.2)) else (spec_source_cells.l0 k1 x3_1 (wrap64 (x4_1 - 1)) s0_0 bt319.2.1 bt319.2.2)))) = some (r1, r2, r3) := H
    have A8 := A_ A80
    clear A80
    replace H := Option.bind_eq_some_iff.mp H
    obtain ⟨⟨t319, t322, t323⟩, A90, H⟩ := H
    replace H : ((spec_validPlace.f k1 t311).bind fun t325 => (if t325 = true then ((spec_put.f k1 x3_1 t311 t319).bind fun t326 => (spec_source_cells.l0 k1 t326 (wrap64 (x4_1 - 1)) s0_0 t322 t323)) else (spec_source_cells.l0 k1 x3_1 (wrap64 (x4_1 - 1)) s0_0 t322 t323))) = some (r1, r2, r3) := H
    have A9 := A_ A90
    clear A90
    replace H := Option.bind_eq_some_iff.mp H
    obtain ⟨t325, A100, H⟩ := H
    replace H : (if t325 = true then ((spec_put.f k1 x3_1 t311 t319).bind fun t326 => (spec_source_cells.l0 k1 t326 (wrap64 (x4_1 - 1)) s0_0 t322 t323)) else (spec_source_cells.l0 k1 x3_1 (wrap64 (x4_1 - 1)) s0_0 t322 t323)) = some (r1, r2, r3) := H
    have A10 := A_ A100
    clear A100
    by_cases c11 : t325 = true
    ·subst c11
     have H1 : ((spec_put.f k1 x3_1 t311 t319).bind fun t326 => (spec_source_cells.l0 k1 t326 (wrap64 (x4_1 - 1)) s0_0 t322 t323)) = some (r1, r2, r3) := by rw [if_pos rfl] at H; exact H
     clear H
     have H := H1
     clear H1
     replace H := Option.bind_eq_some_iff.mp H
     obtain ⟨t326, A120, H⟩ := H
     replace H : (spec_source_cells.l0 k1 t326 (wrap64 (x4_1 - 1)) s0_0 t322 t323) = some (r1, r2, r3) := H
     have A12 := A_ A120
     clear A120
     have H' := A_ H
     clear H
     go_wp2_with (first | ((with_reducible refine gate_callee (f := 55) rfl ?_); refine goesL_ (some 14) rfl rfl Try.func55 (by kernel_rfl) rfl #[.pointer (some ⟨g, 0, none⟩)] rfl Z3 ?_; (with_reducible refine (spec_source_slots.calls k1 g s0_0 x1001_1 x1002_1 t311 t314 t315 w0 _ ?side1 ?side2 A7.out).mono ?_); (case side1 => exact Z11 HI0.out); (case side2 => exact Z4 HI0.out); rintro e w13 ⟨v312, rfl, ho0, hi, hb, hk⟩; refine ⟨_, rfl, ?_⟩; have n0_ := A_ (Kd.N_mono (Kd.N_told (Kd.N_oldK (Kd.N_mono (ok := fun k_ => (((w.heap.size ≤ k_)) ∧ k_ ≠ g)) (Z20 HO_3.out) (fun k_ hk_ => (⟨hk_, hk_.2⟩ : _ ∧ k_ ≠ g))) hk) (Kd.R_base ho0)) (fun _ h_ => h_.1)); have n1_ := A_ (Kd.R_lower (Kd.R_newM (M := fun k_ => (w.heap.size ≤ k_)) ho0 (keep_size (w := w) (g := g) (row := none) Z6) (fun k_ h_ => h_)) (keep_size (w := w) (g := g) (row := none) Z6)); have n2_ := A_ (KeepBut.trans Z6 hk (.inl rfl)); have n3_ := A_ (hb); have n4_ := A_ (hi); clear HO_3; clear HK; clear HB; clear HI0; have HO_3 := n0_; have HO313 := n1_; have HK := n2_; have HB := n3_; have HI0 := n4_; clear n0_ n1_ n2_ n3_ n4_; (try clear hb); (try clear hb2); (try clear hk); (try clear hi); (try clear ho0)) | ((with_reducible refine gate_callee (f := 38) rfl ?_); refine goesL_ (some 17) rfl rfl Try.func38 (by kernel_rfl) rfl #[.pointer (some ⟨g, 0, none⟩), .int .i64 4] rfl Z3 ?_; (with_reducible refine (spec_source_pick.calls k1 g s0_0 t314 t315 4 t316 t317 t318 w0 _ ?side1 ?side2 A8.out).mono ?_); (case side1 => exact Z11 HI0.out); (case side2 => exact Z4 HI0.out); rintro e w14 ⟨rfl, hi, hb, hk⟩; refine ⟨_, rfl, ?_⟩; have n0_ := A_ (Kd.N_mono (Kd.N_keep (Kd.N_mono (ok := fun k_ => ((((w.heap.size ≤ k_)) ∧ k_ ≠ g) ∧ some k_ ≠ (v312 : Value).ownBlock)) (Z20 HO_3.out) (fun k_ hk_ => (⟨hk_, hk_.1.2⟩ : _ ∧ k_ ≠ g))) hk (fun _ h => h.2)) (fun _ h => h.1)); have n1_ := A_ (Kd.R_mono (Kd.R_keep (IsS77.apart (show IsS77 w0 _ g s0_0 t314 t315 from by repeat (first | (with_reducible first | exact HI0.out | apply IsS77.alloc | apply IsS77.drewN | apply IsS77.drew | apply IsS77.set_1 | apply IsS77.set_2) | exact HI0.out)) (Z14 HO313.out) (by decide)) hk (fun _ h => h.2)) (fun _ h => h.1)); have n2_ := A_ (KeepBut.trans Z6 hk (.inl rfl)); have n3_ := A_ (hb); have n4_ := A_ (hi); clear HO_3; clear HO313; clear HK; clear HB; clear HI0; have HO_3 := n0_; have HO313 := n1_; have HK := n2_; have HB := n3_; have HI0 := n4_; clear n0_ n1_ n2_ n3_ n4_; (try clear hb); (try clear hb2); (try clear hk); (try clear hi)) | ((with_reducible refine gate_callee (f := 59) rfl ?_); refine goesL_ (some 18) rfl rfl Try.func59 (by kernel_rfl) rfl #[.pointer (some ⟨g, 0, none⟩), .int .i64 t316] rfl Z3 ?_; (with_reducible refine (spec_source_goods.calls k1 g s0_0 t317 t318 t316 t319 t322 t323 w0 _ ?side1 ?side2 A9.out).mono ?_); (case side1 => exact Z11 HI0.out); (case side2 => exact Z4 HI0.out); rintro e w15 ⟨v320, rfl, ho0, hi, hb, hk⟩; refine ⟨_, rfl, ?_⟩; have n0_ := A_ (Kd.N_mono (Kd.N_told (Kd.N_oldK (Kd.N_mono (ok := fun k_ => ((((w.heap.size ≤ k_)) ∧ k_ ≠ g) ∧ some k_ ≠ (v312 : Value).ownBlock)) (Z20 HO_3.out) (fun k_ hk_ => (⟨hk_, hk_.1.2⟩ : _ ∧ k_ ≠ g))) hk) (Kd.R_base ho0)) (fun _ h_ => h_.1)); have n1_ := A_ (Kd.R_mono (Kd.R_keep (IsS77.apart (show IsS77 w0 _ g s0_0 t317 t318 from by repeat (first | (with_reducible first | exact HI0.out | apply IsS77.alloc | apply IsS77.drewN | apply IsS77.drew | apply IsS77.set_1 | apply IsS77.set_2) | exact HI0.out)) (Z14 HO313.out) (by decide)) hk (fun _ h => h.2)) (fun _ h => h.1)); have n2_ := A_ (Kd.R_lower (Kd.R_newM (M := fun k_ => (w.heap.size ≤ k_)) ho0 (keep_size (w := w) (g := g) (row := none) Z6) (fun k_ h_ => h_)) (keep_size (w := w) (g := g) (row := none) Z6)); have n3_ := A_ (KeepBut.trans Z6 hk (.inl rfl)); have n4_ := A_ (hb); have n5_ := A_ (hi); clear HO_3; clear HO313; clear HK; clear HB; clear HI0; have HO_3 := n0_; have HO313 := n1_; have HO321 := n2_; have HK := n3_; have HB := n4_; have HI0 := n5_; clear n0_ n1_ n2_ n3_ n4_ n5_; (try clear hb); (try clear hb2); (try clear hk); (try clear hi); (try clear ho0); obtain ⟨Ao16, co16, eo16⟩ := Kd.R_slice HO321.out; subst eo16; obtain ⟨Ao17, co17, eo17⟩ := Kd.R_slice HO313.out; subst eo17) | ((with_reducible refine gate_dst (N := 5) rfl ?_); refine box_event ?hg (N := 5) ?hd (cs := #[.slice none 0 0, .slice none 0 0]) (t := 41) ?hr ?_; (case hd => rfl); (case hg => rfl); (case hr => exact Z26); intro gb324 hg w18 hbox hb; have n0_ := A_ (Kd.N_below (Kd.N_elderB (Z20 HO_3.out) gb324 (Nat.le_of_eq hg.symm)) hb); have n1_ := A_ (Kd.R_below (Z14 HO313.out) hb); have n2_ := A_ (Kd.R_below (Z14 HO321.out) hb); have n3_ := A_ (IsS77.below (Z11 HI0.out) hb); have n4_ := A_ (KeepBut.trans Z6 (KeepBut.of_below hb g none) (.inl rfl)); have n5_ := A_ (below_step (Z4 HI0.out) hb); have n6_ := A_ (hbox); have n7_ := A_ ((by rw [hg]; exact (keep_size (w := w) (g := g) (row := none) Z6) : w.heap.size ≤ gb324)); have n8_ := A_ ((Nat.le_trans HW0.out (by rw [hg]; exact (keep_size (w := w) (g := g) (row := none) Z6) : w.heap.size ≤ gb324) : w0.heap.size ≤ gb324)); have n9_ := A_ ((by rw [hg]; exact Nat.ne_of_lt (IsS77.lt (show IsS77 w0 _ g s0_0 t322 t323 from by repeat (first | (with_reducible first | exact HI0.out | apply IsS77.alloc | apply IsS77.drewN | apply IsS77.drew | apply IsS77.set_1 | apply IsS77.set_2) | exact HI0.out))) : g ≠ gb324)); have n10_ := A_ ((by rw [hg]; exact Nat.ne_of_gt (IsS77.lt (show IsS77 w0 _ g s0_0 t322 t323 from by repeat (first | (with_reducible first | exact HI0.out | apply IsS77.alloc | apply IsS77.drewN | apply IsS77.drew | apply IsS77.set_1 | apply IsS77.set_2) | exact HI0.out))) : gb324 ≠ g)); clear HO_3; clear HO313; clear HO321; clear HI0; clear HK; clear HB; have HO_3 := n0_; have HO313 := n1_; have HO321 := n2_; have HI0 := n3_; have HK := n4_; have HB := n5_; have BK324 := n6_; have GW324 := n7_; have GE324 := n8_; have NB0_324 := n9_; have NB324_0 := n10_; clear n0_ n1_ n2_ n3_ n4_ n5_ n6_ n7_ n8_ n9_ n10_; clear hb hbox hg; have hnb19 := NB324_0.out; have hnc19 := NB0_324.out; have hcz20_0 : w18.cell? ⟨gb324, 0, none⟩ = some (.slice none 0 0) := (blk_cell BK324.out 0).trans rfl; have hcz20_1 : w18.cell? ⟨gb324, 1, none⟩ = some (.slice none 0 0) := (blk_cell BK324.out 1).trans rfl; have hfz20_0 := blk_frozen BK324.out 0; have hfz20_1 := blk_frozen BK324.out 1) | ((with_reducible refine gate_callee (f := 51) rfl ?_); refine goesL_ (some 22) rfl rfl Try.func51 (by kernel_rfl) rfl #[.slice Ao17 t311.length co17] rfl Z3 ?_; (with_reducible refine (spec_validPlace.calls k1 _ _ t311 true _ ?side1 ?side2 A10.out).mono ?_); (case side1 => refine (Kd.R_reads' (e := 68) (base := w.heap.size) (ok := fun k_ => ((w.heap.size ≤ k_) ∧ True)) (n := t311.length) (c := co17) ?_).2.2; exact (by (with_reducible repeat (first | apply Kd.R_alloc | apply Kd.R_drewN | apply Kd.R_drew)); exact (Kd.R_mono (Kd.R_far (p := ⟨gb324, 1, none⟩) (Kd.R_far (p := ⟨gb324, 0, none⟩) (Kd.R_types HO313.out BK324.out (by decide)) (fun _ hk => hk.2) (.slice Ao17 t311.length co17)) (fun _ hk => hk.2) (.slice Ao16 t319.length co16)) (fun _ h_ => h_.1)))); (case side2 => exact (Kd.R_reads' HO313.out).2.1); rintro e w21 ⟨rfl, hb⟩; refine ⟨_, rfl, ?_⟩; have n0_ := A_ (Kd.N_below (by (with_reducible repeat (first | apply Kd.N_alloc | apply Kd.N_drewN | apply Kd.N_drew)); exact (Kd.N_mono (Kd.N_far (p := ⟨gb324, 1, none⟩) (Kd.N_far (p := ⟨gb324, 0, none⟩) (Kd.N_mono HO_3.out (fun k_ hk => (⟨hk, hk.2⟩ : _ ∧ k_ ≠ gb324))) (fun _ hk => hk.2) (.slice Ao17 t311.length co17)) (fun _ hk => hk.2) (.slice Ao16 t319.length co16)) (fun _ h_ => h_.1))) hb); have n1_ := A_ (Kd.R_below (by (with_reducible repeat (first | apply Kd.R_alloc | apply Kd.R_drewN | apply Kd.R_drew)); exact (Kd.R_mono (Kd.R_far (p := ⟨gb324, 1, none⟩) (Kd.R_far (p := ⟨gb324, 0, none⟩) (Kd.R_types HO313.out BK324.out (by decide)) (fun _ hk => hk.2) (.slice Ao17 t311.length co17)) (fun _ hk => hk.2) (.slice Ao16 t319.length co16)) (fun _ h_ => h_.1))) hb); have n2_ := A_ (Kd.R_below (by (with_reducible repeat (first | apply Kd.R_alloc | apply Kd.R_drewN | apply Kd.R_drew)); exact (Kd.R_mono (Kd.R_far (p := ⟨gb324, 1, none⟩) (Kd.R_far (p := ⟨gb324, 0, none⟩) (Kd.R_types HO321.out BK324.out (by decide)) (fun _ hk => hk.2) (.slice Ao17 t311.length co17)) (fun _ hk => hk.2) (.slice Ao16 t319.length co16)) (fun _ h_ => h_.1))) hb); have n3_ := A_ (IsS77.below (show IsS77 w0 ((w18.setCell ⟨gb324, 0, none⟩ (.slice Ao17 t311.length co17)).setCell ⟨gb324, 1, none⟩ (.slice Ao16 t319.length co16)) g s0_0 t322 t323 from by repeat (first | (with_reducible first | exact HI0.out | apply IsS77.alloc | apply IsS77.drewN | apply IsS77.drew | apply IsS77.set_1 | apply IsS77.set_2 | refine IsS77.far ?_ NB0_324.out _) | exact HI0.out)) hb); have n4_ := A_ (blk_below (g := gb324) (o := .cells #[.slice Ao17 t311.length co17, .slice Ao16 t319.length co16] 41 (0, 0)) (by (with_reducible repeat (first | refine blk_drewN ?_ _ | refine blk_drew ?_ | refine blk_alloc ?_ _)); refine blk_put (cs := #[.slice Ao17 t311.length co17, .slice none 0 0]) ?_ 1 _ rfl; (with_reducible repeat (first | refine blk_drewN ?_ _ | refine blk_drew ?_ | refine blk_alloc ?_ _)); refine blk_put (cs := #[.slice none 0 0, .slice none 0 0]) ?_ 0 _ rfl; (with_reducible repeat (first | refine blk_drewN ?_ _ | refine blk_drew ?_ | refine blk_alloc ?_ _)); exact BK324.out) hb); have n5_ := A_ (KeepBut.trans (Z19 GW324.out) (KeepBut.of_below hb g none) (.inl rfl)); have n6_ := A_ (below_step (Z21 HI0.out GE324.out) hb); clear HO_3; clear HO313; clear HO321; clear HI0; clear BK324; clear HK; clear HB; have HO_3 := n0_; have HO313 := n1_; have HO321 := n2_; have HI0 := n3_; have BK324 := n4_; have HK := n5_; have HB := n6_; clear n0_ n1_ n2_ n3_ n4_ n5_ n6_; (try clear hb); (try clear hb2); (try clear hk); (try clear hi); have hcz22_0 : w21.cell? ⟨gb324, 0, none⟩ = some (.slice Ao17 t311.length co17) := (blk_cell BK324.out 0).trans rfl; have hcz22_1 : w21.cell? ⟨gb324, 1, none⟩ = some (.slice Ao16 t319.length co16) := (blk_cell BK324.out 1).trans rfl; have hfz22_0 := blk_frozen BK324.out 0; have hfz22_1 := blk_frozen BK324.out 1; obtain ⟨Ao23, co23, eo23⟩ := Kd.N_slice HO_3.out; subst eo23) | ((with_reducible refine gate_callee (f := 61) rfl ?_); refine goesL_ (some 25) rfl rfl Try.func61 (by kernel_rfl) rfl #[.slice Ao23 x3_1.length co23, .agg #[.slice Ao17 t311.length co17, .slice Ao16 t319.length co16]] rfl Z3 ?_; (with_reducible refine (spec_put.calls k1 _ _ x3_1 _ _ t311 _ _ t319 t326 _ ?side1 ?side2 ?side3 ?side4 ?side5 ?side6 A12.out).mono ?_); (case side1 => exact Z28 HO_3.out); (case side2 => exact (Kd.N_reads' HO_3.out).2.1); (case side3 => exact Z27 HO313.out); (case side4 => exact (Kd.R_reads' HO313.out).2.1); (case side5 => exact Z27 HO321.out); (case side6 => exact (Kd.R_reads' HO321.out).2.1); rintro e w24 ⟨v327, rfl, ho0, hb⟩; refine ⟨_, rfl, ?_⟩; have n0_ := A_ (Kd.N_elder' (Z20 HO_3.out) (by first | exact Kd.N_base ho0 | exact Kd.S_base ho0) hb); have n1_ := A_ (Kd.R_below (Z14 HO313.out) hb); have n2_ := A_ (Kd.R_below (Z14 HO321.out) hb); have n3_ := A_ (Kd.N_lower (Kd.N_mono (ok' := fun k_ => (w.heap.size ≤ k_) ∧ some k_ ≠ (.slice Ao23 x3_1.length co23 : Value).ownBlock ∧ some k_ ≠ (.slice Ao17 t311.length co17 : Value).ownBlock ∧ some k_ ≠ (.slice Ao16 t319.length co16 : Value).ownBlock ∧ k_ ≠ gb324 ∧ k_ ≠ g) ho0 (fun k_ hk_ => ⟨(Nat.le_trans (keep_size (w := w) (g := g) (row := none) (Z19 GW324.out)) hk_), (Kd.fresh' (Kd.N_lt (Z20 HO_3.out)) k_ hk_), (Kd.fresh' (Kd.R_lt (Z14 HO313.out)) k_ hk_), (Kd.fresh' (Kd.R_lt (Z14 HO321.out)) k_ hk_), (Kd.freshB (g := gb324) (o := .cells #[.slice Ao17 t311.length co17, .slice Ao16 t319.length co16] 41 (0, 0)) (Z5 BK324.out) k_ hk_), (IsS77.fresh (Z23 HI0.out NB0_324.out) k_ hk_)⟩)) (keep_size (w := w) (g := g) (row := none) (Z19 GW324.out))); have n4_ := A_ (IsS77.below (Z23 HI0.out NB0_324.out) hb); have n5_ := A_ (blk_below (g := gb324) (o := .cells #[.slice Ao17 t311.length co17, .slice Ao16 t319.length co16] 41 (0, 0)) (Z5 BK324.out) hb); have n6_ := A_ (KeepBut.trans (Z19 GW324.out) (KeepBut.of_below hb g none) (.inl rfl)); have n7_ := A_ (below_step (Z21 HI0.out GE324.out) hb); clear HO_3; clear HO313; clear HO321; clear HI0; clear BK324; clear HK; clear HB; have HO_3 := n0_; have HO313 := n1_; have HO321 := n2_; have HO328 := n3_; have HI0 := n4_; have BK324 := n5_; have HK := n6_; have HB := n7_; clear n0_ n1_ n2_ n3_ n4_ n5_ n6_ n7_; (try clear hb); (try clear hb2); (try clear hk); (try clear hi); (try clear ho0)))
     go_roundg k1
     case measure => have := HK1.out; omega
     case rel => exact ⟨(t326), (wrap64 (x4_1 - 1)), (t322), (t323), Z22, H', ⟨by have := HK1.out; omega⟩, ⟨by (with_reducible repeat (first | apply Kd.N_alloc | apply Kd.N_drewN | apply Kd.N_drew)); exact Kd.N_mono HO328.out (fun _ hk => ⟨hk.1, hk.2.2.2.2.2⟩)⟩, ⟨Z23 HI0.out NB0_324.out⟩, ⟨Z19 GW324.out⟩, ⟨Z21 HI0.out GE324.out⟩⟩
    ·replace c11 := Bool.eq_false_iff.mpr c11
     subst c11
     have H1 : (spec_source_cells.l0 k1 x3_1 (wrap64 (x4_1 - 1)) s0_0 t322 t323) = some (r1, r2, r3) := by rw [if_neg (show ¬ (false = true) by decide)] at H; exact H
     clear H
     have H := H1
     clear H1
     have H' := A_ H
     clear H
     go_wp2_with (first | ((with_reducible refine gate_callee (f := 55) rfl ?_); refine goesL_ (some 14) rfl rfl Try.func55 (by kernel_rfl) rfl #[.pointer (some ⟨g, 0, none⟩)] rfl Z3 ?_; (with_reducible refine (spec_source_slots.calls k1 g s0_0 x1001_1 x1002_1 t311 t314 t315 w0 _ ?side1 ?side2 A7.out).mono ?_); (case side1 => exact Z11 HI0.out); (case side2 => exact Z4 HI0.out); rintro e w25 ⟨v312, rfl, ho0, hi, hb, hk⟩; refine ⟨_, rfl, ?_⟩; have n0_ := A_ (Kd.N_mono (Kd.N_told (Kd.N_oldK (Kd.N_mono (ok := fun k_ => (((w.heap.size ≤ k_)) ∧ k_ ≠ g)) (Z20 HO_3.out) (fun k_ hk_ => (⟨hk_, hk_.2⟩ : _ ∧ k_ ≠ g))) hk) (Kd.R_base ho0)) (fun _ h_ => h_.1)); have n1_ := A_ (Kd.R_lower (Kd.R_newM (M := fun k_ => (w.heap.size ≤ k_)) ho0 (keep_size (w := w) (g := g) (row := none) Z6) (fun k_ h_ => h_)) (keep_size (w := w) (g := g) (row := none) Z6)); have n2_ := A_ (KeepBut.trans Z6 hk (.inl rfl)); have n3_ := A_ (hb); have n4_ := A_ (hi); clear HO_3; clear HK; clear HB; clear HI0; have HO_3 := n0_; have HO313 := n1_; have HK := n2_; have HB := n3_; have HI0 := n4_; clear n0_ n1_ n2_ n3_ n4_; (try clear hb); (try clear hb2); (try clear hk); (try clear hi); (try clear ho0)) | ((with_reducible refine gate_callee (f := 38) rfl ?_); refine goesL_ (some 17) rfl rfl Try.func38 (by kernel_rfl) rfl #[.pointer (some ⟨g, 0, none⟩), .int .i64 4] rfl Z3 ?_; (with_reducible refine (spec_source_pick.calls k1 g s0_0 t314 t315 4 t316 t317 t318 w0 _ ?side1 ?side2 A8.out).mono ?_); (case side1 => exact Z11 HI0.out); (case side2 => exact Z4 HI0.out); rintro e w26 ⟨rfl, hi, hb, hk⟩; refine ⟨_, rfl, ?_⟩; have n0_ := A_ (Kd.N_mono (Kd.N_keep (Kd.N_mono (ok := fun k_ => ((((w.heap.size ≤ k_)) ∧ k_ ≠ g) ∧ some k_ ≠ (v312 : Value).ownBlock)) (Z20 HO_3.out) (fun k_ hk_ => (⟨hk_, hk_.1.2⟩ : _ ∧ k_ ≠ g))) hk (fun _ h => h.2)) (fun _ h => h.1)); have n1_ := A_ (Kd.R_mono (Kd.R_keep (IsS77.apart (show IsS77 w0 _ g s0_0 t314 t315 from by repeat (first | (with_reducible first | exact HI0.out | apply IsS77.alloc | apply IsS77.drewN | apply IsS77.drew | apply IsS77.set_1 | apply IsS77.set_2) | exact HI0.out)) (Z14 HO313.out) (by decide)) hk (fun _ h => h.2)) (fun _ h => h.1)); have n2_ := A_ (KeepBut.trans Z6 hk (.inl rfl)); have n3_ := A_ (hb); have n4_ := A_ (hi); clear HO_3; clear HO313; clear HK; clear HB; clear HI0; have HO_3 := n0_; have HO313 := n1_; have HK := n2_; have HB := n3_; have HI0 := n4_; clear n0_ n1_ n2_ n3_ n4_; (try clear hb); (try clear hb2); (try clear hk); (try clear hi)) | ((with_reducible refine gate_callee (f := 59) rfl ?_); refine goesL_ (some 18) rfl rfl Try.func59 (by kernel_rfl) rfl #[.pointer (some ⟨g, 0, none⟩), .int .i64 t316] rfl Z3 ?_; (with_reducible refine (spec_source_goods.calls k1 g s0_0 t317 t318 t316 t319 t322 t323 w0 _ ?side1 ?side2 A9.out).mono ?_); (case side1 => exact Z11 HI0.out); (case side2 => exact Z4 HI0.out); rintro e w27 ⟨v320, rfl, ho0, hi, hb, hk⟩; refine ⟨_, rfl, ?_⟩; have n0_ := A_ (Kd.N_mono (Kd.N_told (Kd.N_oldK (Kd.N_mono (ok := fun k_ => ((((w.heap.size ≤ k_)) ∧ k_ ≠ g) ∧ some k_ ≠ (v312 : Value).ownBlock)) (Z20 HO_3.out) (fun k_ hk_ => (⟨hk_, hk_.1.2⟩ : _ ∧ k_ ≠ g))) hk) (Kd.R_base ho0)) (fun _ h_ => h_.1)); have n1_ := A_ (Kd.R_mono (Kd.R_keep (IsS77.apart (show IsS77 w0 _ g s0_0 t317 t318 from by repeat (first | (with_reducible first | exact HI0.out | apply IsS77.alloc | apply IsS77.drewN | apply IsS77.drew | apply IsS77.set_1 | apply IsS77.set_2) | exact HI0.out)) (Z14 HO313.out) (by decide)) hk (fun _ h => h.2)) (fun _ h => h.1)); have n2_ := A_ (Kd.R_lower (Kd.R_newM (M := fun k_ => (w.heap.size ≤ k_)) ho0 (keep_size (w := w) (g := g) (row := none) Z6) (fun k_ h_ => h_)) (keep_size (w := w) (g := g) (row := none) Z6)); have n3_ := A_ (KeepBut.trans Z6 hk (.inl rfl)); have n4_ := A_ (hb); have n5_ := A_ (hi); clear HO_3; clear HO313; clear HK; clear HB; clear HI0; have HO_3 := n0_; have HO313 := n1_; have HO321 := n2_; have HK := n3_; have HB := n4_; have HI0 := n5_; clear n0_ n1_ n2_ n3_ n4_ n5_; (try clear hb); (try clear hb2); (try clear hk); (try clear hi); (try clear ho0); obtain ⟨Ao28, co28, eo28⟩ := Kd.R_slice HO321.out; subst eo28; obtain ⟨Ao29, co29, eo29⟩ := Kd.R_slice HO313.out; subst eo29) | ((with_reducible refine gate_dst (N := 5) rfl ?_); refine box_event ?hg (N := 5) ?hd (cs := #[.slice none 0 0, .slice none 0 0]) (t := 41) ?hr ?_; (case hd => rfl); (case hg => rfl); (case hr => exact Z26); intro gb324 hg w30 hbox hb; have n0_ := A_ (Kd.N_below (Kd.N_elderB (Z20 HO_3.out) gb324 (Nat.le_of_eq hg.symm)) hb); have n1_ := A_ (Kd.R_below (Z14 HO313.out) hb); have n2_ := A_ (Kd.R_below (Z14 HO321.out) hb); have n3_ := A_ (IsS77.below (Z11 HI0.out) hb); have n4_ := A_ (KeepBut.trans Z6 (KeepBut.of_below hb g none) (.inl rfl)); have n5_ := A_ (below_step (Z4 HI0.out) hb); have n6_ := A_ (hbox); have n7_ := A_ ((by rw [hg]; exact (keep_size (w := w) (g := g) (row := none) Z6) : w.heap.size ≤ gb324)); have n8_ := A_ ((Nat.le_trans HW0.out (by rw [hg]; exact (keep_size (w := w) (g := g) (row := none) Z6) : w.heap.size ≤ gb324) : w0.heap.size ≤ gb324)); have n9_ := A_ ((by rw [hg]; exact Nat.ne_of_lt (IsS77.lt (show IsS77 w0 _ g s0_0 t322 t323 from by repeat (first | (with_reducible first | exact HI0.out | apply IsS77.alloc | apply IsS77.drewN | apply IsS77.drew | apply IsS77.set_1 | apply IsS77.set_2) | exact HI0.out))) : g ≠ gb324)); have n10_ := A_ ((by rw [hg]; exact Nat.ne_of_gt (IsS77.lt (show IsS77 w0 _ g s0_0 t322 t323 from by repeat (first | (with_reducible first | exact HI0.out | apply IsS77.alloc | apply IsS77.drewN | apply IsS77.drew | apply IsS77.set_1 | apply IsS77.set_2) | exact HI0.out))) : gb324 ≠ g)); clear HO_3; clear HO313; clear HO321; clear HI0; clear HK; clear HB; have HO_3 := n0_; have HO313 := n1_; have HO321 := n2_; have HI0 := n3_; have HK := n4_; have HB := n5_; have BK324 := n6_; have GW324 := n7_; have GE324 := n8_; have NB0_324 := n9_; have NB324_0 := n10_; clear n0_ n1_ n2_ n3_ n4_ n5_ n6_ n7_ n8_ n9_ n10_; clear hb hbox hg; have hnb31 := NB324_0.out; have hnc31 := NB0_324.out; have hcz32_0 : w30.cell? ⟨gb324, 0, none⟩ = some (.slice none 0 0) := (blk_cell BK324.out 0).trans rfl; have hcz32_1 : w30.cell? ⟨gb324, 1, none⟩ = some (.slice none 0 0) := (blk_cell BK324.out 1).trans rfl; have hfz32_0 := blk_frozen BK324.out 0; have hfz32_1 := blk_frozen BK324.out 1) | ((with_reducible refine gate_callee (f := 51) rfl ?_); refine goesL_ (some 22) rfl rfl Try.func51 (by kernel_rfl) rfl #[.slice Ao29 t311.length co29] rfl Z3 ?_; (with_reducible refine (spec_validPlace.calls k1 _ _ t311 false _ ?side1 ?side2 A10.out).mono ?_); (case side1 => refine (Kd.R_reads' (e := 68) (base := w.heap.size) (ok := fun k_ => ((w.heap.size ≤ k_) ∧ True)) (n := t311.length) (c := co29) ?_).2.2; exact (by (with_reducible repeat (first | apply Kd.R_alloc | apply Kd.R_drewN | apply Kd.R_drew)); exact (Kd.R_mono (Kd.R_far (p := ⟨gb324, 1, none⟩) (Kd.R_far (p := ⟨gb324, 0, none⟩) (Kd.R_types HO313.out BK324.out (by decide)) (fun _ hk => hk.2) (.slice Ao29 t311.length co29)) (fun _ hk => hk.2) (.slice Ao28 t319.length co28)) (fun _ h_ => h_.1)))); (case side2 => exact (Kd.R_reads' HO313.out).2.1); rintro e w33 ⟨rfl, hb⟩; refine ⟨_, rfl, ?_⟩; have n0_ := A_ (Kd.N_below (by (with_reducible repeat (first | apply Kd.N_alloc | apply Kd.N_drewN | apply Kd.N_drew)); exact (Kd.N_mono (Kd.N_far (p := ⟨gb324, 1, none⟩) (Kd.N_far (p := ⟨gb324, 0, none⟩) (Kd.N_mono HO_3.out (fun k_ hk => (⟨hk, hk.2⟩ : _ ∧ k_ ≠ gb324))) (fun _ hk => hk.2) (.slice Ao29 t311.length co29)) (fun _ hk => hk.2) (.slice Ao28 t319.length co28)) (fun _ h_ => h_.1))) hb); have n1_ := A_ (Kd.R_below (by (with_reducible repeat (first | apply Kd.R_alloc | apply Kd.R_drewN | apply Kd.R_drew)); exact (Kd.R_mono (Kd.R_far (p := ⟨gb324, 1, none⟩) (Kd.R_far (p := ⟨gb324, 0, none⟩) (Kd.R_types HO313.out BK324.out (by decide)) (fun _ hk => hk.2) (.slice Ao29 t311.length co29)) (fun _ hk => hk.2) (.slice Ao28 t319.length co28)) (fun _ h_ => h_.1))) hb); have n2_ := A_ (Kd.R_below (by (with_reducible repeat (first | apply Kd.R_alloc | apply Kd.R_drewN | apply Kd.R_drew)); exact (Kd.R_mono (Kd.R_far (p := ⟨gb324, 1, none⟩) (Kd.R_far (p := ⟨gb324, 0, none⟩) (Kd.R_types HO321.out BK324.out (by decide)) (fun _ hk => hk.2) (.slice Ao29 t311.length co29)) (fun _ hk => hk.2) (.slice Ao28 t319.length co28)) (fun _ h_ => h_.1))) hb); have n3_ := A_ (IsS77.below (show IsS77 w0 ((w30.setCell ⟨gb324, 0, none⟩ (.slice Ao29 t311.length co29)).setCell ⟨gb324, 1, none⟩ (.slice Ao28 t319.length co28)) g s0_0 t322 t323 from by repeat (first | (with_reducible first | exact HI0.out | apply IsS77.alloc | apply IsS77.drewN | apply IsS77.drew | apply IsS77.set_1 | apply IsS77.set_2 | refine IsS77.far ?_ NB0_324.out _) | exact HI0.out)) hb); have n4_ := A_ (blk_below (g := gb324) (o := .cells #[.slice Ao29 t311.length co29, .slice Ao28 t319.length co28] 41 (0, 0)) (by (with_reducible repeat (first | refine blk_drewN ?_ _ | refine blk_drew ?_ | refine blk_alloc ?_ _)); refine blk_put (cs := #[.slice Ao29 t311.length co29, .slice none 0 0]) ?_ 1 _ rfl; (with_reducible repeat (first | refine blk_drewN ?_ _ | refine blk_drew ?_ | refine blk_alloc ?_ _)); refine blk_put (cs := #[.slice none 0 0, .slice none 0 0]) ?_ 0 _ rfl; (with_reducible repeat (first | refine blk_drewN ?_ _ | refine blk_drew ?_ | refine blk_alloc ?_ _)); exact BK324.out) hb); have n5_ := A_ (KeepBut.trans (Z19 GW324.out) (KeepBut.of_below hb g none) (.inl rfl)); have n6_ := A_ (below_step (Z21 HI0.out GE324.out) hb); clear HO_3; clear HO313; clear HO321; clear HI0; clear BK324; clear HK; clear HB; have HO_3 := n0_; have HO313 := n1_; have HO321 := n2_; have HI0 := n3_; have BK324 := n4_; have HK := n5_; have HB := n6_; clear n0_ n1_ n2_ n3_ n4_ n5_ n6_; (try clear hb); (try clear hb2); (try clear hk); (try clear hi)))
     go_roundg k1
     case measure => have := HK1.out; omega
     case rel => exact ⟨(x3_1), (wrap64 (x4_1 - 1)), (t322), (t323), Z22, H', ⟨by have := HK1.out; omega⟩, ⟨by (with_reducible repeat (first | apply Kd.N_alloc | apply Kd.N_drewN | apply Kd.N_drew)); exact Kd.N_mono HO_3.out (fun _ hk => ⟨hk.1.1.1.1, hk.1.1.1.2⟩)⟩, ⟨Z23 HI0.out NB0_324.out⟩, ⟨Z19 GW324.out⟩, ⟨Z21 HI0.out GE324.out⟩⟩
   ·rw [if_neg c6] at H
    have c6b0 : decide (0 < x4_1) = false := decide_eq_false c6
    clear c6
    simp only [Option.some.injEq, Prod.mk.injEq] at H
    obtain ⟨rfl, rfl, rfl⟩ := H
    go_wp2
    go_ret
    exact ⟨_, Z18, by (with_reducible repeat (first | apply Kd.N_alloc | apply Kd.N_drewN | apply Kd.N_drew)); exact Kd.N_mono HO_3.out (fun _ hk => hk.1), Z11 HI0.out, Z4 HI0.out, Z6⟩
def spec_DrawStoreGet.j0 : Nat → List (S41) → Bool → List Int → Int → Int → Option ((List (S41)) × (List (S68)))
 | 0, _, _, _, _, _ => none
 | k + 1, x5, x17, x333000, x333001, x333002 => if x17 = true then ((some (([] : List (S68)) : List (S68))).bind fun y341 => ((spec_source_pick.f k x333000 x333001 x333002 (x5.length : Int)).bind fun bt344 => (if 0 ≤ bt344.1 then (if bt344.1 < (x5.length : Int) then (if y341.length + ((rd_T41 x5 bt344.1).f0).length < 8796093022208 then (some (x5, (y341 ++ ((rd_T41 x5 bt344.1).f0)))) else (none)) else (none)) else (none)))) else ((spec_source_slots.f k x333000 x333001 x333002).bind fun bt351 => (some (x5, bt351.1)))
def spec_DrawStoreGet.f (k : Nat) (l0 : List Int) : Option ((List (S41)) × (List (S68))) := (spec_newSource.f l0).bind fun bt329 => ((spec_source_cells.f k bt329.1 bt329.2.1 bt329.2.2).bind fun bt333 => (if (bt333.1.length : Int) > 0 then ((spec_source_pick.f k bt329.1 bt333.2.1 bt333.2.2 3).bind fun bt338 => (spec_DrawStoreGet.j0 k bt333.1 (decide (bt338.1 > 0)) bt329.1 bt338.2.1 bt338.2.2)) else (spec_DrawStoreGet.j0 k bt333.1 false bt329.1 bt333.2.1 bt333.2.2)))
theorem spec_DrawStoreGet.mono_l : ∀ k, (∀ y0 y1 y2 y3 y4, LeO (spec_DrawStoreGet.j0 k y0 y1 y2 y3 y4) (spec_DrawStoreGet.j0 (k + 1) y0 y1 y2 y3 y4))
 | 0 => fun _ _ _ _ _ r h => by simp [spec_DrawStoreGet.j0] at h
 | k + 1 => by
  have ih0 := spec_DrawStoreGet.mono_l k
  ·intro y0 y1 y2 y3 y4
   unfold spec_DrawStoreGet.j0
   repeat' first
   | (with_reducible exact ih0 _ _ _ _ _)
   | (with_reducible exact spec_source_cells.mono _ _ _ _)
   | (with_reducible exact spec_source_pick.mono _ _ _ _ _)
   | (with_reducible exact spec_source_slots.mono _ _ _ _)
   | (with_reducible exact LeO.refl _)
   | (with_reducible exact LeO.none _)
   | (with_reducible refine LeO.ite ?_ ?_)
   | (with_reducible refine LeO.bind ?_ (fun _ => ?_))
   | exact ih0 _ _ _ _ _
   | exact spec_source_cells.mono _ _ _ _
   | exact spec_source_pick.mono _ _ _ _ _
   | exact spec_source_slots.mono _ _ _ _
   | exact LeO.none _
   | refine LeO.ite ?_ ?_
   | refine LeO.bind ?_ (fun _ => ?_)
theorem spec_DrawStoreGet.mono : ∀ a0 k, LeO (spec_DrawStoreGet.f k a0) (spec_DrawStoreGet.f (k + 1) a0) := by
 intro a0 k
 have ih0 := spec_DrawStoreGet.mono_l k
 unfold spec_DrawStoreGet.f
 repeat' first
   | (with_reducible exact ih0 _ _ _ _ _)
   | (with_reducible exact spec_source_cells.mono _ _ _ _)
   | (with_reducible exact spec_source_pick.mono _ _ _ _ _)
   | (with_reducible exact spec_source_slots.mono _ _ _ _)
   | (with_reducible exact LeO.refl _)
   | (with_reducible exact LeO.none _)
   | (with_reducible refine LeO.ite ?_ ?_)
   | (with_reducible refine LeO.bind ?_ (fun _ => ?_))
   | exact ih0 _ _ _ _ _
   | exact spec_source_cells.mono _ _ _ _
   | exact spec_source_pick.mono _ _ _ _ _
   | exact spec_source_slots.mono _ _ _ _
   | exact LeO.none _
   | refine LeO.ite ?_ ?_
   | refine LeO.bind ?_ (fun _ => ?_)
set_option maxHeartbeats 8000000 in
set_option maxRecDepth 100000 in
theorem spec_DrawStoreGet.calls (k : Nat) (A0 : Option Addr) (c0 : Nat) (l0 : List Int) (r1 : List (S41)) (r2 : List (S68)) (w : World) (hr0 : Kd.C (Kd.int .u8) w A0 l0.length l0) (hc0 : l0.length ≤ c0) (h : spec_DrawStoreGet.f k l0 = some (r1, r2)) :
  Calls Try.prog 26 #[.slice A0 l0.length c0] w fun e w' => ∃ v0_ v1_ : Value, e = .returned (.tuple #[v0_, v1_]) ∧ Kd.N k41 41 w' w.heap.size (fun k_ => (w.heap.size ≤ k_) ∧ some k_ ≠ (v1_ : Value).ownBlock) v0_ r1 ∧ Kd.R k68 68 w' w.heap.size (fun k_ => (w.heap.size ≤ k_)) v1_ r2 ∧ Below w.heap.size w w' := by
 have HR0 := A_ hr0
 have HC0 := A_ hc0
 clear hr0 hc0
 have HB := A_ (Below.refl w.heap.size w)
 have H : ((spec_newSource.f l0).bind fun bt329 => ((spec_source_cells.f k bt329.1 bt329.2.1 bt329.2.2).bind fun bt333 => (if (bt333.1.length : Int) > 0 then ((spec_source_pick.f k bt329.1 bt333.2.1 bt333.2.2 3).bind fun bt338 => (spec_DrawStoreGet.j0 k bt333.1 (decide (bt338.1 > 0)) bt329.1 bt338.2.1 bt338.2.2)) else (spec_DrawStoreGet.j0 k bt333.1 false bt329.1 bt333.2.1 bt333.2.2)))) = some (r1, r2) := h
 clear h
 replace H := Option.bind_eq_some_iff.mp H
 obtain ⟨⟨t329, t330, t331⟩, A20, H⟩ := H
 replace H : ((spec_source_cells.f k t329 t330 t331).bind fun bt333 => (if (bt333.1.length : Int) > 0 then ((spec_source_pick.f k t329 bt333.2.1 bt333.2.2 3).bind fun bt338 => (spec_DrawStoreGet.j0 k bt333.1 (decide (bt338.1 > 0)) t329 bt338.2.1 bt338.2.2)) else (spec_DrawStoreGet.j0 k bt333.1 false t329 bt333.2.1 bt333.2.2))) = some (r1, r2) := H
 have A2 := A_ A20
 clear A20
 replace H := Option.bind_eq_some_iff.mp H
 obtain ⟨⟨t333, t336, t337⟩, A30, H⟩ := H
 replace H : (if (t333.length : Int) > 0 then ((spec_source_pick.f k t329 t336 t337 3).bind fun bt338 => (spec_DrawStoreGet.j0 k t333 (decide (bt338.1 > 0)) t329 bt338.2.1 bt338.2.2)) else (spec_DrawStoreGet.j0 k t333 false t329 t336 t337)) = some (r1, r2) := H
 have A3 := A_ A30
 clear A30
 have HC4 := A_ H
 clear H
 go_enter Try.func26, Try.ntmps26
 go_upto_region 3 with (first | ((with_reducible refine gate_callee (f := 32) rfl ?_); refine goesL_ (some 7) rfl rfl Try.func32 (by kernel_rfl) rfl #[.slice A0 l0.length c0] rfl Z3 ?_; (with_reducible refine (spec_newSource.calls _ _ l0 t329 t330 t331 w _ ?side1 ?side2 ?side3 A2.out).mono ?_); (case side1 => exact Z1); (case side2 => exact HR0.out); (case side3 => exact HC0.out); rintro e w5 ⟨g332, rfl, hi, hb, hb2⟩; refine ⟨_, rfl, ?_⟩; have n0_ := A_ (hb); have n1_ := A_ (hi); clear HB; have HB := n0_; have HI332 := n1_; clear n0_ n1_; (try clear hb); (try clear hb2); (try clear hk); (try clear hi)) | ((with_reducible refine gate_callee (f := 42) rfl ?_); refine goesL_ (some 9) rfl rfl Try.func42 (by kernel_rfl) rfl #[.pointer (some ⟨g332, 0, none⟩)] rfl Z3 ?_; (with_reducible refine (spec_source_cells.calls k g332 t329 t330 t331 t333 t336 t337 w _ ?side1 ?side2 A3.out).mono ?_); (case side1 => exact Z11 HI332.out); (case side2 => exact Z4 HI332.out); rintro e w6 ⟨v334, rfl, ho0, hi, hb, hk⟩; refine ⟨_, rfl, ?_⟩; have n0_ := A_ (Kd.N_lower (Kd.N_mono (ok' := fun k_ => (w.heap.size ≤ k_) ∧ k_ ≠ g332) ho0 (fun k_ hk_ => ⟨(Nat.le_trans (below_size (Z4 HI332.out)) hk_), (IsS77.fresh (Z11 HI332.out) k_ hk_)⟩)) (below_size (Z4 HI332.out))); have n1_ := A_ (hb); have n2_ := A_ (hi); clear HB; clear HI332; have HO335 := n0_; have HB := n1_; have HI332 := n2_; clear n0_ n1_ n2_; (try clear hb); (try clear hb2); (try clear hk); (try clear hi); (try clear ho0)))
 (try simp only [Act.put, List.setIfInBounds_toArray, List.set_cons_zero, List.set_cons_succ])
 go_cut [17] (fun v17 wc => ∃ (kq : Nat) (x17_3 : Bool) (x333001_3 : Int) (x333002_3 : Int), v17 = .bool x17_3 ∧ Aside0 (spec_DrawStoreGet.j0 kq t333 x17_3 t329 x333001_3 x333002_3 = some (r1, r2)) ∧ Aside0 (kq ≤ k) ∧ Aside0 (Kd.N k41 41 wc w.heap.size (fun k_ => (w.heap.size ≤ k_) ∧ k_ ≠ g332) v334 t333) ∧ Aside0 (IsS77 w wc g332 t329 x333001_3 x333002_3) ∧ Aside0 (Below w.heap.size w wc))
 case first =>
  have H := HC4.out
  clear HC4
  by_cases c7 : (t333.length : Int) > 0
  ·rw [if_pos c7] at H
   have c7b0 : decide (0 < (t333.length : Int)) = true := decide_eq_true c7
   have c7b1 : decide (0 < t333.length) = true := decide_eq_true (by omega)
   clear c7
   (first | rw [c7b0] | (simp only [i64_w, i32_w]; rw [c7b0]) | skip)
   replace H := Option.bind_eq_some_iff.mp H
   obtain ⟨⟨t338, t339, t340⟩, A80, H⟩ := H
   replace H : (spec_DrawStoreGet.j0 k t333 (decide (t338 > 0)) t329 t339 t340) = some (r1, r2) := H
   have A8 := A_ A80
   clear A80
   have H' := A_ H
   clear H
   obtain ⟨Ao9, co9, eo9⟩ := Kd.N_slice HO335.out
   subst eo9
   go_wp2_with (first | (go_at_call 38; (with_reducible refine (spec_source_pick.calls k g332 t329 t336 t337 3 t338 t339 t340 w _ ?side1 ?side2 A8.out).mono ?_); (case side1 => exact Z11 HI332.out); (case side2 => exact Z4 HI332.out); rintro e w10 ⟨rfl, hi, hb, hk⟩; have n0_ := A_ (Kd.N_mono (Kd.N_keep (Kd.N_mono (ok := fun k_ => (((w.heap.size ≤ k_)) ∧ k_ ≠ g332)) (Z20 HO335.out) (fun k_ hk_ => (⟨hk_, hk_.2⟩ : _ ∧ k_ ≠ g332))) hk (fun _ h => h.2)) (fun _ h => h.1)); have n1_ := A_ (hb); have n2_ := A_ (hi); clear HO335; clear HB; clear HI332; have HO335 := n0_; have HB := n1_; have HI332 := n2_; clear n0_ n1_ n2_; (try clear hb); (try clear hb2); (try clear hk); (try clear hi)))
   go_meet
   case rel => exact ⟨_, (decide (t338 > 0)), (t339), (t340), Z22, H', ⟨by first | omega | exact Nat.le_refl _⟩, ⟨Z20 HO335.out⟩, ⟨Z11 HI332.out⟩, ⟨Z4 HI332.out⟩⟩
  ·rw [if_neg c7] at H
   have c7b0 : decide (0 < (t333.length : Int)) = false := decide_eq_false c7
   have c7b1 : decide (0 < t333.length) = false := decide_eq_false (by omega)
   clear c7
   (first | rw [c7b0] | (simp only [i64_w, i32_w]; rw [c7b0]) | skip)
   have H' := A_ H
   clear H
   obtain ⟨Ao11, co11, eo11⟩ := Kd.N_slice HO335.out
   subst eo11
   go_wp2
   go_meet
   case rel => exact ⟨_, (false), (t336), (t337), Z22, H', ⟨by first | omega | exact Nat.le_refl _⟩, ⟨Z20 HO335.out⟩, ⟨Z11 HI332.out⟩, ⟨Z4 HI332.out⟩⟩
 case rest =>
  clear HC4
  try clear c2
  try clear p2
  try clear c3
  try clear c4
  try clear c7
  try clear c7b0
  try clear c7b1
  obtain ⟨kq, x17_3, x333001_3, x333002_3, rfl, HA, HJ3, HO_5, HI332, HB⟩ := hcut
  cases kq with
  | zero => exact absurd HA.out (by simp [spec_DrawStoreGet.j0])
  | succ kj3 =>
   have H := HA.out
   clear HA
   simp only [spec_DrawStoreGet.j0] at H
   by_cases c12 : x17_3 = true
   ·subst c12
    have H1 : ((some (([] : List (S68)) : List (S68))).bind fun y341 => ((spec_source_pick.f kj3 t329 x333001_3 x333002_3 (t333.length : Int)).bind fun bt344 => (if 0 ≤ bt344.1 then (if bt344.1 < (t333.length : Int) then (if y341.length + ((rd_T41 t333 bt344.1).f0).length < 8796093022208 then (some (t333, (y341 ++ ((rd_T41 t333 bt344.1).f0)))) else (none)) else (none)) else (none)))) = some (r1, r2) := by rw [if_pos rfl] at H; exact H
    clear H
    have H := H1
    clear H1
    obtain ⟨y341, hy341⟩ : ∃ y_ : List (S68), y_ = (([] : List (S68))) := ⟨_, rfl⟩
    replace H : ((spec_source_pick.f kj3 t329 x333001_3 x333002_3 (t333.length : Int)).bind fun bt344 => (if 0 ≤ bt344.1 then (if bt344.1 < (t333.length : Int) then (if y341.length + ((rd_T41 t333 bt344.1).f0).length < 8796093022208 then (some (t333, (y341 ++ ((rd_T41 t333 bt344.1).f0)))) else (none)) else (none)) else (none))) = some (r1, r2) := by first | (rw [hy341]; with_reducible exact H) | (have H2_ := (Option.bind_some _ _).symm.trans H; rw [hy341]; with_reducible exact H2_) | (have H2_ := (Option.bind_some _ _).symm.trans H; with_reducible exact H2_) | with_reducible exact H | (rw [hy341]; exact H) | exact H
    have Ny341 := A_ hy341
    clear hy341
    replace H := Option.bind_eq_some_iff.mp H
    obtain ⟨⟨t344, t345, t346⟩, A130, H⟩ := H
    replace H : (if 0 ≤ t344 then (if t344 < (t333.length : Int) then (if y341.length + ((rd_T41 t333 t344).f0).length < 8796093022208 then (some (t333, (y341 ++ ((rd_T41 t333 t344).f0)))) else (none)) else (none)) else (none)) = some (r1, r2) := H
    have A13 := A_ A130
    clear A130
    by_cases c14 : 0 ≤ t344
    ·rw [if_pos c14] at H
     have c14b0 : decide (0 ≤ t344) = true := decide_eq_true c14
     clear c14
     by_cases c15 : t344 < (t333.length : Int)
     ·rw [if_pos c15] at H
      have c15b0 : decide (t344 < (t333.length : Int)) = true := decide_eq_true c15
      clear c15
      by_cases c16 : y341.length + ((rd_T41 t333 t344).f0).length < 8796093022208
      ·rw [if_pos c16] at H
       have LMc16 := A_ c16
       clear c16
       obtain ⟨y348, hy348⟩ : ∃ y_ : List (S68), y_ = (y341 ++ ((rd_T41 t333 t344).f0)) := ⟨_, rfl⟩
       replace H : (some (t333, y348)) = some (r1, r2) := by first | (rw [hy348]; with_reducible exact H) | (have H2_ := (Option.bind_some _ _).symm.trans H; rw [hy348]; with_reducible exact H2_) | (have H2_ := (Option.bind_some _ _).symm.trans H; with_reducible exact H2_) | with_reducible exact H | (rw [hy348]; exact H) | exact H
       have Ny348 := A_ hy348
       clear hy348
       simp only [Option.some.injEq, Prod.mk.injEq] at H
       obtain ⟨rfl, rfl⟩ := H
       go_wp2_with (first | ((with_reducible refine gate_dst (N := 19) rfl ?_); refine Kd.R_lit k68 _ 68 ?hg (N := 19) ?hd (xs := ([] : List (S68))) (inner := []) (ok := fun _ => True) (okp := fun _ => True) ?hr ?hp (fun _ hk => hk) trivial (Below.refl _ _) (Nat.le_refl _) (by simp) ?_; (case hd => rfl); (case hg => rfl); (case hr => exact Z26); (case hp => exact (Reps.none _ _)); intro v342 w17 ho18 hb hg_ hnew_; clear hg_ hnew_; (first | rw [← Ny341.out] at ho18 | (simp only [Int.reduceToNat] at ho18; rw [← Ny341.out] at ho18)); have n0_ := A_ (Kd.N_elder' (Z20 HO_5.out) (Kd.R_base ho18) hb); have n1_ := A_ (Kd.R_lower (Kd.R_newM (M := fun k_ => (w.heap.size ≤ k_)) ho18 (below_size (Z4 HI332.out)) (fun k_ h_ => h_)) (below_size (Z4 HI332.out))); have n2_ := A_ (IsS77.below (Z11 HI332.out) hb); have n3_ := A_ (below_step (Z4 HI332.out) hb); clear HO_5; clear HI332; clear HB; have HO_5 := n0_; have HO343 := n1_; have HI332 := n2_; have HB := n3_; clear n0_ n1_ n2_ n3_; clear hb ho18; obtain ⟨Ao19, co19, eo19⟩ := Kd.N_slice HO_5.out; subst eo19) | ((with_reducible refine gate_callee (f := 38) rfl ?_); refine goesL_ (some 24) rfl rfl Try.func38 (by kernel_rfl) rfl #[.pointer (some ⟨g332, 0, none⟩), .int .i64 (t333.length : Int)] rfl Z3 ?_; (with_reducible refine (spec_source_pick.calls kj3 g332 t329 x333001_3 x333002_3 (t333.length : Int) t344 t345 t346 w _ ?side1 ?side2 A13.out).mono ?_); (case side1 => exact Z11 HI332.out); (case side2 => exact Z4 HI332.out); rintro e w20 ⟨rfl, hi, hb, hk⟩; refine ⟨_, rfl, ?_⟩; have n0_ := A_ (Kd.N_mono (Kd.N_keep (Kd.N_mono (ok := fun k_ => ((((w.heap.size ≤ k_)) ∧ k_ ≠ g332) ∧ some k_ ≠ (v342 : Value).ownBlock)) (Z20 HO_5.out) (fun k_ hk_ => (⟨hk_, hk_.1.2⟩ : _ ∧ k_ ≠ g332))) hk (fun _ h => h.2)) (fun _ h => h.1)); have n1_ := A_ (Kd.R_mono (Kd.R_keep (IsS77.apart (show IsS77 w _ g332 t329 x333001_3 x333002_3 from by repeat (first | (with_reducible first | exact HI332.out | apply IsS77.alloc | apply IsS77.drewN | apply IsS77.drew | apply IsS77.set_1 | apply IsS77.set_2) | exact HI332.out)) (Z14 HO343.out) (by decide)) hk (fun _ h => h.2)) (fun _ h => h.1)); have n2_ := A_ (hb); have n3_ := A_ (hi); clear HO_5; clear HO343; clear HB; clear HI332; have HO_5 := n0_; have HO343 := n1_; have HB := n2_; have HI332 := n3_; clear n0_ n1_ n2_ n3_; (try clear hb); (try clear hb2); (try clear hk); (try clear hi); have p347 : 0 ≤ (t344 : Int) := of_decide_eq_true Z13; have q347 : t344 < (t333.length : Int) := of_decide_eq_true Z13; obtain ⟨ad347, A347_0, c347_0, A347_1, c347_1, e347, hx347_0, hx347_1, hl347_0, hi347_0, hl347_1, hi347_1⟩ := at_T41 (Kd.N_reads' HO_5.out).2.2 t344 p347 q347; cases e347; obtain ⟨ce347, hce347, hMe347, hcc347⟩ := Kd.N_get HO_5.out z41 t344 p347 (by first | exact q347 | exact of_decide_eq_true Z13 | (have e_ := (Kd.N_reads' HO_5.out).1; omega)); obtain ⟨ua347_0, uc347_0, ua347_1, uc347_1, rfl, ul347_0, ge347_0, ul347_1, ge347_1⟩ := k41_openF hMe347; have hv347_0 := hcc347 0 _ rfl; rw [Nat.add_zero] at hv347_0; replace hv347_0 := Option.some.inj (hv347_0.symm.trans hx347_0); injection hv347_0 with hva_ hvn_ hvc_; rw [hva_] at ge347_0; rw [hvc_] at ul347_0; have HL347_0 := A_ (show Kd.V k68 68 _ w.heap.size _ _ ((rd_T41 t333 t344).f0) from Kd.V_mk ul347_0 ge347_0); clear hva_ hvn_ hvc_ ge347_0 ul347_0; have hv347_1 := hcc347 1 _ rfl; rw [add_field _ _ 1 (by omega)] at hv347_1; replace hv347_1 := Option.some.inj (hv347_1.symm.trans hx347_1); injection hv347_1 with hva_ hvn_ hvc_; rw [hva_] at ge347_1; rw [hvc_] at ul347_1; have HL347_1 := A_ (show Kd.V k28 28 _ w.heap.size _ _ ((rd_T41 t333 t344).f1) from Kd.V_mk ul347_1 ge347_1); clear hva_ hvn_ hvc_ ge347_1 ul347_1; clear hcc347 hce347; have HR347_0 := A_ hi347_0; have HC347_0 := A_ hl347_0; clear hi347_0 hl347_0; have HR347_1 := A_ hi347_1; have HC347_1 := A_ hl347_1; clear hi347_1 hl347_1; replace p347 := eq_true p347; replace q347 := eq_true q347) | ((with_reducible refine gate_builtin (b := .append) (xs := #[.tmp 19, .tmp 27]) rfl ?_); at_builtin; refine Kd.R_append_rows k68 (w0 := w) w.heap.size rfl (.tmp 19) (.tmp 27) 39 68 (.agg #[(.int .i64 0), (.int .i64 0)]) 16 rfl Try.underlying39 info68 rfl (by decide) (by omega) v342 y341 ((rd_T41 t333 t344).f0) _ _ _ (fun k_ => (w.heap.size ≤ k_)) (fun _ => False) rfl rfl ?aO ?aR (fun _ _ h => h) (fun _ h => h.elim) ?aF ?aB ?aS ?aL ?_; (case aR => repeat (first | exact (Z33 HR347_0.out) | (with_reducible refine Kd.C_alloc ?_ _) | (with_reducible refine Kd.C_drewN ?_ _) | (with_reducible refine Kd.C_drew ?_))); (case aB => exact (Z4 HI332.out)); (case aF => exact (fun k_ hk => (Nat.le_trans (below_size (Z4 HI332.out)) hk))); (case aO => exact (by (with_reducible repeat (first | apply Kd.R_alloc | apply Kd.R_drewN | apply Kd.R_drew)); exact Kd.R_mono HO343.out (fun _ hk => hk.1))); (case aS => exact (below_size (Z4 HI332.out))); (case aL => have := LMc16.out; omega); intro v349 w21 ho hb hg hat; rw [← Ny348.out] at ho; have n0_ := A_ (Kd.N_afterv (ok := (fun k_ => (w.heap.size ≤ k_) ∧ k_ ≠ g332)) (Z20 HO_5.out) hg hat); have n1_ := A_ (IsS77.grown (Z11 HI332.out) hg (IsS77.own_ne HI332.out HO343.out (by decide))); have n2_ := A_ (Kd.V_afterv (ok := (fun k_ => (w.heap.size ≤ k_) ∧ some k_ ≠ (.slice (some ad347) t333.length co19 : Value).ownBlock ∧ k_ ≠ g332)) (by (with_reducible repeat (first | apply Kd.V_alloc | apply Kd.V_drewN | apply Kd.V_drew)); exact Kd.V_mono HL347_0.out (fun _ hk => ⟨⟨hk.1.1.1, ⟨hk.2, hk.1.1.2⟩⟩, hk.1.2⟩)) hg hat); have n3_ := A_ (Kd.V_afterv (ok := (fun k_ => (w.heap.size ≤ k_) ∧ some k_ ≠ (.slice (some ad347) t333.length co19 : Value).ownBlock ∧ k_ ≠ g332)) (by (with_reducible repeat (first | apply Kd.V_alloc | apply Kd.V_drewN | apply Kd.V_drew)); exact Kd.V_mono HL347_1.out (fun _ hk => ⟨⟨hk.1.1.1, ⟨hk.2, hk.1.1.2⟩⟩, hk.1.2⟩)) hg hat); have n4_ := A_ (hb); have n5_ := A_ (ho); clear HO_5; clear HI332; clear HL347_0; clear HL347_1; clear HB; clear HO343; have HO_5 := n0_; have HI332 := n1_; have HL347_0 := n2_; have HL347_1 := n3_; have HB := n4_; have HO350 := n5_; clear n0_ n1_ n2_ n3_ n4_ n5_; clear ho hb hg hat))
       go_ret2
       exact ⟨_, _, Z18, by (with_reducible repeat (first | apply Kd.N_alloc | apply Kd.N_drewN | apply Kd.N_drew)); exact Kd.N_mono HO_5.out (fun _ hk => ⟨hk.1.1, hk.2⟩), Z14 HO350.out, Z4 HI332.out⟩
      ·rw [if_neg c16] at H
       exact absurd H (by simp)
     ·rw [if_neg c15] at H
      exact absurd H (by simp)
    ·rw [if_neg c14] at H
     exact absurd H (by simp)
   ·replace c12 := Bool.eq_false_iff.mpr c12
    subst c12
    have H1 : ((spec_source_slots.f kj3 t329 x333001_3 x333002_3).bind fun bt351 => (some (t333, bt351.1))) = some (r1, r2) := by rw [if_neg (show ¬ (false = true) by decide)] at H; exact H
    clear H
    have H := H1
    clear H1
    replace H := Option.bind_eq_some_iff.mp H
    obtain ⟨⟨t351, t354, t355⟩, A220, H⟩ := H
    replace H : (some (t333, t351)) = some (r1, r2) := H
    have A22 := A_ A220
    clear A220
    simp only [Option.some.injEq, Prod.mk.injEq] at H
    obtain ⟨rfl, rfl⟩ := H
    go_wp2_with (first | ((with_reducible refine gate_callee (f := 55) rfl ?_); refine goesL_ (some 31) rfl rfl Try.func55 (by kernel_rfl) rfl #[.pointer (some ⟨g332, 0, none⟩)] rfl Z3 ?_; (with_reducible refine (spec_source_slots.calls kj3 g332 t329 x333001_3 x333002_3 t351 t354 t355 w _ ?side1 ?side2 A22.out).mono ?_); (case side1 => exact Z11 HI332.out); (case side2 => exact Z4 HI332.out); rintro e w23 ⟨v352, rfl, ho0, hi, hb, hk⟩; refine ⟨_, rfl, ?_⟩; have n0_ := A_ (Kd.N_mono (Kd.N_told (Kd.N_oldK (Kd.N_mono (ok := fun k_ => (((w.heap.size ≤ k_)) ∧ k_ ≠ g332)) (Z20 HO_5.out) (fun k_ hk_ => (⟨hk_, hk_.2⟩ : _ ∧ k_ ≠ g332))) hk) (Kd.R_base ho0)) (fun _ h_ => h_.1)); have n1_ := A_ (Kd.R_lower (Kd.R_newM (M := fun k_ => (w.heap.size ≤ k_)) ho0 (below_size (Z4 HI332.out)) (fun k_ h_ => h_)) (below_size (Z4 HI332.out))); have n2_ := A_ (hb); have n3_ := A_ (hi); clear HO_5; clear HB; clear HI332; have HO_5 := n0_; have HO353 := n1_; have HB := n2_; have HI332 := n3_; clear n0_ n1_ n2_ n3_; (try clear hb); (try clear hb2); (try clear hk); (try clear hi); (try clear ho0)))
    go_ret2
    exact ⟨_, _, Z18, by (with_reducible repeat (first | apply Kd.N_alloc | apply Kd.N_drewN | apply Kd.N_drew)); exact Kd.N_mono HO_5.out (fun _ hk => ⟨hk.1.1, hk.2⟩), by (with_reducible repeat (first | apply Kd.R_alloc | apply Kd.R_drewN | apply Kd.R_drew)); exact Kd.R_mono HO353.out (fun _ hk => hk.1), Z4 HI332.out⟩
end Go.Proofs.Ytheifobeaemegaa.PFnStoreCut
