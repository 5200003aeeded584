/- Walks of the functions that the law 'FnStoreOk' reaches, part 6: for each a Lean function and the proof that Go's comes to just its answer (lines of the print, under own names; no condition). -/
import Derived.Test.YtheifobeaemegaaZFnStoreOkQFnStoreOkx0
import Derived.Test.YtheifobeaemegaaZFnStoreOkQFnStoreOkx3
import Derived.Test.YtheifobeaemegaaZFnStoreOkQFnStoreOkx4
import Derived.Test.YtheifobeaemegaaZFnStoreOkQFnStoreOkx5
namespace Go.Proofs.Ytheifobeaemegaa.PFnStoreOk
open Go.RowKit Go.Proofs.YtheifobeaemegaaW.PrintWords Go.Proofs.YtheifobeaemegaaW.PrintLast Go.Proofs.YtheifobeaemegaaW.PrintMore
attribute [local go_sem] max2_int min2_int max_two min_two max_three min_three max_four min_four
set_option linter.unusedVariables false
set_option linter.unusedSimpArgs false
def spec_cellAt.l0 : Nat → List (S41) → List (S68) → Int → Option (Int × Bool)
 | 0, _, _, _ => none
 | k + 1, x0, x1, x6 => if x6 < (x0.length : Int) then (if 0 ≤ x6 then ((spec_comparePlaces.f k ((rd_T41 x0 x6).f0) x1).bind fun t230 => (if t230 < 0 then (spec_cellAt.l0 k x0 x1 (wrap64 (x6 + 1))) else ((spec_comparePlaces.f k ((rd_T41 x0 x6).f0) x1).bind fun t232 => (some (x6, (t232 == 0)))))) else (none)) else (some (x6, false))
def spec_cellAt.f (k : Nat) (l0 : List (S41)) (l1 : List (S68)) : Option (Int × Bool) := spec_cellAt.l0 k l0 l1 0
theorem spec_cellAt.mono_l : ∀ k, (∀ y0 y1 y2, LeO (spec_cellAt.l0 k y0 y1 y2) (spec_cellAt.l0 (k + 1) y0 y1 y2))
 | 0 => fun _ _ _ r h => by simp [spec_cellAt.l0] at h
 | k + 1 => by
  have ih0 := spec_cellAt.mono_l k
  ·intro y0 y1 y2
   unfold spec_cellAt.l0
   repeat' first
   | (with_reducible exact ih0 _ _ _)
   | (with_reducible exact spec_comparePlaces.mono _ _ _)
   | (with_reducible exact LeO.refl _)
   | (with_reducible exact LeO.none _)
   | (with_reducible refine LeO.ite ?_ ?_)
   | (with_reducible refine LeO.bind ?_ (fun _ => ?_))
   | exact ih0 _ _ _
   | exact spec_comparePlaces.mono _ _ _
   | exact LeO.none _
   | refine LeO.ite ?_ ?_
   | refine LeO.bind ?_ (fun _ => ?_)
theorem spec_cellAt.mono : ∀ a0 a1 k, LeO (spec_cellAt.f k a0 a1) (spec_cellAt.f (k + 1) a0 a1) := by
 intro a0 a1 k
 have ih0 := spec_cellAt.mono_l k
 unfold spec_cellAt.f
 repeat' first
   | (with_reducible exact ih0 _ _ _)
   | (with_reducible exact spec_comparePlaces.mono _ _ _)
   | (with_reducible exact LeO.refl _)
   | (with_reducible exact LeO.none _)
   | (with_reducible refine LeO.ite ?_ ?_)
   | (with_reducible refine LeO.bind ?_ (fun _ => ?_))
   | exact ih0 _ _ _
   | exact spec_comparePlaces.mono _ _ _
   | exact LeO.none _
   | refine LeO.ite ?_ ?_
   | refine LeO.bind ?_ (fun _ => ?_)
set_option maxHeartbeats 8000000 in
set_option maxRecDepth 100000 in
theorem spec_cellAt.calls (k : Nat) (A0 : Option Addr) (c0 : Nat) (l0 : List (S41)) (A1 : Option Addr) (c1 : Nat) (l1 : List (S68)) (r1 : Int) (r2 : Bool) (w : World) (hr0 : Kd.C k41 w A0 l0.length l0) (hc0 : l0.length ≤ c0) (hr1 : Kd.C k68 w A1 l1.length l1) (hc1 : l1.length ≤ c1) (h : spec_cellAt.f k l0 l1 = some (r1, r2)) :
  Calls Try.prog 56 #[.slice A0 l0.length c0, .slice A1 l1.length c1] w fun e w' => e = .returned (.tuple #[.int .i64 r1, .bool r2]) ∧ Drawn0 w w' := by
 have HR0 := A_ hr0
 have HC0 := A_ hc0
 clear hr0 hc0
 have HR1 := A_ hr1
 have HC1 := A_ hc1
 clear hr1 hc1
 have H : (spec_cellAt.l0 k l0 l1 0) = some (r1, r2) := h
 clear h
 have H' := A_ H
 clear H
 go_enter Try.func56, Try.ntmps56
 go_wp2
 go_loopg [6] k (fun kq v6 w' => ∃ (x6_1 : Int), v6 = .int .i64 x6_1 ∧ Aside0 (spec_cellAt.l0 kq l0 l1 x6_1 = some (r1, r2)) ∧ Aside0 (kq ≤ k) ∧ Drawn0 w w')
 case atStart => exact ⟨(0), Z21, H', ⟨Nat.le_refl _⟩, Z25⟩
 case round =>
  clear H'
  try clear c1
  try clear p2
  obtain ⟨x6_1, rfl, HA, HK1, ⟨m1, rfl⟩⟩ := hrel
  cases gk with
  | zero => exact absurd HA.out (by simp [spec_cellAt.l0])
  | succ k1 =>
   have H := HA.out
   clear HA
   simp only [spec_cellAt.l0] at H
   by_cases c3 : x6_1 < (l0.length : Int)
   ·rw [if_pos c3] at H
    have c3b0 : decide (x6_1 < (l0.length : Int)) = true := decide_eq_true c3
    clear c3
    by_cases c4 : 0 ≤ x6_1
    ·rw [if_pos c4] at H
     have c4b0 : decide (0 ≤ x6_1) = true := decide_eq_true c4
     clear c4
     replace H := Option.bind_eq_some_iff.mp H
     obtain ⟨t230, A50, H⟩ := H
     replace H : (if t230 < 0 then (spec_cellAt.l0 k1 l0 l1 (wrap64 (x6_1 + 1))) else ((spec_comparePlaces.f k1 ((rd_T41 l0 x6_1).f0) l1).bind fun t232 => (some (x6_1, (t232 == 0))))) = some (r1, r2) := H
     have A5 := A_ A50
     clear A50
     by_cases c6 : t230 < 0
     ·rw [if_pos c6] at H
      have c6b0 : decide (t230 < 0) = true := decide_eq_true c6
      clear c6
      have H' := A_ H
      clear H
      have p229 : 0 ≤ (x6_1 : Int) := of_decide_eq_true Z13
      have q229 : x6_1 < (l0.length : Int) := of_decide_eq_true Z13
      obtain ⟨ad229, A229_0, c229_0, A229_1, c229_1, e229, hx229_0, hx229_1, hl229_0, hi229_0, hl229_1, hi229_1⟩ := at_T41 HR0.out x6_1 p229 q229
      cases e229
      have HR229_0 := A_ hi229_0
      have HC229_0 := A_ hl229_0
      clear hi229_0 hl229_0
      have HR229_1 := A_ hi229_1
      have HC229_1 := A_ hl229_1
      clear hi229_1 hl229_1
      replace p229 := eq_true p229
      replace q229 := eq_true q229
      go_wp2_with (first | (go_at_call 62; (with_reducible refine (spec_comparePlaces.calls k1 _ _ ((rd_T41 l0 x6_1).f0) _ _ l1 t230 _ ?side1 ?side2 ?side3 ?side4 A5.out).mono ?_); (case side1 => exact Z29 HR229_0.out); (case side2 => exact HC229_0.out); (case side3 => exact Z29 HR1.out); (case side4 => exact HC1.out); rintro e w' ⟨rfl, ⟨nd, rfl⟩⟩))
      go_roundg k1
      case measure => have := HK1.out; omega
      case rel => exact ⟨(wrap64 (x6_1 + 1)), Z21, H', ⟨by have := HK1.out; omega⟩, Z25⟩
     ·rw [if_neg c6] at H
      have c6b0 : decide (t230 < 0) = false := decide_eq_false c6
      clear c6
      replace H := Option.bind_eq_some_iff.mp H
      obtain ⟨t232, A70, H⟩ := H
      replace H : (some (x6_1, (t232 == 0))) = some (r1, r2) := H
      have A7 := A_ A70
      clear A70
      simp only [Option.some.injEq, Prod.mk.injEq] at H
      obtain ⟨rfl, rfl⟩ := H
      have p229 : 0 ≤ (x6_1 : Int) := of_decide_eq_true Z13
      have q229 : x6_1 < (l0.length : Int) := of_decide_eq_true Z13
      obtain ⟨ad229, A229_0, c229_0, A229_1, c229_1, e229, hx229_0, hx229_1, hl229_0, hi229_0, hl229_1, hi229_1⟩ := at_T41 HR0.out x6_1 p229 q229
      cases e229
      have HR229_0 := A_ hi229_0
      have HC229_0 := A_ hl229_0
      clear hi229_0 hl229_0
      have HR229_1 := A_ hi229_1
      have HC229_1 := A_ hl229_1
      clear hi229_1 hl229_1
      replace p229 := eq_true p229
      replace q229 := eq_true q229
      go_wp2_with (first | (go_at_call 62; (with_reducible refine (spec_comparePlaces.calls k1 _ _ ((rd_T41 l0 x6_1).f0) _ _ l1 t230 _ ?side1 ?side2 ?side3 ?side4 A5.out).mono ?_); (case side1 => exact Z29 HR229_0.out); (case side2 => exact HC229_0.out); (case side3 => exact Z29 HR1.out); (case side4 => exact HC1.out); rintro e w' ⟨rfl, ⟨nd, rfl⟩⟩; have p231 : 0 ≤ (x6_1 : Int) := of_decide_eq_true Z13; have q231 : x6_1 < (l0.length : Int) := of_decide_eq_true Z13; obtain ⟨ad231, A231_0, c231_0, A231_1, c231_1, e231, hx231_0, hx231_1, hl231_0, hi231_0, hl231_1, hi231_1⟩ := at_T41 HR0.out x6_1 p231 q231; obtain rfl : ad229 = ad231 := (by injection e231); have HR231_0 := A_ hi231_0; have HC231_0 := A_ hl231_0; clear hi231_0 hl231_0; have HR231_1 := A_ hi231_1; have HC231_1 := A_ hl231_1; clear hi231_1 hl231_1; replace p231 := eq_true p231; replace q231 := eq_true q231; have ea_ := Option.some.inj (hx229_0.symm.trans hx231_0); injection ea_ with ea_ en_ ec_; subst ea_; subst ec_; clear en_; have ea_ := Option.some.inj (hx229_1.symm.trans hx231_1); injection ea_ with ea_ en_ ec_; subst ea_; subst ec_; clear en_) | (go_at_call 62; (with_reducible refine (spec_comparePlaces.calls k1 _ _ ((rd_T41 l0 x6_1).f0) _ _ l1 t232 _ ?side1 ?side2 ?side3 ?side4 A7.out).mono ?_); (case side1 => exact Z29 HR231_0.out); (case side2 => exact HC231_0.out); (case side3 => exact Z29 HR1.out); (case side4 => exact HC1.out); rintro e w' ⟨rfl, ⟨nd, rfl⟩⟩))
      go_ret2
      (try (have et_ := Option.some.inj (A5.out.symm.trans A7.out); subst et_))
      exact ⟨Z21, Z25⟩
    ·rw [if_neg c4] at H
     exact absurd H (by simp)
   ·rw [if_neg c3] at H
    have c3b0 : decide (x6_1 < (l0.length : Int)) = false := decide_eq_false c3
    clear c3
    simp only [Option.some.injEq, Prod.mk.injEq] at H
    obtain ⟨rfl, rfl⟩ := H
    go_wp2
    go_ret2
    (try (have et_ := Option.some.inj (A5.out.symm.trans A7.out); subst et_))
    exact ⟨Z21, Z25⟩
def spec_copyStore.l0 : Nat → List (S41) → List (S41) → Int → Option ((List (S41)))
 | 0, _, _, _ => none
 | k + 1, x0, x3, x4 => if x4 < (x0.length : Int) then (if 0 ≤ x4 then ((spec_copyCell.f ((rd_T41 x0 x4).f0) ((rd_T41 x0 x4).f1)).bind fun bt237 => (if x3.length < 2932031007402 then (spec_copyStore.l0 k x0 (x3 ++ [(⟨bt237.1, bt237.2⟩ : S41)]) (wrap64 (x4 + 1))) else (none))) else (none)) else (some x3)
def spec_copyStore.f (k : Nat) (l0 : List (S41)) : Option ((List (S41))) := spec_copyStore.l0 k l0 (([] : List (S41))) 0
theorem spec_copyStore.mono_l : ∀ k, (∀ y0 y1 y2, LeO (spec_copyStore.l0 k y0 y1 y2) (spec_copyStore.l0 (k + 1) y0 y1 y2))
 | 0 => fun _ _ _ r h => by simp [spec_copyStore.l0] at h
 | k + 1 => by
  have ih0 := spec_copyStore.mono_l k
  ·intro y0 y1 y2
   unfold spec_copyStore.l0
   repeat' first
   | (with_reducible exact ih0 _ _ _)
   | (with_reducible exact LeO.refl _)
   | (with_reducible exact LeO.none _)
   | (with_reducible refine LeO.ite ?_ ?_)
   | (with_reducible refine LeO.bind ?_ (fun _ => ?_))
   | exact ih0 _ _ _
   | exact LeO.none _
   | refine LeO.ite ?_ ?_
   | refine LeO.bind ?_ (fun _ => ?_)
theorem spec_copyStore.mono : ∀ a0 k, LeO (spec_copyStore.f k a0) (spec_copyStore.f (k + 1) a0) := by
 intro a0 k
 have ih0 := spec_copyStore.mono_l k
 unfold spec_copyStore.f
 repeat' first
   | (with_reducible exact ih0 _ _ _)
   | (with_reducible exact LeO.refl _)
   | (with_reducible exact LeO.none _)
   | (with_reducible refine LeO.ite ?_ ?_)
   | (with_reducible refine LeO.bind ?_ (fun _ => ?_))
   | exact ih0 _ _ _
   | exact LeO.none _
   | refine LeO.ite ?_ ?_
   | refine LeO.bind ?_ (fun _ => ?_)
set_option maxHeartbeats 8000000 in
set_option maxRecDepth 100000 in
theorem spec_copyStore.calls (k : Nat) (A0 : Option Addr) (c0 : Nat) (l0 : List (S41)) (r : List (S41)) (w : World) (hr0 : Kd.C k41 w A0 l0.length l0) (hc0 : l0.length ≤ c0) (h : spec_copyStore.f k l0 = some r) :
  Calls Try.prog 69 #[.slice A0 l0.length c0] w fun e w' => ∃ v0_ : Value, e = .returned (v0_) ∧ Kd.S k41 41 w' w.heap.size (fun _ => True) v0_ r ∧ Below w.heap.size w w' := by
 have hu41 := Try.underlying41
 have HR0 := A_ hr0
 have HC0 := A_ hc0
 clear hr0 hc0
 have HB := A_ (Below.refl w.heap.size w)
 have H : (spec_copyStore.l0 k l0 (([] : List (S41))) 0) = some r := h
 clear h
 obtain ⟨y233, hy233⟩ : ∃ y_ : List (S41), y_ = (([] : List (S41))) := ⟨_, rfl⟩
 replace H : (spec_copyStore.l0 k l0 y233 0) = some r := by first | (rw [hy233]; with_reducible exact H) | (have H2_ := (Option.bind_some _ _).symm.trans H; rw [hy233]; with_reducible exact H2_) | (have H2_ := (Option.bind_some _ _).symm.trans H; with_reducible exact H2_) | with_reducible exact H | (rw [hy233]; exact H) | exact H
 have Ny233 := A_ hy233
 clear hy233
 have H' := A_ H
 clear H
 go_enter Try.func69, Try.ntmps69
 go_wp2_with (first | ((with_reducible refine gate_dst (N := 5) rfl ?_); refine Kd.S_lit k41 _ 41 ?hg (N := 5) ?hd (xs := ([] : List (S41))) (inner := []) (ok := fun _ => True) (okp := fun _ => True) ?hr ?hp (fun _ hk => hk) trivial (Below.refl _ _) (Nat.le_refl _) (by simp) ?_; (case hd => rfl); (case hg => rfl); (case hr => exact Z24); (case hp => exact (Reps.none _ _)); intro v234 w2 ho3 hb hg_ hnew_; clear hg_ hnew_; (first | rw [← Ny233.out] at ho3 | (simp only [Int.reduceToNat] at ho3; rw [← Ny233.out] at ho3)); have n0_ := A_ (Kd.S_lower ho3 (below_size Z1)); have n1_ := A_ (below_step Z1 hb); clear HB; have HO235 := n0_; have HB := n1_; clear n0_ n1_; clear hb ho3))
 go_loopg [3, 4] k (fun kq v3 v4 w' => ∃ (x3_1 : List (S41)) (x4_1 : Int), v4 = .int .i64 x4_1 ∧ Aside0 (spec_copyStore.l0 kq l0 x3_1 x4_1 = some r) ∧ Aside0 (kq ≤ k) ∧ Aside0 (Kd.S k41 41 w' w.heap.size (fun _ => True) v3 x3_1) ∧ Aside0 (Below w.heap.size w w'))
 case atStart => exact ⟨(y233), (0), Z21, H', ⟨Nat.le_refl _⟩, ⟨by (with_reducible repeat (first | apply Kd.S_alloc | apply Kd.S_drewN | apply Kd.S_drew)); exact HO235.out⟩, ⟨Z1⟩⟩
 case round =>
  clear H'
  try clear p2
  obtain ⟨x3_1, x4_1, rfl, HA, HK1, HO_3, HB⟩ := hrel
  cases gk with
  | zero => exact absurd HA.out (by simp [spec_copyStore.l0])
  | succ k1 =>
   have H := HA.out
   clear HA
   simp only [spec_copyStore.l0] at H
   by_cases c4 : x4_1 < (l0.length : Int)
   ·rw [if_pos c4] at H
    have c4b0 : decide (x4_1 < (l0.length : Int)) = true := decide_eq_true c4
    clear c4
    by_cases c5 : 0 ≤ x4_1
    ·rw [if_pos c5] at H
     have c5b0 : decide (0 ≤ x4_1) = true := decide_eq_true c5
     clear c5
     replace H := Option.bind_eq_some_iff.mp H
     obtain ⟨⟨t237, t240⟩, A60, H⟩ := H
     replace H : (if x3_1.length < 2932031007402 then (spec_copyStore.l0 k1 l0 (x3_1 ++ [(⟨t237, t240⟩ : S41)]) (wrap64 (x4_1 + 1))) else (none)) = some r := H
     have A6 := A_ A60
     clear A60
     by_cases c7 : x3_1.length < 2932031007402
     ·rw [if_pos c7] at H
      have LMc7 := A_ c7
      clear c7
      obtain ⟨y243, hy243⟩ : ∃ y_ : List (S41), y_ = (x3_1 ++ [(⟨t237, t240⟩ : S41)]) := ⟨_, rfl⟩
      replace H : (spec_copyStore.l0 k1 l0 y243 (wrap64 (x4_1 + 1))) = some r := by first | (rw [hy243]; with_reducible exact H) | (have H2_ := (Option.bind_some _ _).symm.trans H; rw [hy243]; with_reducible exact H2_) | (have H2_ := (Option.bind_some _ _).symm.trans H; with_reducible exact H2_) | with_reducible exact H | (rw [hy243]; exact H) | exact H
      have Ny243 := A_ hy243
      clear hy243
      have H' := A_ H
      clear H
      have p236 : 0 ≤ (x4_1 : Int) := of_decide_eq_true Z13
      have q236 : x4_1 < (l0.length : Int) := of_decide_eq_true Z13
      obtain ⟨ad236, A236_0, c236_0, A236_1, c236_1, e236, hx236_0, hx236_1, hl236_0, hi236_0, hl236_1, hi236_1⟩ := at_T41 HR0.out x4_1 p236 q236
      cases e236
      replace hx236_0 := ZC HB.out hx236_0
      replace hx236_1 := ZC HB.out hx236_1
      have HR236_0 := A_ hi236_0
      have HC236_0 := A_ hl236_0
      clear hi236_0 hl236_0
      have HR236_1 := A_ hi236_1
      have HC236_1 := A_ hl236_1
      clear hi236_1 hl236_1
      replace p236 := eq_true p236
      replace q236 := eq_true q236
      go_wp2_with (first | ((with_reducible refine gate_callee (f := 53) rfl ?_); refine goesL_ (some 17) rfl rfl Try.func53 (by kernel_rfl) rfl #[.agg #[.slice A236_0 ((rd_T41 l0 x4_1).f0).length c236_0, .slice A236_1 ((rd_T41 l0 x4_1).f1).length c236_1]] rfl Z3 ?_; (with_reducible refine (spec_copyCell.calls _ _ ((rd_T41 l0 x4_1).f0) _ _ ((rd_T41 l0 x4_1).f1) t237 t240 _ ?side1 ?side2 ?side3 ?side4 A6.out).mono ?_); (case side1 => exact Z12 HR236_0.out); (case side2 => exact HC236_0.out); (case side3 => exact Z12 HR236_1.out); (case side4 => exact HC236_1.out); rintro e w8 ⟨v238, v241, rfl, ho0, ho1, hb⟩; refine ⟨_, rfl, ?_⟩; have n0_ := A_ (Kd.S_mono (Kd.S_told (Kd.S_told (Kd.S_old (by (with_reducible repeat (first | apply Kd.S_alloc | apply Kd.S_drewN | apply Kd.S_drew)); exact HO_3.out) hb) (Kd.R_base ho0)) (Kd.R_base ho1)) (fun _ h_ => h_.1)); have n1_ := A_ (Kd.R_lower ho0 (below_size Z1)); have n2_ := A_ (Kd.R_lower ho1 (below_size Z1)); have n3_ := A_ (below_step Z1 hb); clear HO_3; clear HB; have HO_3 := n0_; have HO239 := n1_; have HO242 := n2_; have HB := n3_; clear n0_ n1_ n2_ n3_; (try clear hb); (try clear hb2); (try clear hk); (try clear hi); (try clear ho0); (try clear ho1); obtain ⟨Ao10, co10, eo10⟩ := Kd.R_slice HO239.out; subst eo10; obtain ⟨Ao11, co11, eo11⟩ := Kd.R_slice HO242.out; subst eo11) | ((with_reducible refine gate_builtin (b := .append) (xs := #[.tmp 12, .tmp 18]) rfl ?_); at_builtin; refine Kd.S_append k41 (w0 := w) w.heap.size rfl (.tmp 12) (.tmp 18) 33 41 (.agg #[(.slice none 0 0), (.slice none 0 0)]) 48 rfl Try.underlying33 info41 rfl (by decide) (by omega) u3 x3_1 (⟨t237, t240⟩ : S41) [.slice Ao10 t237.length co10, .slice Ao11 t240.length co11] (fun _ => True) (fun k_ => some k_ = (.slice Ao10 t237.length co10 : Value).ownBlock ∨ some k_ = (.slice Ao11 t240.length co11 : Value).ownBlock) rfl rfl ?aP (fun k_ hk_ => hk_.elim (fun h_ => ((Kd.R_mono (ok' := fun k_ => ((fun _ => True)) k_ ∧ some k_ ≠ (u3 : Value).ownBlock) (Kd.R_apart' (HO239.out) (Kd.S_typed HO_3.out) (by decide)) (fun k_ hk => ⟨trivial, hk.2⟩))).1 k_ h_.symm) (fun h_ => ((Kd.R_mono (ok' := fun k_ => ((fun _ => True)) k_ ∧ some k_ ≠ (u3 : Value).ownBlock) (Kd.R_apart' (HO242.out) (Kd.S_typed HO_3.out) (by decide)) (fun k_ hk => ⟨trivial, hk.2⟩))).1 k_ h_.symm)) ?aF ?aO ?aB ?aS ?aL ?_; (case aP => exact k41_mkM _ _ _ (⟨t237, t240⟩ : S41) (Kd.R_mono (Kd.R_tight rfl (Kd.R_mono (ok' := fun k_ => ((fun _ => True)) k_ ∧ some k_ ≠ (u3 : Value).ownBlock) (Kd.R_apart' (HO239.out) (Kd.S_typed HO_3.out) (by decide)) (fun k_ hk => ⟨trivial, hk.2⟩))) (fun _ h_ => Or.inl h_)) (Kd.R_mono (Kd.R_tight rfl (Kd.R_mono (ok' := fun k_ => ((fun _ => True)) k_ ∧ some k_ ≠ (u3 : Value).ownBlock) (Kd.R_apart' (HO242.out) (Kd.S_typed HO_3.out) (by decide)) (fun k_ hk => ⟨trivial, hk.2⟩))) (fun _ h_ => Or.inr (h_)))); (case aB => exact Z1); (case aF => exact (fun _ _ => trivial)); (case aO => exact (by (with_reducible repeat (first | apply Kd.S_alloc | apply Kd.S_drewN | apply Kd.S_drew)); exact Kd.S_mono HO_3.out (fun k_ hk => ⟨trivial, fun e_ => e_.elim (fun h_ => hk.1.2 h_) (fun h_ => hk.2 h_)⟩))); (case aS => exact (below_size Z1)); (case aL => have := LMc7.out; omega); intro v244 w9 ho hb hg hat; rw [← Ny243.out] at ho; have n0_ := A_ (hb); have n1_ := A_ (ho); clear HB; clear HO_3; clear HO239; clear HO242; have HB := n0_; have HO245 := n1_; clear n0_ n1_; clear ho hb hg hat))
      go_roundg k1
      case measure => have := HK1.out; omega
      case rel => exact ⟨(y243), (wrap64 (x4_1 + 1)), Z21, H', ⟨by have := HK1.out; omega⟩, ⟨by (with_reducible repeat (first | apply Kd.S_alloc | apply Kd.S_drewN | apply Kd.S_drew)); exact HO245.out⟩, ⟨Z1⟩⟩
     ·rw [if_neg c7] at H
      exact absurd H (by simp)
    ·rw [if_neg c5] at H
     exact absurd H (by simp)
   ·rw [if_neg c4] at H
    have c4b0 : decide (x4_1 < (l0.length : Int)) = false := decide_eq_false c4
    clear c4
    obtain rfl := Option.some.inj H
    go_wp2
    go_ret
    exact ⟨_, Z17, by (with_reducible repeat (first | apply Kd.S_alloc | apply Kd.S_drewN | apply Kd.S_drew)); exact HO_3.out, Z1⟩
def spec_put.f (k : Nat) (l0 : List (S41)) (l1_0 : List (S68)) (l1_1 : List (S28)) : Option ((List (S41))) := (spec_cellAt.f k l0 l1_0).bind fun bt247 => (if 0 ≤ bt247.1 then (if bt247.1 ≤ (l0.length : Int) then ((spec_copyStore.f k (l0.take (bt247.1 : Int).toNat)).bind fun t253 => ((spec_copyCell.f l1_0 l1_1).bind fun bt256 => (if t253.length < 2932031007402 then ((some (t253 ++ [(⟨bt256.1, bt256.2⟩ : S41)] : List (S41))).bind fun y262 => (if bt247.2 = true then (if 0 ≤ (wrap64 (bt247.1 + 1)) then (if (wrap64 (bt247.1 + 1)) ≤ (l0.length : Int) then ((spec_copyStore.f k (l0.drop ((wrap64 (bt247.1 + 1)) : Int).toNat)).bind fun t269 => (if y262.length + t269.length < 2932031007402 then (some (y262 ++ t269)) else (none))) else (none)) else (none)) else ((spec_copyStore.f k (l0.drop (bt247.1 : Int).toNat)).bind fun t279 => (if y262.length + t279.length < 2932031007402 then (some (y262 ++ t279)) else (none))))) else (none)))) else (none)) else (none))
theorem spec_put.mono : ∀ a0 a1 a2 k, LeO (spec_put.f k a0 a1 a2) (spec_put.f (k + 1) a0 a1 a2) := by
 intro a0 a1 a2 k
 unfold spec_put.f
 repeat' first
   | (with_reducible exact spec_cellAt.mono _ _ _)
   | (with_reducible exact spec_copyStore.mono _ _)
   | (with_reducible exact LeO.refl _)
   | (with_reducible exact LeO.none _)
   | (with_reducible refine LeO.ite ?_ ?_)
   | (with_reducible refine LeO.bind ?_ (fun _ => ?_))
   | exact spec_cellAt.mono _ _ _
   | exact spec_copyStore.mono _ _
   | exact LeO.none _
   | refine LeO.ite ?_ ?_
   | refine LeO.bind ?_ (fun _ => ?_)
set_option maxHeartbeats 8000000 in
set_option maxRecDepth 100000 in
theorem spec_put.calls (k : Nat) (A0 : Option Addr) (c0 : Nat) (l0 : List (S41)) (A1_0 : Option Addr) (c1_0 : Nat) (l1_0 : List (S68)) (A1_1 : Option Addr) (c1_1 : Nat) (l1_1 : List (S28)) (r : List (S41)) (w : World) (hr0 : Kd.C k41 w A0 l0.length l0) (hc0 : l0.length ≤ c0) (hr1_0 : Kd.C k68 w A1_0 l1_0.length l1_0) (hc1_0 : l1_0.length ≤ c1_0) (hr1_1 : Kd.C k28 w A1_1 l1_1.length l1_1) (hc1_1 : l1_1.length ≤ c1_1) (h : spec_put.f k l0 l1_0 l1_1 = some r) :
  Calls Try.prog 61 #[.slice A0 l0.length c0, .agg #[.slice A1_0 l1_0.length c1_0, .slice A1_1 l1_1.length c1_1]] w fun e w' => ∃ v0_ : Value, e = .returned (v0_) ∧ Kd.N k41 41 w' w.heap.size (fun k_ => (w.heap.size ≤ k_)) v0_ r ∧ Below w.heap.size w w' := by
 have hu41 := Try.underlying41
 have HR0 := A_ hr0
 have HC0 := A_ hc0
 clear hr0 hc0
 have HR1_0 := A_ hr1_0
 have HC1_0 := A_ hc1_0
 clear hr1_0 hc1_0
 have HR1_1 := A_ hr1_1
 have HC1_1 := A_ hc1_1
 clear hr1_1 hc1_1
 have HB := A_ (Below.refl w.heap.size w)
 have H : ((spec_cellAt.f k l0 l1_0).bind fun bt247 => (if 0 ≤ bt247.1 then (if bt247.1 ≤ (l0.length : Int) then ((spec_copyStore.f k (l0.take (bt247.1 : Int).toNat)).bind fun t253 => ((spec_copyCell.f l1_0 l1_1).bind fun bt256 => (if t253.length < 2932031007402 then ((some (t253 ++ [(⟨bt256.1, bt256.2⟩ : S41)] : List (S41))).bind fun y262 => (if bt247.2 = true then (if 0 ≤ (wrap64 (bt247.1 + 1)) then (if (wrap64 (bt247.1 + 1)) ≤ (l0.length : Int) then ((spec_copyStore.f k (l0.drop ((wrap64 (bt247.1 + 1)) : Int).toNat)).bind fun t269 => (if y262.length + t269.length < 2932031007402 then (some (y262 ++ t269)) else (none))) else (none)) else (none)) else ((spec_copyStore.f k (l0.drop (bt247.1 : Int).toNat)).bind fun t279 => (if y262.length + t279.length < 2932031007402 then (some (y262 ++ t279)) else (none))))) else (none)))) else (none)) else (none))) = some r := h
 clear h
 replace H := Option.bind_eq_some_iff.mp H
 obtain ⟨⟨t247, t248⟩, A30, H⟩ := H
 replace H : (if 0 ≤ t247 then (if t247 ≤ (l0.length : Int) then ((spec_copyStore.f k (l0.take (t247 : Int).toNat)).bind fun t253 => ((spec_copyCell.f l1_0 l1_1).bind fun bt256 => (if t253.length < 2932031007402 then ((some (t253 ++ [(⟨bt256.1, bt256.2⟩ : S41)] : List (S41))).bind fun y262 => (if t248 = true then (if 0 ≤ (wrap64 (t247 + 1)) then (if (wrap64 (t247 + 1)) ≤ (l0.length : Int) then ((spec_copyStore.f k (l0.drop ((wrap64 (t247 + 1)) : Int).toNat)).bind fun t269 => (if y262.length + t269.length < 2932031007402 then (some (y262 ++ t269)) else (none))) else (none)) else (none)) else ((spec_copyStore.f k (l0.drop (t247 : Int).toNat)).bind fun t279 => (if y262.length + t279.length < 2932031007402 then (some (y262 ++ t279)) else (none))))) else (none)))) else (none)) else (none)) = some r := H
 have A3 := A_ A30
 clear A30
 by_cases c4 : 0 ≤ t247
 ·rw [if_pos c4] at H
  have c4b0 := eq_true c4
  have c4b1 : decide (0 ≤ t247) = true := decide_eq_true c4
  clear c4
  by_cases c5 : t247 ≤ (l0.length : Int)
  ·rw [if_pos c5] at H
   have c5b0 := eq_true c5
   have c5b1 : decide (t247 ≤ (l0.length : Int)) = true := decide_eq_true c5
   clear c5
   obtain ⟨y249, hy249⟩ : ∃ y_ : List (S41), y_ = (l0.take (t247 : Int).toNat) := ⟨_, rfl⟩
   replace H : ((spec_copyStore.f k y249).bind fun t253 => ((spec_copyCell.f l1_0 l1_1).bind fun bt256 => (if t253.length < 2932031007402 then ((some (t253 ++ [(⟨bt256.1, bt256.2⟩ : S41)] : List (S41))).bind fun y262 => (if t248 = true then (if 0 ≤ (wrap64 (t247 + 1)) then (if (wrap64 (t247 + 1)) ≤ (l0.length : Int) then ((spec_copyStore.f k (l0.drop ((wrap64 (t247 + 1)) : Int).toNat)).bind fun t269 => (if y262.length + t269.length < 2932031007402 then (some (y262 ++ t269)) else (none))) else (none)) else (none)) else ((spec_copyStore.f k (l0.drop (t247 : Int).toNat)).bind fun t279 => (if y262.length + t279.length < 2932031007402 then (some (y262 ++ t279)) else (none))))) else (none)))) = some r := by first | (rw [hy249]; with_reducible exact H) | (have H2_ := (Option.bind_some _ _).symm.trans H; rw [hy249]; with_reducible exact H2_) | (have H2_ := (Option.bind_some _ _).symm.trans H; with_reducible exact H2_) | with_reducible exact H | (rw [hy249]; exact H) | exact H
   have Ny249 := A_ hy249
   clear hy249
   replace H := Option.bind_eq_some_iff.mp H
   obtain ⟨t253, A60, H⟩ := H
   replace H : ((spec_copyCell.f l1_0 l1_1).bind fun bt256 => (if t253.length < 2932031007402 then ((some (t253 ++ [(⟨bt256.1, bt256.2⟩ : S41)] : List (S41))).bind fun y262 => (if t248 = true then (if 0 ≤ (wrap64 (t247 + 1)) then (if (wrap64 (t247 + 1)) ≤ (l0.length : Int) then ((spec_copyStore.f k (l0.drop ((wrap64 (t247 + 1)) : Int).toNat)).bind fun t269 => (if y262.length + t269.length < 2932031007402 then (some (y262 ++ t269)) else (none))) else (none)) else (none)) else ((spec_copyStore.f k (l0.drop (t247 : Int).toNat)).bind fun t279 => (if y262.length + t279.length < 2932031007402 then (some (y262 ++ t279)) else (none))))) else (none))) = some r := H
   have A6 := A_ A60
   clear A60
   replace H := Option.bind_eq_some_iff.mp H
   obtain ⟨⟨t256, t259⟩, A70, H⟩ := H
   replace H : (if t253.length < 2932031007402 then ((some (t253 ++ [(⟨t256, t259⟩ : S41)] : List (S41))).bind fun y262 => (if t248 = true then (if 0 ≤ (wrap64 (t247 + 1)) then (if (wrap64 (t247 + 1)) ≤ (l0.length : Int) then ((spec_copyStore.f k (l0.drop ((wrap64 (t247 + 1)) : Int).toNat)).bind fun t269 => (if y262.length + t269.length < 2932031007402 then (some (y262 ++ t269)) else (none))) else (none)) else (none)) else ((spec_copyStore.f k (l0.drop (t247 : Int).toNat)).bind fun t279 => (if y262.length + t279.length < 2932031007402 then (some (y262 ++ t279)) else (none))))) else (none)) = some r := H
   have A7 := A_ A70
   clear A70
   by_cases c8 : t253.length < 2932031007402
   ·rw [if_pos c8] at H
    have LMc8 := A_ c8
    clear c8
    obtain ⟨y262, hy262⟩ : ∃ y_ : List (S41), y_ = (t253 ++ [(⟨t256, t259⟩ : S41)]) := ⟨_, rfl⟩
    replace H : (if t248 = true then (if 0 ≤ (wrap64 (t247 + 1)) then (if (wrap64 (t247 + 1)) ≤ (l0.length : Int) then ((spec_copyStore.f k (l0.drop ((wrap64 (t247 + 1)) : Int).toNat)).bind fun t269 => (if y262.length + t269.length < 2932031007402 then (some (y262 ++ t269)) else (none))) else (none)) else (none)) else ((spec_copyStore.f k (l0.drop (t247 : Int).toNat)).bind fun t279 => (if y262.length + t279.length < 2932031007402 then (some (y262 ++ t279)) else (none)))) = some r := by first | (rw [hy262]; with_reducible exact H) | (have H2_ := (Option.bind_some _ _).symm.trans H; rw [hy262]; with_reducible exact H2_) | (have H2_ := (Option.bind_some _ _).symm.trans H; with_reducible exact H2_) | with_reducible exact H | (rw [hy262]; exact H) | exact H
    have Ny262 := A_ hy262
    clear hy262
    by_cases c9 : t248 = true
    ·subst c9
     have H1 : (if 0 ≤ (wrap64 (t247 + 1)) then (if (wrap64 (t247 + 1)) ≤ (l0.length : Int) then ((spec_copyStore.f k (l0.drop ((wrap64 (t247 + 1)) : Int).toNat)).bind fun t269 => (if y262.length + t269.length < 2932031007402 then (some (y262 ++ t269)) else (none))) else (none)) else (none)) = some r := by rw [if_pos rfl] at H; exact H
     clear H
     have H := H1
     clear H1
     obtain ⟨ji10, hji10⟩ : ∃ j_ : Int, (wrap64 (t247 + 1)) = j_ := ⟨_, rfl⟩
     replace H : (if 0 ≤ (ji10) then (if (ji10) ≤ (l0.length : Int) then ((spec_copyStore.f k (l0.drop ((ji10) : Int).toNat)).bind fun t269 => (if y262.length + t269.length < 2932031007402 then (some (y262 ++ t269)) else (none))) else (none)) else (none)) = some r := by first | (rw [hji10] at H; exact H) | (simp only [hji10] at H ⊢; exact H)
     (try rw [hji10] at A3)
     (try rw [hji10] at A6)
     (try rw [hji10] at A7)
     have hji10w : (IntKind.i64.wrap (t247 + 1)) = ji10 := (i64_w _).trans hji10
     by_cases c11 : 0 ≤ (ji10)
     ·rw [if_pos c11] at H
      have c11b0 := eq_true c11
      have c11b1 : decide (0 ≤ (ji10)) = true := decide_eq_true c11
      clear c11
      by_cases c12 : (ji10) ≤ (l0.length : Int)
      ·rw [if_pos c12] at H
       have c12b0 := eq_true c12
       have c12b1 : decide ((ji10) ≤ (l0.length : Int)) = true := decide_eq_true c12
       clear c12
       obtain ⟨y265, hy265⟩ : ∃ y_ : List (S41), y_ = (l0.drop ((ji10) : Int).toNat) := ⟨_, rfl⟩
       replace H : ((spec_copyStore.f k y265).bind fun t269 => (if y262.length + t269.length < 2932031007402 then (some (y262 ++ t269)) else (none))) = some r := by first | (rw [hy265]; with_reducible exact H) | (have H2_ := (Option.bind_some _ _).symm.trans H; rw [hy265]; with_reducible exact H2_) | (have H2_ := (Option.bind_some _ _).symm.trans H; with_reducible exact H2_) | with_reducible exact H | (rw [hy265]; exact H) | exact H
       have Ny265 := A_ hy265
       clear hy265
       replace H := Option.bind_eq_some_iff.mp H
       obtain ⟨t269, A130, H⟩ := H
       replace H : (if y262.length + t269.length < 2932031007402 then (some (y262 ++ t269)) else (none)) = some r := H
       have A13 := A_ A130
       clear A130
       by_cases c14 : y262.length + t269.length < 2932031007402
       ·rw [if_pos c14] at H
        have LMc14 := A_ c14
        clear c14
        obtain ⟨y272, hy272⟩ : ∃ y_ : List (S41), y_ = (y262 ++ t269) := ⟨_, rfl⟩
        replace H : (some y272) = some r := by first | (rw [hy272]; with_reducible exact H) | (have H2_ := (Option.bind_some _ _).symm.trans H; rw [hy272]; with_reducible exact H2_) | (have H2_ := (Option.bind_some _ _).symm.trans H; with_reducible exact H2_) | with_reducible exact H | (rw [hy272]; exact H) | exact H
        have Ny272 := A_ hy272
        clear hy272
        obtain rfl := Option.some.inj H
        go_enter Try.func61, Try.ntmps61
        go_wp2_with (first | ((with_reducible refine gate_dst (N := 3) rfl ?_); refine box_event ?hg (N := 3) ?hd (cs := #[.slice A1_0 l1_0.length c1_0, .slice A1_1 l1_1.length c1_1]) (t := 41) ?hr ?_; (case hd => rfl); (case hg => rfl); (case hr => exact Z24); intro gb246 hg w15 hbox hb; have n0_ := A_ (below_step Z1 hb); have n1_ := A_ (hbox); have n2_ := A_ ((by rw [hg]; exact (below_size Z1) : w.heap.size ≤ gb246)); have n3_ := A_ ((by rw [hg]; exact (below_size Z1) : w.heap.size ≤ gb246)); clear HB; have HB := n0_; have BK246 := n1_; have GW246 := n2_; have GE246 := n3_; clear n0_ n1_ n2_ n3_; clear hb hbox hg; have hcz16_0 : w15.cell? ⟨gb246, 0, none⟩ = some (.slice A1_0 l1_0.length c1_0) := (blk_cell BK246.out 0).trans rfl; have hcz16_1 : w15.cell? ⟨gb246, 1, none⟩ = some (.slice A1_1 l1_1.length c1_1) := (blk_cell BK246.out 1).trans rfl; have hfz16_0 := blk_frozen BK246.out 0; have hfz16_1 := blk_frozen BK246.out 1) | ((with_reducible refine gate_callee (f := 56) rfl ?_); refine goesL_ (some 12) rfl rfl Try.func56 (by kernel_rfl) rfl #[.slice A0 l0.length c0, .slice A1_0 l1_0.length c1_0] rfl Z3 ?_; (with_reducible refine (spec_cellAt.calls k _ _ l0 _ _ l1_0 t247 true _ ?side1 ?side2 ?side3 ?side4 A3.out).mono ?_); (case side1 => exact Z12 HR0.out); (case side2 => exact HC0.out); (case side3 => exact Z12 HR1_0.out); (case side4 => exact HC1_0.out); rintro e w' ⟨rfl, ⟨nd, rfl⟩⟩; refine ⟨_, rfl, ?_⟩; have q17 : (t247 : Int) ≤ ((l0.length : Int) : Int) := of_decide_eq_true Z13; obtain ⟨i017, hi017, _, hsz17, _⟩ := info_parts info41; have hroom17 : l0.length ≤ c0 := HC0.out; have hC17 : Kd.C k41 _ A0 l0.length l0 := HR0.out; have hcut17 := cut_to (P := Try.prog) 33 41 .i64 Try.underlying33 hi017 A0 l0.length c0 t247 (of_decide_eq_true Z13) q17 hroom17; have hr17 := Kd.C_take (m := (t247 : Int).toNat) hC17 (by omega); have hy17 : y249.length = (t247 : Int).toNat := (by rw [Ny249.out, List.length_take]; omega); rw [← Ny249.out] at hr17; rw [← hy17] at hcut17; have HR252 := A_ hr17; have HC252 := A_ (show y249.length ≤ c0 from by omega); clear hr17 hC17 hroom17 hi017 hsz17; have KY17 := A_ hy17; clear hy17; replace q17 := eq_true q17) | ((with_reducible refine gate_callee (f := 69) rfl ?_); refine goesL_ (some 18) rfl rfl Try.func69 (by kernel_rfl) rfl #[.slice A0 y249.length c0] rfl Z3 ?_; (with_reducible refine (spec_copyStore.calls k _ _ y249 t253 _ ?side1 ?side2 A6.out).mono ?_); (case side1 => repeat (first | exact (Kd.C_below HR252.out (Z2 GE246.out)) | (with_reducible refine Kd.C_alloc ?_ _) | (with_reducible refine Kd.C_drewN ?_ _) | (with_reducible refine Kd.C_drew ?_))); (case side2 => exact HC252.out); rintro e w18 ⟨v254, rfl, ho0, hb⟩; refine ⟨_, rfl, ?_⟩; have n0_ := A_ (Kd.N_lower (Kd.N_mono (ok' := fun k_ => (w.heap.size ≤ k_) ∧ k_ ≠ gb246) (Kd.S_N (Kd.S_bound ho0)) (fun k_ hk_ => ⟨(Nat.le_trans (below_size (Z2 GE246.out)) hk_.2.1), (Kd.freshB (g := gb246) (o := .cells #[.slice A1_0 l1_0.length c1_0, .slice A1_1 l1_1.length c1_1] 41 (0, 0)) (Z5 BK246.out) k_ hk_.2.1)⟩)) (below_size (Z2 GE246.out))); have n1_ := A_ (blk_below (g := gb246) (o := .cells #[.slice A1_0 l1_0.length c1_0, .slice A1_1 l1_1.length c1_1] 41 (0, 0)) (Z5 BK246.out) hb); have n2_ := A_ (below_step (Z2 GE246.out) hb); clear BK246; clear HB; have HO255 := n0_; have BK246 := n1_; have HB := n2_; clear n0_ n1_ n2_; (try clear hb); (try clear hb2); (try clear hk); (try clear hi); (try clear ho0); have hcz19_0 : w18.cell? ⟨gb246, 0, none⟩ = some (.slice A1_0 l1_0.length c1_0) := (blk_cell BK246.out 0).trans rfl; have hcz19_1 : w18.cell? ⟨gb246, 1, none⟩ = some (.slice A1_1 l1_1.length c1_1) := (blk_cell BK246.out 1).trans rfl; have hfz19_0 := blk_frozen BK246.out 0; have hfz19_1 := blk_frozen BK246.out 1) | ((with_reducible refine gate_callee (f := 53) rfl ?_); refine goesL_ (some 21) rfl rfl Try.func53 (by kernel_rfl) rfl #[.agg #[.slice A1_0 l1_0.length c1_0, .slice A1_1 l1_1.length c1_1]] rfl Z3 ?_; (with_reducible refine (spec_copyCell.calls _ _ l1_0 _ _ l1_1 t256 t259 _ ?side1 ?side2 ?side3 ?side4 A7.out).mono ?_); (case side1 => exact Z12 HR1_0.out); (case side2 => exact HC1_0.out); (case side3 => exact Z12 HR1_1.out); (case side4 => exact HC1_1.out); rintro e w20 ⟨v257, v260, rfl, ho0, ho1, hb⟩; refine ⟨_, rfl, ?_⟩; have n0_ := A_ (Kd.N_mono (Kd.N_told (Kd.N_told (Kd.N_old (Z22 HO255.out) hb) (Kd.R_base ho0)) (Kd.R_base ho1)) (fun _ h_ => h_.1)); have n1_ := A_ (Kd.R_lower (Kd.R_newM (M := fun k_ => (w.heap.size ≤ k_)) ho0 (below_size (Z2 GE246.out)) (fun k_ h_ => h_)) (below_size (Z2 GE246.out))); have n2_ := A_ (Kd.R_lower (Kd.R_newM (M := fun k_ => (w.heap.size ≤ k_)) ho1 (below_size (Z2 GE246.out)) (fun k_ h_ => h_)) (below_size (Z2 GE246.out))); have n3_ := A_ (blk_below (g := gb246) (o := .cells #[.slice A1_0 l1_0.length c1_0, .slice A1_1 l1_1.length c1_1] 41 (0, 0)) (Z5 BK246.out) hb); have n4_ := A_ (below_step (Z2 GE246.out) hb); clear HO255; clear BK246; clear HB; have HO255 := n0_; have HO258 := n1_; have HO261 := n2_; have BK246 := n3_; have HB := n4_; clear n0_ n1_ n2_ n3_ n4_; (try clear hb); (try clear hb2); (try clear hk); (try clear hi); (try clear ho0); (try clear ho1); obtain ⟨Ao22, co22, eo22⟩ := Kd.R_slice HO258.out; subst eo22; obtain ⟨Ao23, co23, eo23⟩ := Kd.R_slice HO261.out; subst eo23) | ((with_reducible refine gate_builtin (b := .append) (xs := #[.tmp 19, .tmp 22]) rfl ?_); at_builtin; refine Kd.N_append k41 (w0 := w) w.heap.size rfl (.tmp 19) (.tmp 22) 33 41 (.agg #[(.slice none 0 0), (.slice none 0 0)]) 48 rfl Try.underlying33 info41 rfl (by decide) (by omega) v254 t253 (⟨t256, t259⟩ : S41) [.slice Ao22 t256.length co22, .slice Ao23 t259.length co23] (fun k_ => (w.heap.size ≤ k_) ∧ k_ ≠ gb246) (fun k_ => ((fun k_ => (w.heap.size ≤ k_) ∧ k_ ≠ gb246)) k_ ∧ some k_ ≠ (v254 : Value).ownBlock) rfl rfl ?aP (fun _ hk => hk) ?aF ?aO ?aB ?aS ?aL ?_; (case aP => exact (k41_mkF _ _ (⟨t256, t259⟩ : S41) (Kd.R_reads' (Kd.R_mono (ok' := (fun k_ => ((fun k_ => (w.heap.size ≤ k_) ∧ k_ ≠ gb246)) k_ ∧ some k_ ≠ (v254 : Value).ownBlock)) (Kd.R_types (Kd.R_apart' (HO258.out) (Kd.N_typed HO255.out) (by decide)) BK246.out (by decide)) (fun k_ hk => ⟨⟨hk.1.1.1, hk.2⟩, hk.1.2⟩))).2.1 (Kd.R_F (Kd.R_mono (ok' := (fun k_ => ((fun k_ => (w.heap.size ≤ k_) ∧ k_ ≠ gb246)) k_ ∧ some k_ ≠ (v254 : Value).ownBlock)) (Kd.R_types (Kd.R_apart' (HO258.out) (Kd.N_typed HO255.out) (by decide)) BK246.out (by decide)) (fun k_ hk => ⟨⟨hk.1.1.1, hk.2⟩, hk.1.2⟩))) (Kd.R_reads' (Kd.R_mono (ok' := (fun k_ => ((fun k_ => (w.heap.size ≤ k_) ∧ k_ ≠ gb246)) k_ ∧ some k_ ≠ (v254 : Value).ownBlock)) (Kd.R_types (Kd.R_apart' (HO261.out) (Kd.N_typed HO255.out) (by decide)) BK246.out (by decide)) (fun k_ hk => ⟨⟨hk.1.1.1, hk.2⟩, hk.1.2⟩))).2.1 (Kd.R_F (Kd.R_mono (ok' := (fun k_ => ((fun k_ => (w.heap.size ≤ k_) ∧ k_ ≠ gb246)) k_ ∧ some k_ ≠ (v254 : Value).ownBlock)) (Kd.R_types (Kd.R_apart' (HO261.out) (Kd.N_typed HO255.out) (by decide)) BK246.out (by decide)) (fun k_ hk => ⟨⟨hk.1.1.1, hk.2⟩, hk.1.2⟩))))); (case aB => exact (Z2 GE246.out)); (case aF => exact Z43 GE246.out BK246.out); (case aO => exact (by (with_reducible repeat (first | apply Kd.N_alloc | apply Kd.N_drewN | apply Kd.N_drew)); exact Kd.N_mono HO255.out (fun _ hk => ⟨hk.1.1.1, hk.1.1.2⟩))); (case aS => exact (below_size (Z2 GE246.out))); (case aL => have := LMc8.out; omega); intro v263 w21 ho hb hg hat; rw [← Ny262.out] at ho; have n0_ := A_ (blk_grown (g := gb246) (o := .cells #[.slice A1_0 l1_0.length c1_0, .slice A1_1 l1_1.length c1_1] 41 (0, 0)) (Z5 BK246.out) hg (Kd.N_away HO255.out (fun _ hk => hk.1.1.2))); have n1_ := A_ (hb); have n2_ := A_ (ho); clear BK246; clear HB; clear HO255; clear HO258; clear HO261; have BK246 := n0_; have HB := n1_; have HO264 := n2_; clear n0_ n1_ n2_; clear ho hb hg hat; have q24 : ((ji10) : Int) ≤ ((l0.length : Int) : Int) := of_decide_eq_true Z13; obtain ⟨i024, hi024, _, hsz24, _⟩ := info_parts info41; have hroom24 : l0.length ≤ c0 := HC0.out; have hC24 : Kd.C k41 _ A0 l0.length l0 := HR0.out; have q024 : (0 : Int) ≤ ((ji10) : Int) := of_decide_eq_true Z13; have hcut24 := cut_from (P := Try.prog) 33 41 .i64 Try.underlying33 hi024 2 hsz24 A0 l0.length c0 (ji10) q024 q24; have hr24 := Kd.C_drop (m := ((ji10) : Int).toNat) (c := c0) hC24 (by omega) hroom24; obtain ⟨A24, hA24⟩ : ∃ A1, A1 = (if c0 = ((ji10) : Int).toNat then A0 else (A0 : Option Addr).map (·.add (((ji10) : Int).toNat * 2))) := ⟨_, rfl⟩; obtain ⟨c24, hc24⟩ : ∃ c1, c1 = c0 - ((ji10) : Int).toNat := ⟨_, rfl⟩; have hy24 : y265.length = l0.length - ((ji10) : Int).toNat := (by rw [Ny265.out, List.length_drop] <;> omega); rw [show (l0).drop ((ji10) : Int).toNat = y265 from Ny265.out.symm] at hr24; replace hr24 : Kd.C k41 _ A24 y265.length y265 := (by rw [hA24]; exact hr24); rw [← hy24, ← hA24, ← hc24] at hcut24; have HR268 := A_ hr24; have HC268 := A_ (show y265.length ≤ c24 from by rw [hy24, hc24]; exact Nat.sub_le_sub_right hroom24 _); clear hr24 hC24 hroom24 hi024 hsz24 hc24; have KY24 := A_ hy24; have KA24 := A_ hA24; clear hy24 hA24; replace q24 := eq_true q24) | ((with_reducible refine gate_callee (f := 69) rfl ?_); refine goesL_ (some 31) rfl rfl Try.func69 (by kernel_rfl) rfl #[.slice A24 y265.length c24] rfl Z3 ?_; (with_reducible refine (spec_copyStore.calls k _ _ y265 t269 _ ?side1 ?side2 A13.out).mono ?_); (case side1 => exact Z12 HR268.out); (case side2 => exact HC268.out); rintro e w25 ⟨v270, rfl, ho0, hb⟩; refine ⟨_, rfl, ?_⟩; have n0_ := A_ (Kd.N_elder' (Z22 HO264.out) (by first | exact Kd.N_base ho0 | exact Kd.S_base ho0) hb); have n1_ := A_ (Kd.N_lower (Kd.N_mono (ok' := fun k_ => (w.heap.size ≤ k_) ∧ some k_ ≠ (v263 : Value).ownBlock ∧ k_ ≠ gb246) (Kd.S_N (Kd.S_bound ho0)) (fun k_ hk_ => ⟨(Nat.le_trans (below_size (Z2 GE246.out)) hk_.2.1), (Kd.fresh' (Kd.N_lt (Z22 HO264.out)) k_ hk_.2.1), (Kd.freshB (g := gb246) (o := .cells #[.slice A1_0 l1_0.length c1_0, .slice A1_1 l1_1.length c1_1] 41 (0, 0)) (Z5 BK246.out) k_ hk_.2.1)⟩)) (below_size (Z2 GE246.out))); have n2_ := A_ (blk_below (g := gb246) (o := .cells #[.slice A1_0 l1_0.length c1_0, .slice A1_1 l1_1.length c1_1] 41 (0, 0)) (Z5 BK246.out) hb); have n3_ := A_ (below_step (Z2 GE246.out) hb); clear HO264; clear BK246; clear HB; have HO264 := n0_; have HO271 := n1_; have BK246 := n2_; have HB := n3_; clear n0_ n1_ n2_ n3_; (try clear hb); (try clear hb2); (try clear hk); (try clear hi); (try clear ho0); obtain ⟨Ao27, co27, eo27⟩ := Kd.N_slice HO271.out; subst eo27) | ((with_reducible refine gate_builtin (b := .append) (xs := #[.tmp 27, .tmp 31]) rfl ?_); at_builtin; refine Kd.N_append_rows k41 (w0 := w) w.heap.size rfl (.tmp 27) (.tmp 31) 33 41 (.agg #[(.slice none 0 0), (.slice none 0 0)]) 48 rfl Try.underlying33 info41 rfl (by decide) (by omega) v263 y262 t269 _ _ _ (fun k_ => (w.heap.size ≤ k_) ∧ k_ ≠ gb246) (fun k_ => ((fun k_ => (w.heap.size ≤ k_) ∧ k_ ≠ gb246)) k_ ∧ some k_ ≠ (v263 : Value).ownBlock) rfl rfl ?aO ?aR (fun _ hk => hk) ?aF ?aB ?aS ?aL ?_; (case aR => exact (by skip; exact Kd.N_F (Kd.N_mono (ok' := (fun k_ => ((fun k_ => (w.heap.size ≤ k_) ∧ k_ ≠ gb246)) k_ ∧ some k_ ≠ (v263 : Value).ownBlock)) (HO271.out) (fun k_ hk => ⟨⟨hk.1, hk.2.2⟩, hk.2.1⟩)))); (case aB => exact (Z2 GE246.out)); (case aF => exact Z43 GE246.out BK246.out); (case aO => exact (by (with_reducible repeat (first | apply Kd.N_alloc | apply Kd.N_drewN | apply Kd.N_drew)); exact Kd.N_mono HO264.out (fun _ hk => ⟨hk.1.1, hk.1.2⟩))); (case aS => exact (below_size (Z2 GE246.out))); (case aL => have := LMc14.out; omega); intro v273 w26 ho hb hg hat; rw [← Ny272.out] at ho; have n0_ := A_ (blk_grown (g := gb246) (o := .cells #[.slice A1_0 l1_0.length c1_0, .slice A1_1 l1_1.length c1_1] 41 (0, 0)) (Z5 BK246.out) hg (Kd.N_away HO264.out (fun _ hk => hk.1.2))); have n1_ := A_ (Kd.N_afterv (ok := (fun k_ => (w.heap.size ≤ k_) ∧ k_ ≠ gb246)) (by (with_reducible repeat (first | apply Kd.N_alloc | apply Kd.N_drewN | apply Kd.N_drew)); exact Kd.N_mono HO271.out (fun _ hk => ⟨⟨hk.1, hk.2.2⟩, hk.2.1⟩)) hg hat); have n2_ := A_ (hb); have n3_ := A_ (ho); clear BK246; clear HO271; clear HB; clear HO264; have BK246 := n0_; have HO271 := n1_; have HB := n2_; have HO274 := n3_; clear n0_ n1_ n2_ n3_; clear ho hb hg hat))
        go_ret
        exact ⟨_, by first | rfl | (simp [errW_none, errW_some] <;> rfl) | (simp only [← hji10]; first | rfl | (simp [errW_none, errW_some] <;> rfl)) | (simp [*, errW_none, errW_some] <;> rfl), Z40 HO274.out, Z2 GE246.out⟩
       ·rw [if_neg c14] at H
        exact absurd H (by simp)
      ·rw [if_neg c12] at H
       exact absurd H (by simp)
     ·rw [if_neg c11] at H
      exact absurd H (by simp)
    ·replace c9 := Bool.eq_false_iff.mpr c9
     subst c9
     have H1 : ((spec_copyStore.f k (l0.drop (t247 : Int).toNat)).bind fun t279 => (if y262.length + t279.length < 2932031007402 then (some (y262 ++ t279)) else (none))) = some r := by rw [if_neg (show ¬ (false = true) by decide)] at H; exact H
     clear H
     have H := H1
     clear H1
     have c28b0 := eq_true (of_decide_eq_true Z13 : 0 ≤ t247)
     have c29b0 := eq_true (of_decide_eq_true Z13 : t247 ≤ (l0.length : Int))
     obtain ⟨y275, hy275⟩ : ∃ y_ : List (S41), y_ = (l0.drop (t247 : Int).toNat) := ⟨_, rfl⟩
     replace H : ((spec_copyStore.f k y275).bind fun t279 => (if y262.length + t279.length < 2932031007402 then (some (y262 ++ t279)) else (none))) = some r := by first | (rw [hy275]; with_reducible exact H) | (have H2_ := (Option.bind_some _ _).symm.trans H; rw [hy275]; with_reducible exact H2_) | (have H2_ := (Option.bind_some _ _).symm.trans H; with_reducible exact H2_) | with_reducible exact H | (rw [hy275]; exact H) | exact H
     have Ny275 := A_ hy275
     clear hy275
     replace H := Option.bind_eq_some_iff.mp H
     obtain ⟨t279, A300, H⟩ := H
     replace H : (if y262.length + t279.length < 2932031007402 then (some (y262 ++ t279)) else (none)) = some r := H
     have A30 := A_ A300
     clear A300
     by_cases c31 : y262.length + t279.length < 2932031007402
     ·rw [if_pos c31] at H
      have LMc31 := A_ c31
      clear c31
      obtain ⟨y282, hy282⟩ : ∃ y_ : List (S41), y_ = (y262 ++ t279) := ⟨_, rfl⟩
      replace H : (some y282) = some r := by first | (rw [hy282]; with_reducible exact H) | (have H2_ := (Option.bind_some _ _).symm.trans H; rw [hy282]; with_reducible exact H2_) | (have H2_ := (Option.bind_some _ _).symm.trans H; with_reducible exact H2_) | with_reducible exact H | (rw [hy282]; exact H) | exact H
      have Ny282 := A_ hy282
      clear hy282
      obtain rfl := Option.some.inj H
      go_enter Try.func61, Try.ntmps61
      go_wp2_with (first | ((with_reducible refine gate_dst (N := 3) rfl ?_); refine box_event ?hg (N := 3) ?hd (cs := #[.slice A1_0 l1_0.length c1_0, .slice A1_1 l1_1.length c1_1]) (t := 41) ?hr ?_; (case hd => rfl); (case hg => rfl); (case hr => exact Z24); intro gb246 hg w32 hbox hb; have n0_ := A_ (below_step Z1 hb); have n1_ := A_ (hbox); have n2_ := A_ ((by rw [hg]; exact (below_size Z1) : w.heap.size ≤ gb246)); have n3_ := A_ ((by rw [hg]; exact (below_size Z1) : w.heap.size ≤ gb246)); clear HB; have HB := n0_; have BK246 := n1_; have GW246 := n2_; have GE246 := n3_; clear n0_ n1_ n2_ n3_; clear hb hbox hg; have hcz33_0 : w32.cell? ⟨gb246, 0, none⟩ = some (.slice A1_0 l1_0.length c1_0) := (blk_cell BK246.out 0).trans rfl; have hcz33_1 : w32.cell? ⟨gb246, 1, none⟩ = some (.slice A1_1 l1_1.length c1_1) := (blk_cell BK246.out 1).trans rfl; have hfz33_0 := blk_frozen BK246.out 0; have hfz33_1 := blk_frozen BK246.out 1) | ((with_reducible refine gate_callee (f := 56) rfl ?_); refine goesL_ (some 12) rfl rfl Try.func56 (by kernel_rfl) rfl #[.slice A0 l0.length c0, .slice A1_0 l1_0.length c1_0] rfl Z3 ?_; (with_reducible refine (spec_cellAt.calls k _ _ l0 _ _ l1_0 t247 false _ ?side1 ?side2 ?side3 ?side4 A3.out).mono ?_); (case side1 => exact Z12 HR0.out); (case side2 => exact HC0.out); (case side3 => exact Z12 HR1_0.out); (case side4 => exact HC1_0.out); rintro e w' ⟨rfl, ⟨nd, rfl⟩⟩; refine ⟨_, rfl, ?_⟩; have q34 : (t247 : Int) ≤ ((l0.length : Int) : Int) := of_decide_eq_true Z13; obtain ⟨i034, hi034, _, hsz34, _⟩ := info_parts info41; have hroom34 : l0.length ≤ c0 := HC0.out; have hC34 : Kd.C k41 _ A0 l0.length l0 := HR0.out; have hcut34 := cut_to (P := Try.prog) 33 41 .i64 Try.underlying33 hi034 A0 l0.length c0 t247 (of_decide_eq_true Z13) q34 hroom34; have hr34 := Kd.C_take (m := (t247 : Int).toNat) hC34 (by omega); have hy34 : y249.length = (t247 : Int).toNat := (by rw [Ny249.out, List.length_take]; omega); rw [← Ny249.out] at hr34; rw [← hy34] at hcut34; have HR252 := A_ hr34; have HC252 := A_ (show y249.length ≤ c0 from by omega); clear hr34 hC34 hroom34 hi034 hsz34; have KY34 := A_ hy34; clear hy34; replace q34 := eq_true q34) | ((with_reducible refine gate_callee (f := 69) rfl ?_); refine goesL_ (some 18) rfl rfl Try.func69 (by kernel_rfl) rfl #[.slice A0 y249.length c0] rfl Z3 ?_; (with_reducible refine (spec_copyStore.calls k _ _ y249 t253 _ ?side1 ?side2 A6.out).mono ?_); (case side1 => repeat (first | exact (Kd.C_below HR252.out (Z2 GE246.out)) | (with_reducible refine Kd.C_alloc ?_ _) | (with_reducible refine Kd.C_drewN ?_ _) | (with_reducible refine Kd.C_drew ?_))); (case side2 => exact HC252.out); rintro e w35 ⟨v254, rfl, ho0, hb⟩; refine ⟨_, rfl, ?_⟩; have n0_ := A_ (Kd.N_lower (Kd.N_mono (ok' := fun k_ => (w.heap.size ≤ k_) ∧ k_ ≠ gb246) (Kd.S_N (Kd.S_bound ho0)) (fun k_ hk_ => ⟨(Nat.le_trans (below_size (Z2 GE246.out)) hk_.2.1), (Kd.freshB (g := gb246) (o := .cells #[.slice A1_0 l1_0.length c1_0, .slice A1_1 l1_1.length c1_1] 41 (0, 0)) (Z5 BK246.out) k_ hk_.2.1)⟩)) (below_size (Z2 GE246.out))); have n1_ := A_ (blk_below (g := gb246) (o := .cells #[.slice A1_0 l1_0.length c1_0, .slice A1_1 l1_1.length c1_1] 41 (0, 0)) (Z5 BK246.out) hb); have n2_ := A_ (below_step (Z2 GE246.out) hb); clear BK246; clear HB; have HO255 := n0_; have BK246 := n1_; have HB := n2_; clear n0_ n1_ n2_; (try clear hb); (try clear hb2); (try clear hk); (try clear hi); (try clear ho0); have hcz36_0 : w35.cell? ⟨gb246, 0, none⟩ = some (.slice A1_0 l1_0.length c1_0) := (blk_cell BK246.out 0).trans rfl; have hcz36_1 : w35.cell? ⟨gb246, 1, none⟩ = some (.slice A1_1 l1_1.length c1_1) := (blk_cell BK246.out 1).trans rfl; have hfz36_0 := blk_frozen BK246.out 0; have hfz36_1 := blk_frozen BK246.out 1) | ((with_reducible refine gate_callee (f := 53) rfl ?_); refine goesL_ (some 21) rfl rfl Try.func53 (by kernel_rfl) rfl #[.agg #[.slice A1_0 l1_0.length c1_0, .slice A1_1 l1_1.length c1_1]] rfl Z3 ?_; (with_reducible refine (spec_copyCell.calls _ _ l1_0 _ _ l1_1 t256 t259 _ ?side1 ?side2 ?side3 ?side4 A7.out).mono ?_); (case side1 => exact Z12 HR1_0.out); (case side2 => exact HC1_0.out); (case side3 => exact Z12 HR1_1.out); (case side4 => exact HC1_1.out); rintro e w37 ⟨v257, v260, rfl, ho0, ho1, hb⟩; refine ⟨_, rfl, ?_⟩; have n0_ := A_ (Kd.N_mono (Kd.N_told (Kd.N_told (Kd.N_old (Z22 HO255.out) hb) (Kd.R_base ho0)) (Kd.R_base ho1)) (fun _ h_ => h_.1)); have n1_ := A_ (Kd.R_lower (Kd.R_newM (M := fun k_ => (w.heap.size ≤ k_)) ho0 (below_size (Z2 GE246.out)) (fun k_ h_ => h_)) (below_size (Z2 GE246.out))); have n2_ := A_ (Kd.R_lower (Kd.R_newM (M := fun k_ => (w.heap.size ≤ k_)) ho1 (below_size (Z2 GE246.out)) (fun k_ h_ => h_)) (below_size (Z2 GE246.out))); have n3_ := A_ (blk_below (g := gb246) (o := .cells #[.slice A1_0 l1_0.length c1_0, .slice A1_1 l1_1.length c1_1] 41 (0, 0)) (Z5 BK246.out) hb); have n4_ := A_ (below_step (Z2 GE246.out) hb); clear HO255; clear BK246; clear HB; have HO255 := n0_; have HO258 := n1_; have HO261 := n2_; have BK246 := n3_; have HB := n4_; clear n0_ n1_ n2_ n3_ n4_; (try clear hb); (try clear hb2); (try clear hk); (try clear hi); (try clear ho0); (try clear ho1); obtain ⟨Ao39, co39, eo39⟩ := Kd.R_slice HO258.out; subst eo39; obtain ⟨Ao40, co40, eo40⟩ := Kd.R_slice HO261.out; subst eo40) | ((with_reducible refine gate_builtin (b := .append) (xs := #[.tmp 19, .tmp 22]) rfl ?_); at_builtin; refine Kd.N_append k41 (w0 := w) w.heap.size rfl (.tmp 19) (.tmp 22) 33 41 (.agg #[(.slice none 0 0), (.slice none 0 0)]) 48 rfl Try.underlying33 info41 rfl (by decide) (by omega) v254 t253 (⟨t256, t259⟩ : S41) [.slice Ao39 t256.length co39, .slice Ao40 t259.length co40] (fun k_ => (w.heap.size ≤ k_) ∧ k_ ≠ gb246) (fun k_ => ((fun k_ => (w.heap.size ≤ k_) ∧ k_ ≠ gb246)) k_ ∧ some k_ ≠ (v254 : Value).ownBlock) rfl rfl ?aP (fun _ hk => hk) ?aF ?aO ?aB ?aS ?aL ?_; (case aP => exact (k41_mkF _ _ (⟨t256, t259⟩ : S41) (Kd.R_reads' (Kd.R_mono (ok' := (fun k_ => ((fun k_ => (w.heap.size ≤ k_) ∧ k_ ≠ gb246)) k_ ∧ some k_ ≠ (v254 : Value).ownBlock)) (Kd.R_types (Kd.R_apart' (HO258.out) (Kd.N_typed HO255.out) (by decide)) BK246.out (by decide)) (fun k_ hk => ⟨⟨hk.1.1.1, hk.2⟩, hk.1.2⟩))).2.1 (Kd.R_F (Kd.R_mono (ok' := (fun k_ => ((fun k_ => (w.heap.size ≤ k_) ∧ k_ ≠ gb246)) k_ ∧ some k_ ≠ (v254 : Value).ownBlock)) (Kd.R_types (Kd.R_apart' (HO258.out) (Kd.N_typed HO255.out) (by decide)) BK246.out (by decide)) (fun k_ hk => ⟨⟨hk.1.1.1, hk.2⟩, hk.1.2⟩))) (Kd.R_reads' (Kd.R_mono (ok' := (fun k_ => ((fun k_ => (w.heap.size ≤ k_) ∧ k_ ≠ gb246)) k_ ∧ some k_ ≠ (v254 : Value).ownBlock)) (Kd.R_types (Kd.R_apart' (HO261.out) (Kd.N_typed HO255.out) (by decide)) BK246.out (by decide)) (fun k_ hk => ⟨⟨hk.1.1.1, hk.2⟩, hk.1.2⟩))).2.1 (Kd.R_F (Kd.R_mono (ok' := (fun k_ => ((fun k_ => (w.heap.size ≤ k_) ∧ k_ ≠ gb246)) k_ ∧ some k_ ≠ (v254 : Value).ownBlock)) (Kd.R_types (Kd.R_apart' (HO261.out) (Kd.N_typed HO255.out) (by decide)) BK246.out (by decide)) (fun k_ hk => ⟨⟨hk.1.1.1, hk.2⟩, hk.1.2⟩))))); (case aB => exact (Z2 GE246.out)); (case aF => exact Z43 GE246.out BK246.out); (case aO => exact (by (with_reducible repeat (first | apply Kd.N_alloc | apply Kd.N_drewN | apply Kd.N_drew)); exact Kd.N_mono HO255.out (fun _ hk => ⟨hk.1.1.1, hk.1.1.2⟩))); (case aS => exact (below_size (Z2 GE246.out))); (case aL => have := LMc8.out; omega); intro v263 w38 ho hb hg hat; rw [← Ny262.out] at ho; have n0_ := A_ (blk_grown (g := gb246) (o := .cells #[.slice A1_0 l1_0.length c1_0, .slice A1_1 l1_1.length c1_1] 41 (0, 0)) (Z5 BK246.out) hg (Kd.N_away HO255.out (fun _ hk => hk.1.1.2))); have n1_ := A_ (hb); have n2_ := A_ (ho); clear BK246; clear HB; clear HO255; clear HO258; clear HO261; have BK246 := n0_; have HB := n1_; have HO264 := n2_; clear n0_ n1_ n2_; clear ho hb hg hat; have q41 : (t247 : Int) ≤ ((l0.length : Int) : Int) := of_decide_eq_true Z13; obtain ⟨i041, hi041, _, hsz41, _⟩ := info_parts info41; have hroom41 : l0.length ≤ c0 := HC0.out; have hC41 : Kd.C k41 _ A0 l0.length l0 := HR0.out; have q041 : (0 : Int) ≤ (t247 : Int) := of_decide_eq_true Z13; have hcut41 := cut_from (P := Try.prog) 33 41 .i64 Try.underlying33 hi041 2 hsz41 A0 l0.length c0 t247 q041 q41; have hr41 := Kd.C_drop (m := (t247 : Int).toNat) (c := c0) hC41 (by omega) hroom41; obtain ⟨A41, hA41⟩ : ∃ A1, A1 = (if c0 = (t247 : Int).toNat then A0 else (A0 : Option Addr).map (·.add ((t247 : Int).toNat * 2))) := ⟨_, rfl⟩; obtain ⟨c41, hc41⟩ : ∃ c1, c1 = c0 - (t247 : Int).toNat := ⟨_, rfl⟩; have hy41 : y275.length = l0.length - (t247 : Int).toNat := (by rw [Ny275.out, List.length_drop] <;> omega); rw [show (l0).drop (t247 : Int).toNat = y275 from Ny275.out.symm] at hr41; replace hr41 : Kd.C k41 _ A41 y275.length y275 := (by rw [hA41]; exact hr41); rw [← hy41, ← hA41, ← hc41] at hcut41; have HR278 := A_ hr41; have HC278 := A_ (show y275.length ≤ c41 from by rw [hy41, hc41]; exact Nat.sub_le_sub_right hroom41 _); clear hr41 hC41 hroom41 hi041 hsz41 hc41; have KY41 := A_ hy41; have KA41 := A_ hA41; clear hy41 hA41; replace q41 := eq_true q41) | ((with_reducible refine gate_callee (f := 69) rfl ?_); refine goesL_ (some 31) rfl rfl Try.func69 (by kernel_rfl) rfl #[.slice A41 y275.length c41] rfl Z3 ?_; (with_reducible refine (spec_copyStore.calls k _ _ y275 t279 _ ?side1 ?side2 A30.out).mono ?_); (case side1 => exact Z12 HR278.out); (case side2 => exact HC278.out); rintro e w42 ⟨v280, rfl, ho0, hb⟩; refine ⟨_, rfl, ?_⟩; have n0_ := A_ (Kd.N_elder' (Z22 HO264.out) (by first | exact Kd.N_base ho0 | exact Kd.S_base ho0) hb); have n1_ := A_ (Kd.N_lower (Kd.N_mono (ok' := fun k_ => (w.heap.size ≤ k_) ∧ some k_ ≠ (v263 : Value).ownBlock ∧ k_ ≠ gb246) (Kd.S_N (Kd.S_bound ho0)) (fun k_ hk_ => ⟨(Nat.le_trans (below_size (Z2 GE246.out)) hk_.2.1), (Kd.fresh' (Kd.N_lt (Z22 HO264.out)) k_ hk_.2.1), (Kd.freshB (g := gb246) (o := .cells #[.slice A1_0 l1_0.length c1_0, .slice A1_1 l1_1.length c1_1] 41 (0, 0)) (Z5 BK246.out) k_ hk_.2.1)⟩)) (below_size (Z2 GE246.out))); have n2_ := A_ (blk_below (g := gb246) (o := .cells #[.slice A1_0 l1_0.length c1_0, .slice A1_1 l1_1.length c1_1] 41 (0, 0)) (Z5 BK246.out) hb); have n3_ := A_ (below_step (Z2 GE246.out) hb); clear HO264; clear BK246; clear HB; have HO264 := n0_; have HO281 := n1_; have BK246 := n2_; have HB := n3_; clear n0_ n1_ n2_ n3_; (try clear hb); (try clear hb2); (try clear hk); (try clear hi); (try clear ho0); obtain ⟨Ao44, co44, eo44⟩ := Kd.N_slice HO281.out; subst eo44) | ((with_reducible refine gate_builtin (b := .append) (xs := #[.tmp 27, .tmp 31]) rfl ?_); at_builtin; refine Kd.N_append_rows k41 (w0 := w) w.heap.size rfl (.tmp 27) (.tmp 31) 33 41 (.agg #[(.slice none 0 0), (.slice none 0 0)]) 48 rfl Try.underlying33 info41 rfl (by decide) (by omega) v263 y262 t279 _ _ _ (fun k_ => (w.heap.size ≤ k_) ∧ k_ ≠ gb246) (fun k_ => ((fun k_ => (w.heap.size ≤ k_) ∧ k_ ≠ gb246)) k_ ∧ some k_ ≠ (v263 : Value).ownBlock) rfl rfl ?aO ?aR (fun _ hk => hk) ?aF ?aB ?aS ?aL ?_; (case aR => exact (by skip; exact Kd.N_F (Kd.N_mono (ok' := (fun k_ => ((fun k_ => (w.heap.size ≤ k_) ∧ k_ ≠ gb246)) k_ ∧ some k_ ≠ (v263 : Value).ownBlock)) (HO281.out) (fun k_ hk => ⟨⟨hk.1, hk.2.2⟩, hk.2.1⟩)))); (case aB => exact (Z2 GE246.out)); (case aF => exact Z43 GE246.out BK246.out); (case aO => exact (by (with_reducible repeat (first | apply Kd.N_alloc | apply Kd.N_drewN | apply Kd.N_drew)); exact Kd.N_mono HO264.out (fun _ hk => ⟨hk.1.1, hk.1.2⟩))); (case aS => exact (below_size (Z2 GE246.out))); (case aL => have := LMc31.out; omega); intro v283 w43 ho hb hg hat; rw [← Ny282.out] at ho; have n0_ := A_ (blk_grown (g := gb246) (o := .cells #[.slice A1_0 l1_0.length c1_0, .slice A1_1 l1_1.length c1_1] 41 (0, 0)) (Z5 BK246.out) hg (Kd.N_away HO264.out (fun _ hk => hk.1.2))); have n1_ := A_ (Kd.N_afterv (ok := (fun k_ => (w.heap.size ≤ k_) ∧ k_ ≠ gb246)) (by (with_reducible repeat (first | apply Kd.N_alloc | apply Kd.N_drewN | apply Kd.N_drew)); exact Kd.N_mono HO281.out (fun _ hk => ⟨⟨hk.1, hk.2.2⟩, hk.2.1⟩)) hg hat); have n2_ := A_ (hb); have n3_ := A_ (ho); clear BK246; clear HO281; clear HB; clear HO264; have BK246 := n0_; have HO281 := n1_; have HB := n2_; have HO284 := n3_; clear n0_ n1_ n2_ n3_; clear ho hb hg hat))
      go_ret
      exact ⟨_, Z17, Z40 HO284.out, Z2 GE246.out⟩
     ·rw [if_neg c31] at H
      exact absurd H (by simp)
   ·rw [if_neg c8] at H
    exact absurd H (by simp)
  ·rw [if_neg c5] at H
   exact absurd H (by simp)
 ·rw [if_neg c4] at H
  exact absurd H (by simp)
def spec_source_cells.l0 : Nat → List (S41) → Int → List Int → Int → Int → Option ((List (S41)) × Int × Int)
 | 0, _, _, _, _, _ => none
 | k + 1, x3, x4, x1000, x1001, x1002 => if x4 > 0 then ((spec_source_slots.f k x1000 x1001 x1002).bind fun bt291 => ((spec_source_pick.f k x1000 bt291.2.1 bt291.2.2 4).bind fun bt296 => ((spec_source_goods.f k x1000 bt296.2.1 bt296.2.2 bt296.1).bind fun bt299 => ((spec_validPlace.f k bt291.1).bind fun t305 => (if t305 = true then ((spec_put.f k x3 bt291.1 bt299.1).bind fun t306 => (spec_source_cells.l0 k t306 (wrap64 (x4 - 1)) x1000 bt299.2.1 bt299.2.2)) else (spec_source_cells.l0 k x3 (wrap64 (x4 - 1)) x1000 bt299.2.1 bt299.2.2)))))) else (some (x3, x1001, x1002))
def spec_source_cells.f (k : Nat) (s0_0 : List Int) (s0_1 : Int) (s0_2 : Int) : Option ((List (S41)) × Int × Int) := (spec_source_pick.f k s0_0 s0_1 s0_2 5).bind fun bt288 => (spec_source_cells.l0 k (([] : List (S41))) bt288.1 s0_0 bt288.2.1 bt288.2.2)
theorem spec_source_cells.mono_l : ∀ k, (∀ y0 y1 y2 y3 y4, LeO (spec_source_cells.l0 k y0 y1 y2 y3 y4) (spec_source_cells.l0 (k + 1) y0 y1 y2 y3 y4))
 | 0 => fun _ _ _ _ _ r h => by simp [spec_source_cells.l0] at h
 | k + 1 => by
  have ih0 := spec_source_cells.mono_l k
  ·intro y0 y1 y2 y3 y4
   unfold spec_source_cells.l0
   repeat' first
   | (with_reducible exact ih0 _ _ _ _ _)
   | (with_reducible exact spec_put.mono _ _ _ _)
   | (with_reducible exact spec_source_goods.mono _ _ _ _ _)
   | (with_reducible exact spec_source_pick.mono _ _ _ _ _)
   | (with_reducible exact spec_source_slots.mono _ _ _ _)
   | (with_reducible exact spec_validPlace.mono _ _)
   | (with_reducible exact LeO.refl _)
   | (with_reducible exact LeO.none _)
   | (with_reducible refine LeO.ite ?_ ?_)
   | (with_reducible refine LeO.bind ?_ (fun _ => ?_))
   | exact ih0 _ _ _ _ _
   | exact spec_put.mono _ _ _ _
   | exact spec_source_goods.mono _ _ _ _ _
   | exact spec_source_pick.mono _ _ _ _ _
   | exact spec_source_slots.mono _ _ _ _
   | exact spec_validPlace.mono _ _
   | exact LeO.none _
   | refine LeO.ite ?_ ?_
   | refine LeO.bind ?_ (fun _ => ?_)
theorem spec_source_cells.mono : ∀ a0 a1 a2 k, LeO (spec_source_cells.f k a0 a1 a2) (spec_source_cells.f (k + 1) a0 a1 a2) := by
 intro a0 a1 a2 k
 have ih0 := spec_source_cells.mono_l k
 unfold spec_source_cells.f
 repeat' first
   | (with_reducible exact ih0 _ _ _ _ _)
   | (with_reducible exact spec_put.mono _ _ _ _)
   | (with_reducible exact spec_source_goods.mono _ _ _ _ _)
   | (with_reducible exact spec_source_pick.mono _ _ _ _ _)
   | (with_reducible exact spec_source_slots.mono _ _ _ _)
   | (with_reducible exact spec_validPlace.mono _ _)
   | (with_reducible exact LeO.refl _)
   | (with_reducible exact LeO.none _)
   | (with_reducible refine LeO.ite ?_ ?_)
   | (with_reducible refine LeO.bind ?_ (fun _ => ?_))
   | exact ih0 _ _ _ _ _
   | exact spec_put.mono _ _ _ _
   | exact spec_source_goods.mono _ _ _ _ _
   | exact spec_source_pick.mono _ _ _ _ _
   | exact spec_source_slots.mono _ _ _ _
   | exact spec_validPlace.mono _ _
   | exact LeO.none _
   | refine LeO.ite ?_ ?_
   | refine LeO.bind ?_ (fun _ => ?_)
set_option maxHeartbeats 8000000 in
set_option maxRecDepth 100000 in
theorem spec_source_cells.calls (k : Nat) (g : Nat) (s0_0 : List Int) (s0_1 : Int) (s0_2 : Int) (r1 : List (S41)) (r2 : Int) (r3 : Int) (w0 w : World) (hI : IsS77 w0 w g s0_0 s0_1 s0_2) (hB : Below w0.heap.size w0 w) (h : spec_source_cells.f k s0_0 s0_1 s0_2 = some (r1, r2, r3)) :
  Calls Try.prog 42 #[.pointer (some ⟨g, 0, none⟩)] w fun e w' => ∃ v0_ : Value, e = .returned (v0_) ∧ Kd.N k41 41 w' w.heap.size (fun k_ => (w.heap.size ≤ k_)) v0_ r1 ∧ IsS77 w0 w' g s0_0 r2 r3 ∧ Below w0.heap.size w0 w' ∧ KeepBut w w' g none := by
 have hu41 := Try.underlying41
 have HI0 := A_ hI
 have HK := A_ (KeepBut.refl w g none)
 have HL := A_ hB.size
 clear hI
 have HW0 := A_ hB.size
 have HB := A_ hB
 clear hB
 have H : ((spec_source_pick.f k s0_0 s0_1 s0_2 5).bind fun bt288 => (spec_source_cells.l0 k (([] : List (S41))) bt288.1 s0_0 bt288.2.1 bt288.2.2)) = some (r1, r2, r3) := h
 clear h
 obtain ⟨y285, hy285⟩ : ∃ y_ : List (S41), y_ = (([] : List (S41))) := ⟨_, rfl⟩
 replace H : ((spec_source_pick.f k s0_0 s0_1 s0_2 5).bind fun bt288 => (spec_source_cells.l0 k y285 bt288.1 s0_0 bt288.2.1 bt288.2.2)) = some (r1, r2, r3) := by first | (rw [hy285]; with_reducible exact H) | (have H2_ := (Option.bind_some _ _).symm.trans H; rw [hy285]; with_reducible exact H2_) | (have H2_ := (Option.bind_some _ _).symm.trans H; with_reducible exact H2_) | with_reducible exact H | (rw [hy285]; exact H) | exact H
 have Ny285 := A_ hy285
 clear hy285
 replace H := Option.bind_eq_some_iff.mp H
 obtain ⟨⟨t288, t289, t290⟩, A20, H⟩ := H
 replace H : (spec_source_cells.l0 k y285 t288 s0_0 t289 t290) = some (r1, r2, r3) := H
 have A2 := A_ A20
 clear A20
 have H' := A_ H
 clear H
 go_enter Try.func42, Try.ntmps42
 go_wp2_with (first | ((with_reducible refine gate_dst (N := 6) rfl ?_); refine Kd.N_lit k41 _ 41 ?hg (N' := 6) ?hd (xs := ([] : List (S41))) (inner := []) (ok := (fun k_ => (w.heap.size ≤ k_) ∧ k_ ≠ g)) (okp := (fun k_ => (w.heap.size ≤ k_) ∧ k_ ≠ g)) ?hr ?hp (fun _ hk => hk) ((show ∀ k_, w.heap.size ≤ k_ → (fun k_ => (w.heap.size ≤ k_) ∧ k_ ≠ g) k_ from fun k_ hk => ⟨(Nat.le_trans (keep_size (w := w) (g := g) (row := none) Z4) hk), IsS77.fresh (Z11 HI0.out) k_ hk⟩) _ (Nat.le_refl _)) (Below.refl _ _) (Nat.le_refl _) (by simp) ?_; (case hd => rfl); (case hg => rfl); (case hr => exact Z24); (case hp => exact (Reps.none _ _)); intro v286 w3 ho4 hb hg_ hnew_; clear hg_ hnew_; (first | rw [← Ny285.out] at ho4 | (simp only [Int.reduceToNat] at ho4; rw [← Ny285.out] at ho4)); have n0_ := A_ (Kd.N_lower ho4 (keep_size (w := w) (g := g) (row := none) Z4)); have n1_ := A_ (IsS77.below (Z11 HI0.out) hb); have n2_ := A_ (KeepBut.trans Z4 (KeepBut.of_below hb g none) (.inl rfl)); have n3_ := A_ (below_step (Z10 HI0.out) hb); clear HI0; clear HK; clear HB; have HO287 := n0_; have HI0 := n1_; have HK := n2_; have HB := n3_; clear n0_ n1_ n2_ n3_; clear hb ho4) | ((with_reducible refine gate_callee (f := 38) rfl ?_); refine goesL_ (some 8) rfl rfl Try.func38 (by kernel_rfl) rfl #[.pointer (some ⟨g, 0, none⟩), .int .i64 5] rfl Z3 ?_; (with_reducible refine (spec_source_pick.calls k g s0_0 s0_1 s0_2 5 t288 t289 t290 w0 _ ?side1 ?side2 A2.out).mono ?_); (case side1 => exact Z11 HI0.out); (case side2 => exact Z10 HI0.out); rintro e w5 ⟨rfl, hi, hb, hk⟩; refine ⟨_, rfl, ?_⟩; have n0_ := A_ (Kd.N_mono (Kd.N_keep (Kd.N_mono (ok := fun k_ => (((w.heap.size ≤ k_)) ∧ k_ ≠ g)) (Z22 HO287.out) (fun k_ hk_ => (⟨hk_, hk_.2⟩ : _ ∧ k_ ≠ g))) hk (fun _ h => h.2)) (fun _ h => h.1)); have n1_ := A_ (KeepBut.trans Z4 hk (.inl rfl)); have n2_ := A_ (hb); have n3_ := A_ (hi); clear HO287; clear HK; clear HB; clear HI0; have HO287 := n0_; have HK := n1_; have HB := n2_; have HI0 := n3_; clear n0_ n1_ n2_ n3_; (try clear hb); (try clear hb2); (try clear hk); (try clear hi)))
 go_loopg [3, 4] k (fun kq v3 v4 w' => ∃ (x3_1 : List (S41)) (x4_1 : Int) (x1001_1 : Int) (x1002_1 : Int), v4 = .int .i64 x4_1 ∧ Aside0 (spec_source_cells.l0 kq x3_1 x4_1 s0_0 x1001_1 x1002_1 = some (r1, r2, r3)) ∧ Aside0 (kq ≤ k) ∧ Aside0 (Kd.N k41 41 w' w.heap.size (fun k_ => (w.heap.size ≤ k_) ∧ k_ ≠ g) v3 x3_1) ∧ Aside0 (IsS77 w0 w' g s0_0 x1001_1 x1002_1) ∧ Aside0 (KeepBut w w' g none) ∧ Aside0 (Below w0.heap.size w0 w'))
 case atStart => exact ⟨(y285), (t288), (t289), (t290), Z21, H', ⟨Nat.le_refl _⟩, ⟨Z22 HO287.out⟩, ⟨Z11 HI0.out⟩, ⟨Z4⟩, ⟨Z10 HI0.out⟩⟩
 case round =>
  clear H'
  try clear p2
  try clear c3
  try clear c4
  obtain ⟨x3_1, x4_1, x1001_1, x1002_1, rfl, HA, HK1, HO_3, HI0, HK, HB⟩ := hrel
  cases gk with
  | zero => exact absurd HA.out (by simp [spec_source_cells.l0])
  | succ k1 =>
   have H := HA.out
   clear HA
   simp only [spec_source_cells.l0] at H
   by_cases c6 : x4_1 > 0
   ·rw [if_pos c6] at H
    have c6b0 : decide (0 < x4_1) = true := decide_eq_true c6
    clear c6
    replace H := Option.bind_eq_some_iff.mp H
    obtain ⟨⟨t291, t294, t295⟩, A70, H⟩ := H
    replace H : ((spec_source_pick.f k1 s0_0 t294 t295 4).bind fun bt296 => ((spec_source_goods.f k1 s0_0 bt296.2.1 bt296.2.2 bt296.1).bind fun bt299 => ((spec_validPlace.f k1 t291).bind fun t305 => (if t305 = true then ((spec_put.f k1 x3_1 t291 bt299.1).bind fun t306 => (spec_source_cells.l0 k1 t306 (wrap64 (x4_1 - 1)) s0_0 bt299.2.1 bt299.2.2)) else (spec_source_cells.l0 k1 x3_1 (wrap64 (x4_1 - 1)) s0_0 bt299.2.1 bt299.2.2))))) = some (r1, r2, r3) := H
    have A7 := A_ A70
    clear A70
    replace H := Option.bind_eq_some_iff.mp H
    obtain ⟨⟨t296, t297, t298⟩, A80, H⟩ := H
    replace H : ((spec_source_goods.f k1 s0_0 t297 t298 t296).bind fun bt299 => ((spec_validPlace.f k1 t291).bind fun t305 => (if t305 = true then ((spec_put.f k1 x3_1 t291 bt299.1).bind fun t306 => (spec_source_cells.l0 k1 t306 (wrap64 (x4_1 - 1)) s0_0 bt299.2.1 bt299.2.2)) else (spec_source_cells.l0 k1 x3_1 (wrap64 (x4_1 - 1)) s0_0 bt299.2.1 bt299.2.2)))) = some (r1, r2, r3) := H
    have A8 := A_ A80
    clear A80
    replace H := Option.bind_eq_some_iff.mp H
    obtain ⟨⟨t299, t302, t303⟩, A90, H⟩ := H
    replace H : ((spec_validPlace.f k1 t291).bind fun t305 => (if t305 = true then ((spec_put.f k1 x3_1 t291 t299).bind fun t306 => (spec_source_cells.l0 k1 t306 (wrap64 (x4_1 - 1)) s0_0 t302 t303)) else (spec_source_cells.l0 k1 x3_1 (wrap64 (x4_1 - 1)) s0_0 t302 t303))) = some (r1, r2, r3) := H
    have A9 := A_ A90
    clear A90
    replace H := Option.bind_eq_some_iff.mp H
    obtain ⟨t305, A100, H⟩ := H
    replace H : (if t305 = true then ((spec_put.f k1 x3_1 t291 t299).bind fun t306 => (spec_source_cells.l0 k1 t306 (wrap64 (x4_1 - 1)) s0_0 t302 t303)) else (spec_source_cells.l0 k1 x3_1 (wrap64 (x4_1 - 1)) s0_0 t302 t303)) = some (r1, r2, r3) := H
    have A10 := A_ A100
    clear A100
    by_cases c11 : t305 = true
    ·subst c11
     have H1 : ((spec_put.f k1 x3_1 t291 t299).bind fun t306 => (spec_source_cells.l0 k1 t306 (wrap64 (x4_1 - 1)) s0_0 t302 t303)) = some (r1, r2, r3) := by rw [if_pos rfl] at H; exact H
     clear H
     have H := H1
     clear H1
     replace H := Option.bind_eq_some_iff.mp H
     obtain ⟨t306, A120, H⟩ := H
     replace H : (spec_source_cells.l0 k1 t306 (wrap64 (x4_1 - 1)) s0_0 t302 t303) = some (r1, r2, r3) := H
     have A12 := A_ A120
     clear A120
     have H' := A_ H
     clear H
     go_wp2_with (first | ((with_reducible refine gate_callee (f := 55) rfl ?_); refine goesL_ (some 14) rfl rfl Try.func55 (by kernel_rfl) rfl #[.pointer (some ⟨g, 0, none⟩)] rfl Z3 ?_; (with_reducible refine (spec_source_slots.calls k1 g s0_0 x1001_1 x1002_1 t291 t294 t295 w0 _ ?side1 ?side2 A7.out).mono ?_); (case side1 => exact Z11 HI0.out); (case side2 => exact Z10 HI0.out); rintro e w13 ⟨v292, rfl, ho0, hi, hb, hk⟩; refine ⟨_, rfl, ?_⟩; have n0_ := A_ (Kd.N_mono (Kd.N_told (Kd.N_oldK (Kd.N_mono (ok := fun k_ => (((w.heap.size ≤ k_)) ∧ k_ ≠ g)) (Z22 HO_3.out) (fun k_ hk_ => (⟨hk_, hk_.2⟩ : _ ∧ k_ ≠ g))) hk) (Kd.R_base ho0)) (fun _ h_ => h_.1)); have n1_ := A_ (Kd.R_lower (Kd.R_newM (M := fun k_ => (w.heap.size ≤ k_)) ho0 (keep_size (w := w) (g := g) (row := none) Z4) (fun k_ h_ => h_)) (keep_size (w := w) (g := g) (row := none) Z4)); have n2_ := A_ (KeepBut.trans Z4 hk (.inl rfl)); have n3_ := A_ (hb); have n4_ := A_ (hi); clear HO_3; clear HK; clear HB; clear HI0; have HO_3 := n0_; have HO293 := n1_; have HK := n2_; have HB := n3_; have HI0 := n4_; clear n0_ n1_ n2_ n3_ n4_; (try clear hb); (try clear hb2); (try clear hk); (try clear hi); (try clear ho0)) | ((with_reducible refine gate_callee (f := 38) rfl ?_); refine goesL_ (some 17) rfl rfl Try.func38 (by kernel_rfl) rfl #[.pointer (some ⟨g, 0, none⟩), .int .i64 4] rfl Z3 ?_; (with_reducible refine (spec_source_pick.calls k1 g s0_0 t294 t295 4 t296 t297 t298 w0 _ ?side1 ?side2 A8.out).mono ?_); (case side1 => exact Z11 HI0.out); (case side2 => exact Z10 HI0.out); rintro e w14 ⟨rfl, hi, hb, hk⟩; refine ⟨_, rfl, ?_⟩; have n0_ := A_ (Kd.N_mono (Kd.N_keep (Kd.N_mono (ok := fun k_ => ((((w.heap.size ≤ k_)) ∧ k_ ≠ g) ∧ some k_ ≠ (v292 : Value).ownBlock)) (Z22 HO_3.out) (fun k_ hk_ => (⟨hk_, hk_.1.2⟩ : _ ∧ k_ ≠ g))) hk (fun _ h => h.2)) (fun _ h => h.1)); have n1_ := A_ (Kd.R_mono (Kd.R_keep (IsS77.apart (show IsS77 w0 _ g s0_0 t294 t295 from by repeat (first | (with_reducible first | exact HI0.out | apply IsS77.alloc | apply IsS77.drewN | apply IsS77.drew | apply IsS77.set_1 | apply IsS77.set_2) | exact HI0.out)) (Z16 HO293.out) (by decide)) hk (fun _ h => h.2)) (fun _ h => h.1)); have n2_ := A_ (KeepBut.trans Z4 hk (.inl rfl)); have n3_ := A_ (hb); have n4_ := A_ (hi); clear HO_3; clear HO293; clear HK; clear HB; clear HI0; have HO_3 := n0_; have HO293 := n1_; have HK := n2_; have HB := n3_; have HI0 := n4_; clear n0_ n1_ n2_ n3_ n4_; (try clear hb); (try clear hb2); (try clear hk); (try clear hi)) | ((with_reducible refine gate_callee (f := 59) rfl ?_); refine goesL_ (some 18) rfl rfl Try.func59 (by kernel_rfl) rfl #[.pointer (some ⟨g, 0, none⟩), .int .i64 t296] rfl Z3 ?_; (with_reducible refine (spec_source_goods.calls k1 g s0_0 t297 t298 t296 t299 t302 t303 w0 _ ?side1 ?side2 A9.out).mono ?_); (case side1 => exact Z11 HI0.out); (case side2 => exact Z10 HI0.out); rintro e w15 ⟨v300, rfl, ho0, hi, hb, hk⟩; refine ⟨_, rfl, ?_⟩; have n0_ := A_ (Kd.N_mono (Kd.N_told (Kd.N_oldK (Kd.N_mono (ok := fun k_ => ((((w.heap.size ≤ k_)) ∧ k_ ≠ g) ∧ some k_ ≠ (v292 : Value).ownBlock)) (Z22 HO_3.out) (fun k_ hk_ => (⟨hk_, hk_.1.2⟩ : _ ∧ k_ ≠ g))) hk) (Kd.R_base ho0)) (fun _ h_ => h_.1)); have n1_ := A_ (Kd.R_mono (Kd.R_keep (IsS77.apart (show IsS77 w0 _ g s0_0 t297 t298 from by repeat (first | (with_reducible first | exact HI0.out | apply IsS77.alloc | apply IsS77.drewN | apply IsS77.drew | apply IsS77.set_1 | apply IsS77.set_2) | exact HI0.out)) (Z16 HO293.out) (by decide)) hk (fun _ h => h.2)) (fun _ h => h.1)); have n2_ := A_ (Kd.R_lower (Kd.R_newM (M := fun k_ => (w.heap.size ≤ k_)) ho0 (keep_size (w := w) (g := g) (row := none) Z4) (fun k_ h_ => h_)) (keep_size (w := w) (g := g) (row := none) Z4)); have n3_ := A_ (KeepBut.trans Z4 hk (.inl rfl)); have n4_ := A_ (hb); have n5_ := A_ (hi); clear HO_3; clear HO293; clear HK; clear HB; clear HI0; have HO_3 := n0_; have HO293 := n1_; have HO301 := n2_; have HK := n3_; have HB := n4_; have HI0 := n5_; clear n0_ n1_ n2_ n3_ n4_ n5_; (try clear hb); (try clear hb2); (try clear hk); (try clear hi); (try clear ho0); obtain ⟨Ao16, co16, eo16⟩ := Kd.R_slice HO301.out; subst eo16; obtain ⟨Ao17, co17, eo17⟩ := Kd.R_slice HO293.out; subst eo17) | ((with_reducible refine gate_dst (N := 5) rfl ?_); refine box_event ?hg (N := 5) ?hd (cs := #[.slice none 0 0, .slice none 0 0]) (t := 41) ?hr ?_; (case hd => rfl); (case hg => rfl); (case hr => exact Z24); intro gb304 hg w18 hbox hb; have n0_ := A_ (Kd.N_below (Kd.N_elderB (Z22 HO_3.out) gb304 (Nat.le_of_eq hg.symm)) hb); have n1_ := A_ (Kd.R_below (Z16 HO293.out) hb); have n2_ := A_ (Kd.R_below (Z16 HO301.out) hb); have n3_ := A_ (IsS77.below (Z11 HI0.out) hb); have n4_ := A_ (KeepBut.trans Z4 (KeepBut.of_below hb g none) (.inl rfl)); have n5_ := A_ (below_step (Z10 HI0.out) hb); have n6_ := A_ (hbox); have n7_ := A_ ((by rw [hg]; exact (keep_size (w := w) (g := g) (row := none) Z4) : w.heap.size ≤ gb304)); have n8_ := A_ ((Nat.le_trans HW0.out (by rw [hg]; exact (keep_size (w := w) (g := g) (row := none) Z4) : w.heap.size ≤ gb304) : w0.heap.size ≤ gb304)); have n9_ := A_ ((by rw [hg]; exact Nat.ne_of_lt (IsS77.lt (show IsS77 w0 _ g s0_0 t302 t303 from by repeat (first | (with_reducible first | exact HI0.out | apply IsS77.alloc | apply IsS77.drewN | apply IsS77.drew | apply IsS77.set_1 | apply IsS77.set_2) | exact HI0.out))) : g ≠ gb304)); have n10_ := A_ ((by rw [hg]; exact Nat.ne_of_gt (IsS77.lt (show IsS77 w0 _ g s0_0 t302 t303 from by repeat (first | (with_reducible first | exact HI0.out | apply IsS77.alloc | apply IsS77.drewN | apply IsS77.drew | apply IsS77.set_1 | apply IsS77.set_2) | exact HI0.out))) : gb304 ≠ g)); clear HO_3; clear HO293; clear HO301; clear HI0; clear HK; clear HB; have HO_3 := n0_; have HO293 := n1_; have HO301 := n2_; have HI0 := n3_; have HK := n4_; have HB := n5_; have BK304 := n6_; have GW304 := n7_; have GE304 := n8_; have NB0_304 := n9_; have NB304_0 := n10_; clear n0_ n1_ n2_ n3_ n4_ n5_ n6_ n7_ n8_ n9_ n10_; clear hb hbox hg; have hnb19 := NB304_0.out; have hnc19 := NB0_304.out; have hcz20_0 : w18.cell? ⟨gb304, 0, none⟩ = some (.slice none 0 0) := (blk_cell BK304.out 0).trans rfl; have hcz20_1 : w18.cell? ⟨gb304, 1, none⟩ = some (.slice none 0 0) := (blk_cell BK304.out 1).trans rfl; have hfz20_0 := blk_frozen BK304.out 0; have hfz20_1 := blk_frozen BK304.out 1) | ((with_reducible refine gate_callee (f := 51) rfl ?_); refine goesL_ (some 22) rfl rfl Try.func51 (by kernel_rfl) rfl #[.slice Ao17 t291.length co17] rfl Z3 ?_; (with_reducible refine (spec_validPlace.calls k1 _ _ t291 true _ ?side1 ?side2 A10.out).mono ?_); (case side1 => refine (Kd.R_reads' (e := 68) (base := w.heap.size) (ok := fun k_ => ((w.heap.size ≤ k_) ∧ True)) (n := t291.length) (c := co17) ?_).2.2; exact (by (with_reducible repeat (first | apply Kd.R_alloc | apply Kd.R_drewN | apply Kd.R_drew)); exact (Kd.R_mono (Kd.R_far (p := ⟨gb304, 1, none⟩) (Kd.R_far (p := ⟨gb304, 0, none⟩) (Kd.R_types HO293.out BK304.out (by decide)) (fun _ hk => hk.2) (.slice Ao17 t291.length co17)) (fun _ hk => hk.2) (.slice Ao16 t299.length co16)) (fun _ h_ => h_.1)))); (case side2 => exact (Kd.R_reads' HO293.out).2.1); rintro e w21 ⟨rfl, hb⟩; refine ⟨_, rfl, ?_⟩; have n0_ := A_ (Kd.N_below (by (with_reducible repeat (first | apply Kd.N_alloc | apply Kd.N_drewN | apply Kd.N_drew)); exact (Kd.N_mono (Kd.N_far (p := ⟨gb304, 1, none⟩) (Kd.N_far (p := ⟨gb304, 0, none⟩) (Kd.N_mono HO_3.out (fun k_ hk => (⟨hk, hk.2⟩ : _ ∧ k_ ≠ gb304))) (fun _ hk => hk.2) (.slice Ao17 t291.length co17)) (fun _ hk => hk.2) (.slice Ao16 t299.length co16)) (fun _ h_ => h_.1))) hb); have n1_ := A_ (Kd.R_below (by (with_reducible repeat (first | apply Kd.R_alloc | apply Kd.R_drewN | apply Kd.R_drew)); exact (Kd.R_mono (Kd.R_far (p := ⟨gb304, 1, none⟩) (Kd.R_far (p := ⟨gb304, 0, none⟩) (Kd.R_types HO293.out BK304.out (by decide)) (fun _ hk => hk.2) (.slice Ao17 t291.length co17)) (fun _ hk => hk.2) (.slice Ao16 t299.length co16)) (fun _ h_ => h_.1))) hb); have n2_ := A_ (Kd.R_below (by (with_reducible repeat (first | apply Kd.R_alloc | apply Kd.R_drewN | apply Kd.R_drew)); exact (Kd.R_mono (Kd.R_far (p := ⟨gb304, 1, none⟩) (Kd.R_far (p := ⟨gb304, 0, none⟩) (Kd.R_types HO301.out BK304.out (by decide)) (fun _ hk => hk.2) (.slice Ao17 t291.length co17)) (fun _ hk => hk.2) (.slice Ao16 t299.length co16)) (fun _ h_ => h_.1))) hb); have n3_ := A_ (IsS77.below (show IsS77 w0 ((w18.setCell ⟨gb304, 0, none⟩ (.slice Ao17 t291.length co17)).setCell ⟨gb304, 1, none⟩ (.slice Ao16 t299.length co16)) g s0_0 t302 t303 from by repeat (first | (with_reducible first | exact HI0.out | apply IsS77.alloc | apply IsS77.drewN | apply IsS77.drew | apply IsS77.set_1 | apply IsS77.set_2 | refine IsS77.far ?_ NB0_304.out _) | exact HI0.out)) hb); have n4_ := A_ (blk_below (g := gb304) (o := .cells #[.slice Ao17 t291.length co17, .slice Ao16 t299.length co16] 41 (0, 0)) (by (with_reducible repeat (first | refine blk_drewN ?_ _ | refine blk_drew ?_ | refine blk_alloc ?_ _)); refine blk_put (cs := #[.slice Ao17 t291.length co17, .slice none 0 0]) ?_ 1 _ rfl; (with_reducible repeat (first | refine blk_drewN ?_ _ | refine blk_drew ?_ | refine blk_alloc ?_ _)); refine blk_put (cs := #[.slice none 0 0, .slice none 0 0]) ?_ 0 _ rfl; (with_reducible repeat (first | refine blk_drewN ?_ _ | refine blk_drew ?_ | refine blk_alloc ?_ _)); exact BK304.out) hb); have n5_ := A_ (KeepBut.trans (Z18 GW304.out) (KeepBut.of_below hb g none) (.inl rfl)); have n6_ := A_ (below_step (Z19 HI0.out GE304.out) hb); clear HO_3; clear HO293; clear HO301; clear HI0; clear BK304; clear HK; clear HB; have HO_3 := n0_; have HO293 := n1_; have HO301 := n2_; have HI0 := n3_; have BK304 := n4_; have HK := n5_; have HB := n6_; clear n0_ n1_ n2_ n3_ n4_ n5_ n6_; (try clear hb); (try clear hb2); (try clear hk); (try clear hi); have hcz22_0 : w21.cell? ⟨gb304, 0, none⟩ = some (.slice Ao17 t291.length co17) := (blk_cell BK304.out 0).trans rfl; have hcz22_1 : w21.cell? ⟨gb304, 1, none⟩ = some (.slice Ao16 t299.length co16) := (blk_cell BK304.out 1).trans rfl; have hfz22_0 := blk_frozen BK304.out 0; have hfz22_1 := blk_frozen BK304.out 1; obtain ⟨Ao23, co23, eo23⟩ := Kd.N_slice HO_3.out; subst eo23) | ((with_reducible refine gate_callee (f := 61) rfl ?_); refine goesL_ (some 25) rfl rfl Try.func61 (by kernel_rfl) rfl #[.slice Ao23 x3_1.length co23, .agg #[.slice Ao17 t291.length co17, .slice Ao16 t299.length co16]] rfl Z3 ?_; (with_reducible refine (spec_put.calls k1 _ _ x3_1 _ _ t291 _ _ t299 t306 _ ?side1 ?side2 ?side3 ?side4 ?side5 ?side6 A12.out).mono ?_); (case side1 => exact Z35 HO_3.out); (case side2 => exact (Kd.N_reads' HO_3.out).2.1); (case side3 => exact Z30 HO293.out); (case side4 => exact (Kd.R_reads' HO293.out).2.1); (case side5 => exact Z30 HO301.out); (case side6 => exact (Kd.R_reads' HO301.out).2.1); rintro e w24 ⟨v307, rfl, ho0, hb⟩; refine ⟨_, rfl, ?_⟩; have n0_ := A_ (Kd.N_elder' (Z22 HO_3.out) (by first | exact Kd.N_base ho0 | exact Kd.S_base ho0) hb); have n1_ := A_ (Kd.R_below (Z16 HO293.out) hb); have n2_ := A_ (Kd.R_below (Z16 HO301.out) hb); have n3_ := A_ (Kd.N_lower (Kd.N_mono (ok' := fun k_ => (w.heap.size ≤ k_) ∧ some k_ ≠ (.slice Ao23 x3_1.length co23 : Value).ownBlock ∧ some k_ ≠ (.slice Ao17 t291.length co17 : Value).ownBlock ∧ some k_ ≠ (.slice Ao16 t299.length co16 : Value).ownBlock ∧ k_ ≠ gb304 ∧ k_ ≠ g) ho0 (fun k_ hk_ => ⟨(Nat.le_trans (keep_size (w := w) (g := g) (row := none) (Z18 GW304.out)) hk_), (Kd.fresh' (Kd.N_lt (Z22 HO_3.out)) k_ hk_), (Kd.fresh' (Kd.R_lt (Z16 HO293.out)) k_ hk_), (Kd.fresh' (Kd.R_lt (Z16 HO301.out)) k_ hk_), (Kd.freshB (g := gb304) (o := .cells #[.slice Ao17 t291.length co17, .slice Ao16 t299.length co16] 41 (0, 0)) (Z5 BK304.out) k_ hk_), (IsS77.fresh (Z20 HI0.out NB0_304.out) k_ hk_)⟩)) (keep_size (w := w) (g := g) (row := none) (Z18 GW304.out))); have n4_ := A_ (IsS77.below (Z20 HI0.out NB0_304.out) hb); have n5_ := A_ (blk_below (g := gb304) (o := .cells #[.slice Ao17 t291.length co17, .slice Ao16 t299.length co16] 41 (0, 0)) (Z5 BK304.out) hb); have n6_ := A_ (KeepBut.trans (Z18 GW304.out) (KeepBut.of_below hb g none) (.inl rfl)); have n7_ := A_ (below_step (Z19 HI0.out GE304.out) hb); clear HO_3; clear HO293; clear HO301; clear HI0; clear BK304; clear HK; clear HB; have HO_3 := n0_; have HO293 := n1_; have HO301 := n2_; have HO308 := n3_; have HI0 := n4_; have BK304 := n5_; have HK := n6_; have HB := n7_; clear n0_ n1_ n2_ n3_ n4_ n5_ n6_ n7_; (try clear hb); (try clear hb2); (try clear hk); (try clear hi); (try clear ho0)))
     go_roundg k1
     case measure => have := HK1.out; omega
     case rel => exact ⟨(t306), (wrap64 (x4_1 - 1)), (t302), (t303), Z21, H', ⟨by have := HK1.out; omega⟩, ⟨by (with_reducible repeat (first | apply Kd.N_alloc | apply Kd.N_drewN | apply Kd.N_drew)); exact Kd.N_mono HO308.out (fun _ hk => ⟨hk.1, hk.2.2.2.2.2⟩)⟩, ⟨Z20 HI0.out NB0_304.out⟩, ⟨Z18 GW304.out⟩, ⟨Z19 HI0.out GE304.out⟩⟩
    ·replace c11 := Bool.eq_false_iff.mpr c11
     subst c11
     have H1 : (spec_source_cells.l0 k1 x3_1 (wrap64 (x4_1 - 1)) s0_0 t302 t303) = some (r1, r2, r3) := by rw [if_neg (show ¬ (false = true) by decide)] at H; exact H
     clear H
     have H := H1
     clear H1
     have H' := A_ H
     clear H
     go_wp2_with (first | ((with_reducible refine gate_callee (f := 55) rfl ?_); refine goesL_ (some 14) rfl rfl Try.func55 (by kernel_rfl) rfl #[.pointer (some ⟨g, 0, none⟩)] rfl Z3 ?_; (with_reducible refine (spec_source_slots.calls k1 g s0_0 x1001_1 x1002_1 t291 t294 t295 w0 _ ?side1 ?side2 A7.out).mono ?_); (case side1 => exact Z11 HI0.out); (case side2 => exact Z10 HI0.out); rintro e w25 ⟨v292, rfl, ho0, hi, hb, hk⟩; refine ⟨_, rfl, ?_⟩; have n0_ := A_ (Kd.N_mono (Kd.N_told (Kd.N_oldK (Kd.N_mono (ok := fun k_ => (((w.heap.size ≤ k_)) ∧ k_ ≠ g)) (Z22 HO_3.out) (fun k_ hk_ => (⟨hk_, hk_.2⟩ : _ ∧ k_ ≠ g))) hk) (Kd.R_base ho0)) (fun _ h_ => h_.1)); have n1_ := A_ (Kd.R_lower (Kd.R_newM (M := fun k_ => (w.heap.size ≤ k_)) ho0 (keep_size (w := w) (g := g) (row := none) Z4) (fun k_ h_ => h_)) (keep_size (w := w) (g := g) (row := none) Z4)); have n2_ := A_ (KeepBut.trans Z4 hk (.inl rfl)); have n3_ := A_ (hb); have n4_ := A_ (hi); clear HO_3; clear HK; clear HB; clear HI0; have HO_3 := n0_; have HO293 := n1_; have HK := n2_; have HB := n3_; have HI0 := n4_; clear n0_ n1_ n2_ n3_ n4_; (try clear hb); (try clear hb2); (try clear hk); (try clear hi); (try clear ho0)) | ((with_reducible refine gate_callee (f := 38) rfl ?_); refine goesL_ (some 17) rfl rfl Try.func38 (by kernel_rfl) rfl #[.pointer (some ⟨g, 0, none⟩), .int .i64 4] rfl Z3 ?_; (with_reducible refine (spec_source_pick.calls k1 g s0_0 t294 t295 4 t296 t297 t298 w0 _ ?side1 ?side2 A8.out).mono ?_); (case side1 => exact Z11 HI0.out); (case side2 => exact Z10 HI0.out); rintro e w26 ⟨rfl, hi, hb, hk⟩; refine ⟨_, rfl, ?_⟩; have n0_ := A_ (Kd.N_mono (Kd.N_keep (Kd.N_mono (ok := fun k_ => ((((w.heap.size ≤ k_)) ∧ k_ ≠ g) ∧ some k_ ≠ (v292 : Value).ownBlock)) (Z22 HO_3.out) (fun k_ hk_ => (⟨hk_, hk_.1.2⟩ : _ ∧ k_ ≠ g))) hk (fun _ h => h.2)) (fun _ h => h.1)); have n1_ := A_ (Kd.R_mono (Kd.R_keep (IsS77.apart (show IsS77 w0 _ g s0_0 t294 t295 from by repeat (first | (with_reducible first | exact HI0.out | apply IsS77.alloc | apply IsS77.drewN | apply IsS77.drew | apply IsS77.set_1 | apply IsS77.set_2) | exact HI0.out)) (Z16 HO293.out) (by decide)) hk (fun _ h => h.2)) (fun _ h => h.1)); have n2_ := A_ (KeepBut.trans Z4 hk (.inl rfl)); have n3_ := A_ (hb); have n4_ := A_ (hi); clear HO_3; clear HO293; clear HK; clear HB; clear HI0; have HO_3 := n0_; have HO293 := n1_; have HK := n2_; have HB := n3_; have HI0 := n4_; clear n0_ n1_ n2_ n3_ n4_; (try clear hb); (try clear hb2); (try clear hk); (try clear hi)) | ((with_reducible refine gate_callee (f := 59) rfl ?_); refine goesL_ (some 18) rfl rfl Try.func59 (by kernel_rfl) rfl #[.pointer (some ⟨g, 0, none⟩), .int .i64 t296] rfl Z3 ?_; (with_reducible refine (spec_source_goods.calls k1 g s0_0 t297 t298 t296 t299 t302 t303 w0 _ ?side1 ?side2 A9.out).mono ?_); (case side1 => exact Z11 HI0.out); (case side2 => exact Z10 HI0.out); rintro e w27 ⟨v300, rfl, ho0, hi, hb, hk⟩; refine ⟨_, rfl, ?_⟩; have n0_ := A_ (Kd.N_mono (Kd.N_told (Kd.N_oldK (Kd.N_mono (ok := fun k_ => ((((w.heap.size ≤ k_)) ∧ k_ ≠ g) ∧ some k_ ≠ (v292 : Value).ownBlock)) (Z22 HO_3.out) (fun k_ hk_ => (⟨hk_, hk_.1.2⟩ : _ ∧ k_ ≠ g))) hk) (Kd.R_base ho0)) (fun _ h_ => h_.1)); have n1_ := A_ (Kd.R_mono (Kd.R_keep (IsS77.apart (show IsS77 w0 _ g s0_0 t297 t298 from by repeat (first | (with_reducible first | exact HI0.out | apply IsS77.alloc | apply IsS77.drewN | apply IsS77.drew | apply IsS77.set_1 | apply IsS77.set_2) | exact HI0.out)) (Z16 HO293.out) (by decide)) hk (fun _ h => h.2)) (fun _ h => h.1)); have n2_ := A_ (Kd.R_lower (Kd.R_newM (M := fun k_ => (w.heap.size ≤ k_)) ho0 (keep_size (w := w) (g := g) (row := none) Z4) (fun k_ h_ => h_)) (keep_size (w := w) (g := g) (row := none) Z4)); have n3_ := A_ (KeepBut.trans Z4 hk (.inl rfl)); have n4_ := A_ (hb); have n5_ := A_ (hi); clear HO_3; clear HO293; clear HK; clear HB; clear HI0; have HO_3 := n0_; have HO293 := n1_; have HO301 := n2_; have HK := n3_; have HB := n4_; have HI0 := n5_; clear n0_ n1_ n2_ n3_ n4_ n5_; (try clear hb); (try clear hb2); (try clear hk); (try clear hi); (try clear ho0); obtain ⟨Ao28, co28, eo28⟩ := Kd.R_slice HO301.out; subst eo28; obtain ⟨Ao29, co29, eo29⟩ := Kd.R_slice HO293.out; subst eo29) | ((with_reducible refine gate_dst (N := 5) rfl ?_); refine box_event ?hg (N := 5) ?hd (cs := #[.slice none 0 0, .slice none 0 0]) (t := 41) ?hr ?_; (case hd => rfl); (case hg => rfl); (case hr => exact Z24); intro gb304 hg w30 hbox hb; have n0_ := A_ (Kd.N_below (Kd.N_elderB (Z22 HO_3.out) gb304 (Nat.le_of_eq hg.symm)) hb); have n1_ := A_ (Kd.R_below (Z16 HO293.out) hb); have n2_ := A_ (Kd.R_below (Z16 HO301.out) hb); have n3_ := A_ (IsS77.below (Z11 HI0.out) hb); have n4_ := A_ (KeepBut.trans Z4 (KeepBut.of_below hb g none) (.inl rfl)); have n5_ := A_ (below_step (Z10 HI0.out) hb); have n6_ := A_ (hbox); have n7_ := A_ ((by rw [hg]; exact (keep_size (w := w) (g := g) (row := none) Z4) : w.heap.size ≤ gb304)); have n8_ := A_ ((Nat.le_trans HW0.out (by rw [hg]; exact (keep_size (w := w) (g := g) (row := none) Z4) : w.heap.size ≤ gb304) : w0.heap.size ≤ gb304)); have n9_ := A_ ((by rw [hg]; exact Nat.ne_of_lt (IsS77.lt (show IsS77 w0 _ g s0_0 t302 t303 from by repeat (first | (with_reducible first | exact HI0.out | apply IsS77.alloc | apply IsS77.drewN | apply IsS77.drew | apply IsS77.set_1 | apply IsS77.set_2) | exact HI0.out))) : g ≠ gb304)); have n10_ := A_ ((by rw [hg]; exact Nat.ne_of_gt (IsS77.lt (show IsS77 w0 _ g s0_0 t302 t303 from by repeat (first | (with_reducible first | exact HI0.out | apply IsS77.alloc | apply IsS77.drewN | apply IsS77.drew | apply IsS77.set_1 | apply IsS77.set_2) | exact HI0.out))) : gb304 ≠ g)); clear HO_3; clear HO293; clear HO301; clear HI0; clear HK; clear HB; have HO_3 := n0_; have HO293 := n1_; have HO301 := n2_; have HI0 := n3_; have HK := n4_; have HB := n5_; have BK304 := n6_; have GW304 := n7_; have GE304 := n8_; have NB0_304 := n9_; have NB304_0 := n10_; clear n0_ n1_ n2_ n3_ n4_ n5_ n6_ n7_ n8_ n9_ n10_; clear hb hbox hg; have hnb31 := NB304_0.out; have hnc31 := NB0_304.out; have hcz32_0 : w30.cell? ⟨gb304, 0, none⟩ = some (.slice none 0 0) := (blk_cell BK304.out 0).trans rfl; have hcz32_1 : w30.cell? ⟨gb304, 1, none⟩ = some (.slice none 0 0) := (blk_cell BK304.out 1).trans rfl; have hfz32_0 := blk_frozen BK304.out 0; have hfz32_1 := blk_frozen BK304.out 1) | ((with_reducible refine gate_callee (f := 51) rfl ?_); refine goesL_ (some 22) rfl rfl Try.func51 (by kernel_rfl) rfl #[.slice Ao29 t291.length co29] rfl Z3 ?_; (with_reducible refine (spec_validPlace.calls k1 _ _ t291 false _ ?side1 ?side2 A10.out).mono ?_); (case side1 => refine (Kd.R_reads' (e := 68) (base := w.heap.size) (ok := fun k_ => ((w.heap.size ≤ k_) ∧ True)) (n := t291.length) (c := co29) ?_).2.2; exact (by (with_reducible repeat (first | apply Kd.R_alloc | apply Kd.R_drewN | apply Kd.R_drew)); exact (Kd.R_mono (Kd.R_far (p := ⟨gb304, 1, none⟩) (Kd.R_far (p := ⟨gb304, 0, none⟩) (Kd.R_types HO293.out BK304.out (by decide)) (fun _ hk => hk.2) (.slice Ao29 t291.length co29)) (fun _ hk => hk.2) (.slice Ao28 t299.length co28)) (fun _ h_ => h_.1)))); (case side2 => exact (Kd.R_reads' HO293.out).2.1); rintro e w33 ⟨rfl, hb⟩; refine ⟨_, rfl, ?_⟩; have n0_ := A_ (Kd.N_below (by (with_reducible repeat (first | apply Kd.N_alloc | apply Kd.N_drewN | apply Kd.N_drew)); exact (Kd.N_mono (Kd.N_far (p := ⟨gb304, 1, none⟩) (Kd.N_far (p := ⟨gb304, 0, none⟩) (Kd.N_mono HO_3.out (fun k_ hk => (⟨hk, hk.2⟩ : _ ∧ k_ ≠ gb304))) (fun _ hk => hk.2) (.slice Ao29 t291.length co29)) (fun _ hk => hk.2) (.slice Ao28 t299.length co28)) (fun _ h_ => h_.1))) hb); have n1_ := A_ (Kd.R_below (by (with_reducible repeat (first | apply Kd.R_alloc | apply Kd.R_drewN | apply Kd.R_drew)); exact (Kd.R_mono (Kd.R_far (p := ⟨gb304, 1, none⟩) (Kd.R_far (p := ⟨gb304, 0, none⟩) (Kd.R_types HO293.out BK304.out (by decide)) (fun _ hk => hk.2) (.slice Ao29 t291.length co29)) (fun _ hk => hk.2) (.slice Ao28 t299.length co28)) (fun _ h_ => h_.1))) hb); have n2_ := A_ (Kd.R_below (by (with_reducible repeat (first | apply Kd.R_alloc | apply Kd.R_drewN | apply Kd.R_drew)); exact (Kd.R_mono (Kd.R_far (p := ⟨gb304, 1, none⟩) (Kd.R_far (p := ⟨gb304, 0, none⟩) (Kd.R_types HO301.out BK304.out (by decide)) (fun _ hk => hk.2) (.slice Ao29 t291.length co29)) (fun _ hk => hk.2) (.slice Ao28 t299.length co28)) (fun _ h_ => h_.1))) hb); have n3_ := A_ (IsS77.below (show IsS77 w0 ((w30.setCell ⟨gb304, 0, none⟩ (.slice Ao29 t291.length co29)).setCell ⟨gb304, 1, none⟩ (.slice Ao28 t299.length co28)) g s0_0 t302 t303 from by repeat (first | (with_reducible first | exact HI0.out | apply IsS77.alloc | apply IsS77.drewN | apply IsS77.drew | apply IsS77.set_1 | apply IsS77.set_2 | refine IsS77.far ?_ NB0_304.out _) | exact HI0.out)) hb); have n4_ := A_ (blk_below (g := gb304) (o := .cells #[.slice Ao29 t291.length co29, .slice Ao28 t299.length co28] 41 (0, 0)) (by (with_reducible repeat (first | refine blk_drewN ?_ _ | refine blk_drew ?_ | refine blk_alloc ?_ _)); refine blk_put (cs := #[.slice Ao29 t291.length co29, .slice none 0 0]) ?_ 1 _ rfl; (with_reducible repeat (first | refine blk_drewN ?_ _ | refine blk_drew ?_ | refine blk_alloc ?_ _)); refine blk_put (cs := #[.slice none 0 0, .slice none 0 0]) ?_ 0 _ rfl; (with_reducible repeat (first | refine blk_drewN ?_ _ | refine blk_drew ?_ | refine blk_alloc ?_ _)); exact BK304.out) hb); have n5_ := A_ (KeepBut.trans (Z18 GW304.out) (KeepBut.of_below hb g none) (.inl rfl)); have n6_ := A_ (below_step (Z19 HI0.out GE304.out) hb); clear HO_3; clear HO293; clear HO301; clear HI0; clear BK304; clear HK; clear HB; have HO_3 := n0_; have HO293 := n1_; have HO301 := n2_; have HI0 := n3_; have BK304 := n4_; have HK := n5_; have HB := n6_; clear n0_ n1_ n2_ n3_ n4_ n5_ n6_; (try clear hb); (try clear hb2); (try clear hk); (try clear hi)))
     go_roundg k1
     case measure => have := HK1.out; omega
     case rel => exact ⟨(x3_1), (wrap64 (x4_1 - 1)), (t302), (t303), Z21, H', ⟨by have := HK1.out; omega⟩, ⟨by (with_reducible repeat (first | apply Kd.N_alloc | apply Kd.N_drewN | apply Kd.N_drew)); exact Kd.N_mono HO_3.out (fun _ hk => ⟨hk.1.1.1.1, hk.1.1.1.2⟩)⟩, ⟨Z20 HI0.out NB0_304.out⟩, ⟨Z18 GW304.out⟩, ⟨Z19 HI0.out GE304.out⟩⟩
   ·rw [if_neg c6] at H
    have c6b0 : decide (0 < x4_1) = false := decide_eq_false c6
    clear c6
    simp only [Option.some.injEq, Prod.mk.injEq] at H
    obtain ⟨rfl, rfl, rfl⟩ := H
    go_wp2
    go_ret
    exact ⟨_, Z17, Z40 HO_3.out, Z11 HI0.out, Z10 HI0.out, Z4⟩
def spec_DrawStoreOk.f (k : Nat) (l0 : List Int) : Option ((List (S41))) := (spec_newSource.f l0).bind fun bt309 => ((spec_source_cells.f k bt309.1 bt309.2.1 bt309.2.2).bind fun bt313 => ((spec_source_pick.f k bt309.1 bt313.2.1 bt313.2.2 6).bind fun bt318 => (if bt318.1 = 0 then (if (bt313.1.length : Int) > 1 then (if 0 < (bt313.1.length : Int) then (if 1 < (bt313.1.length : Int) then (some ((bt313.1.set (0 : Int).toNat (⟨(rd_T41 bt313.1 1).f0, (rd_T41 bt313.1 1).f1⟩ : S41)).set (1 : Int).toNat (⟨(rd_T41 bt313.1 0).f0, (rd_T41 bt313.1 0).f1⟩ : S41))) else (none)) else (none)) else (some bt313.1)) else (some bt313.1))))
theorem spec_DrawStoreOk.mono : ∀ a0 k, LeO (spec_DrawStoreOk.f k a0) (spec_DrawStoreOk.f (k + 1) a0) := by
 intro a0 k
 unfold spec_DrawStoreOk.f
 repeat' first
   | (with_reducible exact spec_source_cells.mono _ _ _ _)
   | (with_reducible exact spec_source_pick.mono _ _ _ _ _)
   | (with_reducible exact LeO.refl _)
   | (with_reducible exact LeO.none _)
   | (with_reducible refine LeO.ite ?_ ?_)
   | (with_reducible refine LeO.bind ?_ (fun _ => ?_))
   | exact spec_source_cells.mono _ _ _ _
   | exact spec_source_pick.mono _ _ _ _ _
   | exact LeO.none _
   | refine LeO.ite ?_ ?_
   | refine LeO.bind ?_ (fun _ => ?_)
set_option maxHeartbeats 8000000 in
set_option maxRecDepth 100000 in
theorem spec_DrawStoreOk.calls (k : Nat) (A0 : Option Addr) (c0 : Nat) (l0 : List Int) (r : List (S41)) (w : World) (hr0 : Kd.C (Kd.int .u8) w A0 l0.length l0) (hc0 : l0.length ≤ c0) (h : spec_DrawStoreOk.f k l0 = some r) :
  Calls Try.prog 15 #[.slice A0 l0.length c0] w fun e w' => ∃ v0_ : Value, e = .returned (v0_) ∧ Kd.N k41 41 w' w.heap.size (fun k_ => (w.heap.size ≤ k_)) v0_ r ∧ Below w.heap.size w w' := by
 have hu41 := Try.underlying41
 have HR0 := A_ hr0
 have HC0 := A_ hc0
 clear hr0 hc0
 have HB := A_ (Below.refl w.heap.size w)
 have H : ((spec_newSource.f l0).bind fun bt309 => ((spec_source_cells.f k bt309.1 bt309.2.1 bt309.2.2).bind fun bt313 => ((spec_source_pick.f k bt309.1 bt313.2.1 bt313.2.2 6).bind fun bt318 => (if bt318.1 = 0 then (if (bt313.1.length : Int) > 1 then (if 0 < (bt313.1.length : Int) then (if 1 < (bt313.1.length : Int) then (some ((bt313.1.set (0 : Int).toNat (⟨(rd_T41 bt313.1 1).f0, (rd_T41 bt313.1 1).f1⟩ : S41)).set (1 : Int).toNat (⟨(rd_T41 bt313.1 0).f0, (rd_T41 bt313.1 0).f1⟩ : S41))) else (none)) else (none)) else (some bt313.1)) else (some bt313.1))))) = some r := h
 clear h
 replace H := Option.bind_eq_some_iff.mp H
 obtain ⟨⟨t309, t310, t311⟩, A20, H⟩ := H
 replace H : ((spec_source_cells.f k t309 t310 t311).bind fun bt313 => ((spec_source_pick.f k t309 bt313.2.1 bt313.2.2 6).bind fun bt318 => (if bt318.1 = 0 then (if (bt313.1.length : Int) > 1 then (if 0 < (bt313.1.length : Int) then (if 1 < (bt313.1.length : Int) then (some ((bt313.1.set (0 : Int).toNat (⟨(rd_T41 bt313.1 1).f0, (rd_T41 bt313.1 1).f1⟩ : S41)).set (1 : Int).toNat (⟨(rd_T41 bt313.1 0).f0, (rd_T41 bt313.1 0).f1⟩ : S41))) else (none)) else (none)) else (some bt313.1)) else (some bt313.1)))) = some r := H
 have A2 := A_ A20
 clear A20
 replace H := Option.bind_eq_some_iff.mp H
 obtain ⟨⟨t313, t316, t317⟩, A30, H⟩ := H
 replace H : ((spec_source_pick.f k t309 t316 t317 6).bind fun bt318 => (if bt318.1 = 0 then (if (t313.length : Int) > 1 then (if 0 < (t313.length : Int) then (if 1 < (t313.length : Int) then (some ((t313.set (0 : Int).toNat (⟨(rd_T41 t313 1).f0, (rd_T41 t313 1).f1⟩ : S41)).set (1 : Int).toNat (⟨(rd_T41 t313 0).f0, (rd_T41 t313 0).f1⟩ : S41))) else (none)) else (none)) else (some t313)) else (some t313))) = some r := H
 have A3 := A_ A30
 clear A30
 replace H := Option.bind_eq_some_iff.mp H
 obtain ⟨⟨t318, t319, t320⟩, A40, H⟩ := H
 replace H : (if t318 = 0 then (if (t313.length : Int) > 1 then (if 0 < (t313.length : Int) then (if 1 < (t313.length : Int) then (some ((t313.set (0 : Int).toNat (⟨(rd_T41 t313 1).f0, (rd_T41 t313 1).f1⟩ : S41)).set (1 : Int).toNat (⟨(rd_T41 t313 0).f0, (rd_T41 t313 0).f1⟩ : S41))) else (none)) else (none)) else (some t313)) else (some t313)) = some r := H
 have A4 := A_ A40
 clear A40
 by_cases c5 : t318 = 0
 ·rw [if_pos c5] at H
  have c5b0 : (t318 == 0) = true := beq_iff_eq.mpr c5
  have c5b1 : (t318 != 0) = false := bne_eq_false_iff_eq.mpr c5
  clear c5
  by_cases c6 : (t313.length : Int) > 1
  ·rw [if_pos c6] at H
   have c6b0 : decide (1 < (t313.length : Int)) = true := decide_eq_true c6
   have c6b1 : decide (1 < t313.length) = true := decide_eq_true (by omega)
   clear c6
   by_cases c7 : 0 < (t313.length : Int)
   ·rw [if_pos c7] at H
    have c7b0 : decide (0 < (t313.length : Int)) = true := decide_eq_true c7
    have c7b1 : decide (0 < t313.length) = true := decide_eq_true (by omega)
    clear c7
    by_cases c8 : 1 < (t313.length : Int)
    ·rw [if_pos c8] at H
     have c8b0 : decide (1 < (t313.length : Int)) = true := decide_eq_true c8
     have c8b1 : decide (1 < t313.length) = true := decide_eq_true (by omega)
     clear c8
     obtain ⟨y324, hy324⟩ : ∃ y_ : List (S41), y_ = (t313.set (0 : Int).toNat (⟨(rd_T41 t313 1).f0, (rd_T41 t313 1).f1⟩ : S41)) := ⟨_, rfl⟩
     replace H : (some (y324.set (1 : Int).toNat (⟨(rd_T41 t313 0).f0, (rd_T41 t313 0).f1⟩ : S41))) = some r := by first | (rw [hy324]; with_reducible exact H) | (have H2_ := (Option.bind_some _ _).symm.trans H; rw [hy324]; with_reducible exact H2_) | (have H2_ := (Option.bind_some _ _).symm.trans H; with_reducible exact H2_) | with_reducible exact H | (rw [hy324]; exact H) | exact H
     have Ny324 := A_ hy324
     clear hy324
     obtain ⟨y325, hy325⟩ : ∃ y_ : List (S41), y_ = (y324.set (1 : Int).toNat (⟨(rd_T41 t313 0).f0, (rd_T41 t313 0).f1⟩ : S41)) := ⟨_, rfl⟩
     replace H : (some y325) = some r := by first | (rw [hy325]; with_reducible exact H) | (have H2_ := (Option.bind_some _ _).symm.trans H; rw [hy325]; with_reducible exact H2_) | (have H2_ := (Option.bind_some _ _).symm.trans H; with_reducible exact H2_) | with_reducible exact H | (rw [hy325]; exact H) | exact H
     have Ny325 := A_ hy325
     clear hy325
     obtain rfl := Option.some.inj H
     go_enter Try.func15, Try.ntmps15
     go_wp2_with (first | ((with_reducible refine gate_callee (f := 32) rfl ?_); refine goesL_ (some 7) rfl rfl Try.func32 (by kernel_rfl) rfl #[.slice A0 l0.length c0] rfl Z3 ?_; (with_reducible refine (spec_newSource.calls _ _ l0 t309 t310 t311 w _ ?side1 ?side2 ?side3 A2.out).mono ?_); (case side1 => exact Z1); (case side2 => exact HR0.out); (case side3 => exact HC0.out); rintro e w11 ⟨g312, rfl, hi, hb, hb2⟩; refine ⟨_, rfl, ?_⟩; have n0_ := A_ (hb); have n1_ := A_ (hi); clear HB; have HB := n0_; have HI312 := n1_; clear n0_ n1_; (try clear hb); (try clear hb2); (try clear hk); (try clear hi)) | ((with_reducible refine gate_callee (f := 42) rfl ?_); refine goesL_ (some 9) rfl rfl Try.func42 (by kernel_rfl) rfl #[.pointer (some ⟨g312, 0, none⟩)] rfl Z3 ?_; (with_reducible refine (spec_source_cells.calls k g312 t309 t310 t311 t313 t316 t317 w _ ?side1 ?side2 A3.out).mono ?_); (case side1 => exact Z11 HI312.out); (case side2 => exact Z10 HI312.out); rintro e w12 ⟨v314, rfl, ho0, hi, hb, hk⟩; refine ⟨_, rfl, ?_⟩; have n0_ := A_ (Kd.N_lower (Kd.N_mono (ok' := fun k_ => (w.heap.size ≤ k_) ∧ k_ ≠ g312) ho0 (fun k_ hk_ => ⟨(Nat.le_trans (below_size (Z10 HI312.out)) hk_), (IsS77.fresh (Z11 HI312.out) k_ hk_)⟩)) (below_size (Z10 HI312.out))); have n1_ := A_ (hb); have n2_ := A_ (hi); clear HB; clear HI312; have HO315 := n0_; have HB := n1_; have HI312 := n2_; clear n0_ n1_ n2_; (try clear hb); (try clear hb2); (try clear hk); (try clear hi); (try clear ho0)) | ((with_reducible refine gate_callee (f := 38) rfl ?_); refine goesL_ (some 11) rfl rfl Try.func38 (by kernel_rfl) rfl #[.pointer (some ⟨g312, 0, none⟩), .int .i64 6] rfl Z3 ?_; (with_reducible refine (spec_source_pick.calls k g312 t309 t316 t317 6 t318 t319 t320 w _ ?side1 ?side2 A4.out).mono ?_); (case side1 => exact Z11 HI312.out); (case side2 => exact Z10 HI312.out); rintro e w13 ⟨rfl, hi, hb, hk⟩; refine ⟨_, rfl, ?_⟩; have n0_ := A_ (Kd.N_mono (Kd.N_keep (Kd.N_mono (ok := fun k_ => (((w.heap.size ≤ k_)) ∧ k_ ≠ g312)) (Z22 HO315.out) (fun k_ hk_ => (⟨hk_, hk_.2⟩ : _ ∧ k_ ≠ g312))) hk (fun _ h => h.2)) (fun _ h => h.1)); have n1_ := A_ (hb); have n2_ := A_ (hi); clear HO315; clear HB; clear HI312; have HO315 := n0_; have HB := n1_; have HI312 := n2_; clear n0_ n1_ n2_; (try clear hb); (try clear hb2); (try clear hk); (try clear hi); obtain ⟨Ao14, co14, eo14⟩ := Kd.N_slice HO315.out; subst eo14; have p321 : 0 ≤ (0 : Int) := (by omega); have q321 : 0 < (t313.length : Int) := of_decide_eq_true Z13; obtain ⟨ad321, A321_0, c321_0, A321_1, c321_1, e321, hx321_0, hx321_1, hl321_0, hi321_0, hl321_1, hi321_1⟩ := at_T41 (Kd.N_reads' HO315.out).2.2 0 p321 q321; cases e321; obtain ⟨ce321, hce321, hMe321, hcc321⟩ := Kd.N_get HO315.out z41 0 p321 (by first | exact q321 | exact of_decide_eq_true Z13 | (have e_ := (Kd.N_reads' HO315.out).1; omega)); obtain ⟨ua321_0, uc321_0, ua321_1, uc321_1, rfl, ul321_0, ge321_0, ul321_1, ge321_1⟩ := k41_openF hMe321; have hv321_0 := hcc321 0 _ rfl; rw [Nat.add_zero] at hv321_0; replace hv321_0 := Option.some.inj (hv321_0.symm.trans hx321_0); injection hv321_0 with hva_ hvn_ hvc_; rw [hva_] at ge321_0; rw [hvc_] at ul321_0; have HL321_0 := A_ (show Kd.V k68 68 _ w.heap.size _ _ ((rd_T41 t313 0).f0) from Kd.V_mk ul321_0 ge321_0); clear hva_ hvn_ hvc_ ge321_0 ul321_0; have hv321_1 := hcc321 1 _ rfl; rw [add_field _ _ 1 (by omega)] at hv321_1; replace hv321_1 := Option.some.inj (hv321_1.symm.trans hx321_1); injection hv321_1 with hva_ hvn_ hvc_; rw [hva_] at ge321_1; rw [hvc_] at ul321_1; have HL321_1 := A_ (show Kd.V k28 28 _ w.heap.size _ _ ((rd_T41 t313 0).f1) from Kd.V_mk ul321_1 ge321_1); clear hva_ hvn_ hvc_ ge321_1 ul321_1; clear hcc321 hce321; have qi321 : (0 < t313.length) = True := eq_true (by omega); (try rw [show ((0 : Int)).toNat = 0 from rfl] at hx321_0); (try rw [show 0 * 2 = 0 from rfl] at hx321_0); (try rw [Addr.add_zero'] at hx321_0); (try rw [show ((0 : Int)).toNat = 0 from rfl] at hx321_1); (try rw [show 0 * 2 = 0 from rfl] at hx321_1); (try rw [Addr.add_zero'] at hx321_1); have HR321_0 := A_ hi321_0; have HC321_0 := A_ hl321_0; clear hi321_0 hl321_0; have HR321_1 := A_ hi321_1; have HC321_1 := A_ hl321_1; clear hi321_1 hl321_1; replace p321 := eq_true p321; replace q321 := eq_true q321) | ((with_reducible refine gate_dst (N := 5) rfl ?_); (try (refine gate_guard (by rfl) ?_; dsimp only)); refine box_event ?hg (N := 5) ?hd (cs := #[.slice none 0 0, .slice none 0 0]) (t := 41) ?hr ?_; (case hd => rfl); (case hg => rfl); (case hr => exact Z24); intro gb322 hg w15 hbox hb; have n0_ := A_ (Kd.N_below (Kd.N_elderB (Z22 HO315.out) gb322 (Nat.le_of_eq hg.symm)) hb); have n1_ := A_ (Kd.V_below (Kd.V_elderB (Z31 HL321_0.out) gb322 (Nat.le_of_eq hg.symm)) hb); have n2_ := A_ (Kd.V_below (Kd.V_elderB (Z31 HL321_1.out) gb322 (Nat.le_of_eq hg.symm)) hb); have n3_ := A_ (IsS77.below (Z11 HI312.out) hb); have n4_ := A_ (Kd.C_below (Z26 HR321_0.out) hb); have n5_ := A_ (Kd.C_below (Z26 HR321_1.out) hb); have n6_ := A_ (below_step (Z10 HI312.out) hb); have n7_ := A_ (hbox); have n8_ := A_ ((by rw [hg]; exact (below_size (Z10 HI312.out)) : w.heap.size ≤ gb322)); have n9_ := A_ ((by rw [hg]; exact (below_size (Z10 HI312.out)) : w.heap.size ≤ gb322)); have n10_ := A_ ((by rw [hg]; exact Nat.ne_of_lt (IsS77.lt (show IsS77 w _ g312 t309 t319 t320 from by repeat (first | (with_reducible first | exact HI312.out | apply IsS77.alloc | apply IsS77.drewN | apply IsS77.drew | apply IsS77.set_1 | apply IsS77.set_2) | exact HI312.out))) : g312 ≠ gb322)); have n11_ := A_ ((by rw [hg]; exact Nat.ne_of_gt (IsS77.lt (show IsS77 w _ g312 t309 t319 t320 from by repeat (first | (with_reducible first | exact HI312.out | apply IsS77.alloc | apply IsS77.drewN | apply IsS77.drew | apply IsS77.set_1 | apply IsS77.set_2) | exact HI312.out))) : gb322 ≠ g312)); clear HO315; clear HL321_0; clear HL321_1; clear HI312; clear HR321_0; clear HR321_1; clear HB; have HO315 := n0_; have HL321_0 := n1_; have HL321_1 := n2_; have HI312 := n3_; have HR321_0 := n4_; have HR321_1 := n5_; have HB := n6_; have BK322 := n7_; have GW322 := n8_; have GE322 := n9_; have NB312_322 := n10_; have NB322_312 := n11_; clear n0_ n1_ n2_ n3_ n4_ n5_ n6_ n7_ n8_ n9_ n10_ n11_; clear hb hbox hg; have hnb16 := NB322_312.out; have hnc16 := NB312_322.out; have hcz17_0 : w15.cell? ⟨gb322, 0, none⟩ = some (.slice none 0 0) := (blk_cell BK322.out 0).trans rfl; have hcz17_1 : w15.cell? ⟨gb322, 1, none⟩ = some (.slice none 0 0) := (blk_cell BK322.out 1).trans rfl; have hfz17_0 := blk_frozen BK322.out 0; have hfz17_1 := blk_frozen BK322.out 1) | ((with_reducible refine gate_store (t := 41) (p := 5) rfl ?_); refine store_event (t := 41) (p := 5) (v := ?vo_w18) (w1 := ((w15.setCell ⟨gb322, 0, none⟩ (.slice A321_0 ((rd_T41 t313 0).f0).length c321_0)).setCell ⟨gb322, 1, none⟩ (.slice A321_1 ((rd_T41 t313 0).f1).length c321_1))) ?hg ?ho ?hn ?hr ?_; (case ho => rfl); (case hg => rfl); (case hn => rfl); (case hr => exact Z24); intro w18 hw; have n0_ : Aside0 (Kd.N k41 41 w18 w.heap.size (fun k_ => (w.heap.size ≤ k_) ∧ k_ ≠ g312 ∧ k_ ≠ gb322) (.slice (some ad321) t313.length co14) t313) := ⟨(by rw [hw]; exact (by (with_reducible repeat (first | apply Kd.N_alloc | apply Kd.N_drewN | apply Kd.N_drew)); exact Kd.N_mono (Kd.N_far (p := ⟨gb322, 1, none⟩) (Kd.N_far (p := ⟨gb322, 0, none⟩) (Kd.N_mono HO315.out (fun k_ hk => (⟨hk, hk.2⟩ : _ ∧ k_ ≠ gb322))) (fun _ hk => hk.2) (.slice A321_0 ((rd_T41 t313 0).f0).length c321_0)) (fun _ hk => hk.2) (.slice A321_1 ((rd_T41 t313 0).f1).length c321_1)) (fun _ hk => ⟨hk.1.1.1, ⟨hk.1.1.2, hk.1.2⟩⟩)))⟩; have n1_ : Aside0 (Kd.V k68 68 w18 w.heap.size (fun k_ => (w.heap.size ≤ k_) ∧ some k_ ≠ (.slice (some ad321) t313.length co14 : Value).ownBlock ∧ k_ ≠ g312 ∧ k_ ≠ gb322) (.slice A321_0 ((rd_T41 t313 0).f0).length c321_0) ((rd_T41 t313 0).f0)) := ⟨(by rw [hw]; exact (by (with_reducible repeat (first | apply Kd.V_alloc | apply Kd.V_drewN | apply Kd.V_drew)); exact Kd.V_mono (Kd.V_far (p := ⟨gb322, 1, none⟩) (Kd.V_far (p := ⟨gb322, 0, none⟩) (Kd.V_mono HL321_0.out (fun k_ hk => (⟨hk, hk.2⟩ : _ ∧ k_ ≠ gb322))) (fun _ hk => hk.2) (.slice A321_0 ((rd_T41 t313 0).f0).length c321_0)) (fun _ hk => hk.2) (.slice A321_1 ((rd_T41 t313 0).f1).length c321_1)) (fun _ hk => ⟨hk.1.1.1.1, ⟨hk.1.1.2, ⟨hk.1.1.1.2, hk.1.2⟩⟩⟩)))⟩; have n2_ : Aside0 (Kd.V k28 28 w18 w.heap.size (fun k_ => (w.heap.size ≤ k_) ∧ some k_ ≠ (.slice (some ad321) t313.length co14 : Value).ownBlock ∧ k_ ≠ g312 ∧ k_ ≠ gb322) (.slice A321_1 ((rd_T41 t313 0).f1).length c321_1) ((rd_T41 t313 0).f1)) := ⟨(by rw [hw]; exact (by (with_reducible repeat (first | apply Kd.V_alloc | apply Kd.V_drewN | apply Kd.V_drew)); exact Kd.V_mono (Kd.V_far (p := ⟨gb322, 1, none⟩) (Kd.V_far (p := ⟨gb322, 0, none⟩) (Kd.V_mono HL321_1.out (fun k_ hk => (⟨hk, hk.2⟩ : _ ∧ k_ ≠ gb322))) (fun _ hk => hk.2) (.slice A321_0 ((rd_T41 t313 0).f0).length c321_0)) (fun _ hk => hk.2) (.slice A321_1 ((rd_T41 t313 0).f1).length c321_1)) (fun _ hk => ⟨hk.1.1.1.1, ⟨hk.1.1.2, ⟨hk.1.1.1.2, hk.1.2⟩⟩⟩)))⟩; have n3_ : Aside0 (w18.heap[gb322]? = some (.cells #[.slice A321_0 ((rd_T41 t313 0).f0).length c321_0, .slice A321_1 ((rd_T41 t313 0).f1).length c321_1] 41 (0, 0))) := ⟨(by rw [hw]; exact (by (with_reducible repeat (first | refine blk_drewN ?_ _ | refine blk_drew ?_ | refine blk_alloc ?_ _)); refine blk_put (cs := #[.slice A321_0 ((rd_T41 t313 0).f0).length c321_0, .slice none 0 0]) ?_ 1 _ rfl; (with_reducible repeat (first | refine blk_drewN ?_ _ | refine blk_drew ?_ | refine blk_alloc ?_ _)); refine blk_put (cs := #[.slice none 0 0, .slice none 0 0]) ?_ 0 _ rfl; (with_reducible repeat (first | refine blk_drewN ?_ _ | refine blk_drew ?_ | refine blk_alloc ?_ _)); exact BK322.out))⟩; have n4_ : Aside0 (IsS77 w w18 g312 t309 t319 t320) := ⟨(by rw [hw]; exact (Z20 HI312.out NB312_322.out))⟩; have n5_ : Aside0 (Below w.heap.size w w18) := ⟨(by rw [hw]; exact (Z19 HI312.out GE322.out))⟩; clear hw; clear HO315; clear HL321_0; clear HL321_1; clear BK322; clear HI312; clear HB; have HO315 := n0_; have HL321_0 := n1_; have HL321_1 := n2_; have BK322 := n3_; have HI312 := n4_; have HB := n5_; clear n0_ n1_ n2_ n3_ n4_ n5_; have p323 : 0 ≤ (1 : Int) := (by omega); have q323 : 1 < (t313.length : Int) := of_decide_eq_true Z13; obtain ⟨ad323, A323_0, c323_0, A323_1, c323_1, e323, hx323_0, hx323_1, hl323_0, hi323_0, hl323_1, hi323_1⟩ := at_T41 (Kd.N_reads' HO315.out).2.2 1 p323 q323; obtain rfl : ad321 = ad323 := (by injection e323); obtain ⟨ce323, hce323, hMe323, hcc323⟩ := Kd.N_get HO315.out z41 1 p323 (by first | exact q323 | exact of_decide_eq_true Z13 | (have e_ := (Kd.N_reads' HO315.out).1; omega)); obtain ⟨ua323_0, uc323_0, ua323_1, uc323_1, rfl, ul323_0, ge323_0, ul323_1, ge323_1⟩ := k41_openF hMe323; have hv323_0 := hcc323 0 _ rfl; rw [Nat.add_zero] at hv323_0; replace hv323_0 := Option.some.inj (hv323_0.symm.trans hx323_0); injection hv323_0 with hva_ hvn_ hvc_; rw [hva_] at ge323_0; rw [hvc_] at ul323_0; have HL323_0 := A_ (show Kd.V k68 68 _ w.heap.size _ _ ((rd_T41 t313 1).f0) from Kd.V_mk ul323_0 ge323_0); clear hva_ hvn_ hvc_ ge323_0 ul323_0; have hv323_1 := hcc323 1 _ rfl; rw [add_field _ _ 1 (by omega)] at hv323_1; replace hv323_1 := Option.some.inj (hv323_1.symm.trans hx323_1); injection hv323_1 with hva_ hvn_ hvc_; rw [hva_] at ge323_1; rw [hvc_] at ul323_1; have HL323_1 := A_ (show Kd.V k28 28 _ w.heap.size _ _ ((rd_T41 t313 1).f1) from Kd.V_mk ul323_1 ge323_1); clear hva_ hvn_ hvc_ ge323_1 ul323_1; clear hcc323 hce323; (try simp only [show (1 : Int).toNat = 1 from rfl, Nat.reduceMul, Nat.reduceEqDiff, Go.Addr.add, ↓reduceIte] at hx323_0); (try simp only [show (1 : Int).toNat = 1 from rfl, Nat.reduceMul, Nat.reduceEqDiff, Go.Addr.add, ↓reduceIte] at hx323_1); have qi323 : (1 < t313.length) = True := eq_true (by omega); (try rw [show ((1 : Int)).toNat = 1 from rfl] at hx323_0); (try rw [show 1 * 2 = 2 from rfl] at hx323_0); (try rw [show ((1 : Int)).toNat = 1 from rfl] at hx323_1); (try rw [show 1 * 2 = 2 from rfl] at hx323_1); have HR323_0 := A_ hi323_0; have HC323_0 := A_ hl323_0; clear hi323_0 hl323_0; have HR323_1 := A_ hi323_1; have HC323_1 := A_ hl323_1; clear hi323_1 hl323_1; replace p323 := eq_true p323; replace q323 := eq_true q323; have p9 : 0 ≤ (0 : Int) := (by omega); have q9 : (0 : Int) < ((t313.length : Int) : Int) := of_decide_eq_true Z13; have qi9 : (0 < t313.length) = True := eq_true (by omega); obtain ⟨go9, co9, eo9, gb9, gl9, cl9, HG9⟩ := Kd.N_form HO315.out (by omega); (first | cases eo9 | (injection eo9 with ea_ en_ ec_; (first | subst ea_ | (injection ea_ with ea_; subst ea_)); subst ec_; clear en_)); have GB9 := A_ gb9; have GG9 := A_ HG9; clear gb9 gl9 HG9; (first | simp only [add_plain] at hx321_0 | skip); (first | simp only [add_plain] at hx321_1 | skip); (first | simp only [add_plain] at hx323_0 | skip); (first | simp only [add_plain] at hx323_1 | skip); obtain ⟨ce9, hcl9, hM9, hcc9, hfr9⟩ := Kd.N_elem HO315.out z41 (0 : Int) p9 q9; obtain ⟨ua9_0, uc9_0, ua9_1, uc9_1, rfl, ul9_0, ge9_0, ul9_1, ge9_1⟩ := k41_openF hM9; have hx9_0 : w18.cell? ⟨go9, (0 : Int).toNat * 2, none⟩ = some (.slice ua9_0 ((rd_T41 t313 0).f0).length uc9_0) := hcc9 0 _ rfl; have hx9_1 : w18.cell? ⟨go9, (0 : Int).toNat * 2 + 1, none⟩ = some (.slice ua9_1 ((rd_T41 t313 0).f1).length uc9_1) := hcc9 1 _ rfl; have hf9_0 : w18.frozen? ⟨go9, (0 : Int).toNat * 2, none⟩ = false := hfr9 0; have hf9_1 : w18.frozen? ⟨go9, (0 : Int).toNat * 2 + 1, none⟩ = false := hfr9 1; (try clear hM9); clear hcl9 hcc9 hfr9; (try rw [show ((0 : Int)).toNat = 0 from rfl] at hx9_0); (try simp only [Nat.reduceMul, Nat.zero_mul, Nat.zero_add, Nat.reduceAdd] at hx9_0); (try rw [show ((0 : Int)).toNat = 0 from rfl] at hf9_0); (try simp only [Nat.reduceMul, Nat.zero_mul, Nat.zero_add, Nat.reduceAdd] at hf9_0); (try rw [show ((0 : Int)).toNat = 0 from rfl] at hx9_1); (try simp only [Nat.reduceMul, Nat.zero_mul, Nat.zero_add, Nat.reduceAdd] at hx9_1); (try rw [show ((0 : Int)).toNat = 0 from rfl] at hf9_1); (try simp only [Nat.reduceMul, Nat.zero_mul, Nat.zero_add, Nat.reduceAdd] at hf9_1); replace p9 := eq_true p9; replace q9 := eq_true q9; have HX19 := A_ (show Kd.N k41 41 w18 w.heap.size (fun k_ => (w.heap.size ≤ k_) ∧ k_ ≠ g312 ∧ k_ ≠ gb322) (.slice (some ⟨go9, 0, none⟩) t313.length co14) t313 from (Z22 HO315.out)); obtain ⟨ce19, hcl19, hM19, hcc19, hfr19⟩ := Kd.N_elem HX19.out z41 (0 : Int) (by omega) (by have h_ : (0 : Int) < ((t313.length : Int) : Int) := of_decide_eq_true Z13; first | exact h_ | (have e_ := (Kd.N_reads' HO315.out).1; omega) | simpa using h_); obtain ⟨ua19_0, uc19_0, ua19_1, uc19_1, rfl, ul19_0, ge19_0, ul19_1, ge19_1⟩ := k41_openF hM19; have HP19 := Kd.N_seg HX19.out (0 : Int) (by omega) (by have h_ : (0 : Int) < ((t313.length : Int) : Int) := of_decide_eq_true Z13; first | exact h_ | (have e_ := (Kd.N_reads' HO315.out).1; omega) | simpa using h_) (seg := [.slice A323_0 ((rd_T41 t313 1).f0).length c323_0, .slice A323_1 ((rd_T41 t313 1).f1).length c323_1]) (j := 0) hcl19 hcc19 (show 2 ≤ 2 from by decide) (x' := (⟨(rd_T41 t313 1).f0, (rd_T41 t313 1).f1⟩ : S41)) (k41_mkF _ _ (⟨(rd_T41 t313 1).f0, (rd_T41 t313 1).f1⟩ : S41) (Kd.V_reads' (Kd.V_mono (ok' := (fun k_ => ((fun k_ => (w.heap.size ≤ k_) ∧ k_ ≠ g312 ∧ k_ ≠ gb322)) k_ ∧ k_ ≠ go9)) (HL323_0.out) (fun k_ hk => ⟨⟨hk.1.1, ⟨hk.1.2.1, hk.1.2.2⟩⟩, fun e_ => (hk.2) (by rw [e_]; rfl)⟩))).2.1 (Kd.V_F (Kd.V_mono (ok' := (fun k_ => ((fun k_ => (w.heap.size ≤ k_) ∧ k_ ≠ g312 ∧ k_ ≠ gb322)) k_ ∧ k_ ≠ go9)) (HL323_0.out) (fun k_ hk => ⟨⟨hk.1.1, ⟨hk.1.2.1, hk.1.2.2⟩⟩, fun e_ => (hk.2) (by rw [e_]; rfl)⟩))) (Kd.V_reads' (Kd.V_mono (ok' := (fun k_ => ((fun k_ => (w.heap.size ≤ k_) ∧ k_ ≠ g312 ∧ k_ ≠ gb322)) k_ ∧ k_ ≠ go9)) (HL323_1.out) (fun k_ hk => ⟨⟨hk.1.1, ⟨hk.1.2.1, hk.1.2.2⟩⟩, fun e_ => (hk.2) (by rw [e_]; rfl)⟩))).2.1 (Kd.V_F (Kd.V_mono (ok' := (fun k_ => ((fun k_ => (w.heap.size ≤ k_) ∧ k_ ≠ g312 ∧ k_ ≠ gb322)) k_ ∧ k_ ≠ go9)) (HL323_1.out) (fun k_ hk => ⟨⟨hk.1.1, ⟨hk.1.2.1, hk.1.2.2⟩⟩, fun e_ => (hk.2) (by rw [e_]; rfl)⟩)))) (fun _ hk => hk); have hx19_0 := hcc19 0 _ rfl; (try simp only [show (k41).sz = 2 from rfl, Nat.mul_one, Nat.add_zero] at hx19_0); (try rw [show ((0 : Int)).toNat = 0 from rfl] at hx19_0); (try simp only [Nat.reduceMul, Nat.zero_mul, Nat.zero_add, Nat.reduceAdd] at hx19_0); have hf19_0 := hfr19 0; (try simp only [show (k41).sz = 2 from rfl, Nat.mul_one, Nat.add_zero] at hf19_0); (try rw [show ((0 : Int)).toNat = 0 from rfl] at hf19_0); (try simp only [Nat.reduceMul, Nat.zero_mul, Nat.zero_add, Nat.reduceAdd] at hf19_0); have hx19_1 := hcc19 1 _ rfl; (try simp only [show (k41).sz = 2 from rfl, Nat.mul_one, Nat.add_zero] at hx19_1); (try rw [show ((0 : Int)).toNat = 0 from rfl] at hx19_1); (try simp only [Nat.reduceMul, Nat.zero_mul, Nat.zero_add, Nat.reduceAdd] at hx19_1); have hf19_1 := hfr19 1; (try simp only [show (k41).sz = 2 from rfl, Nat.mul_one, Nat.add_zero] at hf19_1); (try rw [show ((0 : Int)).toNat = 0 from rfl] at hf19_1); (try simp only [Nat.reduceMul, Nat.zero_mul, Nat.zero_add, Nat.reduceAdd] at hf19_1); (try clear hM19); clear hcl19 hcc19 hfr19) | ((with_reducible refine gate_store (t := 41) (p := 25) rfl ?_); refine store_event (t := 41) (p := 25) (v := ?vo_w20) (w1 := ((w18.setCell ⟨go9, 0, none⟩ (.slice A323_0 ((rd_T41 t313 1).f0).length c323_0)).setCell ⟨go9, 1, none⟩ (.slice A323_1 ((rd_T41 t313 1).f1).length c323_1))) ?hg ?ho ?hn ?hr ?_; (case ho => rfl); (case hg => rfl); (case hn => rfl); (case hr => exact Z24); intro w20 hw; have hg : w18.grownBy w20 (some go9) := (by rw [hw]; exact HP19.2); have hp_ : Kd.N k41 41 w20 w.heap.size (fun k_ => (w.heap.size ≤ k_) ∧ k_ ≠ g312 ∧ k_ ≠ gb322) (.slice (some ⟨go9, 0, none⟩) t313.length co14) y324 := (by rw [hw, Ny324.out]; exact HP19.1); clear HP19; have n0_ := A_ (IsS77.grown (Z20 HI312.out NB312_322.out) hg (IsS77.own_neN HI312.out HO315.out (by decide))); have n1_ := A_ (hp_); have n2_ := A_ (Kd.V_afterv (v := (.slice (some ⟨go9, 0, none⟩) t313.length co14)) (v1 := (.slice (some ⟨go9, 0, none⟩) t313.length co14)) (ok := (fun k_ => (w.heap.size ≤ k_) ∧ k_ ≠ g312 ∧ k_ ≠ gb322)) (by (with_reducible repeat (first | apply Kd.V_alloc | apply Kd.V_drewN | apply Kd.V_drew)); exact Kd.V_mono HL321_0.out (fun _ hk => ⟨⟨hk.1, ⟨hk.2.2.1, hk.2.2.2⟩⟩, hk.2.1⟩)) hg (.inl rfl)); have n3_ := A_ (Kd.V_afterv (v := (.slice (some ⟨go9, 0, none⟩) t313.length co14)) (v1 := (.slice (some ⟨go9, 0, none⟩) t313.length co14)) (ok := (fun k_ => (w.heap.size ≤ k_) ∧ k_ ≠ g312 ∧ k_ ≠ gb322)) (by (with_reducible repeat (first | apply Kd.V_alloc | apply Kd.V_drewN | apply Kd.V_drew)); exact Kd.V_mono HL321_1.out (fun _ hk => ⟨⟨hk.1, ⟨hk.2.2.1, hk.2.2.2⟩⟩, hk.2.1⟩)) hg (.inl rfl)); have n4_ := A_ (blk_grown (g := gb322) (o := .cells #[.slice A321_0 ((rd_T41 t313 0).f0).length c321_0, .slice A321_1 ((rd_T41 t313 0).f1).length c321_1] 41 (0, 0)) (Z5 BK322.out) hg (Kd.N_away HO315.out (fun _ hk => hk.2.2))); have n5_ := A_ (Kd.V_afterv (v := (.slice (some ⟨go9, 0, none⟩) t313.length co14)) (v1 := (.slice (some ⟨go9, 0, none⟩) t313.length co14)) (ok := (fun k_ => (w.heap.size ≤ k_) ∧ k_ ≠ g312 ∧ k_ ≠ gb322)) (Z31 HL323_0.out) hg (.inl rfl)); have n6_ := A_ (Kd.V_afterv (v := (.slice (some ⟨go9, 0, none⟩) t313.length co14)) (v1 := (.slice (some ⟨go9, 0, none⟩) t313.length co14)) (ok := (fun k_ => (w.heap.size ≤ k_) ∧ k_ ≠ g312 ∧ k_ ≠ gb322)) (Z31 HL323_1.out) hg (.inl rfl)); have n7_ := A_ ((by rw [hw]; exact below_set (below_set (HB.out) GB9.out) GB9.out : Below w.heap.size w w20)); clear HI312; clear HO315; clear HL321_0; clear HL321_1; clear BK322; clear HL323_0; clear HL323_1; clear HB; have HI312 := n0_; have HO315 := n1_; have HL321_0 := n2_; have HL321_1 := n3_; have BK322 := n4_; have HL323_0 := n5_; have HL323_1 := n6_; have HB := n7_; clear n0_ n1_ n2_ n3_ n4_ n5_ n6_ n7_; clear hg hw hp_; have hcz21_0 : w20.cell? ⟨gb322, 0, none⟩ = some (.slice A321_0 ((rd_T41 t313 0).f0).length c321_0) := (blk_cell BK322.out 0).trans rfl; have hcz21_1 : w20.cell? ⟨gb322, 1, none⟩ = some (.slice A321_1 ((rd_T41 t313 0).f1).length c321_1) := (blk_cell BK322.out 1).trans rfl; have hfz21_0 := blk_frozen BK322.out 0; have hfz21_1 := blk_frozen BK322.out 1; have p10 : 0 ≤ (1 : Int) := (by omega); have q10 : (1 : Int) < ((t313.length : Int) : Int) := of_decide_eq_true Z13; have qi10 : (1 < t313.length) = True := eq_true (by omega); obtain ⟨ce10, hcl10, hM10, hcc10, hfr10⟩ := Kd.N_elem HO315.out z41 (1 : Int) p10 q10; obtain ⟨ua10_0, uc10_0, ua10_1, uc10_1, rfl, ul10_0, ge10_0, ul10_1, ge10_1⟩ := k41_openF hM10; have hx10_0 : w20.cell? ⟨go9, (1 : Int).toNat * 2, none⟩ = some (.slice ua10_0 ((rd_T41 y324 1).f0).length uc10_0) := hcc10 0 _ rfl; have hx10_1 : w20.cell? ⟨go9, (1 : Int).toNat * 2 + 1, none⟩ = some (.slice ua10_1 ((rd_T41 y324 1).f1).length uc10_1) := hcc10 1 _ rfl; have hf10_0 : w20.frozen? ⟨go9, (1 : Int).toNat * 2, none⟩ = false := hfr10 0; have hf10_1 : w20.frozen? ⟨go9, (1 : Int).toNat * 2 + 1, none⟩ = false := hfr10 1; (try clear hM10); clear hcl10 hcc10 hfr10; (try rw [show ((1 : Int)).toNat = 1 from rfl] at hx10_0); (try simp only [Nat.reduceMul, Nat.zero_mul, Nat.zero_add, Nat.reduceAdd] at hx10_0); (try rw [show ((1 : Int)).toNat = 1 from rfl] at hf10_0); (try simp only [Nat.reduceMul, Nat.zero_mul, Nat.zero_add, Nat.reduceAdd] at hf10_0); (try rw [show ((1 : Int)).toNat = 1 from rfl] at hx10_1); (try simp only [Nat.reduceMul, Nat.zero_mul, Nat.zero_add, Nat.reduceAdd] at hx10_1); (try rw [show ((1 : Int)).toNat = 1 from rfl] at hf10_1); (try simp only [Nat.reduceMul, Nat.zero_mul, Nat.zero_add, Nat.reduceAdd] at hf10_1); replace p10 := eq_true p10; replace q10 := eq_true q10; have HX22 := A_ (show Kd.N k41 41 w20 w.heap.size (fun k_ => (w.heap.size ≤ k_) ∧ k_ ≠ g312 ∧ k_ ≠ gb322) (.slice (some ⟨go9, 0, none⟩) t313.length co14) y324 from (Z22 HO315.out)); obtain ⟨ce22, hcl22, hM22, hcc22, hfr22⟩ := Kd.N_elem HX22.out z41 (1 : Int) (by omega) (by have h_ : (1 : Int) < ((t313.length : Int) : Int) := of_decide_eq_true Z13; first | exact h_ | (have e_ := (Kd.N_reads' HO315.out).1; omega) | simpa using h_); obtain ⟨ua22_0, uc22_0, ua22_1, uc22_1, rfl, ul22_0, ge22_0, ul22_1, ge22_1⟩ := k41_openF hM22; have HP22 := Kd.N_seg HX22.out (1 : Int) (by omega) (by have h_ : (1 : Int) < ((t313.length : Int) : Int) := of_decide_eq_true Z13; first | exact h_ | (have e_ := (Kd.N_reads' HO315.out).1; omega) | simpa using h_) (seg := [.slice A321_0 ((rd_T41 t313 0).f0).length c321_0, .slice A321_1 ((rd_T41 t313 0).f1).length c321_1]) (j := 0) hcl22 hcc22 (show 2 ≤ 2 from by decide) (x' := (⟨(rd_T41 t313 0).f0, (rd_T41 t313 0).f1⟩ : S41)) (k41_mkF _ _ (⟨(rd_T41 t313 0).f0, (rd_T41 t313 0).f1⟩ : S41) (Kd.V_reads' (Kd.V_mono (ok' := (fun k_ => ((fun k_ => (w.heap.size ≤ k_) ∧ k_ ≠ g312 ∧ k_ ≠ gb322)) k_ ∧ k_ ≠ go9)) (HL321_0.out) (fun k_ hk => ⟨⟨hk.1.1, ⟨hk.1.2.1, hk.1.2.2⟩⟩, fun e_ => (hk.2) (by rw [e_]; rfl)⟩))).2.1 (Kd.V_F (Kd.V_mono (ok' := (fun k_ => ((fun k_ => (w.heap.size ≤ k_) ∧ k_ ≠ g312 ∧ k_ ≠ gb322)) k_ ∧ k_ ≠ go9)) (HL321_0.out) (fun k_ hk => ⟨⟨hk.1.1, ⟨hk.1.2.1, hk.1.2.2⟩⟩, fun e_ => (hk.2) (by rw [e_]; rfl)⟩))) (Kd.V_reads' (Kd.V_mono (ok' := (fun k_ => ((fun k_ => (w.heap.size ≤ k_) ∧ k_ ≠ g312 ∧ k_ ≠ gb322)) k_ ∧ k_ ≠ go9)) (HL321_1.out) (fun k_ hk => ⟨⟨hk.1.1, ⟨hk.1.2.1, hk.1.2.2⟩⟩, fun e_ => (hk.2) (by rw [e_]; rfl)⟩))).2.1 (Kd.V_F (Kd.V_mono (ok' := (fun k_ => ((fun k_ => (w.heap.size ≤ k_) ∧ k_ ≠ g312 ∧ k_ ≠ gb322)) k_ ∧ k_ ≠ go9)) (HL321_1.out) (fun k_ hk => ⟨⟨hk.1.1, ⟨hk.1.2.1, hk.1.2.2⟩⟩, fun e_ => (hk.2) (by rw [e_]; rfl)⟩)))) (fun _ hk => hk); have hx22_0 := hcc22 0 _ rfl; (try simp only [show (k41).sz = 2 from rfl, Nat.mul_one, Nat.add_zero] at hx22_0); (try rw [show ((1 : Int)).toNat = 1 from rfl] at hx22_0); (try simp only [Nat.reduceMul, Nat.zero_mul, Nat.zero_add, Nat.reduceAdd] at hx22_0); have hf22_0 := hfr22 0; (try simp only [show (k41).sz = 2 from rfl, Nat.mul_one, Nat.add_zero] at hf22_0); (try rw [show ((1 : Int)).toNat = 1 from rfl] at hf22_0); (try simp only [Nat.reduceMul, Nat.zero_mul, Nat.zero_add, Nat.reduceAdd] at hf22_0); have hx22_1 := hcc22 1 _ rfl; (try simp only [show (k41).sz = 2 from rfl, Nat.mul_one, Nat.add_zero] at hx22_1); (try rw [show ((1 : Int)).toNat = 1 from rfl] at hx22_1); (try simp only [Nat.reduceMul, Nat.zero_mul, Nat.zero_add, Nat.reduceAdd] at hx22_1); have hf22_1 := hfr22 1; (try simp only [show (k41).sz = 2 from rfl, Nat.mul_one, Nat.add_zero] at hf22_1); (try rw [show ((1 : Int)).toNat = 1 from rfl] at hf22_1); (try simp only [Nat.reduceMul, Nat.zero_mul, Nat.zero_add, Nat.reduceAdd] at hf22_1); (try clear hM22); clear hcl22 hcc22 hfr22) | ((with_reducible refine gate_store (t := 41) (p := 28) rfl ?_); refine store_event (t := 41) (p := 28) (v := ?vo_w23) (w1 := ((w20.setCell ⟨go9, 2, none⟩ (.slice A321_0 ((rd_T41 t313 0).f0).length c321_0)).setCell ⟨go9, 3, none⟩ (.slice A321_1 ((rd_T41 t313 0).f1).length c321_1))) ?hg ?ho ?hn ?hr ?_; (case ho => rfl); (case hg => rfl); (case hn => rfl); (case hr => exact Z24); intro w23 hw; have hg : w20.grownBy w23 (some go9) := (by rw [hw]; exact HP22.2); have hp_ : Kd.N k41 41 w23 w.heap.size (fun k_ => (w.heap.size ≤ k_) ∧ k_ ≠ g312 ∧ k_ ≠ gb322) (.slice (some ⟨go9, 0, none⟩) t313.length co14) y325 := (by rw [hw, Ny325.out]; exact HP22.1); clear HP22; have n0_ := A_ (IsS77.grown (Z20 HI312.out NB312_322.out) hg (IsS77.own_neN HI312.out HO315.out (by decide))); have n1_ := A_ (hp_); have n2_ := A_ (Kd.V_afterv (v := (.slice (some ⟨go9, 0, none⟩) t313.length co14)) (v1 := (.slice (some ⟨go9, 0, none⟩) t313.length co14)) (ok := (fun k_ => (w.heap.size ≤ k_) ∧ k_ ≠ g312 ∧ k_ ≠ gb322)) (Z31 HL321_0.out) hg (.inl rfl)); have n3_ := A_ (Kd.V_afterv (v := (.slice (some ⟨go9, 0, none⟩) t313.length co14)) (v1 := (.slice (some ⟨go9, 0, none⟩) t313.length co14)) (ok := (fun k_ => (w.heap.size ≤ k_) ∧ k_ ≠ g312 ∧ k_ ≠ gb322)) (Z31 HL321_1.out) hg (.inl rfl)); have n4_ := A_ (blk_grown (g := gb322) (o := .cells #[.slice A321_0 ((rd_T41 t313 0).f0).length c321_0, .slice A321_1 ((rd_T41 t313 0).f1).length c321_1] 41 (0, 0)) (Z5 BK322.out) hg (Kd.N_away HO315.out (fun _ hk => hk.2.2))); have n5_ := A_ (Kd.V_afterv (v := (.slice (some ⟨go9, 0, none⟩) t313.length co14)) (v1 := (.slice (some ⟨go9, 0, none⟩) t313.length co14)) (ok := (fun k_ => (w.heap.size ≤ k_) ∧ k_ ≠ g312 ∧ k_ ≠ gb322)) (Z31 HL323_0.out) hg (.inl rfl)); have n6_ := A_ (Kd.V_afterv (v := (.slice (some ⟨go9, 0, none⟩) t313.length co14)) (v1 := (.slice (some ⟨go9, 0, none⟩) t313.length co14)) (ok := (fun k_ => (w.heap.size ≤ k_) ∧ k_ ≠ g312 ∧ k_ ≠ gb322)) (Z31 HL323_1.out) hg (.inl rfl)); have n7_ := A_ ((by rw [hw]; exact below_set (below_set (HB.out) GB9.out) GB9.out : Below w.heap.size w w23)); clear HI312; clear HO315; clear HL321_0; clear HL321_1; clear BK322; clear HL323_0; clear HL323_1; clear HB; have HI312 := n0_; have HO315 := n1_; have HL321_0 := n2_; have HL321_1 := n3_; have BK322 := n4_; have HL323_0 := n5_; have HL323_1 := n6_; have HB := n7_; clear n0_ n1_ n2_ n3_ n4_ n5_ n6_ n7_; clear hg hw hp_))
     go_ret
     exact ⟨_, Z17, Z40 HO315.out, Z19 HI312.out GE322.out⟩
    ·rw [if_neg c8] at H
     exact absurd H (by simp)
   ·rw [if_neg c7] at H
    exact absurd H (by simp)
  ·rw [if_neg c6] at H
   have c6b0 : decide (1 < (t313.length : Int)) = false := decide_eq_false c6
   have c6b1 : decide (1 < t313.length) = false := decide_eq_false (by omega)
   clear c6
   obtain rfl := Option.some.inj H
   go_enter Try.func15, Try.ntmps15
   go_wp2_with (first | ((with_reducible refine gate_callee (f := 32) rfl ?_); refine goesL_ (some 7) rfl rfl Try.func32 (by kernel_rfl) rfl #[.slice A0 l0.length c0] rfl Z3 ?_; (with_reducible refine (spec_newSource.calls _ _ l0 t309 t310 t311 w _ ?side1 ?side2 ?side3 A2.out).mono ?_); (case side1 => exact Z1); (case side2 => exact HR0.out); (case side3 => exact HC0.out); rintro e w24 ⟨g312, rfl, hi, hb, hb2⟩; refine ⟨_, rfl, ?_⟩; have n0_ := A_ (hb); have n1_ := A_ (hi); clear HB; have HB := n0_; have HI312 := n1_; clear n0_ n1_; (try clear hb); (try clear hb2); (try clear hk); (try clear hi)) | ((with_reducible refine gate_callee (f := 42) rfl ?_); refine goesL_ (some 9) rfl rfl Try.func42 (by kernel_rfl) rfl #[.pointer (some ⟨g312, 0, none⟩)] rfl Z3 ?_; (with_reducible refine (spec_source_cells.calls k g312 t309 t310 t311 t313 t316 t317 w _ ?side1 ?side2 A3.out).mono ?_); (case side1 => exact Z11 HI312.out); (case side2 => exact Z10 HI312.out); rintro e w25 ⟨v314, rfl, ho0, hi, hb, hk⟩; refine ⟨_, rfl, ?_⟩; have n0_ := A_ (Kd.N_lower (Kd.N_mono (ok' := fun k_ => (w.heap.size ≤ k_) ∧ k_ ≠ g312) ho0 (fun k_ hk_ => ⟨(Nat.le_trans (below_size (Z10 HI312.out)) hk_), (IsS77.fresh (Z11 HI312.out) k_ hk_)⟩)) (below_size (Z10 HI312.out))); have n1_ := A_ (hb); have n2_ := A_ (hi); clear HB; clear HI312; have HO315 := n0_; have HB := n1_; have HI312 := n2_; clear n0_ n1_ n2_; (try clear hb); (try clear hb2); (try clear hk); (try clear hi); (try clear ho0)) | ((with_reducible refine gate_callee (f := 38) rfl ?_); refine goesL_ (some 11) rfl rfl Try.func38 (by kernel_rfl) rfl #[.pointer (some ⟨g312, 0, none⟩), .int .i64 6] rfl Z3 ?_; (with_reducible refine (spec_source_pick.calls k g312 t309 t316 t317 6 t318 t319 t320 w _ ?side1 ?side2 A4.out).mono ?_); (case side1 => exact Z11 HI312.out); (case side2 => exact Z10 HI312.out); rintro e w26 ⟨rfl, hi, hb, hk⟩; refine ⟨_, rfl, ?_⟩; have n0_ := A_ (Kd.N_mono (Kd.N_keep (Kd.N_mono (ok := fun k_ => (((w.heap.size ≤ k_)) ∧ k_ ≠ g312)) (Z22 HO315.out) (fun k_ hk_ => (⟨hk_, hk_.2⟩ : _ ∧ k_ ≠ g312))) hk (fun _ h => h.2)) (fun _ h => h.1)); have n1_ := A_ (hb); have n2_ := A_ (hi); clear HO315; clear HB; clear HI312; have HO315 := n0_; have HB := n1_; have HI312 := n2_; clear n0_ n1_ n2_; (try clear hb); (try clear hb2); (try clear hk); (try clear hi); obtain ⟨Ao27, co27, eo27⟩ := Kd.N_slice HO315.out; subst eo27))
   go_ret
   exact ⟨_, Z17, Z40 HO315.out, Z10 HI312.out⟩
 ·rw [if_neg c5] at H
  have c5b0 : (t318 == 0) = false := beq_eq_false_iff_ne.mpr c5
  have c5b1 : (t318 != 0) = true := bne_iff_ne.mpr c5
  obtain rfl := Option.some.inj H
  go_enter Try.func15, Try.ntmps15
  go_wp2_with (first | ((with_reducible refine gate_callee (f := 32) rfl ?_); refine goesL_ (some 7) rfl rfl Try.func32 (by kernel_rfl) rfl #[.slice A0 l0.length c0] rfl Z3 ?_; (with_reducible refine (spec_newSource.calls _ _ l0 t309 t310 t311 w _ ?side1 ?side2 ?side3 A2.out).mono ?_); (case side1 => exact Z1); (case side2 => exact HR0.out); (case side3 => exact HC0.out); rintro e w28 ⟨g312, rfl, hi, hb, hb2⟩; refine ⟨_, rfl, ?_⟩; have n0_ := A_ (hb); have n1_ := A_ (hi); clear HB; have HB := n0_; have HI312 := n1_; clear n0_ n1_; (try clear hb); (try clear hb2); (try clear hk); (try clear hi)) | ((with_reducible refine gate_callee (f := 42) rfl ?_); refine goesL_ (some 9) rfl rfl Try.func42 (by kernel_rfl) rfl #[.pointer (some ⟨g312, 0, none⟩)] rfl Z3 ?_; (with_reducible refine (spec_source_cells.calls k g312 t309 t310 t311 t313 t316 t317 w _ ?side1 ?side2 A3.out).mono ?_); (case side1 => exact Z11 HI312.out); (case side2 => exact Z10 HI312.out); rintro e w29 ⟨v314, rfl, ho0, hi, hb, hk⟩; refine ⟨_, rfl, ?_⟩; have n0_ := A_ (Kd.N_lower (Kd.N_mono (ok' := fun k_ => (w.heap.size ≤ k_) ∧ k_ ≠ g312) ho0 (fun k_ hk_ => ⟨(Nat.le_trans (below_size (Z10 HI312.out)) hk_), (IsS77.fresh (Z11 HI312.out) k_ hk_)⟩)) (below_size (Z10 HI312.out))); have n1_ := A_ (hb); have n2_ := A_ (hi); clear HB; clear HI312; have HO315 := n0_; have HB := n1_; have HI312 := n2_; clear n0_ n1_ n2_; (try clear hb); (try clear hb2); (try clear hk); (try clear hi); (try clear ho0)) | ((with_reducible refine gate_callee (f := 38) rfl ?_); refine goesL_ (some 11) rfl rfl Try.func38 (by kernel_rfl) rfl #[.pointer (some ⟨g312, 0, none⟩), .int .i64 6] rfl Z3 ?_; (with_reducible refine (spec_source_pick.calls k g312 t309 t316 t317 6 t318 t319 t320 w _ ?side1 ?side2 A4.out).mono ?_); (case side1 => exact Z11 HI312.out); (case side2 => exact Z10 HI312.out); rintro e w30 ⟨rfl, hi, hb, hk⟩; refine ⟨_, rfl, ?_⟩; have n0_ := A_ (Kd.N_mono (Kd.N_keep (Kd.N_mono (ok := fun k_ => (((w.heap.size ≤ k_)) ∧ k_ ≠ g312)) (Z22 HO315.out) (fun k_ hk_ => (⟨hk_, hk_.2⟩ : _ ∧ k_ ≠ g312))) hk (fun _ h => h.2)) (fun _ h => h.1)); have n1_ := A_ (hb); have n2_ := A_ (hi); clear HO315; clear HB; clear HI312; have HO315 := n0_; have HB := n1_; have HI312 := n2_; clear n0_ n1_ n2_; (try clear hb); (try clear hb2); (try clear hk); (try clear hi)))
  go_ret
  exact ⟨_, Z17, Z40 HO315.out, Z10 HI312.out⟩
def impl_within.f (a0 : Int) (a1 : Int) (a2 : Int) : Option (Bool) := if a0 ≥ a1 then (some (decide (a0 ≤ a2))) else (some false)
set_option maxHeartbeats 8000000 in
set_option maxRecDepth 100000 in
theorem impl_within.calls (a0 : Int) (a1 : Int) (a2 : Int) (r : Bool) (w : World) (h : impl_within.f a0 a1 a2 = some r) :
  Calls Try.prog 34 #[.int .i64 a0, .int .i64 a1, .int .i64 a2] w fun e w' => e = .returned (.bool r) ∧ Drawn0 w w' := by
 have H : (if a0 ≥ a1 then (some (decide (a0 ≤ a2))) else (some false)) = some r := h
 clear h
 by_cases c4 : a0 ≥ a1
 ·rw [if_pos c4] at H
  have c4b0 : decide (a1 ≤ a0) = true := decide_eq_true c4
  clear c4
  obtain rfl := Option.some.inj H
  go_enter Try.func34, Try.ntmps34
  go_wp2
  go_ret
  exact ⟨Z21, Z25⟩
 ·rw [if_neg c4] at H
  have c4b0 : decide (a1 ≤ a0) = false := decide_eq_false c4
  clear c4
  obtain rfl := Option.some.inj H
  go_enter Try.func34, Try.ntmps34
  go_wp2
  go_ret
  exact ⟨Z21, Z25⟩
def impl_PlaceOk.l0 : Nat → List (S68) → List (S68) → Int → Int → Option (Bool)
 | 0, _, _, _, _ => none
 | k + 1, x0, x5, x6, x7 => if x7 < x6 then (if 0 ≤ x7 then (if x7 < (x5.length : Int) then ((impl_within.f ((rd_T68 x5 x7).f0) 0 3).bind fun t328 => (if t328 = true then ((impl_within.f ((rd_T68 x5 x7).f1) 0 103).bind fun t329 => (if t329 = true then (impl_PlaceOk.l0 k x0 x5 x6 (wrap64 (x7 + 1))) else (some false))) else (some false))) else (none)) else (none)) else (some (decide ((x0.length : Int) ≤ 20)))
def impl_PlaceOk.f (k : Nat) (l0 : List (S68)) : Option (Bool) := impl_PlaceOk.l0 k l0 l0 (l0.length : Int) 0
theorem impl_PlaceOk.mono_l : ∀ k, (∀ y0 y1 y2 y3, LeO (impl_PlaceOk.l0 k y0 y1 y2 y3) (impl_PlaceOk.l0 (k + 1) y0 y1 y2 y3))
 | 0 => fun _ _ _ _ r h => by simp [impl_PlaceOk.l0] at h
 | k + 1 => by
  have ih0 := impl_PlaceOk.mono_l k
  ·intro y0 y1 y2 y3
   unfold impl_PlaceOk.l0
   repeat' first
   | (with_reducible exact ih0 _ _ _ _)
   | (with_reducible exact LeO.refl _)
   | (with_reducible exact LeO.none _)
   | (with_reducible refine LeO.ite ?_ ?_)
   | (with_reducible refine LeO.bind ?_ (fun _ => ?_))
   | exact ih0 _ _ _ _
   | exact LeO.none _
   | refine LeO.ite ?_ ?_
   | refine LeO.bind ?_ (fun _ => ?_)
theorem impl_PlaceOk.mono : ∀ a0 k, LeO (impl_PlaceOk.f k a0) (impl_PlaceOk.f (k + 1) a0) := by
 intro a0 k
 have ih0 := impl_PlaceOk.mono_l k
 unfold impl_PlaceOk.f
 repeat' first
   | (with_reducible exact ih0 _ _ _ _)
   | (with_reducible exact LeO.refl _)
   | (with_reducible exact LeO.none _)
   | (with_reducible refine LeO.ite ?_ ?_)
   | (with_reducible refine LeO.bind ?_ (fun _ => ?_))
   | exact ih0 _ _ _ _
   | exact LeO.none _
   | refine LeO.ite ?_ ?_
   | refine LeO.bind ?_ (fun _ => ?_)
set_option maxHeartbeats 8000000 in
set_option maxRecDepth 100000 in
theorem impl_PlaceOk.calls (k : Nat) (A0 : Option Addr) (c0 : Nat) (l0 : List (S68)) (r : Bool) (w : World) (hr0 : Kd.C k68 w A0 l0.length l0) (hc0 : l0.length ≤ c0) (h : impl_PlaceOk.f k l0 = some r) :
  Calls Try.prog 24 #[.slice A0 l0.length c0] w fun e w' => e = .returned (.bool r) ∧ Below w.heap.size w w' := by
 have hu68 := Try.underlying68
 have HR0 := A_ hr0
 have HC0 := A_ hc0
 clear hr0 hc0
 have HB := A_ (Below.refl w.heap.size w)
 have H : (impl_PlaceOk.l0 k l0 l0 (l0.length : Int) 0) = some r := h
 clear h
 have H' := A_ H
 clear H
 go_enter Try.func24, Try.ntmps24
 go_wp2
 go_loopg [7] k (fun kq v7 w' => ∃ (x7_1 : Int), v7 = .int .i64 x7_1 ∧ Aside0 (impl_PlaceOk.l0 kq l0 l0 (l0.length : Int) x7_1 = some r) ∧ Aside0 (kq ≤ k) ∧ Aside0 (Below w.heap.size w w'))
 case atStart => exact ⟨(0), Z21, H', ⟨Nat.le_refl _⟩, ⟨Z1⟩⟩
 case round =>
  clear H'
  obtain ⟨x7_1, rfl, HA, HK1, HB⟩ := hrel
  cases gk with
  | zero => exact absurd HA.out (by simp [impl_PlaceOk.l0])
  | succ k1 =>
   have H := HA.out
   clear HA
   simp only [impl_PlaceOk.l0] at H
   by_cases c2 : x7_1 < (l0.length : Int)
   ·rw [if_pos c2] at H
    have c2b0 : decide (x7_1 < (l0.length : Int)) = true := decide_eq_true c2
    clear c2
    by_cases c3 : 0 ≤ x7_1
    ·rw [if_pos c3] at H
     have c3b0 : decide (0 ≤ x7_1) = true := decide_eq_true c3
     clear c3
     by_cases c4 : x7_1 < (l0.length : Int)
     ·rw [if_pos c4] at H
      have c4b0 : decide (x7_1 < (l0.length : Int)) = true := decide_eq_true c4
      clear c4
      replace H := Option.bind_eq_some_iff.mp H
      obtain ⟨t328, A50, H⟩ := H
      replace H : (if t328 = true then ((impl_within.f ((rd_T68 l0 x7_1).f1) 0 103).bind fun t329 => (if t329 = true then (impl_PlaceOk.l0 k1 l0 l0 (l0.length : Int) (wrap64 (x7_1 + 1))) else (some false))) else (some false)) = some r := H
      have A5 := A_ A50
      clear A50
      by_cases c6 : t328 = true
      ·subst c6
       have H1 : ((impl_within.f ((rd_T68 l0 x7_1).f1) 0 103).bind fun t329 => (if t329 = true then (impl_PlaceOk.l0 k1 l0 l0 (l0.length : Int) (wrap64 (x7_1 + 1))) else (some false))) = some r := by rw [if_pos rfl] at H; exact H
       clear H
       have H := H1
       clear H1
       replace H := Option.bind_eq_some_iff.mp H
       obtain ⟨t329, A70, H⟩ := H
       replace H : (if t329 = true then (impl_PlaceOk.l0 k1 l0 l0 (l0.length : Int) (wrap64 (x7_1 + 1))) else (some false)) = some r := H
       have A7 := A_ A70
       clear A70
       by_cases c8 : t329 = true
       ·subst c8
        have H1 : (impl_PlaceOk.l0 k1 l0 l0 (l0.length : Int) (wrap64 (x7_1 + 1))) = some r := by rw [if_pos rfl] at H; exact H
        clear H
        have H := H1
        clear H1
        have H' := A_ H
        clear H
        have p326 : 0 ≤ (x7_1 : Int) := of_decide_eq_true Z13
        have q326 : x7_1 < (l0.length : Int) := of_decide_eq_true Z13
        obtain ⟨ad326, e326, hx326_0, hx326_1⟩ := at_T68 HR0.out x7_1 p326 q326
        cases e326
        replace hx326_0 := ZC HB.out hx326_0
        replace hx326_1 := ZC HB.out hx326_1
        replace p326 := eq_true p326
        replace q326 := eq_true q326
        go_wp2_with (first | ((with_reducible refine gate_dst (N := 4) rfl ?_); refine box_event ?hg (N := 4) ?hd (cs := #[.int .i64 0, .int .i64 0]) (t := 68) ?hr ?_; (case hd => rfl); (case hg => rfl); (case hr => exact Z24); intro gb327 hg w9 hbox hb; have n0_ := A_ (below_step Z1 hb); have n1_ := A_ (hbox); have n2_ := A_ ((by rw [hg]; exact (below_size Z1) : w.heap.size ≤ gb327)); have n3_ := A_ ((by rw [hg]; exact (below_size Z1) : w.heap.size ≤ gb327)); clear HB; have HB := n0_; have BK327 := n1_; have GW327 := n2_; have GE327 := n3_; clear n0_ n1_ n2_ n3_; clear hb hbox hg; have hcz10_0 : w9.cell? ⟨gb327, 0, none⟩ = some (.int .i64 0) := (blk_cell BK327.out 0).trans rfl; have hcz10_1 : w9.cell? ⟨gb327, 1, none⟩ = some (.int .i64 0) := (blk_cell BK327.out 1).trans rfl; have hfz10_0 := blk_frozen BK327.out 0; have hfz10_1 := blk_frozen BK327.out 1) | ((with_reducible refine gate_callee (f := 34) rfl ?_); refine goesL_ (some 13) rfl rfl Try.func34 (by kernel_rfl) rfl #[.int .i64 ((rd_T68 l0 x7_1).f0), .int .i64 0, .int .i64 3] rfl Z3 ?_; (with_reducible refine (impl_within.calls ((rd_T68 l0 x7_1).f0) 0 3 true _ A5.out).mono ?_); rintro e w' ⟨rfl, ⟨nd, rfl⟩⟩; refine ⟨_, rfl, ?_⟩) | (go_at_call 34; (with_reducible refine (impl_within.calls ((rd_T68 l0 x7_1).f1) 0 103 true _ A7.out).mono ?_); rintro e w' ⟨rfl, ⟨nd, rfl⟩⟩))
        go_roundg k1
        case measure => have := HK1.out; omega
        case rel => exact ⟨(wrap64 (x7_1 + 1)), Z21, H', ⟨by have := HK1.out; omega⟩, ⟨Z2 GE327.out⟩⟩
       ·replace c8 := Bool.eq_false_iff.mpr c8
        subst c8
        have H1 : (some false) = some r := by rw [if_neg (show ¬ (false = true) by decide)] at H; exact H
        clear H
        have H := H1
        clear H1
        obtain rfl := Option.some.inj H
        have p326 : 0 ≤ (x7_1 : Int) := of_decide_eq_true Z13
        have q326 : x7_1 < (l0.length : Int) := of_decide_eq_true Z13
        obtain ⟨ad326, e326, hx326_0, hx326_1⟩ := at_T68 HR0.out x7_1 p326 q326
        cases e326
        replace hx326_0 := ZC HB.out hx326_0
        replace hx326_1 := ZC HB.out hx326_1
        replace p326 := eq_true p326
        replace q326 := eq_true q326
        go_wp2_with (first | ((with_reducible refine gate_dst (N := 4) rfl ?_); refine box_event ?hg (N := 4) ?hd (cs := #[.int .i64 0, .int .i64 0]) (t := 68) ?hr ?_; (case hd => rfl); (case hg => rfl); (case hr => exact Z24); intro gb327 hg w11 hbox hb; have n0_ := A_ (below_step Z1 hb); have n1_ := A_ (hbox); have n2_ := A_ ((by rw [hg]; exact (below_size Z1) : w.heap.size ≤ gb327)); have n3_ := A_ ((by rw [hg]; exact (below_size Z1) : w.heap.size ≤ gb327)); clear HB; have HB := n0_; have BK327 := n1_; have GW327 := n2_; have GE327 := n3_; clear n0_ n1_ n2_ n3_; clear hb hbox hg; have hcz12_0 : w11.cell? ⟨gb327, 0, none⟩ = some (.int .i64 0) := (blk_cell BK327.out 0).trans rfl; have hcz12_1 : w11.cell? ⟨gb327, 1, none⟩ = some (.int .i64 0) := (blk_cell BK327.out 1).trans rfl; have hfz12_0 := blk_frozen BK327.out 0; have hfz12_1 := blk_frozen BK327.out 1) | ((with_reducible refine gate_callee (f := 34) rfl ?_); refine goesL_ (some 13) rfl rfl Try.func34 (by kernel_rfl) rfl #[.int .i64 ((rd_T68 l0 x7_1).f0), .int .i64 0, .int .i64 3] rfl Z3 ?_; (with_reducible refine (impl_within.calls ((rd_T68 l0 x7_1).f0) 0 3 true _ A5.out).mono ?_); rintro e w' ⟨rfl, ⟨nd, rfl⟩⟩; refine ⟨_, rfl, ?_⟩) | (go_at_call 34; (with_reducible refine (impl_within.calls ((rd_T68 l0 x7_1).f1) 0 103 false _ A7.out).mono ?_); rintro e w' ⟨rfl, ⟨nd, rfl⟩⟩))
        go_ret
        exact ⟨Z17, Z2 GE327.out⟩
      ·replace c6 := Bool.eq_false_iff.mpr c6
       subst c6
       have H1 : (some false) = some r := by rw [if_neg (show ¬ (false = true) by decide)] at H; exact H
       clear H
       have H := H1
       clear H1
       obtain rfl := Option.some.inj H
       have p326 : 0 ≤ (x7_1 : Int) := of_decide_eq_true Z13
       have q326 : x7_1 < (l0.length : Int) := of_decide_eq_true Z13
       obtain ⟨ad326, e326, hx326_0, hx326_1⟩ := at_T68 HR0.out x7_1 p326 q326
       cases e326
       replace hx326_0 := ZC HB.out hx326_0
       replace hx326_1 := ZC HB.out hx326_1
       replace p326 := eq_true p326
       replace q326 := eq_true q326
       go_wp2_with (first | ((with_reducible refine gate_dst (N := 4) rfl ?_); refine box_event ?hg (N := 4) ?hd (cs := #[.int .i64 0, .int .i64 0]) (t := 68) ?hr ?_; (case hd => rfl); (case hg => rfl); (case hr => exact Z24); intro gb327 hg w13 hbox hb; have n0_ := A_ (below_step Z1 hb); have n1_ := A_ (hbox); have n2_ := A_ ((by rw [hg]; exact (below_size Z1) : w.heap.size ≤ gb327)); have n3_ := A_ ((by rw [hg]; exact (below_size Z1) : w.heap.size ≤ gb327)); clear HB; have HB := n0_; have BK327 := n1_; have GW327 := n2_; have GE327 := n3_; clear n0_ n1_ n2_ n3_; clear hb hbox hg; have hcz14_0 : w13.cell? ⟨gb327, 0, none⟩ = some (.int .i64 0) := (blk_cell BK327.out 0).trans rfl; have hcz14_1 : w13.cell? ⟨gb327, 1, none⟩ = some (.int .i64 0) := (blk_cell BK327.out 1).trans rfl; have hfz14_0 := blk_frozen BK327.out 0; have hfz14_1 := blk_frozen BK327.out 1) | ((with_reducible refine gate_callee (f := 34) rfl ?_); refine goesL_ (some 13) rfl rfl Try.func34 (by kernel_rfl) rfl #[.int .i64 ((rd_T68 l0 x7_1).f0), .int .i64 0, .int .i64 3] rfl Z3 ?_; (with_reducible refine (impl_within.calls ((rd_T68 l0 x7_1).f0) 0 3 false _ A5.out).mono ?_); rintro e w' ⟨rfl, ⟨nd, rfl⟩⟩; refine ⟨_, rfl, ?_⟩))
       go_ret
       exact ⟨Z17, Z2 GE327.out⟩
     ·rw [if_neg c4] at H
      exact absurd H (by simp)
    ·rw [if_neg c3] at H
     exact absurd H (by simp)
   ·rw [if_neg c2] at H
    have c2b0 : decide (x7_1 < (l0.length : Int)) = false := decide_eq_false c2
    clear c2
    obtain rfl := Option.some.inj H
    go_wp2
    go_ret
    exact ⟨Z17, Z1⟩
end Go.Proofs.Ytheifobeaemegaa.PFnStoreOk
