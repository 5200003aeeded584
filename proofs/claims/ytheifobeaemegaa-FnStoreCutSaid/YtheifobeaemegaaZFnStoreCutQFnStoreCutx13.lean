/- Walks of the functions that the law 'FnStoreCut' reaches, part 13: for each a Lean function and the proof that Go's comes to just its answer (lines of the print, under own names; no condition). -/
import Derived.Test.YtheifobeaemegaaZFnStoreCutQFnStoreCutx0
import Derived.Test.YtheifobeaemegaaZFnStoreCutQFnStoreCutx1
import Derived.Test.YtheifobeaemegaaZFnStoreCutQFnStoreCutx3
import Derived.Test.YtheifobeaemegaaZFnStoreCutQFnStoreCutx6
import Derived.Test.YtheifobeaemegaaZFnStoreCutQFnStoreCutx8
import Derived.Test.YtheifobeaemegaaZFnStoreCutQFnStoreCutx10
import Derived.Test.YtheifobeaemegaaZFnStoreCutQFnStoreCutx12
namespace Go.Proofs.Ytheifobeaemegaa.PFnStoreCut
open Go.RowKit Go.Proofs.YtheifobeaemegaaW.PrintWords Go.Proofs.YtheifobeaemegaaW.PrintLast Go.Proofs.YtheifobeaemegaaW.PrintMore
attribute [local go_sem] max2_int min2_int max_two min_two max_three min_three max_four min_four
set_option linter.unusedVariables false
set_option linter.unusedSimpArgs false
attribute [local go_sem high] eqA28
def spec_under.f (k : Nat) (l0 : List (S68)) (l1 : List (S68)) : Option (Bool) := if (l0.length : Int) ≥ (l1.length : Int) then (if 0 ≤ (l1.length : Int) then (if (l1.length : Int) ≤ (l0.length : Int) then ((spec_comparePlaces.f k (l0.take ((l1.length : Int) : Int).toNat) l1).bind fun t419 => (some (t419 == 0))) else (none)) else (none)) else (some false)
theorem spec_under.mono : ∀ a0 a1 k, LeO (spec_under.f k a0 a1) (spec_under.f (k + 1) a0 a1) := by
 intro a0 a1 k
 unfold spec_under.f
 repeat' first
   | (with_reducible exact spec_comparePlaces.mono _ _ _)
   | (with_reducible exact LeO.refl _)
   | (with_reducible exact LeO.none _)
   | (with_reducible refine LeO.ite ?_ ?_)
   | (with_reducible refine LeO.bind ?_ (fun _ => ?_))
   | exact spec_comparePlaces.mono _ _ _
   | exact LeO.none _
   | refine LeO.ite ?_ ?_
   | refine LeO.bind ?_ (fun _ => ?_)
set_option maxHeartbeats 8000000 in
set_option maxRecDepth 100000 in
theorem spec_under.calls (k : Nat) (A0 : Option Addr) (c0 : Nat) (l0 : List (S68)) (A1 : Option Addr) (c1 : Nat) (l1 : List (S68)) (r : Bool) (w : World) (hr0 : Kd.C k68 w A0 l0.length l0) (hc0 : l0.length ≤ c0) (hr1 : Kd.C k68 w A1 l1.length l1) (hc1 : l1.length ≤ c1) (h : spec_under.f k l0 l1 = some r) :
  Calls Try.prog 52 #[.slice A0 l0.length c0, .slice A1 l1.length c1] w fun e w' => e = .returned (.bool r) ∧ Drawn0 w w' := by
 have HR0 := A_ hr0
 have HC0 := A_ hc0
 clear hr0 hc0
 have HR1 := A_ hr1
 have HC1 := A_ hc1
 clear hr1 hc1
 have H : (if (l0.length : Int) ≥ (l1.length : Int) then (if 0 ≤ (l1.length : Int) then (if (l1.length : Int) ≤ (l0.length : Int) then ((spec_comparePlaces.f k (l0.take ((l1.length : Int) : Int).toNat) l1).bind fun t419 => (some (t419 == 0))) else (none)) else (none)) else (some false)) = some r := h
 clear h
 by_cases c3 : (l0.length : Int) ≥ (l1.length : Int)
 ·rw [if_pos c3] at H
  have c3b0 : decide ((l1.length : Int) ≤ (l0.length : Int)) = true := decide_eq_true c3
  have c3b1 : decide (l1.length ≤ l0.length) = true := decide_eq_true (Int.ofNat_le.mp c3)
  clear c3
  by_cases c4 : 0 ≤ (l1.length : Int)
  ·rw [if_pos c4] at H
   have c4b0 := eq_true c4
   have c4b1 : decide (0 ≤ (l1.length : Int)) = true := decide_eq_true c4
   clear c4
   by_cases c5 : (l1.length : Int) ≤ (l0.length : Int)
   ·rw [if_pos c5] at H
    have c5b0 := eq_true c5
    have c5b1 : decide ((l1.length : Int) ≤ (l0.length : Int)) = true := decide_eq_true c5
    clear c5
    obtain ⟨y415, hy415⟩ : ∃ y_ : List (S68), y_ = (l0.take ((l1.length : Int) : Int).toNat) := ⟨_, rfl⟩
    replace H : ((spec_comparePlaces.f k y415 l1).bind fun t419 => (some (t419 == 0))) = some r := by first | (rw [hy415]; with_reducible exact H) | (have H2_ := (Option.bind_some _ _).symm.trans H; rw [hy415]; with_reducible exact H2_) | (have H2_ := (Option.bind_some _ _).symm.trans H; with_reducible exact H2_) | with_reducible exact H | (rw [hy415]; exact H) | exact H
    have Ny415 := A_ hy415
    clear hy415
    replace H := Option.bind_eq_some_iff.mp H
    obtain ⟨t419, A60, H⟩ := H
    replace H : (some (t419 == 0)) = some r := H
    have A6 := A_ A60
    clear A60
    obtain rfl := Option.some.inj H
    have q7 : ((l1.length : Int) : Int) ≤ ((l0.length : Int) : Int) := of_decide_eq_true Z13
    obtain ⟨i07, hi07, _, hsz7, _⟩ := info_parts info68
    have hroom7 : l0.length ≤ c0 := HC0.out
    have hC7 : Kd.C k68 _ A0 l0.length l0 := HR0.out
    have hcut7 := cut_to (P := Try.prog) 39 68 .i64 Try.underlying39 hi07 A0 l0.length c0 (l1.length : Int) (of_decide_eq_true Z13) q7 hroom7
    have hr7 := Kd.C_take (m := ((l1.length : Int) : Int).toNat) hC7 (by omega)
    have hy7 : y415.length = ((l1.length : Int) : Int).toNat := (by rw [Ny415.out, List.length_take]; omega)
    rw [← Ny415.out] at hr7
    rw [← hy7] at hcut7
    have HR418 := A_ hr7
    have HC418 := A_ (show y415.length ≤ c0 from by omega)
    clear hr7 hC7 hroom7 hi07 hsz7
    have KY7 := A_ hy7
    clear hy7
    replace q7 := eq_true q7
    go_enter Try.func52, Try.ntmps52
    go_wp2_with (first | (go_at_call 62; (with_reducible refine (spec_comparePlaces.calls k _ _ y415 _ _ l1 t419 _ ?side1 ?side2 ?side3 ?side4 A6.out).mono ?_); (case side1 => exact Z17 HR418.out); (case side2 => exact HC418.out); (case side3 => exact Z17 HR1.out); (case side4 => exact HC1.out); rintro e w' ⟨rfl, ⟨nd, rfl⟩⟩))
    go_ret
    exact ⟨Z22, Z24⟩
   ·rw [if_neg c5] at H
    exact absurd H (by simp)
  ·rw [if_neg c4] at H
   exact absurd H (by simp)
 ·rw [if_neg c3] at H
  have c3b0 : decide ((l1.length : Int) ≤ (l0.length : Int)) = false := decide_eq_false c3
  have c3b1 : decide (l1.length ≤ l0.length) = false := decide_eq_false (fun h => c3 (Int.ofNat_le.mpr h))
  clear c3
  obtain rfl := Option.some.inj H
  go_enter Try.func52, Try.ntmps52
  go_wp2
  go_ret
  exact ⟨Z22, Z24⟩
mutual
def spec_StoreCut.j0 : Nat → List (S41) → List (S68) → Bool → Option ((List (S41)))
 | 0, _, _, _ => none
 | k + 1, x0, x1, x14 => if x14 = true then (some ([] : List (S41))) else (spec_StoreCut.l0 k x0 x1 (([] : List (S41))) 0)
def spec_StoreCut.l0 : Nat → List (S41) → List (S68) → List (S41) → Int → Option ((List (S41)))
 | 0, _, _, _, _ => none
 | k + 1, x0, x1, x5, x6 => if x6 < (x0.length : Int) then (if 0 ≤ x6 then ((spec_under.f k ((rd_T41 x0 x6).f0) x1).bind fun t426 => (if t426 = true then (spec_StoreCut.l0 k x0 x1 x5 (wrap64 (x6 + 1))) else ((spec_copyCell.f ((rd_T41 x0 x6).f0) ((rd_T41 x0 x6).f1)).bind fun bt428 => (if x5.length < 2932031007402 then (spec_StoreCut.l0 k x0 x1 (x5 ++ [(⟨bt428.1, bt428.2⟩ : S41)]) (wrap64 (x6 + 1))) else (none))))) else (none)) else (some x5)
end
def spec_StoreCut.f (k : Nat) (l0 : List (S41)) (l1 : List (S68)) : Option ((List (S41))) := (spec_validStore.f k l0).bind fun t420 => (if t420 = true then ((spec_validPlace.f k l1).bind fun t421 => (spec_StoreCut.j0 k l0 l1 (!t421))) else (spec_StoreCut.j0 k l0 l1 true))
theorem spec_StoreCut.mono_l : ∀ k, (∀ y0 y1 y2, LeO (spec_StoreCut.j0 k y0 y1 y2) (spec_StoreCut.j0 (k + 1) y0 y1 y2)) ∧ (∀ y0 y1 y2 y3, LeO (spec_StoreCut.l0 k y0 y1 y2 y3) (spec_StoreCut.l0 (k + 1) y0 y1 y2 y3))
 | 0 => ⟨fun _ _ _ r h => by simp [spec_StoreCut.j0] at h, fun _ _ _ _ r h => by simp [spec_StoreCut.l0] at h⟩
 | k + 1 => by
  obtain ⟨ih0, ih1⟩ := spec_StoreCut.mono_l k
  refine ⟨?_, ?_⟩
  ·intro y0 y1 y2
   unfold spec_StoreCut.j0
   repeat' first
   | (with_reducible exact ih0 _ _ _)
   | (with_reducible exact ih1 _ _ _ _)
   | (with_reducible exact spec_under.mono _ _ _)
   | (with_reducible exact spec_validPlace.mono _ _)
   | (with_reducible exact spec_validStore.mono _ _)
   | (with_reducible exact LeO.refl _)
   | (with_reducible exact LeO.none _)
   | (with_reducible refine LeO.ite ?_ ?_)
   | (with_reducible refine LeO.bind ?_ (fun _ => ?_))
   | exact ih0 _ _ _
   | exact ih1 _ _ _ _
   | exact spec_under.mono _ _ _
   | exact spec_validPlace.mono _ _
   | exact spec_validStore.mono _ _
   | exact LeO.none _
   | refine LeO.ite ?_ ?_
   | refine LeO.bind ?_ (fun _ => ?_)
  ·intro y0 y1 y2 y3
   unfold spec_StoreCut.l0
   repeat' first
   | (with_reducible exact ih0 _ _ _)
   | (with_reducible exact ih1 _ _ _ _)
   | (with_reducible exact spec_under.mono _ _ _)
   | (with_reducible exact spec_validPlace.mono _ _)
   | (with_reducible exact spec_validStore.mono _ _)
   | (with_reducible exact LeO.refl _)
   | (with_reducible exact LeO.none _)
   | (with_reducible refine LeO.ite ?_ ?_)
   | (with_reducible refine LeO.bind ?_ (fun _ => ?_))
   | exact ih0 _ _ _
   | exact ih1 _ _ _ _
   | exact spec_under.mono _ _ _
   | exact spec_validPlace.mono _ _
   | exact spec_validStore.mono _ _
   | exact LeO.none _
   | refine LeO.ite ?_ ?_
   | refine LeO.bind ?_ (fun _ => ?_)
theorem spec_StoreCut.mono : ∀ a0 a1 k, LeO (spec_StoreCut.f k a0 a1) (spec_StoreCut.f (k + 1) a0 a1) := by
 intro a0 a1 k
 obtain ⟨ih0, ih1⟩ := spec_StoreCut.mono_l k
 unfold spec_StoreCut.f
 repeat' first
   | (with_reducible exact ih0 _ _ _)
   | (with_reducible exact ih1 _ _ _ _)
   | (with_reducible exact spec_under.mono _ _ _)
   | (with_reducible exact spec_validPlace.mono _ _)
   | (with_reducible exact spec_validStore.mono _ _)
   | (with_reducible exact LeO.refl _)
   | (with_reducible exact LeO.none _)
   | (with_reducible refine LeO.ite ?_ ?_)
   | (with_reducible refine LeO.bind ?_ (fun _ => ?_))
   | exact ih0 _ _ _
   | exact ih1 _ _ _ _
   | exact spec_under.mono _ _ _
   | exact spec_validPlace.mono _ _
   | exact spec_validStore.mono _ _
   | exact LeO.none _
   | refine LeO.ite ?_ ?_
   | refine LeO.bind ?_ (fun _ => ?_)
set_option maxHeartbeats 8000000 in
set_option maxRecDepth 100000 in
theorem spec_StoreCut.calls (k : Nat) (A0 : Option Addr) (c0 : Nat) (l0 : List (S41)) (A1 : Option Addr) (c1 : Nat) (l1 : List (S68)) (r : List (S41)) (w : World) (hr0 : Kd.C k41 w A0 l0.length l0) (hc0 : l0.length ≤ c0) (hr1 : Kd.C k68 w A1 l1.length l1) (hc1 : l1.length ≤ c1) (h : spec_StoreCut.f k l0 l1 = some r) :
  Calls Try.prog 22 #[.slice A0 l0.length c0, .slice A1 l1.length c1] w fun e w' => ∃ v0_ : Value, e = .returned (v0_) ∧ Kd.S k41 41 w' w.heap.size (fun _ => True) v0_ r ∧ Below w.heap.size w w' := by
 have hu41 := Try.underlying41
 have HR0 := A_ hr0
 have HC0 := A_ hc0
 clear hr0 hc0
 have HR1 := A_ hr1
 have HC1 := A_ hc1
 clear hr1 hc1
 have HB := A_ (Below.refl w.heap.size w)
 have H : ((spec_validStore.f k l0).bind fun t420 => (if t420 = true then ((spec_validPlace.f k l1).bind fun t421 => (spec_StoreCut.j0 k l0 l1 (!t421))) else (spec_StoreCut.j0 k l0 l1 true))) = some r := h
 clear h
 have HC3 := A_ H
 clear H
 go_enter Try.func22, Try.ntmps22
 go_upto_region 1 with (fail)
 go_cut [14] (fun v14 wc => ∃ (kq : Nat) (x14_2 : Bool), v14 = .bool x14_2 ∧ Aside0 (spec_StoreCut.j0 kq l0 l1 x14_2 = some r) ∧ Aside0 (kq ≤ k) ∧ Aside0 (Below w.heap.size w wc))
 case first =>
  have H := HC3.out
  clear HC3
  replace H := Option.bind_eq_some_iff.mp H
  obtain ⟨t420, A40, H⟩ := H
  replace H : (if t420 = true then ((spec_validPlace.f k l1).bind fun t421 => (spec_StoreCut.j0 k l0 l1 (!t421))) else (spec_StoreCut.j0 k l0 l1 true)) = some r := H
  have A4 := A_ A40
  clear A40
  by_cases c5 : t420 = true
  ·subst c5
   have H1 : ((spec_validPlace.f k l1).bind fun t421 => (spec_StoreCut.j0 k l0 l1 (!t421))) = some r := by rw [if_pos rfl] at H; exact H
   clear H
   have H := H1
   clear H1
   replace H := Option.bind_eq_some_iff.mp H
   obtain ⟨t421, A60, H⟩ := H
   replace H : (spec_StoreCut.j0 k l0 l1 (!t421)) = some r := H
   have A6 := A_ A60
   clear A60
   have H' := A_ H
   clear H
   go_wp2_with (first | ((with_reducible refine gate_callee (f := 45) rfl ?_); refine goesL_ (some 8) rfl rfl Try.func45 (by kernel_rfl) rfl #[.slice A0 l0.length c0] rfl Z3 ?_; (with_reducible refine (spec_validStore.calls k _ _ l0 true _ ?side1 ?side2 A4.out).mono ?_); (case side1 => exact Z12 HR0.out); (case side2 => exact HC0.out); rintro e w7 ⟨rfl, hb⟩; refine ⟨_, rfl, ?_⟩; have n0_ := A_ (below_step Z1 hb); clear HB; have HB := n0_; clear n0_; (try clear hb); (try clear hb2); (try clear hk); (try clear hi)) | (go_at_call 51; (with_reducible refine (spec_validPlace.calls k _ _ l1 t421 _ ?side1 ?side2 A6.out).mono ?_); (case side1 => exact Z12 HR1.out); (case side2 => exact HC1.out); rintro e w8 ⟨rfl, hb⟩; have n0_ := A_ (below_step Z1 hb); clear HB; have HB := n0_; clear n0_; (try clear hb); (try clear hb2); (try clear hk); (try clear hi)))
   go_meet
   case rel => exact ⟨_, (!t421), Z22, H', ⟨by first | omega | exact Nat.le_refl _⟩, ⟨Z1⟩⟩
  ·replace c5 := Bool.eq_false_iff.mpr c5
   subst c5
   have H1 : (spec_StoreCut.j0 k l0 l1 true) = some r := by rw [if_neg (show ¬ (false = true) by decide)] at H; exact H
   clear H
   have H := H1
   clear H1
   have H' := A_ H
   clear H
   go_wp2_with (first | ((with_reducible refine gate_callee (f := 45) rfl ?_); refine goesL_ (some 8) rfl rfl Try.func45 (by kernel_rfl) rfl #[.slice A0 l0.length c0] rfl Z3 ?_; (with_reducible refine (spec_validStore.calls k _ _ l0 false _ ?side1 ?side2 A4.out).mono ?_); (case side1 => exact Z12 HR0.out); (case side2 => exact HC0.out); rintro e w9 ⟨rfl, hb⟩; refine ⟨_, rfl, ?_⟩; have n0_ := A_ (below_step Z1 hb); clear HB; have HB := n0_; clear n0_; (try clear hb); (try clear hb2); (try clear hk); (try clear hi)))
   go_meet
   case rel => exact ⟨_, (true), Z22, H', ⟨by first | omega | exact Nat.le_refl _⟩, ⟨Z1⟩⟩
 case rest =>
  clear HC3
  try clear c1
  try clear c2
  try clear p2
  try clear c4
  try clear c5
  obtain ⟨kq, x14_2, rfl, HA, HJ2, HB⟩ := hcut
  cases kq with
  | zero => exact absurd HA.out (by simp [spec_StoreCut.j0])
  | succ kj2 =>
   have H := HA.out
   clear HA
   simp only [spec_StoreCut.j0] at H
   by_cases c10 : x14_2 = true
   ·subst c10
    have H1 : (some ([] : List (S41))) = some r := by rw [if_pos rfl] at H; exact H
    clear H
    have H := H1
    clear H1
    obtain rfl := Option.some.inj H
    go_wp2
    go_ret
    exact ⟨_, Z18, by first | exact Kd.S_nil _ _ _ _ _ | exact Kd.N_nil _ _ _ _ _ | exact Kd.V_nil _ _ _ _ _ | exact Kd.Q_nil _ _ _ _ _ | exact Kd.R_nil _ _ _ _ _, Z1⟩
   ·replace c10 := Bool.eq_false_iff.mpr c10
    subst c10
    have H1 : (spec_StoreCut.l0 kj2 l0 l1 (([] : List (S41))) 0) = some r := by rw [if_neg (show ¬ (false = true) by decide)] at H; exact H
    clear H
    have H := H1
    clear H1
    obtain ⟨y422, hy422⟩ : ∃ y_ : List (S41), y_ = (([] : List (S41))) := ⟨_, rfl⟩
    replace H : (spec_StoreCut.l0 kj2 l0 l1 y422 0) = some r := by first | (rw [hy422]; with_reducible exact H) | (have H2_ := (Option.bind_some _ _).symm.trans H; rw [hy422]; with_reducible exact H2_) | (have H2_ := (Option.bind_some _ _).symm.trans H; with_reducible exact H2_) | with_reducible exact H | (rw [hy422]; exact H) | exact H
    have Ny422 := A_ hy422
    clear hy422
    have H' := A_ H
    clear H
    go_wp2_with (first | ((with_reducible refine gate_dst (N := 15) rfl ?_); refine Kd.S_lit k41 _ 41 ?hg (N := 15) ?hd (xs := ([] : List (S41))) (inner := []) (ok := fun _ => True) (okp := fun _ => True) ?hr ?hp (fun _ hk => hk) trivial (Below.refl _ _) (Nat.le_refl _) (by simp) ?_; (case hd => rfl); (case hg => rfl); (case hr => exact Z26); (case hp => exact (Reps.none _ _)); intro v423 w11 ho12 hb hg_ hnew_; clear hg_ hnew_; (first | rw [← Ny422.out] at ho12 | (simp only [Int.reduceToNat] at ho12; rw [← Ny422.out] at ho12)); have n0_ := A_ (Kd.S_lower ho12 (below_size Z1)); have n1_ := A_ (below_step Z1 hb); clear HB; have HO424 := n0_; have HB := n1_; clear n0_ n1_; clear hb ho12))
    go_loopg [5, 6] kj2 (fun kq v5 v6 w' => ∃ (x5_2 : List (S41)) (x6_2 : Int), v6 = .int .i64 x6_2 ∧ Aside0 (spec_StoreCut.l0 kq l0 l1 x5_2 x6_2 = some r) ∧ Aside0 (kq ≤ kj2) ∧ Aside0 (Kd.S k41 41 w' w.heap.size (fun _ => True) v5 x5_2) ∧ Aside0 (Below w.heap.size w w'))
    case atStart => exact ⟨(y422), (0), Z22, H', ⟨Nat.le_refl _⟩, ⟨Z31 HO424.out⟩, ⟨Z1⟩⟩
    case round =>
     clear H'
     try clear c1
     try clear c2
     try clear p2
     try clear c4
     try clear c5
     try clear c10
     try clear p2
     obtain ⟨x5_2, x6_2, rfl, HA, HK2, HO_5, HB⟩ := hrel
     cases gk with
     | zero => exact absurd HA.out (by simp [spec_StoreCut.l0])
     | succ k2 =>
      have H := HA.out
      clear HA
      simp only [spec_StoreCut.l0] at H
      by_cases c13 : x6_2 < (l0.length : Int)
      ·rw [if_pos c13] at H
       have c13b0 : decide (x6_2 < (l0.length : Int)) = true := decide_eq_true c13
       clear c13
       by_cases c14 : 0 ≤ x6_2
       ·rw [if_pos c14] at H
        have c14b0 : decide (0 ≤ x6_2) = true := decide_eq_true c14
        clear c14
        replace H := Option.bind_eq_some_iff.mp H
        obtain ⟨t426, A150, H⟩ := H
        replace H : (if t426 = true then (spec_StoreCut.l0 k2 l0 l1 x5_2 (wrap64 (x6_2 + 1))) else ((spec_copyCell.f ((rd_T41 l0 x6_2).f0) ((rd_T41 l0 x6_2).f1)).bind fun bt428 => (if x5_2.length < 2932031007402 then (spec_StoreCut.l0 k2 l0 l1 (x5_2 ++ [(⟨bt428.1, bt428.2⟩ : S41)]) (wrap64 (x6_2 + 1))) else (none)))) = some r := H
        have A15 := A_ A150
        clear A150
        by_cases c16 : t426 = true
        ·subst c16
         have H1 : (spec_StoreCut.l0 k2 l0 l1 x5_2 (wrap64 (x6_2 + 1))) = some r := by rw [if_pos rfl] at H; exact H
         clear H
         have H := H1
         clear H1
         have H' := A_ H
         clear H
         have p425 : 0 ≤ (x6_2 : Int) := of_decide_eq_true Z13
         have q425 : x6_2 < (l0.length : Int) := of_decide_eq_true Z13
         obtain ⟨ad425, A425_0, c425_0, A425_1, c425_1, e425, hx425_0, hx425_1, hl425_0, hi425_0, hl425_1, hi425_1⟩ := at_T41 HR0.out x6_2 p425 q425
         cases e425
         replace hx425_0 := ZC HB.out hx425_0
         replace hx425_1 := ZC HB.out hx425_1
         have HR425_0 := A_ hi425_0
         have HC425_0 := A_ hl425_0
         clear hi425_0 hl425_0
         have HR425_1 := A_ hi425_1
         have HC425_1 := A_ hl425_1
         clear hi425_1 hl425_1
         replace p425 := eq_true p425
         replace q425 := eq_true q425
         go_wp2_with (first | ((with_reducible refine gate_callee (f := 52) rfl ?_); refine goesL_ (some 28) rfl rfl Try.func52 (by kernel_rfl) rfl #[.slice A425_0 ((rd_T41 l0 x6_2).f0).length c425_0, .slice A1 l1.length c1] rfl Z3 ?_; (with_reducible refine (spec_under.calls k2 _ _ ((rd_T41 l0 x6_2).f0) _ _ l1 true _ ?side1 ?side2 ?side3 ?side4 A15.out).mono ?_); (case side1 => exact Z12 HR425_0.out); (case side2 => exact HC425_0.out); (case side3 => exact Z12 HR1.out); (case side4 => exact HC1.out); rintro e w' ⟨rfl, ⟨nd, rfl⟩⟩; refine ⟨_, rfl, ?_⟩))
         go_roundg k2
         case measure => have := HJ2.out; have := HK2.out; omega
         case rel => exact ⟨(x5_2), (wrap64 (x6_2 + 1)), Z22, H', ⟨by have := HJ2.out; have := HK2.out; omega⟩, ⟨Z31 HO_5.out⟩, ⟨Z1⟩⟩
        ·replace c16 := Bool.eq_false_iff.mpr c16
         subst c16
         have H1 : ((spec_copyCell.f ((rd_T41 l0 x6_2).f0) ((rd_T41 l0 x6_2).f1)).bind fun bt428 => (if x5_2.length < 2932031007402 then (spec_StoreCut.l0 k2 l0 l1 (x5_2 ++ [(⟨bt428.1, bt428.2⟩ : S41)]) (wrap64 (x6_2 + 1))) else (none))) = some r := by rw [if_neg (show ¬ (false = true) by decide)] at H; exact H
         clear H
         have H := H1
         clear H1
         replace H := Option.bind_eq_some_iff.mp H
         obtain ⟨⟨t428, t431⟩, A170, H⟩ := H
         replace H : (if x5_2.length < 2932031007402 then (spec_StoreCut.l0 k2 l0 l1 (x5_2 ++ [(⟨t428, t431⟩ : S41)]) (wrap64 (x6_2 + 1))) else (none)) = some r := H
         have A17 := A_ A170
         clear A170
         by_cases c18 : x5_2.length < 2932031007402
         ·rw [if_pos c18] at H
          have LMc18 := A_ c18
          clear c18
          obtain ⟨y434, hy434⟩ : ∃ y_ : List (S41), y_ = (x5_2 ++ [(⟨t428, t431⟩ : S41)]) := ⟨_, rfl⟩
          replace H : (spec_StoreCut.l0 k2 l0 l1 y434 (wrap64 (x6_2 + 1))) = some r := by first | (rw [hy434]; with_reducible exact H) | (have H2_ := (Option.bind_some _ _).symm.trans H; rw [hy434]; with_reducible exact H2_) | (have H2_ := (Option.bind_some _ _).symm.trans H; with_reducible exact H2_) | with_reducible exact H | (rw [hy434]; exact H) | exact H
          have Ny434 := A_ hy434
          clear hy434
          have H' := A_ H
          clear H
          have p425 : 0 ≤ (x6_2 : Int) := of_decide_eq_true Z13
          have q425 : x6_2 < (l0.length : Int) := of_decide_eq_true Z13
          obtain ⟨ad425, A425_0, c425_0, A425_1, c425_1, e425, hx425_0, hx425_1, hl425_0, hi425_0, hl425_1, hi425_1⟩ := at_T41 HR0.out x6_2 p425 q425
          cases e425
          replace hx425_0 := ZC HB.out hx425_0
          replace hx425_1 := ZC HB.out hx425_1
          have HR425_0 := A_ hi425_0
          have HC425_0 := A_ hl425_0
          clear hi425_0 hl425_0
          have HR425_1 := A_ hi425_1
          have HC425_1 := A_ hl425_1
          clear hi425_1 hl425_1
          replace p425 := eq_true p425
          replace q425 := eq_true q425
          go_wp2_with (first | ((with_reducible refine gate_callee (f := 52) rfl ?_); refine goesL_ (some 28) rfl rfl Try.func52 (by kernel_rfl) rfl #[.slice A425_0 ((rd_T41 l0 x6_2).f0).length c425_0, .slice A1 l1.length c1] rfl Z3 ?_; (with_reducible refine (spec_under.calls k2 _ _ ((rd_T41 l0 x6_2).f0) _ _ l1 false _ ?side1 ?side2 ?side3 ?side4 A15.out).mono ?_); (case side1 => exact Z12 HR425_0.out); (case side2 => exact HC425_0.out); (case side3 => exact Z12 HR1.out); (case side4 => exact HC1.out); rintro e w' ⟨rfl, ⟨nd, rfl⟩⟩; refine ⟨_, rfl, ?_⟩; have p427 : 0 ≤ (x6_2 : Int) := of_decide_eq_true Z13; have q427 : x6_2 < (l0.length : Int) := of_decide_eq_true Z13; obtain ⟨ad427, A427_0, c427_0, A427_1, c427_1, e427, hx427_0, hx427_1, hl427_0, hi427_0, hl427_1, hi427_1⟩ := at_T41 HR0.out x6_2 p427 q427; obtain rfl : ad425 = ad427 := (by injection e427); replace hx427_0 := ZC HB.out hx427_0; replace hx427_1 := ZC HB.out hx427_1; have HR427_0 := A_ hi427_0; have HC427_0 := A_ hl427_0; clear hi427_0 hl427_0; have HR427_1 := A_ hi427_1; have HC427_1 := A_ hl427_1; clear hi427_1 hl427_1; replace p427 := eq_true p427; replace q427 := eq_true q427; have ea_ := Option.some.inj (hx425_0.symm.trans hx427_0); injection ea_ with ea_ en_ ec_; subst ea_; subst ec_; clear en_; have ea_ := Option.some.inj (hx425_1.symm.trans hx427_1); injection ea_ with ea_ en_ ec_; subst ea_; subst ec_; clear en_) | ((with_reducible refine gate_callee (f := 53) rfl ?_); refine goesL_ (some 35) rfl rfl Try.func53 (by kernel_rfl) rfl #[.agg #[.slice A425_0 ((rd_T41 l0 x6_2).f0).length c425_0, .slice A425_1 ((rd_T41 l0 x6_2).f1).length c425_1]] rfl Z3 ?_; (with_reducible refine (spec_copyCell.calls _ _ ((rd_T41 l0 x6_2).f0) _ _ ((rd_T41 l0 x6_2).f1) t428 t431 _ ?side1 ?side2 ?side3 ?side4 A17.out).mono ?_); (case side1 => repeat (first | exact (Kd.C_below HR427_0.out Z1) | (with_reducible refine Kd.C_alloc ?_ _) | (with_reducible refine Kd.C_drewN ?_ _) | (with_reducible refine Kd.C_drew ?_))); (case side2 => exact HC427_0.out); (case side3 => repeat (first | exact (Kd.C_below HR427_1.out Z1) | (with_reducible refine Kd.C_alloc ?_ _) | (with_reducible refine Kd.C_drewN ?_ _) | (with_reducible refine Kd.C_drew ?_))); (case side4 => exact HC427_1.out); rintro e w19 ⟨v429, v432, rfl, ho0, ho1, hb⟩; refine ⟨_, rfl, ?_⟩; have n0_ := A_ (Kd.S_mono (Kd.S_told (Kd.S_told (Kd.S_old (Z31 HO_5.out) hb) (Kd.R_base ho0)) (Kd.R_base ho1)) (fun _ h_ => h_.1)); have n1_ := A_ (Kd.R_lower ho0 (below_size Z1)); have n2_ := A_ (Kd.R_lower ho1 (below_size Z1)); have n3_ := A_ (below_step Z1 hb); clear HO_5; clear HB; have HO_5 := n0_; have HO430 := n1_; have HO433 := n2_; have HB := n3_; clear n0_ n1_ n2_ n3_; (try clear hb); (try clear hb2); (try clear hk); (try clear hi); (try clear ho0); (try clear ho1); obtain ⟨Ao21, co21, eo21⟩ := Kd.R_slice HO430.out; subst eo21; obtain ⟨Ao22, co22, eo22⟩ := Kd.R_slice HO433.out; subst eo22) | ((with_reducible refine gate_builtin (b := .append) (xs := #[.tmp 30, .tmp 36]) rfl ?_); at_builtin; refine Kd.S_append k41 (w0 := w) w.heap.size rfl (.tmp 30) (.tmp 36) 33 41 (.agg #[(.slice none 0 0), (.slice none 0 0)]) 48 rfl Try.underlying33 info41 rfl (by decide) (by omega) u5 x5_2 (⟨t428, t431⟩ : S41) [.slice Ao21 t428.length co21, .slice Ao22 t431.length co22] (fun _ => True) (fun k_ => some k_ = (.slice Ao21 t428.length co21 : Value).ownBlock ∨ some k_ = (.slice Ao22 t431.length co22 : Value).ownBlock) rfl rfl ?aP (fun k_ hk_ => hk_.elim (fun h_ => ((Kd.R_mono (ok' := fun k_ => ((fun _ => True)) k_ ∧ some k_ ≠ (u5 : Value).ownBlock) (Kd.R_apart' (HO430.out) (Kd.S_typed HO_5.out) (by decide)) (fun k_ hk => ⟨trivial, hk.2⟩))).1 k_ h_.symm) (fun h_ => ((Kd.R_mono (ok' := fun k_ => ((fun _ => True)) k_ ∧ some k_ ≠ (u5 : Value).ownBlock) (Kd.R_apart' (HO433.out) (Kd.S_typed HO_5.out) (by decide)) (fun k_ hk => ⟨trivial, hk.2⟩))).1 k_ h_.symm)) ?aF ?aO ?aB ?aS ?aL ?_; (case aP => exact k41_mkM _ _ _ (⟨t428, t431⟩ : S41) (Kd.R_mono (Kd.R_tight rfl (Kd.R_mono (ok' := fun k_ => ((fun _ => True)) k_ ∧ some k_ ≠ (u5 : Value).ownBlock) (Kd.R_apart' (HO430.out) (Kd.S_typed HO_5.out) (by decide)) (fun k_ hk => ⟨trivial, hk.2⟩))) (fun _ h_ => Or.inl h_)) (Kd.R_mono (Kd.R_tight rfl (Kd.R_mono (ok' := fun k_ => ((fun _ => True)) k_ ∧ some k_ ≠ (u5 : Value).ownBlock) (Kd.R_apart' (HO433.out) (Kd.S_typed HO_5.out) (by decide)) (fun k_ hk => ⟨trivial, hk.2⟩))) (fun _ h_ => Or.inr (h_)))); (case aB => exact Z1); (case aF => exact (fun _ _ => trivial)); (case aO => exact (by (with_reducible repeat (first | apply Kd.S_alloc | apply Kd.S_drewN | apply Kd.S_drew)); exact Kd.S_mono HO_5.out (fun k_ hk => ⟨trivial, fun e_ => e_.elim (fun h_ => hk.1.2 h_) (fun h_ => hk.2 h_)⟩))); (case aS => exact (below_size Z1)); (case aL => have := LMc18.out; omega); intro v435 w20 ho hb hg hat; rw [← Ny434.out] at ho; have n0_ := A_ (hb); have n1_ := A_ (ho); clear HB; clear HO_5; clear HO430; clear HO433; have HB := n0_; have HO436 := n1_; clear n0_ n1_; clear ho hb hg hat))
          go_roundg k2
          case measure => have := HJ2.out; have := HK2.out; omega
          case rel => exact ⟨(y434), (wrap64 (x6_2 + 1)), Z22, H', ⟨by have := HJ2.out; have := HK2.out; omega⟩, ⟨Z31 HO436.out⟩, ⟨Z1⟩⟩
         ·rw [if_neg c18] at H
          exact absurd H (by simp)
       ·rw [if_neg c14] at H
        exact absurd H (by simp)
      ·rw [if_neg c13] at H
       have c13b0 : decide (x6_2 < (l0.length : Int)) = false := decide_eq_false c13
       clear c13
       obtain rfl := Option.some.inj H
       go_wp2
       go_ret
       exact ⟨_, Z18, Z31 HO_5.out, Z1⟩
def spec_sameValues.l0 : Nat → List (S28) → List (S28) → Int → Option (Bool)
 | 0, _, _, _ => none
 | k + 1, x0, x1, x5 => if x5 < (x0.length : Int) then (if 0 ≤ x5 then (if x5 < (x1.length : Int) then (if (!(((rd_T28 x0 x5).f0) == ((rd_T28 x1 x5).f0)) || (!(((rd_T28 x0 x5).f1) == ((rd_T28 x1 x5).f1)) || (!((((rd_T28 x0 x5).f2).toList) == (((rd_T28 x1 x5).f2).toList))))) = true then (some false) else (spec_sameValues.l0 k x0 x1 (wrap64 (x5 + 1)))) else (none)) else (none)) else (some true)
def spec_sameValues.f (k : Nat) (l0 : List (S28)) (l1 : List (S28)) : Option (Bool) := if (l0.length : Int) = (l1.length : Int) then (spec_sameValues.l0 k l0 l1 0) else (some false)
theorem spec_sameValues.mono_l : ∀ k, (∀ y0 y1 y2, LeO (spec_sameValues.l0 k y0 y1 y2) (spec_sameValues.l0 (k + 1) y0 y1 y2))
 | 0 => fun _ _ _ r h => by simp [spec_sameValues.l0] at h
 | k + 1 => by
  have ih0 := spec_sameValues.mono_l k
  ·intro y0 y1 y2
   unfold spec_sameValues.l0
   repeat' first
   | (with_reducible exact ih0 _ _ _)
   | (with_reducible exact LeO.refl _)
   | (with_reducible exact LeO.none _)
   | (with_reducible refine LeO.ite ?_ ?_)
   | (with_reducible refine LeO.bind ?_ (fun _ => ?_))
   | exact ih0 _ _ _
   | exact LeO.none _
   | refine LeO.ite ?_ ?_
   | refine LeO.bind ?_ (fun _ => ?_)
theorem spec_sameValues.mono : ∀ a0 a1 k, LeO (spec_sameValues.f k a0 a1) (spec_sameValues.f (k + 1) a0 a1) := by
 intro a0 a1 k
 have ih0 := spec_sameValues.mono_l k
 unfold spec_sameValues.f
 repeat' first
   | (with_reducible exact ih0 _ _ _)
   | (with_reducible exact LeO.refl _)
   | (with_reducible exact LeO.none _)
   | (with_reducible refine LeO.ite ?_ ?_)
   | (with_reducible refine LeO.bind ?_ (fun _ => ?_))
   | exact ih0 _ _ _
   | exact LeO.none _
   | refine LeO.ite ?_ ?_
   | refine LeO.bind ?_ (fun _ => ?_)
set_option maxHeartbeats 8000000 in
set_option maxRecDepth 100000 in
theorem spec_sameValues.calls (k : Nat) (A0 : Option Addr) (c0 : Nat) (l0 : List (S28)) (A1 : Option Addr) (c1 : Nat) (l1 : List (S28)) (r : Bool) (w : World) (hr0 : Kd.C k28 w A0 l0.length l0) (hc0 : l0.length ≤ c0) (hr1 : Kd.C k28 w A1 l1.length l1) (hc1 : l1.length ≤ c1) (h : spec_sameValues.f k l0 l1 = some r) :
  Calls Try.prog 48 #[.slice A0 l0.length c0, .slice A1 l1.length c1] w fun e w' => e = .returned (.bool r) ∧ Drawn0 w w' := by
 have hu28 := Try.underlying28
 have HR0 := A_ hr0
 have HC0 := A_ hc0
 clear hr0 hc0
 have HR1 := A_ hr1
 have HC1 := A_ hc1
 clear hr1 hc1
 have H : (if (l0.length : Int) = (l1.length : Int) then (spec_sameValues.l0 k l0 l1 0) else (some false)) = some r := h
 clear h
 by_cases c3 : (l0.length : Int) = (l1.length : Int)
 ·rw [if_pos c3] at H
  have c3b0 : ((l0.length : Int) == (l1.length : Int)) = true := beq_iff_eq.mpr c3
  have c3b1 : ((l0.length : Int) != (l1.length : Int)) = false := bne_eq_false_iff_eq.mpr c3
  have c3b2 : (l0.length == l1.length) = true := by first | simpa using c3 | (simp at c3 ⊢; omega)
  clear c3
  have H' := A_ H
  clear H
  go_enter Try.func48, Try.ntmps48
  go_wp2
  repeat (go_quiet (fail); try go_wp2)
  go_loopg [5] k (fun kq v5 w' => ∃ (x5_1 : Int), v5 = .int .i64 x5_1 ∧ Aside0 (spec_sameValues.l0 kq l0 l1 x5_1 = some r) ∧ Aside0 (kq ≤ k) ∧ Drawn0 w w')
  case atStart => exact ⟨(0), Z22, H', ⟨Nat.le_refl _⟩, Z24⟩
  case round =>
   clear H'
   try clear c1
   try clear p2
   try clear c3
   try clear c3b0
   try clear c3b1
   try clear c3b2
   obtain ⟨x5_1, rfl, HA, HK1, ⟨m1, rfl⟩⟩ := hrel
   cases gk with
   | zero => exact absurd HA.out (by simp [spec_sameValues.l0])
   | succ k1 =>
    have H := HA.out
    clear HA
    simp only [spec_sameValues.l0] at H
    by_cases c4 : x5_1 < (l0.length : Int)
    ·rw [if_pos c4] at H
     have c4b0 : decide (x5_1 < (l0.length : Int)) = true := decide_eq_true c4
     clear c4
     by_cases c5 : 0 ≤ x5_1
     ·rw [if_pos c5] at H
      have c5b0 : decide (0 ≤ x5_1) = true := decide_eq_true c5
      clear c5
      by_cases c6 : x5_1 < (l1.length : Int)
      ·rw [if_pos c6] at H
       have c6b0 : decide (x5_1 < (l1.length : Int)) = true := decide_eq_true c6
       clear c6
       by_cases c7 : (!(((rd_T28 l0 x5_1).f0) == ((rd_T28 l1 x5_1).f0)) || (!(((rd_T28 l0 x5_1).f1) == ((rd_T28 l1 x5_1).f1)) || (!((((rd_T28 l0 x5_1).f2).toList) == (((rd_T28 l1 x5_1).f2).toList))))) = true
       ·rw [if_pos c7] at H
        have c7b0 : (!(((rd_T28 l0 x5_1).f0) == ((rd_T28 l1 x5_1).f0)) || (!(((rd_T28 l0 x5_1).f1) == ((rd_T28 l1 x5_1).f1)) || (!((((rd_T28 l0 x5_1).f2).toList) == (((rd_T28 l1 x5_1).f2).toList))))) = true := c7
        clear c7
        obtain rfl := Option.some.inj H
        have p437 : 0 ≤ (x5_1 : Int) := of_decide_eq_true Z13
        have q437 : x5_1 < (l0.length : Int) := of_decide_eq_true Z13
        obtain ⟨ad437, e437, hx437_0, hx437_1, hx437_2⟩ := at_T28 HR0.out x5_1 p437 q437
        cases e437
        replace p437 := eq_true p437
        replace q437 := eq_true q437
        have p438 : 0 ≤ (x5_1 : Int) := of_decide_eq_true Z13
        have q438 : x5_1 < (l1.length : Int) := of_decide_eq_true Z13
        obtain ⟨ad438, e438, hx438_0, hx438_1, hx438_2⟩ := at_T28 HR1.out x5_1 p438 q438
        cases e438
        replace p438 := eq_true p438
        replace q438 := eq_true q438
        go_wp2
        repeat (go_quiet (fail); try go_wp2)
        go_ret
        exact ⟨Z22, Z24⟩
       ·rw [if_neg c7] at H
        have c7b0 : (!(((rd_T28 l0 x5_1).f0) == ((rd_T28 l1 x5_1).f0)) || (!(((rd_T28 l0 x5_1).f1) == ((rd_T28 l1 x5_1).f1)) || (!((((rd_T28 l0 x5_1).f2).toList) == (((rd_T28 l1 x5_1).f2).toList))))) = false := by simpa using c7
        clear c7
        have H' := A_ H
        clear H
        have p437 : 0 ≤ (x5_1 : Int) := of_decide_eq_true Z13
        have q437 : x5_1 < (l0.length : Int) := of_decide_eq_true Z13
        obtain ⟨ad437, e437, hx437_0, hx437_1, hx437_2⟩ := at_T28 HR0.out x5_1 p437 q437
        cases e437
        replace p437 := eq_true p437
        replace q437 := eq_true q437
        have p438 : 0 ≤ (x5_1 : Int) := of_decide_eq_true Z13
        have q438 : x5_1 < (l1.length : Int) := of_decide_eq_true Z13
        obtain ⟨ad438, e438, hx438_0, hx438_1, hx438_2⟩ := at_T28 HR1.out x5_1 p438 q438
        cases e438
        replace p438 := eq_true p438
        replace q438 := eq_true q438
        go_wp2
        repeat (go_quiet (fail); try go_wp2)
        go_roundg k1
        case measure => have := HK1.out; omega
        case rel => exact ⟨(wrap64 (x5_1 + 1)), Z22, H', ⟨by have := HK1.out; omega⟩, Z24⟩
      ·rw [if_neg c6] at H
       exact absurd H (by simp)
     ·rw [if_neg c5] at H
      exact absurd H (by simp)
    ·rw [if_neg c4] at H
     have c4b0 : decide (x5_1 < (l0.length : Int)) = false := decide_eq_false c4
     clear c4
     obtain rfl := Option.some.inj H
     go_wp2
     repeat (go_quiet (fail); try go_wp2)
     go_ret
     exact ⟨Z22, Z24⟩
 ·rw [if_neg c3] at H
  have c3b0 : ((l0.length : Int) == (l1.length : Int)) = false := beq_eq_false_iff_ne.mpr c3
  have c3b1 : ((l0.length : Int) != (l1.length : Int)) = true := bne_iff_ne.mpr c3
  have c3b2 : (l0.length == l1.length) = false := by first | simpa using c3 | (simp at c3 ⊢; omega)
  obtain rfl := Option.some.inj H
  go_enter Try.func48, Try.ntmps48
  go_wp2
  repeat (go_quiet (fail); try go_wp2)
  go_ret
  exact ⟨Z22, Z24⟩
def spec_sameStore.l0 : Nat → List (S41) → List (S41) → Int → Option (Bool)
 | 0, _, _, _ => none
 | k + 1, x0, x1, x5 => if x5 < (x0.length : Int) then (if 0 ≤ x5 then (if x5 < (x1.length : Int) then ((spec_comparePlaces.f k ((rd_T41 x0 x5).f0) ((rd_T41 x1 x5).f0)).bind fun t441 => (if t441 = 0 then ((spec_sameValues.f k ((rd_T41 x0 x5).f1) ((rd_T41 x1 x5).f1)).bind fun t444 => (if t444 = true then (spec_sameStore.l0 k x0 x1 (wrap64 (x5 + 1))) else (some false))) else (some false))) else (none)) else (none)) else (some true)
def spec_sameStore.f (k : Nat) (l0 : List (S41)) (l1 : List (S41)) : Option (Bool) := if (l0.length : Int) = (l1.length : Int) then (spec_sameStore.l0 k l0 l1 0) else (some false)
theorem spec_sameStore.mono_l : ∀ k, (∀ y0 y1 y2, LeO (spec_sameStore.l0 k y0 y1 y2) (spec_sameStore.l0 (k + 1) y0 y1 y2))
 | 0 => fun _ _ _ r h => by simp [spec_sameStore.l0] at h
 | k + 1 => by
  have ih0 := spec_sameStore.mono_l k
  ·intro y0 y1 y2
   unfold spec_sameStore.l0
   repeat' first
   | (with_reducible exact ih0 _ _ _)
   | (with_reducible exact spec_comparePlaces.mono _ _ _)
   | (with_reducible exact spec_sameValues.mono _ _ _)
   | (with_reducible exact LeO.refl _)
   | (with_reducible exact LeO.none _)
   | (with_reducible refine LeO.ite ?_ ?_)
   | (with_reducible refine LeO.bind ?_ (fun _ => ?_))
   | exact ih0 _ _ _
   | exact spec_comparePlaces.mono _ _ _
   | exact spec_sameValues.mono _ _ _
   | exact LeO.none _
   | refine LeO.ite ?_ ?_
   | refine LeO.bind ?_ (fun _ => ?_)
theorem spec_sameStore.mono : ∀ a0 a1 k, LeO (spec_sameStore.f k a0 a1) (spec_sameStore.f (k + 1) a0 a1) := by
 intro a0 a1 k
 have ih0 := spec_sameStore.mono_l k
 unfold spec_sameStore.f
 repeat' first
   | (with_reducible exact ih0 _ _ _)
   | (with_reducible exact spec_comparePlaces.mono _ _ _)
   | (with_reducible exact spec_sameValues.mono _ _ _)
   | (with_reducible exact LeO.refl _)
   | (with_reducible exact LeO.none _)
   | (with_reducible refine LeO.ite ?_ ?_)
   | (with_reducible refine LeO.bind ?_ (fun _ => ?_))
   | exact ih0 _ _ _
   | exact spec_comparePlaces.mono _ _ _
   | exact spec_sameValues.mono _ _ _
   | exact LeO.none _
   | refine LeO.ite ?_ ?_
   | refine LeO.bind ?_ (fun _ => ?_)
set_option maxHeartbeats 8000000 in
set_option maxRecDepth 100000 in
theorem spec_sameStore.calls (k : Nat) (A0 : Option Addr) (c0 : Nat) (l0 : List (S41)) (A1 : Option Addr) (c1 : Nat) (l1 : List (S41)) (r : Bool) (w : World) (hr0 : Kd.C k41 w A0 l0.length l0) (hc0 : l0.length ≤ c0) (hr1 : Kd.C k41 w A1 l1.length l1) (hc1 : l1.length ≤ c1) (h : spec_sameStore.f k l0 l1 = some r) :
  Calls Try.prog 54 #[.slice A0 l0.length c0, .slice A1 l1.length c1] w fun e w' => e = .returned (.bool r) ∧ Drawn0 w w' := by
 have HR0 := A_ hr0
 have HC0 := A_ hc0
 clear hr0 hc0
 have HR1 := A_ hr1
 have HC1 := A_ hc1
 clear hr1 hc1
 have H : (if (l0.length : Int) = (l1.length : Int) then (spec_sameStore.l0 k l0 l1 0) else (some false)) = some r := h
 clear h
 by_cases c3 : (l0.length : Int) = (l1.length : Int)
 ·rw [if_pos c3] at H
  have c3b0 : ((l0.length : Int) == (l1.length : Int)) = true := beq_iff_eq.mpr c3
  have c3b1 : ((l0.length : Int) != (l1.length : Int)) = false := bne_eq_false_iff_eq.mpr c3
  have c3b2 : (l0.length == l1.length) = true := by first | simpa using c3 | (simp at c3 ⊢; omega)
  clear c3
  have H' := A_ H
  clear H
  go_enter Try.func54, Try.ntmps54
  go_wp2
  repeat (go_quiet (fail); try go_wp2)
  go_loopg [5] k (fun kq v5 w' => ∃ (x5_1 : Int), v5 = .int .i64 x5_1 ∧ Aside0 (spec_sameStore.l0 kq l0 l1 x5_1 = some r) ∧ Aside0 (kq ≤ k) ∧ Drawn0 w w')
  case atStart => exact ⟨(0), Z22, H', ⟨Nat.le_refl _⟩, Z24⟩
  case round =>
   clear H'
   try clear c1
   try clear p2
   try clear c3
   try clear c3b0
   try clear c3b1
   try clear c3b2
   obtain ⟨x5_1, rfl, HA, HK1, ⟨m1, rfl⟩⟩ := hrel
   cases gk with
   | zero => exact absurd HA.out (by simp [spec_sameStore.l0])
   | succ k1 =>
    have H := HA.out
    clear HA
    simp only [spec_sameStore.l0] at H
    by_cases c4 : x5_1 < (l0.length : Int)
    ·rw [if_pos c4] at H
     have c4b0 : decide (x5_1 < (l0.length : Int)) = true := decide_eq_true c4
     clear c4
     by_cases c5 : 0 ≤ x5_1
     ·rw [if_pos c5] at H
      have c5b0 : decide (0 ≤ x5_1) = true := decide_eq_true c5
      clear c5
      by_cases c6 : x5_1 < (l1.length : Int)
      ·rw [if_pos c6] at H
       have c6b0 : decide (x5_1 < (l1.length : Int)) = true := decide_eq_true c6
       clear c6
       replace H := Option.bind_eq_some_iff.mp H
       obtain ⟨t441, A70, H⟩ := H
       replace H : (if t441 = 0 then ((spec_sameValues.f k1 ((rd_T41 l0 x5_1).f1) ((rd_T41 l1 x5_1).f1)).bind fun t444 => (if t444 = true then (spec_sameStore.l0 k1 l0 l1 (wrap64 (x5_1 + 1))) else (some false))) else (some false)) = some r := H
       have A7 := A_ A70
       clear A70
       by_cases c8 : t441 = 0
       ·rw [if_pos c8] at H
        have c8b0 : (t441 == 0) = true := beq_iff_eq.mpr c8
        have c8b1 : (t441 != 0) = false := bne_eq_false_iff_eq.mpr c8
        clear c8
        replace H := Option.bind_eq_some_iff.mp H
        obtain ⟨t444, A90, H⟩ := H
        replace H : (if t444 = true then (spec_sameStore.l0 k1 l0 l1 (wrap64 (x5_1 + 1))) else (some false)) = some r := H
        have A9 := A_ A90
        clear A90
        by_cases c10 : t444 = true
        ·subst c10
         have H1 : (spec_sameStore.l0 k1 l0 l1 (wrap64 (x5_1 + 1))) = some r := by rw [if_pos rfl] at H; exact H
         clear H
         have H := H1
         clear H1
         have H' := A_ H
         clear H
         have p439 : 0 ≤ (x5_1 : Int) := of_decide_eq_true Z13
         have q439 : x5_1 < (l0.length : Int) := of_decide_eq_true Z13
         obtain ⟨ad439, A439_0, c439_0, A439_1, c439_1, e439, hx439_0, hx439_1, hl439_0, hi439_0, hl439_1, hi439_1⟩ := at_T41 HR0.out x5_1 p439 q439
         cases e439
         have HR439_0 := A_ hi439_0
         have HC439_0 := A_ hl439_0
         clear hi439_0 hl439_0
         have HR439_1 := A_ hi439_1
         have HC439_1 := A_ hl439_1
         clear hi439_1 hl439_1
         replace p439 := eq_true p439
         replace q439 := eq_true q439
         have p440 : 0 ≤ (x5_1 : Int) := of_decide_eq_true Z13
         have q440 : x5_1 < (l1.length : Int) := of_decide_eq_true Z13
         obtain ⟨ad440, A440_0, c440_0, A440_1, c440_1, e440, hx440_0, hx440_1, hl440_0, hi440_0, hl440_1, hi440_1⟩ := at_T41 HR1.out x5_1 p440 q440
         cases e440
         have HR440_0 := A_ hi440_0
         have HC440_0 := A_ hl440_0
         clear hi440_0 hl440_0
         have HR440_1 := A_ hi440_1
         have HC440_1 := A_ hl440_1
         clear hi440_1 hl440_1
         replace p440 := eq_true p440
         replace q440 := eq_true q440
         go_wp2_with (first | (go_at_call 62; (with_reducible refine (spec_comparePlaces.calls k1 _ _ ((rd_T41 l0 x5_1).f0) _ _ ((rd_T41 l1 x5_1).f0) t441 _ ?side1 ?side2 ?side3 ?side4 A7.out).mono ?_); (case side1 => exact Z17 HR439_0.out); (case side2 => exact HC439_0.out); (case side3 => exact Z17 HR440_0.out); (case side4 => exact HC440_0.out); rintro e w' ⟨rfl, ⟨nd, rfl⟩⟩; (try first | exact ⟨rfl, _, World.drewN_drewN _ _ _⟩ | exact ⟨rfl, _, Eq.trans (World.drewN_drewN _ _ _) (congrArg (World.drewN _) (Nat.add_assoc _ _ _))⟩); have p442 : 0 ≤ (x5_1 : Int) := of_decide_eq_true Z13; have q442 : x5_1 < (l0.length : Int) := of_decide_eq_true Z13; obtain ⟨ad442, A442_0, c442_0, A442_1, c442_1, e442, hx442_0, hx442_1, hl442_0, hi442_0, hl442_1, hi442_1⟩ := at_T41 HR0.out x5_1 p442 q442; obtain rfl : ad439 = ad442 := (by injection e442); have HR442_0 := A_ hi442_0; have HC442_0 := A_ hl442_0; clear hi442_0 hl442_0; have HR442_1 := A_ hi442_1; have HC442_1 := A_ hl442_1; clear hi442_1 hl442_1; replace p442 := eq_true p442; replace q442 := eq_true q442; have ea_ := Option.some.inj (hx439_0.symm.trans hx442_0); injection ea_ with ea_ en_ ec_; subst ea_; subst ec_; clear en_; have ea_ := Option.some.inj (hx439_1.symm.trans hx442_1); injection ea_ with ea_ en_ ec_; subst ea_; subst ec_; clear en_; have p443 : 0 ≤ (x5_1 : Int) := of_decide_eq_true Z13; have q443 : x5_1 < (l1.length : Int) := of_decide_eq_true Z13; obtain ⟨ad443, A443_0, c443_0, A443_1, c443_1, e443, hx443_0, hx443_1, hl443_0, hi443_0, hl443_1, hi443_1⟩ := at_T41 HR1.out x5_1 p443 q443; obtain rfl : ad440 = ad443 := (by injection e443); have HR443_0 := A_ hi443_0; have HC443_0 := A_ hl443_0; clear hi443_0 hl443_0; have HR443_1 := A_ hi443_1; have HC443_1 := A_ hl443_1; clear hi443_1 hl443_1; replace p443 := eq_true p443; replace q443 := eq_true q443; have ea_ := Option.some.inj (hx440_0.symm.trans hx443_0); injection ea_ with ea_ en_ ec_; subst ea_; subst ec_; clear en_; have ea_ := Option.some.inj (hx440_1.symm.trans hx443_1); injection ea_ with ea_ en_ ec_; subst ea_; subst ec_; clear en_) | (go_at_call 48; (with_reducible refine (spec_sameValues.calls k1 _ _ ((rd_T41 l0 x5_1).f1) _ _ ((rd_T41 l1 x5_1).f1) true _ ?side1 ?side2 ?side3 ?side4 A9.out).mono ?_); (case side1 => exact Z17 HR442_1.out); (case side2 => exact HC442_1.out); (case side3 => exact Z17 HR443_1.out); (case side4 => exact HC443_1.out); rintro e w' ⟨rfl, ⟨nd, rfl⟩⟩; (try first | exact ⟨rfl, _, World.drewN_drewN _ _ _⟩ | exact ⟨rfl, _, Eq.trans (World.drewN_drewN _ _ _) (congrArg (World.drewN _) (Nat.add_assoc _ _ _))⟩)))
         repeat (go_quiet (first | (go_at_call 62; (with_reducible refine (spec_comparePlaces.calls k1 _ _ ((rd_T41 l0 x5_1).f0) _ _ ((rd_T41 l1 x5_1).f0) t441 _ ?side1 ?side2 ?side3 ?side4 A7.out).mono ?_); (case side1 => exact Z17 HR439_0.out); (case side2 => exact HC439_0.out); (case side3 => exact Z17 HR440_0.out); (case side4 => exact HC440_0.out); rintro e w' ⟨rfl, ⟨nd, rfl⟩⟩; (try first | exact ⟨rfl, _, World.drewN_drewN _ _ _⟩ | exact ⟨rfl, _, Eq.trans (World.drewN_drewN _ _ _) (congrArg (World.drewN _) (Nat.add_assoc _ _ _))⟩); have p442 : 0 ≤ (x5_1 : Int) := of_decide_eq_true Z13; have q442 : x5_1 < (l0.length : Int) := of_decide_eq_true Z13; obtain ⟨ad442, A442_0, c442_0, A442_1, c442_1, e442, hx442_0, hx442_1, hl442_0, hi442_0, hl442_1, hi442_1⟩ := at_T41 HR0.out x5_1 p442 q442; obtain rfl : ad439 = ad442 := (by injection e442); have HR442_0 := A_ hi442_0; have HC442_0 := A_ hl442_0; clear hi442_0 hl442_0; have HR442_1 := A_ hi442_1; have HC442_1 := A_ hl442_1; clear hi442_1 hl442_1; replace p442 := eq_true p442; replace q442 := eq_true q442; have ea_ := Option.some.inj (hx439_0.symm.trans hx442_0); injection ea_ with ea_ en_ ec_; subst ea_; subst ec_; clear en_; have ea_ := Option.some.inj (hx439_1.symm.trans hx442_1); injection ea_ with ea_ en_ ec_; subst ea_; subst ec_; clear en_; have p443 : 0 ≤ (x5_1 : Int) := of_decide_eq_true Z13; have q443 : x5_1 < (l1.length : Int) := of_decide_eq_true Z13; obtain ⟨ad443, A443_0, c443_0, A443_1, c443_1, e443, hx443_0, hx443_1, hl443_0, hi443_0, hl443_1, hi443_1⟩ := at_T41 HR1.out x5_1 p443 q443; obtain rfl : ad440 = ad443 := (by injection e443); have HR443_0 := A_ hi443_0; have HC443_0 := A_ hl443_0; clear hi443_0 hl443_0; have HR443_1 := A_ hi443_1; have HC443_1 := A_ hl443_1; clear hi443_1 hl443_1; replace p443 := eq_true p443; replace q443 := eq_true q443; have ea_ := Option.some.inj (hx440_0.symm.trans hx443_0); injection ea_ with ea_ en_ ec_; subst ea_; subst ec_; clear en_; have ea_ := Option.some.inj (hx440_1.symm.trans hx443_1); injection ea_ with ea_ en_ ec_; subst ea_; subst ec_; clear en_) | (go_at_call 48; (with_reducible refine (spec_sameValues.calls k1 _ _ ((rd_T41 l0 x5_1).f1) _ _ ((rd_T41 l1 x5_1).f1) true _ ?side1 ?side2 ?side3 ?side4 A9.out).mono ?_); (case side1 => exact Z17 HR442_1.out); (case side2 => exact HC442_1.out); (case side3 => exact Z17 HR443_1.out); (case side4 => exact HC443_1.out); rintro e w' ⟨rfl, ⟨nd, rfl⟩⟩; (try first | exact ⟨rfl, _, World.drewN_drewN _ _ _⟩ | exact ⟨rfl, _, Eq.trans (World.drewN_drewN _ _ _) (congrArg (World.drewN _) (Nat.add_assoc _ _ _))⟩))); try go_wp2_with (first | (go_at_call 62; (with_reducible refine (spec_comparePlaces.calls k1 _ _ ((rd_T41 l0 x5_1).f0) _ _ ((rd_T41 l1 x5_1).f0) t441 _ ?side1 ?side2 ?side3 ?side4 A7.out).mono ?_); (case side1 => exact Z17 HR439_0.out); (case side2 => exact HC439_0.out); (case side3 => exact Z17 HR440_0.out); (case side4 => exact HC440_0.out); rintro e w' ⟨rfl, ⟨nd, rfl⟩⟩; (try first | exact ⟨rfl, _, World.drewN_drewN _ _ _⟩ | exact ⟨rfl, _, Eq.trans (World.drewN_drewN _ _ _) (congrArg (World.drewN _) (Nat.add_assoc _ _ _))⟩); have p442 : 0 ≤ (x5_1 : Int) := of_decide_eq_true Z13; have q442 : x5_1 < (l0.length : Int) := of_decide_eq_true Z13; obtain ⟨ad442, A442_0, c442_0, A442_1, c442_1, e442, hx442_0, hx442_1, hl442_0, hi442_0, hl442_1, hi442_1⟩ := at_T41 HR0.out x5_1 p442 q442; obtain rfl : ad439 = ad442 := (by injection e442); have HR442_0 := A_ hi442_0; have HC442_0 := A_ hl442_0; clear hi442_0 hl442_0; have HR442_1 := A_ hi442_1; have HC442_1 := A_ hl442_1; clear hi442_1 hl442_1; replace p442 := eq_true p442; replace q442 := eq_true q442; have ea_ := Option.some.inj (hx439_0.symm.trans hx442_0); injection ea_ with ea_ en_ ec_; subst ea_; subst ec_; clear en_; have ea_ := Option.some.inj (hx439_1.symm.trans hx442_1); injection ea_ with ea_ en_ ec_; subst ea_; subst ec_; clear en_; have p443 : 0 ≤ (x5_1 : Int) := of_decide_eq_true Z13; have q443 : x5_1 < (l1.length : Int) := of_decide_eq_true Z13; obtain ⟨ad443, A443_0, c443_0, A443_1, c443_1, e443, hx443_0, hx443_1, hl443_0, hi443_0, hl443_1, hi443_1⟩ := at_T41 HR1.out x5_1 p443 q443; obtain rfl : ad440 = ad443 := (by injection e443); have HR443_0 := A_ hi443_0; have HC443_0 := A_ hl443_0; clear hi443_0 hl443_0; have HR443_1 := A_ hi443_1; have HC443_1 := A_ hl443_1; clear hi443_1 hl443_1; replace p443 := eq_true p443; replace q443 := eq_true q443; have ea_ := Option.some.inj (hx440_0.symm.trans hx443_0); injection ea_ with ea_ en_ ec_; subst ea_; subst ec_; clear en_; have ea_ := Option.some.inj (hx440_1.symm.trans hx443_1); injection ea_ with ea_ en_ ec_; subst ea_; subst ec_; clear en_) | (go_at_call 48; (with_reducible refine (spec_sameValues.calls k1 _ _ ((rd_T41 l0 x5_1).f1) _ _ ((rd_T41 l1 x5_1).f1) true _ ?side1 ?side2 ?side3 ?side4 A9.out).mono ?_); (case side1 => exact Z17 HR442_1.out); (case side2 => exact HC442_1.out); (case side3 => exact Z17 HR443_1.out); (case side4 => exact HC443_1.out); rintro e w' ⟨rfl, ⟨nd, rfl⟩⟩; (try first | exact ⟨rfl, _, World.drewN_drewN _ _ _⟩ | exact ⟨rfl, _, Eq.trans (World.drewN_drewN _ _ _) (congrArg (World.drewN _) (Nat.add_assoc _ _ _))⟩))))
         go_roundg k1
         case measure => have := HK1.out; omega
         case rel => exact ⟨(wrap64 (x5_1 + 1)), Z22, H', ⟨by have := HK1.out; omega⟩, Z24⟩
        ·replace c10 := Bool.eq_false_iff.mpr c10
         subst c10
         have H1 : (some false) = some r := by rw [if_neg (show ¬ (false = true) by decide)] at H; exact H
         clear H
         have H := H1
         clear H1
         obtain rfl := Option.some.inj H
         have p439 : 0 ≤ (x5_1 : Int) := of_decide_eq_true Z13
         have q439 : x5_1 < (l0.length : Int) := of_decide_eq_true Z13
         obtain ⟨ad439, A439_0, c439_0, A439_1, c439_1, e439, hx439_0, hx439_1, hl439_0, hi439_0, hl439_1, hi439_1⟩ := at_T41 HR0.out x5_1 p439 q439
         cases e439
         have HR439_0 := A_ hi439_0
         have HC439_0 := A_ hl439_0
         clear hi439_0 hl439_0
         have HR439_1 := A_ hi439_1
         have HC439_1 := A_ hl439_1
         clear hi439_1 hl439_1
         replace p439 := eq_true p439
         replace q439 := eq_true q439
         have p440 : 0 ≤ (x5_1 : Int) := of_decide_eq_true Z13
         have q440 : x5_1 < (l1.length : Int) := of_decide_eq_true Z13
         obtain ⟨ad440, A440_0, c440_0, A440_1, c440_1, e440, hx440_0, hx440_1, hl440_0, hi440_0, hl440_1, hi440_1⟩ := at_T41 HR1.out x5_1 p440 q440
         cases e440
         have HR440_0 := A_ hi440_0
         have HC440_0 := A_ hl440_0
         clear hi440_0 hl440_0
         have HR440_1 := A_ hi440_1
         have HC440_1 := A_ hl440_1
         clear hi440_1 hl440_1
         replace p440 := eq_true p440
         replace q440 := eq_true q440
         go_wp2_with (first | (go_at_call 62; (with_reducible refine (spec_comparePlaces.calls k1 _ _ ((rd_T41 l0 x5_1).f0) _ _ ((rd_T41 l1 x5_1).f0) t441 _ ?side1 ?side2 ?side3 ?side4 A7.out).mono ?_); (case side1 => exact Z17 HR439_0.out); (case side2 => exact HC439_0.out); (case side3 => exact Z17 HR440_0.out); (case side4 => exact HC440_0.out); rintro e w' ⟨rfl, ⟨nd, rfl⟩⟩; (try first | exact ⟨rfl, _, World.drewN_drewN _ _ _⟩ | exact ⟨rfl, _, Eq.trans (World.drewN_drewN _ _ _) (congrArg (World.drewN _) (Nat.add_assoc _ _ _))⟩); have p442 : 0 ≤ (x5_1 : Int) := of_decide_eq_true Z13; have q442 : x5_1 < (l0.length : Int) := of_decide_eq_true Z13; obtain ⟨ad442, A442_0, c442_0, A442_1, c442_1, e442, hx442_0, hx442_1, hl442_0, hi442_0, hl442_1, hi442_1⟩ := at_T41 HR0.out x5_1 p442 q442; obtain rfl : ad439 = ad442 := (by injection e442); have HR442_0 := A_ hi442_0; have HC442_0 := A_ hl442_0; clear hi442_0 hl442_0; have HR442_1 := A_ hi442_1; have HC442_1 := A_ hl442_1; clear hi442_1 hl442_1; replace p442 := eq_true p442; replace q442 := eq_true q442; have ea_ := Option.some.inj (hx439_0.symm.trans hx442_0); injection ea_ with ea_ en_ ec_; subst ea_; subst ec_; clear en_; have ea_ := Option.some.inj (hx439_1.symm.trans hx442_1); injection ea_ with ea_ en_ ec_; subst ea_; subst ec_; clear en_; have p443 : 0 ≤ (x5_1 : Int) := of_decide_eq_true Z13; have q443 : x5_1 < (l1.length : Int) := of_decide_eq_true Z13; obtain ⟨ad443, A443_0, c443_0, A443_1, c443_1, e443, hx443_0, hx443_1, hl443_0, hi443_0, hl443_1, hi443_1⟩ := at_T41 HR1.out x5_1 p443 q443; obtain rfl : ad440 = ad443 := (by injection e443); have HR443_0 := A_ hi443_0; have HC443_0 := A_ hl443_0; clear hi443_0 hl443_0; have HR443_1 := A_ hi443_1; have HC443_1 := A_ hl443_1; clear hi443_1 hl443_1; replace p443 := eq_true p443; replace q443 := eq_true q443; have ea_ := Option.some.inj (hx440_0.symm.trans hx443_0); injection ea_ with ea_ en_ ec_; subst ea_; subst ec_; clear en_; have ea_ := Option.some.inj (hx440_1.symm.trans hx443_1); injection ea_ with ea_ en_ ec_; subst ea_; subst ec_; clear en_) | (go_at_call 48; (with_reducible refine (spec_sameValues.calls k1 _ _ ((rd_T41 l0 x5_1).f1) _ _ ((rd_T41 l1 x5_1).f1) false _ ?side1 ?side2 ?side3 ?side4 A9.out).mono ?_); (case side1 => exact Z17 HR442_1.out); (case side2 => exact HC442_1.out); (case side3 => exact Z17 HR443_1.out); (case side4 => exact HC443_1.out); rintro e w' ⟨rfl, ⟨nd, rfl⟩⟩; (try first | exact ⟨rfl, _, World.drewN_drewN _ _ _⟩ | exact ⟨rfl, _, Eq.trans (World.drewN_drewN _ _ _) (congrArg (World.drewN _) (Nat.add_assoc _ _ _))⟩)))
         repeat (go_quiet (first | (go_at_call 62; (with_reducible refine (spec_comparePlaces.calls k1 _ _ ((rd_T41 l0 x5_1).f0) _ _ ((rd_T41 l1 x5_1).f0) t441 _ ?side1 ?side2 ?side3 ?side4 A7.out).mono ?_); (case side1 => exact Z17 HR439_0.out); (case side2 => exact HC439_0.out); (case side3 => exact Z17 HR440_0.out); (case side4 => exact HC440_0.out); rintro e w' ⟨rfl, ⟨nd, rfl⟩⟩; (try first | exact ⟨rfl, _, World.drewN_drewN _ _ _⟩ | exact ⟨rfl, _, Eq.trans (World.drewN_drewN _ _ _) (congrArg (World.drewN _) (Nat.add_assoc _ _ _))⟩); have p442 : 0 ≤ (x5_1 : Int) := of_decide_eq_true Z13; have q442 : x5_1 < (l0.length : Int) := of_decide_eq_true Z13; obtain ⟨ad442, A442_0, c442_0, A442_1, c442_1, e442, hx442_0, hx442_1, hl442_0, hi442_0, hl442_1, hi442_1⟩ := at_T41 HR0.out x5_1 p442 q442; obtain rfl : ad439 = ad442 := (by injection e442); have HR442_0 := A_ hi442_0; have HC442_0 := A_ hl442_0; clear hi442_0 hl442_0; have HR442_1 := A_ hi442_1; have HC442_1 := A_ hl442_1; clear hi442_1 hl442_1; replace p442 := eq_true p442; replace q442 := eq_true q442; have ea_ := Option.some.inj (hx439_0.symm.trans hx442_0); injection ea_ with ea_ en_ ec_; subst ea_; subst ec_; clear en_; have ea_ := Option.some.inj (hx439_1.symm.trans hx442_1); injection ea_ with ea_ en_ ec_; subst ea_; subst ec_; clear en_; have p443 : 0 ≤ (x5_1 : Int) := of_decide_eq_true Z13; have q443 : x5_1 < (l1.length : Int) := of_decide_eq_true Z13; obtain ⟨ad443, A443_0, c443_0, A443_1, c443_1, e443, hx443_0, hx443_1, hl443_0, hi443_0, hl443_1, hi443_1⟩ := at_T41 HR1.out x5_1 p443 q443; obtain rfl : ad440 = ad443 := (by injection e443); have HR443_0 := A_ hi443_0; have HC443_0 := A_ hl443_0; clear hi443_0 hl443_0; have HR443_1 := A_ hi443_1; have HC443_1 := A_ hl443_1; clear hi443_1 hl443_1; replace p443 := eq_true p443; replace q443 := eq_true q443; have ea_ := Option.some.inj (hx440_0.symm.trans hx443_0); injection ea_ with ea_ en_ ec_; subst ea_; subst ec_; clear en_; have ea_ := Option.some.inj (hx440_1.symm.trans hx443_1); injection ea_ with ea_ en_ ec_; subst ea_; subst ec_; clear en_) | (go_at_call 48; (with_reducible refine (spec_sameValues.calls k1 _ _ ((rd_T41 l0 x5_1).f1) _ _ ((rd_T41 l1 x5_1).f1) false _ ?side1 ?side2 ?side3 ?side4 A9.out).mono ?_); (case side1 => exact Z17 HR442_1.out); (case side2 => exact HC442_1.out); (case side3 => exact Z17 HR443_1.out); (case side4 => exact HC443_1.out); rintro e w' ⟨rfl, ⟨nd, rfl⟩⟩; (try first | exact ⟨rfl, _, World.drewN_drewN _ _ _⟩ | exact ⟨rfl, _, Eq.trans (World.drewN_drewN _ _ _) (congrArg (World.drewN _) (Nat.add_assoc _ _ _))⟩))); try go_wp2_with (first | (go_at_call 62; (with_reducible refine (spec_comparePlaces.calls k1 _ _ ((rd_T41 l0 x5_1).f0) _ _ ((rd_T41 l1 x5_1).f0) t441 _ ?side1 ?side2 ?side3 ?side4 A7.out).mono ?_); (case side1 => exact Z17 HR439_0.out); (case side2 => exact HC439_0.out); (case side3 => exact Z17 HR440_0.out); (case side4 => exact HC440_0.out); rintro e w' ⟨rfl, ⟨nd, rfl⟩⟩; (try first | exact ⟨rfl, _, World.drewN_drewN _ _ _⟩ | exact ⟨rfl, _, Eq.trans (World.drewN_drewN _ _ _) (congrArg (World.drewN _) (Nat.add_assoc _ _ _))⟩); have p442 : 0 ≤ (x5_1 : Int) := of_decide_eq_true Z13; have q442 : x5_1 < (l0.length : Int) := of_decide_eq_true Z13; obtain ⟨ad442, A442_0, c442_0, A442_1, c442_1, e442, hx442_0, hx442_1, hl442_0, hi442_0, hl442_1, hi442_1⟩ := at_T41 HR0.out x5_1 p442 q442; obtain rfl : ad439 = ad442 := (by injection e442); have HR442_0 := A_ hi442_0; have HC442_0 := A_ hl442_0; clear hi442_0 hl442_0; have HR442_1 := A_ hi442_1; have HC442_1 := A_ hl442_1; clear hi442_1 hl442_1; replace p442 := eq_true p442; replace q442 := eq_true q442; have ea_ := Option.some.inj (hx439_0.symm.trans hx442_0); injection ea_ with ea_ en_ ec_; subst ea_; subst ec_; clear en_; have ea_ := Option.some.inj (hx439_1.symm.trans hx442_1); injection ea_ with ea_ en_ ec_; subst ea_; subst ec_; clear en_; have p443 : 0 ≤ (x5_1 : Int) := of_decide_eq_true Z13; have q443 : x5_1 < (l1.length : Int) := of_decide_eq_true Z13; obtain ⟨ad443, A443_0, c443_0, A443_1, c443_1, e443, hx443_0, hx443_1, hl443_0, hi443_0, hl443_1, hi443_1⟩ := at_T41 HR1.out x5_1 p443 q443; obtain rfl : ad440 = ad443 := (by injection e443); have HR443_0 := A_ hi443_0; have HC443_0 := A_ hl443_0; clear hi443_0 hl443_0; have HR443_1 := A_ hi443_1; have HC443_1 := A_ hl443_1; clear hi443_1 hl443_1; replace p443 := eq_true p443; replace q443 := eq_true q443; have ea_ := Option.some.inj (hx440_0.symm.trans hx443_0); injection ea_ with ea_ en_ ec_; subst ea_; subst ec_; clear en_; have ea_ := Option.some.inj (hx440_1.symm.trans hx443_1); injection ea_ with ea_ en_ ec_; subst ea_; subst ec_; clear en_) | (go_at_call 48; (with_reducible refine (spec_sameValues.calls k1 _ _ ((rd_T41 l0 x5_1).f1) _ _ ((rd_T41 l1 x5_1).f1) false _ ?side1 ?side2 ?side3 ?side4 A9.out).mono ?_); (case side1 => exact Z17 HR442_1.out); (case side2 => exact HC442_1.out); (case side3 => exact Z17 HR443_1.out); (case side4 => exact HC443_1.out); rintro e w' ⟨rfl, ⟨nd, rfl⟩⟩; (try first | exact ⟨rfl, _, World.drewN_drewN _ _ _⟩ | exact ⟨rfl, _, Eq.trans (World.drewN_drewN _ _ _) (congrArg (World.drewN _) (Nat.add_assoc _ _ _))⟩))))
         go_ret
         exact ⟨Z22, Z24⟩
       ·rw [if_neg c8] at H
        have c8b0 : (t441 == 0) = false := beq_eq_false_iff_ne.mpr c8
        have c8b1 : (t441 != 0) = true := bne_iff_ne.mpr c8
        obtain rfl := Option.some.inj H
        have p439 : 0 ≤ (x5_1 : Int) := of_decide_eq_true Z13
        have q439 : x5_1 < (l0.length : Int) := of_decide_eq_true Z13
        obtain ⟨ad439, A439_0, c439_0, A439_1, c439_1, e439, hx439_0, hx439_1, hl439_0, hi439_0, hl439_1, hi439_1⟩ := at_T41 HR0.out x5_1 p439 q439
        cases e439
        have HR439_0 := A_ hi439_0
        have HC439_0 := A_ hl439_0
        clear hi439_0 hl439_0
        have HR439_1 := A_ hi439_1
        have HC439_1 := A_ hl439_1
        clear hi439_1 hl439_1
        replace p439 := eq_true p439
        replace q439 := eq_true q439
        have p440 : 0 ≤ (x5_1 : Int) := of_decide_eq_true Z13
        have q440 : x5_1 < (l1.length : Int) := of_decide_eq_true Z13
        obtain ⟨ad440, A440_0, c440_0, A440_1, c440_1, e440, hx440_0, hx440_1, hl440_0, hi440_0, hl440_1, hi440_1⟩ := at_T41 HR1.out x5_1 p440 q440
        cases e440
        have HR440_0 := A_ hi440_0
        have HC440_0 := A_ hl440_0
        clear hi440_0 hl440_0
        have HR440_1 := A_ hi440_1
        have HC440_1 := A_ hl440_1
        clear hi440_1 hl440_1
        replace p440 := eq_true p440
        replace q440 := eq_true q440
        go_wp2_with (first | (go_at_call 62; (with_reducible refine (spec_comparePlaces.calls k1 _ _ ((rd_T41 l0 x5_1).f0) _ _ ((rd_T41 l1 x5_1).f0) t441 _ ?side1 ?side2 ?side3 ?side4 A7.out).mono ?_); (case side1 => exact Z17 HR439_0.out); (case side2 => exact HC439_0.out); (case side3 => exact Z17 HR440_0.out); (case side4 => exact HC440_0.out); rintro e w' ⟨rfl, ⟨nd, rfl⟩⟩; (try first | exact ⟨rfl, _, World.drewN_drewN _ _ _⟩ | exact ⟨rfl, _, Eq.trans (World.drewN_drewN _ _ _) (congrArg (World.drewN _) (Nat.add_assoc _ _ _))⟩)))
        repeat (go_quiet (first | (go_at_call 62; (with_reducible refine (spec_comparePlaces.calls k1 _ _ ((rd_T41 l0 x5_1).f0) _ _ ((rd_T41 l1 x5_1).f0) t441 _ ?side1 ?side2 ?side3 ?side4 A7.out).mono ?_); (case side1 => exact Z17 HR439_0.out); (case side2 => exact HC439_0.out); (case side3 => exact Z17 HR440_0.out); (case side4 => exact HC440_0.out); rintro e w' ⟨rfl, ⟨nd, rfl⟩⟩; (try first | exact ⟨rfl, _, World.drewN_drewN _ _ _⟩ | exact ⟨rfl, _, Eq.trans (World.drewN_drewN _ _ _) (congrArg (World.drewN _) (Nat.add_assoc _ _ _))⟩))); try go_wp2_with (first | (go_at_call 62; (with_reducible refine (spec_comparePlaces.calls k1 _ _ ((rd_T41 l0 x5_1).f0) _ _ ((rd_T41 l1 x5_1).f0) t441 _ ?side1 ?side2 ?side3 ?side4 A7.out).mono ?_); (case side1 => exact Z17 HR439_0.out); (case side2 => exact HC439_0.out); (case side3 => exact Z17 HR440_0.out); (case side4 => exact HC440_0.out); rintro e w' ⟨rfl, ⟨nd, rfl⟩⟩; (try first | exact ⟨rfl, _, World.drewN_drewN _ _ _⟩ | exact ⟨rfl, _, Eq.trans (World.drewN_drewN _ _ _) (congrArg (World.drewN _) (Nat.add_assoc _ _ _))⟩))))
        go_ret
        exact ⟨Z22, Z24⟩
      ·rw [if_neg c6] at H
       exact absurd H (by simp)
     ·rw [if_neg c5] at H
      exact absurd H (by simp)
    ·rw [if_neg c4] at H
     have c4b0 : decide (x5_1 < (l0.length : Int)) = false := decide_eq_false c4
     clear c4
     obtain rfl := Option.some.inj H
     go_wp2
     repeat (go_quiet (fail); try go_wp2)
     go_ret
     exact ⟨Z22, Z24⟩
 ·rw [if_neg c3] at H
  have c3b0 : ((l0.length : Int) == (l1.length : Int)) = false := beq_eq_false_iff_ne.mpr c3
  have c3b1 : ((l0.length : Int) != (l1.length : Int)) = true := bne_iff_ne.mpr c3
  have c3b2 : (l0.length == l1.length) = false := by first | simpa using c3 | (simp at c3 ⊢; omega)
  obtain rfl := Option.some.inj H
  go_enter Try.func54, Try.ntmps54
  go_wp2
  repeat (go_quiet (fail); try go_wp2)
  go_ret
  exact ⟨Z22, Z24⟩
def spec_SameStore.f (k : Nat) (l0 : List (S41)) (l1 : List (S41)) : Option (Bool) := (spec_sameStore.f k l0 l1).bind fun t445 => (some t445)
theorem spec_SameStore.mono : ∀ a0 a1 k, LeO (spec_SameStore.f k a0 a1) (spec_SameStore.f (k + 1) a0 a1) := by
 intro a0 a1 k
 unfold spec_SameStore.f
 repeat' first
   | (with_reducible exact spec_sameStore.mono _ _ _)
   | (with_reducible exact LeO.refl _)
   | (with_reducible exact LeO.none _)
   | (with_reducible refine LeO.ite ?_ ?_)
   | (with_reducible refine LeO.bind ?_ (fun _ => ?_))
   | exact spec_sameStore.mono _ _ _
   | exact LeO.none _
   | refine LeO.ite ?_ ?_
   | refine LeO.bind ?_ (fun _ => ?_)
set_option maxHeartbeats 8000000 in
set_option maxRecDepth 100000 in
theorem spec_SameStore.calls (k : Nat) (A0 : Option Addr) (c0 : Nat) (l0 : List (S41)) (A1 : Option Addr) (c1 : Nat) (l1 : List (S41)) (r : Bool) (w : World) (hr0 : Kd.C k41 w A0 l0.length l0) (hc0 : l0.length ≤ c0) (hr1 : Kd.C k41 w A1 l1.length l1) (hc1 : l1.length ≤ c1) (h : spec_SameStore.f k l0 l1 = some r) :
  Calls Try.prog 23 #[.slice A0 l0.length c0, .slice A1 l1.length c1] w fun e w' => e = .returned (.bool r) ∧ Drawn0 w w' := by
 have HR0 := A_ hr0
 have HC0 := A_ hc0
 clear hr0 hc0
 have HR1 := A_ hr1
 have HC1 := A_ hc1
 clear hr1 hc1
 have H : ((spec_sameStore.f k l0 l1).bind fun t445 => (some t445)) = some r := h
 clear h
 replace H := Option.bind_eq_some_iff.mp H
 obtain ⟨t445, A30, H⟩ := H
 replace H : (some t445) = some r := H
 have A3 := A_ A30
 clear A30
 obtain rfl := Option.some.inj H
 go_enter Try.func23, Try.ntmps23
 go_wp2_with (first | ((with_reducible refine gate_callee (f := 54) rfl ?_); refine goesL_ (some 7) rfl rfl Try.func54 (by kernel_rfl) rfl #[.slice A0 l0.length c0, .slice A1 l1.length c1] rfl Z3 ?_; (with_reducible refine (spec_sameStore.calls k _ _ l0 _ _ l1 t445 _ ?side1 ?side2 ?side3 ?side4 A3.out).mono ?_); (case side1 => exact Z17 HR0.out); (case side2 => exact HC0.out); (case side3 => exact Z17 HR1.out); (case side4 => exact HC1.out); rintro e w' ⟨rfl, ⟨nd, rfl⟩⟩; refine ⟨_, rfl, ?_⟩))
 go_ret
 exact ⟨Z22, Z24⟩
def impl_PlaceUnder.f (k : Nat) (l0 : List (S68)) (l1 : List (S68)) : Option (Bool) := (impl_PlaceOk.f k l0).bind fun t446 => (if t446 = true then ((impl_PlaceOk.f k l1).bind fun t447 => (if t447 = true then ((impl_placeUnder.f k l0 l1).bind fun t448 => (some t448)) else (some false))) else (some false))
theorem impl_PlaceUnder.mono : ∀ a0 a1 k, LeO (impl_PlaceUnder.f k a0 a1) (impl_PlaceUnder.f (k + 1) a0 a1) := by
 intro a0 a1 k
 unfold impl_PlaceUnder.f
 repeat' first
   | (with_reducible exact impl_PlaceOk.mono _ _)
   | (with_reducible exact impl_placeUnder.mono _ _ _)
   | (with_reducible exact LeO.refl _)
   | (with_reducible exact LeO.none _)
   | (with_reducible refine LeO.ite ?_ ?_)
   | (with_reducible refine LeO.bind ?_ (fun _ => ?_))
   | exact impl_PlaceOk.mono _ _
   | exact impl_placeUnder.mono _ _ _
   | exact LeO.none _
   | refine LeO.ite ?_ ?_
   | refine LeO.bind ?_ (fun _ => ?_)
set_option maxHeartbeats 8000000 in
set_option maxRecDepth 100000 in
theorem impl_PlaceUnder.calls (k : Nat) (A0 : Option Addr) (c0 : Nat) (l0 : List (S68)) (A1 : Option Addr) (c1 : Nat) (l1 : List (S68)) (r : Bool) (w : World) (hr0 : Kd.C k68 w A0 l0.length l0) (hc0 : l0.length ≤ c0) (hr1 : Kd.C k68 w A1 l1.length l1) (hc1 : l1.length ≤ c1) (h : impl_PlaceUnder.f k l0 l1 = some r) :
  Calls Try.prog 25 #[.slice A0 l0.length c0, .slice A1 l1.length c1] w fun e w' => e = .returned (.bool r) ∧ Below w.heap.size w w' := by
 have HR0 := A_ hr0
 have HC0 := A_ hc0
 clear hr0 hc0
 have HR1 := A_ hr1
 have HC1 := A_ hc1
 clear hr1 hc1
 have HB := A_ (Below.refl w.heap.size w)
 have H : ((impl_PlaceOk.f k l0).bind fun t446 => (if t446 = true then ((impl_PlaceOk.f k l1).bind fun t447 => (if t447 = true then ((impl_placeUnder.f k l0 l1).bind fun t448 => (some t448)) else (some false))) else (some false))) = some r := h
 clear h
 replace H := Option.bind_eq_some_iff.mp H
 obtain ⟨t446, A30, H⟩ := H
 replace H : (if t446 = true then ((impl_PlaceOk.f k l1).bind fun t447 => (if t447 = true then ((impl_placeUnder.f k l0 l1).bind fun t448 => (some t448)) else (some false))) else (some false)) = some r := H
 have A3 := A_ A30
 clear A30
 by_cases c4 : t446 = true
 ·subst c4
  have H1 : ((impl_PlaceOk.f k l1).bind fun t447 => (if t447 = true then ((impl_placeUnder.f k l0 l1).bind fun t448 => (some t448)) else (some false))) = some r := by rw [if_pos rfl] at H; exact H
  clear H
  have H := H1
  clear H1
  replace H := Option.bind_eq_some_iff.mp H
  obtain ⟨t447, A50, H⟩ := H
  replace H : (if t447 = true then ((impl_placeUnder.f k l0 l1).bind fun t448 => (some t448)) else (some false)) = some r := H
  have A5 := A_ A50
  clear A50
  by_cases c6 : t447 = true
  ·subst c6
   have H1 : ((impl_placeUnder.f k l0 l1).bind fun t448 => (some t448)) = some r := by rw [if_pos rfl] at H; exact H
   clear H
   have H := H1
   clear H1
   replace H := Option.bind_eq_some_iff.mp H
   obtain ⟨t448, A70, H⟩ := H
   replace H : (some t448) = some r := H
   have A7 := A_ A70
   clear A70
   obtain rfl := Option.some.inj H
   go_enter Try.func25, Try.ntmps25
   go_wp2_with (first | ((with_reducible refine gate_callee (f := 24) rfl ?_); refine goesL_ (some 6) rfl rfl Try.func24 (by kernel_rfl) rfl #[.slice A0 l0.length c0] rfl Z3 ?_; (with_reducible refine (impl_PlaceOk.calls k _ _ l0 true _ ?side1 ?side2 A3.out).mono ?_); (case side1 => exact Z17 HR0.out); (case side2 => exact HC0.out); rintro e w8 ⟨rfl, hb⟩; refine ⟨_, rfl, ?_⟩; have n0_ := A_ (below_step Z1 hb); clear HB; have HB := n0_; clear n0_; (try clear hb); (try clear hb2); (try clear hk); (try clear hi)) | (go_at_call 24; (with_reducible refine (impl_PlaceOk.calls k _ _ l1 true _ ?side1 ?side2 A5.out).mono ?_); (case side1 => exact Z12 HR1.out); (case side2 => exact HC1.out); rintro e w9 ⟨rfl, hb⟩; have n0_ := A_ (below_step Z1 hb); clear HB; have HB := n0_; clear n0_; (try clear hb); (try clear hb2); (try clear hk); (try clear hi)) | (go_at_call 49; (with_reducible refine (impl_placeUnder.calls k _ _ l0 _ _ l1 t448 _ ?side1 ?side2 ?side3 ?side4 A7.out).mono ?_); (case side1 => exact Z12 HR0.out); (case side2 => exact HC0.out); (case side3 => exact Z12 HR1.out); (case side4 => exact HC1.out); rintro e w10 ⟨rfl, hb⟩; have n0_ := A_ (below_step Z1 hb); clear HB; have HB := n0_; clear n0_; (try clear hb); (try clear hb2); (try clear hk); (try clear hi)))
   go_ret
   exact ⟨Z18, Z1⟩
  ·replace c6 := Bool.eq_false_iff.mpr c6
   subst c6
   have H1 : (some false) = some r := by rw [if_neg (show ¬ (false = true) by decide)] at H; exact H
   clear H
   have H := H1
   clear H1
   obtain rfl := Option.some.inj H
   go_enter Try.func25, Try.ntmps25
   go_wp2_with (first | ((with_reducible refine gate_callee (f := 24) rfl ?_); refine goesL_ (some 6) rfl rfl Try.func24 (by kernel_rfl) rfl #[.slice A0 l0.length c0] rfl Z3 ?_; (with_reducible refine (impl_PlaceOk.calls k _ _ l0 true _ ?side1 ?side2 A3.out).mono ?_); (case side1 => exact Z17 HR0.out); (case side2 => exact HC0.out); rintro e w11 ⟨rfl, hb⟩; refine ⟨_, rfl, ?_⟩; have n0_ := A_ (below_step Z1 hb); clear HB; have HB := n0_; clear n0_; (try clear hb); (try clear hb2); (try clear hk); (try clear hi)) | (go_at_call 24; (with_reducible refine (impl_PlaceOk.calls k _ _ l1 false _ ?side1 ?side2 A5.out).mono ?_); (case side1 => exact Z12 HR1.out); (case side2 => exact HC1.out); rintro e w12 ⟨rfl, hb⟩; have n0_ := A_ (below_step Z1 hb); clear HB; have HB := n0_; clear n0_; (try clear hb); (try clear hb2); (try clear hk); (try clear hi)))
   go_ret
   exact ⟨Z18, Z1⟩
 ·replace c4 := Bool.eq_false_iff.mpr c4
  subst c4
  have H1 : (some false) = some r := by rw [if_neg (show ¬ (false = true) by decide)] at H; exact H
  clear H
  have H := H1
  clear H1
  obtain rfl := Option.some.inj H
  go_enter Try.func25, Try.ntmps25
  go_wp2_with (first | ((with_reducible refine gate_callee (f := 24) rfl ?_); refine goesL_ (some 6) rfl rfl Try.func24 (by kernel_rfl) rfl #[.slice A0 l0.length c0] rfl Z3 ?_; (with_reducible refine (impl_PlaceOk.calls k _ _ l0 false _ ?side1 ?side2 A3.out).mono ?_); (case side1 => exact Z17 HR0.out); (case side2 => exact HC0.out); rintro e w13 ⟨rfl, hb⟩; refine ⟨_, rfl, ?_⟩; have n0_ := A_ (below_step Z1 hb); clear HB; have HB := n0_; clear n0_; (try clear hb); (try clear hb2); (try clear hk); (try clear hi)))
  go_ret
  exact ⟨Z18, Z1⟩
end Go.Proofs.Ytheifobeaemegaa.PFnStoreCut
