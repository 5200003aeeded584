/- Walks of the functions that the law 'FnExactEffectsLive' reaches, part 3: for each a Lean function and the proof that Go's comes to just its answer (lines of the print, under own names; no condition). -/
import Derived.Test.YtpadhphdglbciaaZFnExactEffectsLiveQFnExactEffectsLivex0
import Derived.Test.YtpadhphdglbciaaZFnExactEffectsLiveQFnExactEffectsLivex2
namespace Go.Proofs.Ytpadhphdglbciaa.PFnExactEffectsLive
open Go.RowKit Go.Proofs.YtpadhphdglbciaaW.PrintWords Go.Proofs.YtpadhphdglbciaaW.PrintLast Go.Proofs.YtpadhphdglbciaaW.PrintMore
attribute [local go_sem] max2_int min2_int max_two min_two max_three min_three max_four min_four
set_option linter.unusedVariables false
set_option linter.unusedSimpArgs false
def spec_validPlace.l0 : Nat → List (S92) → Int → Option (Bool)
 | 0, _, _ => none
 | k + 1, x0, x3 => if x3 < (x0.length : Int) then (if 0 ≤ x3 then ((spec_validSlot.f ((rd_T92 x0 x3).f0) ((rd_T92 x0 x3).f1)).bind fun t119 => (if t119 = true then (spec_validPlace.l0 k x0 (wrap64 (x3 + 1))) else (some false))) else (none)) else (some true)
def spec_validPlace.f (k : Nat) (l0 : List (S92)) : Option (Bool) := if (l0.length : Int) > 20 then (some false) else (spec_validPlace.l0 k l0 0)
theorem spec_validPlace.mono_l : ∀ k, (∀ y0 y1, LeO (spec_validPlace.l0 k y0 y1) (spec_validPlace.l0 (k + 1) y0 y1))
 | 0 => fun _ _ r h => by simp [spec_validPlace.l0] at h
 | k + 1 => by
  have ih0 := spec_validPlace.mono_l k
  ·intro y0 y1
   unfold spec_validPlace.l0
   repeat' first
   | (with_reducible exact ih0 _ _)
   | (with_reducible exact LeO.refl _)
   | (with_reducible exact LeO.none _)
   | (with_reducible refine LeO.ite ?_ ?_)
   | (with_reducible refine LeO.bind ?_ (fun _ => ?_))
   | exact ih0 _ _
   | exact LeO.none _
   | refine LeO.ite ?_ ?_
   | refine LeO.bind ?_ (fun _ => ?_)
theorem spec_validPlace.mono : ∀ a0 k, LeO (spec_validPlace.f k a0) (spec_validPlace.f (k + 1) a0) := by
 intro a0 k
 have ih0 := spec_validPlace.mono_l k
 unfold spec_validPlace.f
 repeat' first
   | (with_reducible exact ih0 _ _)
   | (with_reducible exact LeO.refl _)
   | (with_reducible exact LeO.none _)
   | (with_reducible refine LeO.ite ?_ ?_)
   | (with_reducible refine LeO.bind ?_ (fun _ => ?_))
   | exact ih0 _ _
   | exact LeO.none _
   | refine LeO.ite ?_ ?_
   | refine LeO.bind ?_ (fun _ => ?_)
set_option maxHeartbeats 8000000 in
set_option maxRecDepth 100000 in
theorem spec_validPlace.calls (k : Nat) (A0 : Option Addr) (c0 : Nat) (l0 : List (S92)) (r : Bool) (w : World) (hr0 : Kd.C k92 w A0 l0.length l0) (hc0 : l0.length ≤ c0) (h : spec_validPlace.f k l0 = some r) :
  Calls Try.prog 49 #[.slice A0 l0.length c0] w fun e w' => e = .returned (.bool r) ∧ Below w.heap.size w w' := by
 have hu92 := Try.underlying92
 have HR0 := A_ hr0
 have HC0 := A_ hc0
 clear hr0 hc0
 have HB := A_ (Below.refl w.heap.size w)
 have H : (if (l0.length : Int) > 20 then (some false) else (spec_validPlace.l0 k l0 0)) = some r := h
 clear h
 by_cases c2 : (l0.length : Int) > 20
 ·rw [if_pos c2] at H
  have c2b0 : decide (20 < (l0.length : Int)) = true := decide_eq_true c2
  have c2b1 : decide (20 < l0.length) = true := decide_eq_true (by omega)
  clear c2
  obtain rfl := Option.some.inj H
  go_enter Try.func49, Try.ntmps49
  go_wp2
  go_ret
  exact ⟨Z14, Z0⟩
 ·rw [if_neg c2] at H
  have c2b0 : decide (20 < (l0.length : Int)) = false := decide_eq_false c2
  have c2b1 : decide (20 < l0.length) = false := decide_eq_false (by omega)
  clear c2
  have H' := A_ H
  clear H
  go_enter Try.func49, Try.ntmps49
  go_wp2
  go_loopg [3] k (fun kq v3 w' => ∃ (x3_1 : Int), v3 = .int .i64 x3_1 ∧ Aside0 (spec_validPlace.l0 kq l0 x3_1 = some r) ∧ Aside0 (kq ≤ k) ∧ Aside0 (Below w.heap.size w w'))
  case atStart => exact ⟨(0), Z17, H', ⟨Nat.le_refl _⟩, ⟨Z0⟩⟩
  case round =>
   clear H'
   try clear c2
   try clear c2b0
   try clear c2b1
   try clear p2
   obtain ⟨x3_1, rfl, HA, HK1, HB⟩ := hrel
   cases gk with
   | zero => exact absurd HA.out (by simp [spec_validPlace.l0])
   | succ k1 =>
    have H := HA.out
    clear HA
    simp only [spec_validPlace.l0] at H
    by_cases c3 : x3_1 < (l0.length : Int)
    ·rw [if_pos c3] at H
     have c3b0 : decide (x3_1 < (l0.length : Int)) = true := decide_eq_true c3
     clear c3
     by_cases c4 : 0 ≤ x3_1
     ·rw [if_pos c4] at H
      have c4b0 : decide (0 ≤ x3_1) = true := decide_eq_true c4
      clear c4
      replace H := Option.bind_eq_some_iff.mp H
      obtain ⟨t119, A50, H⟩ := H
      replace H : (if t119 = true then (spec_validPlace.l0 k1 l0 (wrap64 (x3_1 + 1))) else (some false)) = some r := H
      have A5 := A_ A50
      clear A50
      by_cases c6 : t119 = true
      ·subst c6
       have H1 : (spec_validPlace.l0 k1 l0 (wrap64 (x3_1 + 1))) = some r := by rw [if_pos rfl] at H; exact H
       clear H
       have H := H1
       clear H1
       have H' := A_ H
       clear H
       have p118 : 0 ≤ (x3_1 : Int) := of_decide_eq_true Z9
       have q118 : x3_1 < (l0.length : Int) := of_decide_eq_true Z9
       obtain ⟨ad118, e118, hx118_0, hx118_1⟩ := at_T92 HR0.out x3_1 p118 q118
       cases e118
       replace hx118_0 := ZC HB.out hx118_0
       replace hx118_1 := ZC HB.out hx118_1
       replace p118 := eq_true p118
       replace q118 := eq_true q118
       go_wp2_with (first | ((with_reducible refine gate_callee (f := 91) rfl ?_); refine goesL_ (some 17) rfl rfl Try.func91 (by kernel_rfl) rfl #[.agg #[.int .i64 ((rd_T92 l0 x3_1).f0), .int .i64 ((rd_T92 l0 x3_1).f1)]] rfl Z8 ?_; (with_reducible refine (spec_validSlot.calls ((rd_T92 l0 x3_1).f0) ((rd_T92 l0 x3_1).f1) true _ A5.out).mono ?_); rintro e w7 ⟨rfl, hb⟩; refine ⟨_, rfl, ?_⟩; have n0_ := A_ (below_step Z0 hb); clear HB; have HB := n0_; clear n0_; (try clear hb); (try clear hb2); (try clear hk); (try clear hi)))
       go_roundg k1
       case measure => have := HK1.out; omega
       case rel => exact ⟨(wrap64 (x3_1 + 1)), Z17, H', ⟨by have := HK1.out; omega⟩, ⟨Z0⟩⟩
      ·replace c6 := Bool.eq_false_iff.mpr c6
       subst c6
       have H1 : (some false) = some r := by rw [if_neg (show ¬ (false = true) by decide)] at H; exact H
       clear H
       have H := H1
       clear H1
       obtain rfl := Option.some.inj H
       have p118 : 0 ≤ (x3_1 : Int) := of_decide_eq_true Z9
       have q118 : x3_1 < (l0.length : Int) := of_decide_eq_true Z9
       obtain ⟨ad118, e118, hx118_0, hx118_1⟩ := at_T92 HR0.out x3_1 p118 q118
       cases e118
       replace hx118_0 := ZC HB.out hx118_0
       replace hx118_1 := ZC HB.out hx118_1
       replace p118 := eq_true p118
       replace q118 := eq_true q118
       go_wp2_with (first | ((with_reducible refine gate_callee (f := 91) rfl ?_); refine goesL_ (some 17) rfl rfl Try.func91 (by kernel_rfl) rfl #[.agg #[.int .i64 ((rd_T92 l0 x3_1).f0), .int .i64 ((rd_T92 l0 x3_1).f1)]] rfl Z8 ?_; (with_reducible refine (spec_validSlot.calls ((rd_T92 l0 x3_1).f0) ((rd_T92 l0 x3_1).f1) false _ A5.out).mono ?_); rintro e w8 ⟨rfl, hb⟩; refine ⟨_, rfl, ?_⟩; have n0_ := A_ (below_step Z0 hb); clear HB; have HB := n0_; clear n0_; (try clear hb); (try clear hb2); (try clear hk); (try clear hi)))
       go_ret
       exact ⟨Z14, Z0⟩
     ·rw [if_neg c4] at H
      exact absurd H (by simp)
    ·rw [if_neg c3] at H
     have c3b0 : decide (x3_1 < (l0.length : Int)) = false := decide_eq_false c3
     clear c3
     obtain rfl := Option.some.inj H
     go_wp2
     go_ret
     exact ⟨Z14, Z0⟩
mutual
def spec_EffectsLive.l0 : Nat → List (S75) → List (List (S92)) → Int → Option ((List (List (S92))) × Bool)
 | 0, _, _, _ => none
 | k + 1, x0, x4, x5 => if x5 < (x0.length : Int) then (if 0 ≤ x5 then ((spec_slotsAt.f k x4 ((rd_T75 x0 x5).f1)).bind fun t124 => ((spec_validPlace.f k ((rd_T75 x0 x5).f1)).bind fun t126 => (if t126 = true then ((spec_inRange.f ((rd_T75 x0 x5).f0) 0 2).bind fun t128 => (if t128 = true then (spec_EffectsLive.j1 k x0 x4 x5 t124 ((decide (t124 ≥ 0)) == (((rd_T75 x0 x5).f0) == 1))) else (spec_EffectsLive.j1 k x0 x4 x5 t124 true))) else (spec_EffectsLive.j1 k x0 x4 x5 t124 true)))) else (none)) else (some (x4, true))
def spec_EffectsLive.j1 : Nat → List (S75) → List (List (S92)) → Int → Int → Bool → Option ((List (List (S92))) × Bool)
 | 0, _, _, _, _, _ => none
 | k + 1, x0, x4, x5, x6, x50 => if x50 = true then (some (([] : List (List (S92))), false)) else (if 0 ≤ x5 then (if x5 < (x0.length : Int) then (if ((rd_T75 x0 x5).f0) = 1 then ((some (([] : List (S92)) : List (S92))).bind fun y131 => (if y131.length + ((rd_T75 x0 x5).f1).length < 8796093022208 then (if x4.length < 5864062014805 then (spec_EffectsLive.l0 k x0 (x4 ++ [(y131 ++ ((rd_T75 x0 x5).f1))]) (wrap64 (x5 + 1))) else (none)) else (none))) else (if ((rd_T75 x0 x5).f0) = 0 then ((some (([] : List (List (S92))) : List (List (S92)))).bind fun y141 => (if 0 ≤ x6 then (if x6 ≤ (x4.length : Int) then ((some (x4.take (x6 : Int).toNat : List (List (S92)))).bind fun y144 => (if y141.length + y144.length < 5864062014805 then ((some (y141 ++ y144 : List (List (S92)))).bind fun y149 => (if 0 ≤ (wrap64 (x6 + 1)) then (if (wrap64 (x6 + 1)) ≤ (x4.length : Int) then ((some (x4.drop ((wrap64 (x6 + 1)) : Int).toNat : List (List (S92)))).bind fun y152 => (if y149.length + y152.length < 5864062014805 then (spec_EffectsLive.l0 k x0 (y149 ++ y152) (wrap64 (x5 + 1))) else (none))) else (none)) else (none))) else (none))) else (none)) else (none))) else (spec_EffectsLive.l0 k x0 x4 (wrap64 (x5 + 1))))) else (none)) else (none))
end
def spec_EffectsLive.f (k : Nat) (l0 : List (S75)) : Option ((List (List (S92))) × Bool) := if (l0.length : Int) > 400 then (some (([] : List (List (S92))), false)) else (spec_EffectsLive.l0 k l0 (([] : List (List (S92)))) 0)
theorem spec_EffectsLive.mono_l : ∀ k, (∀ y0 y1 y2, LeO (spec_EffectsLive.l0 k y0 y1 y2) (spec_EffectsLive.l0 (k + 1) y0 y1 y2)) ∧ (∀ y0 y1 y2 y3 y4, LeO (spec_EffectsLive.j1 k y0 y1 y2 y3 y4) (spec_EffectsLive.j1 (k + 1) y0 y1 y2 y3 y4))
 | 0 => ⟨fun _ _ _ r h => by simp [spec_EffectsLive.l0] at h, fun _ _ _ _ _ r h => by simp [spec_EffectsLive.j1] at h⟩
 | k + 1 => by
  obtain ⟨ih0, ih1⟩ := spec_EffectsLive.mono_l k
  refine ⟨?_, ?_⟩
  ·intro y0 y1 y2
   unfold spec_EffectsLive.l0
   repeat' first
   | (with_reducible exact ih0 _ _ _)
   | (with_reducible exact ih1 _ _ _ _ _)
   | (with_reducible exact spec_slotsAt.mono _ _ _)
   | (with_reducible exact spec_validPlace.mono _ _)
   | (with_reducible exact LeO.refl _)
   | (with_reducible exact LeO.none _)
   | (with_reducible refine LeO.ite ?_ ?_)
   | (with_reducible refine LeO.bind ?_ (fun _ => ?_))
   | exact ih0 _ _ _
   | exact ih1 _ _ _ _ _
   | exact spec_slotsAt.mono _ _ _
   | exact spec_validPlace.mono _ _
   | exact LeO.none _
   | refine LeO.ite ?_ ?_
   | refine LeO.bind ?_ (fun _ => ?_)
  ·intro y0 y1 y2 y3 y4
   unfold spec_EffectsLive.j1
   repeat' first
   | (with_reducible exact ih0 _ _ _)
   | (with_reducible exact ih1 _ _ _ _ _)
   | (with_reducible exact spec_slotsAt.mono _ _ _)
   | (with_reducible exact spec_validPlace.mono _ _)
   | (with_reducible exact LeO.refl _)
   | (with_reducible exact LeO.none _)
   | (with_reducible refine LeO.ite ?_ ?_)
   | (with_reducible refine LeO.bind ?_ (fun _ => ?_))
   | exact ih0 _ _ _
   | exact ih1 _ _ _ _ _
   | exact spec_slotsAt.mono _ _ _
   | exact spec_validPlace.mono _ _
   | exact LeO.none _
   | refine LeO.ite ?_ ?_
   | refine LeO.bind ?_ (fun _ => ?_)
theorem spec_EffectsLive.mono : ∀ a0 k, LeO (spec_EffectsLive.f k a0) (spec_EffectsLive.f (k + 1) a0) := by
 intro a0 k
 obtain ⟨ih0, ih1⟩ := spec_EffectsLive.mono_l k
 unfold spec_EffectsLive.f
 repeat' first
   | (with_reducible exact ih0 _ _ _)
   | (with_reducible exact ih1 _ _ _ _ _)
   | (with_reducible exact spec_slotsAt.mono _ _ _)
   | (with_reducible exact spec_validPlace.mono _ _)
   | (with_reducible exact LeO.refl _)
   | (with_reducible exact LeO.none _)
   | (with_reducible refine LeO.ite ?_ ?_)
   | (with_reducible refine LeO.bind ?_ (fun _ => ?_))
   | exact ih0 _ _ _
   | exact ih1 _ _ _ _ _
   | exact spec_slotsAt.mono _ _ _
   | exact spec_validPlace.mono _ _
   | exact LeO.none _
   | refine LeO.ite ?_ ?_
   | refine LeO.bind ?_ (fun _ => ?_)
def spec_EffectsLive.T14 : Bool × List (List Nat × List Nat) := (true, [([], []), ([], []), ([], []), ([1, 2], [1, 2]), ([0, 3], [0, 3]), ([], []), ([], []), ([6], [6]), ([5, 7], [5, 7]), ([4, 8, 4], [4, 8]), ([9, 9, 0, 1, 2, 3, 4, 5, 6, 7, 8, 9], [1, 5, 9])])
def spec_EffectsLive.B14 : List Nat := [0, 0, 0, 6, 15, 0, 0, 64, 224, 511, 1023]
theorem spec_EffectsLive.tab14 : rtab .any (opsOf Try.f10 14) = spec_EffectsLive.T14 := by kernel_rfl
theorem spec_EffectsLive.bits14 : waitsOk spec_EffectsLive.T14.2 spec_EffectsLive.B14 = true := by kernel_rfl
set_option maxHeartbeats 8000000 in
set_option maxRecDepth 100000 in
theorem spec_EffectsLive.calls (k : Nat) (A0 : Option Addr) (c0 : Nat) (l0 : List (S75)) (r1 : List (List (S92))) (r2 : Bool) (w : World) (hr0 : Kd.C k75 w A0 l0.length l0) (hc0 : l0.length ≤ c0) (h : spec_EffectsLive.f k l0 = some (r1, r2)) :
  Calls Try.prog 10 #[.slice A0 l0.length c0] w fun e w' => ∃ v0_ : Value, e = .returned (.tuple #[v0_, .bool r2]) ∧ Kd.N (Kd.slice 92 k92) 43 w' w.heap.size (fun k_ => (w.heap.size ≤ k_)) v0_ r1 ∧ Below w.heap.size w w' := by
 have HR0 := A_ hr0
 have HC0 := A_ hc0
 clear hr0 hc0
 have HB := A_ (Below.refl w.heap.size w)
 have H : (if (l0.length : Int) > 400 then (some (([] : List (List (S92))), false)) else (spec_EffectsLive.l0 k l0 (([] : List (List (S92)))) 0)) = some (r1, r2) := h
 clear h
 by_cases c2 : (l0.length : Int) > 400
 ·rw [if_pos c2] at H
  have c2b0 : decide (400 < (l0.length : Int)) = true := decide_eq_true c2
  have c2b1 : decide (400 < l0.length) = true := decide_eq_true (by omega)
  clear c2
  simp only [Option.some.injEq, Prod.mk.injEq] at H
  obtain ⟨rfl, rfl⟩ := H
  go_enter Try.func10, Try.ntmps10
  go_wp2
  go_ret2
  exact ⟨_, Z14, Z28, Z0⟩
 ·rw [if_neg c2] at H
  have c2b0 : decide (400 < (l0.length : Int)) = false := decide_eq_false c2
  have c2b1 : decide (400 < l0.length) = false := decide_eq_false (by omega)
  clear c2
  obtain ⟨y120, hy120⟩ : ∃ y_ : List (List (S92)), y_ = (([] : List (List (S92)))) := ⟨_, rfl⟩
  replace H : (spec_EffectsLive.l0 k l0 y120 0) = some (r1, r2) := by first | (rw [hy120]; with_reducible exact H) | (have H2_ := (Option.bind_some _ _).symm.trans H; rw [hy120]; with_reducible exact H2_) | (have H2_ := (Option.bind_some _ _).symm.trans H; with_reducible exact H2_) | with_reducible exact H | (rw [hy120]; exact H) | exact H
  have Ny120 := A_ hy120
  clear hy120
  have H' := A_ H
  clear H
  go_enter Try.func10, Try.ntmps10
  go_wp2_with (first | ((with_reducible refine gate_dst (N := 10) rfl ?_); refine Kd.N_lit (Kd.slice 92 k92) _ 43 ?hg (N' := 10) ?hd (xs := ([] : List (List (S92)))) (inner := []) (ok := (fun k_ => (w.heap.size ≤ k_))) (okp := (fun k_ => (w.heap.size ≤ k_))) ?hr ?hp (fun _ hk => hk) ((show ∀ k_, w.heap.size ≤ k_ → (fun k_ => (w.heap.size ≤ k_)) k_ from fun k_ hk => (Nat.le_trans (below_size Z0) hk)) _ (Nat.le_refl _)) (Below.refl _ _) (Nat.le_refl _) (by simp) ?_; (case hd => rfl); (case hg => rfl); (case hr => exact Z19); (case hp => exact (Reps.none _ _)); intro v121 w3 ho4 hb hg_ hnew_; clear hg_ hnew_; (first | rw [← Ny120.out] at ho4 | (simp only [Int.reduceToNat] at ho4; rw [← Ny120.out] at ho4)); have n0_ := A_ (Kd.N_lower ho4 (below_size Z0)); have n1_ := A_ (below_step Z0 hb); clear HB; have HO122 := n0_; have HB := n1_; clear n0_ n1_; clear hb ho4))
  go_loopg [4, 5] k (fun kq v4 v5 w' => ∃ (x4_1 : List (List (S92))) (x5_1 : Int), v5 = .int .i64 x5_1 ∧ Aside0 (spec_EffectsLive.l0 kq l0 x4_1 x5_1 = some (r1, r2)) ∧ Aside0 (kq ≤ k) ∧ Aside0 (Kd.N (Kd.slice 92 k92) 43 w' w.heap.size (fun k_ => (w.heap.size ≤ k_)) v4 x4_1) ∧ Aside0 (Below w.heap.size w w'))
  case atStart => exact ⟨(y120), (0), Z17, H', ⟨Nat.le_refl _⟩, ⟨Z12 HO122.out⟩, ⟨Z0⟩⟩
  case round =>
   clear H'
   try clear c1
   try clear c2
   try clear c2b0
   try clear c2b1
   try clear p2
   obtain ⟨x4_1, x5_1, rfl, HA, HK1, HO_4, HB⟩ := hrel
   cases gk with
   | zero => exact absurd HA.out (by simp [spec_EffectsLive.l0])
   | succ k1 =>
    have H := HA.out
    clear HA
    simp only [spec_EffectsLive.l0] at H
    by_cases c5 : x5_1 < (l0.length : Int)
    ·rw [if_pos c5] at H
     have c5b0 : decide (x5_1 < (l0.length : Int)) = true := decide_eq_true c5
     clear c5
     by_cases c6 : 0 ≤ x5_1
     ·rw [if_pos c6] at H
      have c6b0 : decide (0 ≤ x5_1) = true := decide_eq_true c6
      clear c6
      replace H := Option.bind_eq_some_iff.mp H
      obtain ⟨t124, A70, H⟩ := H
      replace H : ((spec_validPlace.f k1 ((rd_T75 l0 x5_1).f1)).bind fun t126 => (if t126 = true then ((spec_inRange.f ((rd_T75 l0 x5_1).f0) 0 2).bind fun t128 => (if t128 = true then (spec_EffectsLive.j1 k1 l0 x4_1 x5_1 t124 ((decide (t124 ≥ 0)) == (((rd_T75 l0 x5_1).f0) == 1))) else (spec_EffectsLive.j1 k1 l0 x4_1 x5_1 t124 true))) else (spec_EffectsLive.j1 k1 l0 x4_1 x5_1 t124 true))) = some (r1, r2) := H
      have A7 := A_ A70
      clear A70
      have HC8 := A_ H
      clear H
      have p123 : 0 ≤ (x5_1 : Int) := of_decide_eq_true Z9
      have q123 : x5_1 < (l0.length : Int) := of_decide_eq_true Z9
      obtain ⟨ad123, A123_1, c123_1, e123, hx123_0, hx123_1, hl123_1, hi123_1⟩ := at_T75 HR0.out x5_1 p123 q123
      have hv123_1 := hx123_1
      cases e123
      replace hx123_0 := ZC HB.out hx123_0
      replace hx123_1 := ZC HB.out hx123_1
      have HR123_1 := A_ hi123_1
      have HC123_1 := A_ hl123_1
      clear hi123_1 hl123_1
      replace p123 := eq_true p123
      replace q123 := eq_true q123
      obtain ⟨Ao9, co9, eo9⟩ := Kd.N_slice HO_4.out
      subst eo9
      go_upto_region 8 with (first | ((with_reducible refine gate_callee (f := 48) rfl ?_); refine goesL_ (some 23) rfl rfl Try.func48 (by kernel_rfl) rfl #[.slice Ao9 x4_1.length co9, .slice A123_1 ((rd_T75 l0 x5_1).f1).length c123_1] rfl Z8 ?_; (with_reducible refine (spec_slotsAt.calls k1 _ _ x4_1 _ _ ((rd_T75 l0 x5_1).f1) t124 _ ?side1 ?side2 ?side3 ?side4 A7.out).mono ?_); (case side1 => exact Z26 HO_4.out); (case side2 => exact (Kd.N_reads' HO_4.out).2.1); (case side3 => exact Z13 HR123_1.out); (case side4 => exact HC123_1.out); rintro e w' ⟨rfl, ⟨nd, rfl⟩⟩; refine ⟨_, rfl, ?_⟩))
      (try simp only [Act.put, List.setIfInBounds_toArray, List.set_cons_zero, List.set_cons_succ])
      go_cut [50] (fun v50 wc => ∃ (kq : Nat) (x50_7 : Bool), v50 = .bool x50_7 ∧ Aside0 (spec_EffectsLive.j1 kq l0 x4_1 x5_1 t124 x50_7 = some (r1, r2)) ∧ Aside0 (kq ≤ k1) ∧ Aside0 (Kd.N (Kd.slice 92 k92) 43 wc w.heap.size (fun k_ => (w.heap.size ≤ k_)) (.slice Ao9 x4_1.length co9) x4_1) ∧ Aside0 (Below w.heap.size w wc))
      case first =>
       have H := HC8.out
       clear HC8
       replace H := Option.bind_eq_some_iff.mp H
       obtain ⟨t126, A100, H⟩ := H
       replace H : (if t126 = true then ((spec_inRange.f ((rd_T75 l0 x5_1).f0) 0 2).bind fun t128 => (if t128 = true then (spec_EffectsLive.j1 k1 l0 x4_1 x5_1 t124 ((decide (t124 ≥ 0)) == (((rd_T75 l0 x5_1).f0) == 1))) else (spec_EffectsLive.j1 k1 l0 x4_1 x5_1 t124 true))) else (spec_EffectsLive.j1 k1 l0 x4_1 x5_1 t124 true)) = some (r1, r2) := H
       have A10 := A_ A100
       clear A100
       by_cases c11 : t126 = true
       ·subst c11
        have H1 : ((spec_inRange.f ((rd_T75 l0 x5_1).f0) 0 2).bind fun t128 => (if t128 = true then (spec_EffectsLive.j1 k1 l0 x4_1 x5_1 t124 ((decide (t124 ≥ 0)) == (((rd_T75 l0 x5_1).f0) == 1))) else (spec_EffectsLive.j1 k1 l0 x4_1 x5_1 t124 true))) = some (r1, r2) := by rw [if_pos rfl] at H; exact H
        clear H
        have H := H1
        clear H1
        replace H := Option.bind_eq_some_iff.mp H
        obtain ⟨t128, A120, H⟩ := H
        replace H : (if t128 = true then (spec_EffectsLive.j1 k1 l0 x4_1 x5_1 t124 ((decide (t124 ≥ 0)) == (((rd_T75 l0 x5_1).f0) == 1))) else (spec_EffectsLive.j1 k1 l0 x4_1 x5_1 t124 true)) = some (r1, r2) := H
        have A12 := A_ A120
        clear A120
        by_cases c13 : t128 = true
        ·subst c13
         have H1 : (spec_EffectsLive.j1 k1 l0 x4_1 x5_1 t124 ((decide (t124 ≥ 0)) == (((rd_T75 l0 x5_1).f0) == 1))) = some (r1, r2) := by rw [if_pos rfl] at H; exact H
         clear H
         have H := H1
         clear H1
         have H' := A_ H
         clear H
         have p125 : 0 ≤ (x5_1 : Int) := of_decide_eq_true Z9
         have q125 : x5_1 < (l0.length : Int) := of_decide_eq_true Z9
         obtain ⟨ad125, A125_1, c125_1, e125, hx125_0, hx125_1, hl125_1, hi125_1⟩ := at_T75 HR0.out x5_1 p125 q125
         obtain rfl : ad123 = ad125 := (by injection e125)
         have ea_ := Option.some.inj (hv123_1.symm.trans hx125_1)
         injection ea_ with ea_ en_ ec_
         subst ea_
         subst ec_
         clear en_
         replace hx125_0 := ZC HB.out hx125_0
         replace hx125_1 := ZC HB.out hx125_1
         have HR125_1 := A_ hi125_1
         have HC125_1 := A_ hl125_1
         clear hi125_1 hl125_1
         replace p125 := eq_true p125
         replace q125 := eq_true q125
         go_wp2_with (first | ((with_reducible refine gate_callee (f := 49) rfl ?_); refine goesL_ (some 29) rfl rfl Try.func49 (by kernel_rfl) rfl #[.slice A123_1 ((rd_T75 l0 x5_1).f1).length c123_1] rfl Z8 ?_; (with_reducible refine (spec_validPlace.calls k1 _ _ ((rd_T75 l0 x5_1).f1) true _ ?side1 ?side2 A10.out).mono ?_); (case side1 => exact Z13 HR125_1.out); (case side2 => exact HC125_1.out); rintro e w14 ⟨rfl, hb⟩; refine ⟨_, rfl, ?_⟩; have n0_ := A_ (Kd.N_below (Z12 HO_4.out) hb); have n1_ := A_ (below_step Z0 hb); clear HO_4; clear HB; have HO_4 := n0_; have HB := n1_; clear n0_ n1_; (try clear hb); (try clear hb2); (try clear hk); (try clear hi); have p127 : 0 ≤ (x5_1 : Int) := of_decide_eq_true Z9; have q127 : x5_1 < (l0.length : Int) := of_decide_eq_true Z9; obtain ⟨ad127, A127_1, c127_1, e127, hx127_0, hx127_1, hl127_1, hi127_1⟩ := at_T75 HR0.out x5_1 p127 q127; obtain rfl : ad123 = ad127 := (by injection e127); replace hx127_0 := ZC HB.out hx127_0; replace hx127_1 := ZC HB.out hx127_1; have HR127_1 := A_ hi127_1; have HC127_1 := A_ hl127_1; clear hi127_1 hl127_1; replace p127 := eq_true p127; replace q127 := eq_true q127) | (go_at_call 50; (with_reducible refine (spec_inRange.calls ((rd_T75 l0 x5_1).f0) 0 2 true _ A12.out).mono ?_); rintro e w' ⟨rfl, ⟨nd, rfl⟩⟩; have p129 : 0 ≤ (x5_1 : Int) := of_decide_eq_true Z9; have q129 : x5_1 < (l0.length : Int) := of_decide_eq_true Z9; obtain ⟨ad129, A129_1, c129_1, e129, hx129_0, hx129_1, hl129_1, hi129_1⟩ := at_T75 HR0.out x5_1 p129 q129; obtain rfl : ad123 = ad129 := (by injection e129); replace hx129_0 := ZC HB.out hx129_0; replace hx129_1 := ZC HB.out hx129_1; have HR129_1 := A_ hi129_1; have HC129_1 := A_ hl129_1; clear hi129_1 hl129_1; replace p129 := eq_true p129; replace q129 := eq_true q129; have ea_ := Option.some.inj (hx127_1.symm.trans hx129_1); injection ea_ with ea_ en_ ec_; subst ea_; subst ec_; clear en_))
         go_meet
         case rel => exact ⟨_, (((decide (t124 ≥ 0)) == (((rd_T75 l0 x5_1).f0) == 1))), Z17, H', ⟨by have := HK1.out; first | omega | exact Nat.le_refl _⟩, ⟨Z12 HO_4.out⟩, ⟨Z0⟩⟩
        ·replace c13 := Bool.eq_false_iff.mpr c13
         subst c13
         have H1 : (spec_EffectsLive.j1 k1 l0 x4_1 x5_1 t124 true) = some (r1, r2) := by rw [if_neg (show ¬ (false = true) by decide)] at H; exact H
         clear H
         have H := H1
         clear H1
         have H' := A_ H
         clear H
         have p125 : 0 ≤ (x5_1 : Int) := of_decide_eq_true Z9
         have q125 : x5_1 < (l0.length : Int) := of_decide_eq_true Z9
         obtain ⟨ad125, A125_1, c125_1, e125, hx125_0, hx125_1, hl125_1, hi125_1⟩ := at_T75 HR0.out x5_1 p125 q125
         obtain rfl : ad123 = ad125 := (by injection e125)
         have ea_ := Option.some.inj (hv123_1.symm.trans hx125_1)
         injection ea_ with ea_ en_ ec_
         subst ea_
         subst ec_
         clear en_
         replace hx125_0 := ZC HB.out hx125_0
         replace hx125_1 := ZC HB.out hx125_1
         have HR125_1 := A_ hi125_1
         have HC125_1 := A_ hl125_1
         clear hi125_1 hl125_1
         replace p125 := eq_true p125
         replace q125 := eq_true q125
         go_wp2_with (first | ((with_reducible refine gate_callee (f := 49) rfl ?_); refine goesL_ (some 29) rfl rfl Try.func49 (by kernel_rfl) rfl #[.slice A123_1 ((rd_T75 l0 x5_1).f1).length c123_1] rfl Z8 ?_; (with_reducible refine (spec_validPlace.calls k1 _ _ ((rd_T75 l0 x5_1).f1) true _ ?side1 ?side2 A10.out).mono ?_); (case side1 => exact Z13 HR125_1.out); (case side2 => exact HC125_1.out); rintro e w15 ⟨rfl, hb⟩; refine ⟨_, rfl, ?_⟩; have n0_ := A_ (Kd.N_below (Z12 HO_4.out) hb); have n1_ := A_ (below_step Z0 hb); clear HO_4; clear HB; have HO_4 := n0_; have HB := n1_; clear n0_ n1_; (try clear hb); (try clear hb2); (try clear hk); (try clear hi); have p127 : 0 ≤ (x5_1 : Int) := of_decide_eq_true Z9; have q127 : x5_1 < (l0.length : Int) := of_decide_eq_true Z9; obtain ⟨ad127, A127_1, c127_1, e127, hx127_0, hx127_1, hl127_1, hi127_1⟩ := at_T75 HR0.out x5_1 p127 q127; obtain rfl : ad123 = ad127 := (by injection e127); replace hx127_0 := ZC HB.out hx127_0; replace hx127_1 := ZC HB.out hx127_1; have HR127_1 := A_ hi127_1; have HC127_1 := A_ hl127_1; clear hi127_1 hl127_1; replace p127 := eq_true p127; replace q127 := eq_true q127) | (go_at_call 50; (with_reducible refine (spec_inRange.calls ((rd_T75 l0 x5_1).f0) 0 2 false _ A12.out).mono ?_); rintro e w' ⟨rfl, ⟨nd, rfl⟩⟩))
         go_meet
         case rel => exact ⟨_, (true), Z17, H', ⟨by have := HK1.out; first | omega | exact Nat.le_refl _⟩, ⟨Z12 HO_4.out⟩, ⟨Z0⟩⟩
       ·replace c11 := Bool.eq_false_iff.mpr c11
        subst c11
        have H1 : (spec_EffectsLive.j1 k1 l0 x4_1 x5_1 t124 true) = some (r1, r2) := by rw [if_neg (show ¬ (false = true) by decide)] at H; exact H
        clear H
        have H := H1
        clear H1
        have H' := A_ H
        clear H
        have p125 : 0 ≤ (x5_1 : Int) := of_decide_eq_true Z9
        have q125 : x5_1 < (l0.length : Int) := of_decide_eq_true Z9
        obtain ⟨ad125, A125_1, c125_1, e125, hx125_0, hx125_1, hl125_1, hi125_1⟩ := at_T75 HR0.out x5_1 p125 q125
        obtain rfl : ad123 = ad125 := (by injection e125)
        have ea_ := Option.some.inj (hv123_1.symm.trans hx125_1)
        injection ea_ with ea_ en_ ec_
        subst ea_
        subst ec_
        clear en_
        replace hx125_0 := ZC HB.out hx125_0
        replace hx125_1 := ZC HB.out hx125_1
        have HR125_1 := A_ hi125_1
        have HC125_1 := A_ hl125_1
        clear hi125_1 hl125_1
        replace p125 := eq_true p125
        replace q125 := eq_true q125
        go_wp2_with (first | ((with_reducible refine gate_callee (f := 49) rfl ?_); refine goesL_ (some 29) rfl rfl Try.func49 (by kernel_rfl) rfl #[.slice A123_1 ((rd_T75 l0 x5_1).f1).length c123_1] rfl Z8 ?_; (with_reducible refine (spec_validPlace.calls k1 _ _ ((rd_T75 l0 x5_1).f1) false _ ?side1 ?side2 A10.out).mono ?_); (case side1 => exact Z13 HR125_1.out); (case side2 => exact HC125_1.out); rintro e w16 ⟨rfl, hb⟩; refine ⟨_, rfl, ?_⟩; have n0_ := A_ (Kd.N_below (Z12 HO_4.out) hb); have n1_ := A_ (below_step Z0 hb); clear HO_4; clear HB; have HO_4 := n0_; have HB := n1_; clear n0_ n1_; (try clear hb); (try clear hb2); (try clear hk); (try clear hi)))
        go_meet
        case rel => exact ⟨_, (true), Z17, H', ⟨by have := HK1.out; first | omega | exact Nat.le_refl _⟩, ⟨Z12 HO_4.out⟩, ⟨Z0⟩⟩
      case rest =>
       clear HC8
       try clear c1
       try clear p1
       try clear q1
       try clear hx1
       try clear c2
       try clear c2b0
       try clear c2b1
       try clear p2
       try clear c4
       try clear c5
       try clear c5b0
       try clear c6
       try clear c6b0
       try clear c10
       try clear c11
       try clear c12
       try clear p12
       try clear q12
       try clear hx12
       try clear c13
       try clear hx123_0
       try clear hx123_1
       try clear hx125_0
       try clear hx125_1
       try clear hx127_0
       try clear hx127_1
       try clear hx129_0
       try clear hx129_1
       try clear p123
       try clear p125
       try clear p127
       try clear p129
       try clear p2
       try clear q123
       try clear q125
       try clear q127
       try clear q129
       obtain ⟨kq, x50_7, rfl, HA, HJ7, HO_4, HB⟩ := hcut
       cases kq with
       | zero => exact absurd HA.out (by simp [spec_EffectsLive.j1])
       | succ kj7 =>
        have H := HA.out
        clear HA
        simp only [spec_EffectsLive.j1] at H
        by_cases c17 : x50_7 = true
        ·subst c17
         have H1 : (some (([] : List (List (S92))), false)) = some (r1, r2) := by rw [if_pos rfl] at H; exact H
         clear H
         have H := H1
         clear H1
         simp only [Option.some.injEq, Prod.mk.injEq] at H
         obtain ⟨rfl, rfl⟩ := H
         go_wp2
         go_ret2
         exact ⟨_, Z14, Z28, Z0⟩
        ·replace c17 := Bool.eq_false_iff.mpr c17
         subst c17
         have H1 : (if 0 ≤ x5_1 then (if x5_1 < (l0.length : Int) then (if ((rd_T75 l0 x5_1).f0) = 1 then ((some (([] : List (S92)) : List (S92))).bind fun y131 => (if y131.length + ((rd_T75 l0 x5_1).f1).length < 8796093022208 then (if x4_1.length < 5864062014805 then (spec_EffectsLive.l0 kj7 l0 (x4_1 ++ [(y131 ++ ((rd_T75 l0 x5_1).f1))]) (wrap64 (x5_1 + 1))) else (none)) else (none))) else (if ((rd_T75 l0 x5_1).f0) = 0 then ((some (([] : List (List (S92))) : List (List (S92)))).bind fun y141 => (if 0 ≤ t124 then (if t124 ≤ (x4_1.length : Int) then ((some (x4_1.take (t124 : Int).toNat : List (List (S92)))).bind fun y144 => (if y141.length + y144.length < 5864062014805 then ((some (y141 ++ y144 : List (List (S92)))).bind fun y149 => (if 0 ≤ (wrap64 (t124 + 1)) then (if (wrap64 (t124 + 1)) ≤ (x4_1.length : Int) then ((some (x4_1.drop ((wrap64 (t124 + 1)) : Int).toNat : List (List (S92)))).bind fun y152 => (if y149.length + y152.length < 5864062014805 then (spec_EffectsLive.l0 kj7 l0 (y149 ++ y152) (wrap64 (x5_1 + 1))) else (none))) else (none)) else (none))) else (none))) else (none)) else (none))) else (spec_EffectsLive.l0 kj7 l0 x4_1 (wrap64 (x5_1 + 1))))) else (none)) else (none)) = some (r1, r2) := by rw [if_neg (show ¬ (false = true) by decide)] at H; exact H
         clear H
         have H := H1
         clear H1
         by_cases c18 : 0 ≤ x5_1
         ·rw [if_pos c18] at H
          have c18b0 : decide (0 ≤ x5_1) = true := decide_eq_true c18
          clear c18
          by_cases c19 : x5_1 < (l0.length : Int)
          ·rw [if_pos c19] at H
           have c19b0 : decide (x5_1 < (l0.length : Int)) = true := decide_eq_true c19
           clear c19
           by_cases c20 : ((rd_T75 l0 x5_1).f0) = 1
           ·rw [if_pos c20] at H
            have c20b0 : (((rd_T75 l0 x5_1).f0) == 1) = true := beq_iff_eq.mpr c20
            have c20b1 : (((rd_T75 l0 x5_1).f0) != 1) = false := bne_eq_false_iff_eq.mpr c20
            clear c20
            obtain ⟨y131, hy131⟩ : ∃ y_ : List (S92), y_ = (([] : List (S92))) := ⟨_, rfl⟩
            replace H : (if y131.length + ((rd_T75 l0 x5_1).f1).length < 8796093022208 then (if x4_1.length < 5864062014805 then (spec_EffectsLive.l0 kj7 l0 (x4_1 ++ [(y131 ++ ((rd_T75 l0 x5_1).f1))]) (wrap64 (x5_1 + 1))) else (none)) else (none)) = some (r1, r2) := by first | (rw [hy131]; with_reducible exact H) | (have H2_ := (Option.bind_some _ _).symm.trans H; rw [hy131]; with_reducible exact H2_) | (have H2_ := (Option.bind_some _ _).symm.trans H; with_reducible exact H2_) | with_reducible exact H | (rw [hy131]; exact H) | exact H
            have Ny131 := A_ hy131
            clear hy131
            by_cases c21 : y131.length + ((rd_T75 l0 x5_1).f1).length < 8796093022208
            ·rw [if_pos c21] at H
             have LMc21 := A_ c21
             clear c21
             obtain ⟨y135, hy135⟩ : ∃ y_ : List (S92), y_ = (y131 ++ ((rd_T75 l0 x5_1).f1)) := ⟨_, rfl⟩
             replace H : (if x4_1.length < 5864062014805 then (spec_EffectsLive.l0 kj7 l0 (x4_1 ++ [y135]) (wrap64 (x5_1 + 1))) else (none)) = some (r1, r2) := by first | (rw [hy135]; with_reducible exact H) | (have H2_ := (Option.bind_some _ _).symm.trans H; rw [hy135]; with_reducible exact H2_) | (have H2_ := (Option.bind_some _ _).symm.trans H; with_reducible exact H2_) | with_reducible exact H | (rw [hy135]; exact H) | exact H
             have Ny135 := A_ hy135
             clear hy135
             by_cases c22 : x4_1.length < 5864062014805
             ·rw [if_pos c22] at H
              have LMc22 := A_ c22
              clear c22
              obtain ⟨y138, hy138⟩ : ∃ y_ : List (List (S92)), y_ = (x4_1 ++ [y135]) := ⟨_, rfl⟩
              replace H : (spec_EffectsLive.l0 kj7 l0 y138 (wrap64 (x5_1 + 1))) = some (r1, r2) := by first | (rw [hy138]; with_reducible exact H) | (have H2_ := (Option.bind_some _ _).symm.trans H; rw [hy138]; with_reducible exact H2_) | (have H2_ := (Option.bind_some _ _).symm.trans H; with_reducible exact H2_) | with_reducible exact H | (rw [hy138]; exact H) | exact H
              have Ny138 := A_ hy138
              clear hy138
              have H' := A_ H
              clear H
              have p130 : 0 ≤ (x5_1 : Int) := of_decide_eq_true Z9
              have q130 : x5_1 < (l0.length : Int) := of_decide_eq_true Z9
              obtain ⟨ad130, A130_1, c130_1, e130, hx130_0, hx130_1, hl130_1, hi130_1⟩ := at_T75 HR0.out x5_1 p130 q130
              obtain rfl : ad123 = ad130 := (by injection e130)
              have ea_ := Option.some.inj (hv123_1.symm.trans hx130_1)
              injection ea_ with ea_ en_ ec_
              subst ea_
              subst ec_
              clear en_
              replace hx130_0 := ZC HB.out hx130_0
              replace hx130_1 := ZC HB.out hx130_1
              have HR130_1 := A_ hi130_1
              have HC130_1 := A_ hl130_1
              clear hi130_1 hl130_1
              replace p130 := eq_true p130
              replace q130 := eq_true q130
              go_wp2_with (first | ((with_reducible refine gate_dst (N := 59) rfl ?_); refine Kd.R_lit k92 _ 92 ?hg (N := 59) ?hd (xs := ([] : List (S92))) (inner := []) (ok := fun _ => True) (okp := fun _ => True) ?hr ?hp (fun _ hk => hk) trivial (Below.refl _ _) (Nat.le_refl _) (by simp) ?_; (case hd => rfl); (case hg => rfl); (case hr => exact Z19); (case hp => exact (Reps.none _ _)); intro v132 w23 ho24 hb hg_ hnew_; clear hg_ hnew_; (first | rw [← Ny131.out] at ho24 | (simp only [Int.reduceToNat] at ho24; rw [← Ny131.out] at ho24)); have n0_ := A_ (Kd.N_elder' (Z12 HO_4.out) (Kd.R_base ho24) hb); have n1_ := A_ (Kd.R_lower (Kd.R_newM (M := fun k_ => (w.heap.size ≤ k_)) ho24 (below_size Z0) (fun k_ h_ => h_)) (below_size Z0)); have n2_ := A_ (below_step Z0 hb); clear HO_4; clear HB; have HO_4 := n0_; have HO133 := n1_; have HB := n2_; clear n0_ n1_ n2_; clear hb ho24; have p134 : 0 ≤ (x5_1 : Int) := of_decide_eq_true Z9; have q134 : x5_1 < (l0.length : Int) := of_decide_eq_true Z9; obtain ⟨ad134, A134_1, c134_1, e134, hx134_0, hx134_1, hl134_1, hi134_1⟩ := at_T75 HR0.out x5_1 p134 q134; obtain rfl : ad123 = ad134 := (by injection e134); replace hx134_0 := ZC HB.out hx134_0; replace hx134_1 := ZC HB.out hx134_1; have HR134_1 := A_ hi134_1; have HC134_1 := A_ hl134_1; clear hi134_1 hl134_1; replace p134 := eq_true p134; replace q134 := eq_true q134) | ((with_reducible refine gate_builtin (b := .append) (xs := #[.tmp 59, .tmp 64]) rfl ?_); at_builtin; refine Kd.R_append_rows k92 (w0 := w) w.heap.size rfl (.tmp 59) (.tmp 64) 43 92 (.agg #[(.int .i64 0), (.int .i64 0)]) 16 rfl Try.underlying43 info92 rfl (by decide) (by omega) v132 y131 ((rd_T75 l0 x5_1).f1) _ _ _ (fun k_ => (w.heap.size ≤ k_)) (fun _ => False) rfl rfl ?aO ?aR (fun _ _ h => h) (fun _ h => h.elim) ?aF ?aB ?aS ?aL ?_; (case aR => exact Z13 HR134_1.out); (case aB => exact Z0); (case aF => exact (fun k_ hk => (Nat.le_trans (below_size Z0) hk))); (case aO => exact (by (with_reducible repeat (first | apply Kd.R_alloc | apply Kd.R_drewN | apply Kd.R_drew)); exact Kd.R_mono HO133.out (fun _ hk => hk.1))); (case aS => exact (below_size Z0)); (case aL => have := LMc21.out; omega); intro v136 w25 ho hb hg hat; rw [← Ny135.out] at ho; have n0_ := A_ (Kd.N_afterv (ok := (fun k_ => (w.heap.size ≤ k_))) (Z12 HO_4.out) hg hat); have n1_ := A_ (hb); have n2_ := A_ (ho); clear HO_4; clear HB; clear HO133; have HO_4 := n0_; have HB := n1_; have HO137 := n2_; clear n0_ n1_ n2_; clear ho hb hg hat; obtain ⟨Ao27, co27, eo27⟩ := Kd.R_slice HO137.out; subst eo27) | ((with_reducible refine gate_builtin (b := .append) (xs := #[.tmp 58, .tmp 66]) rfl ?_); at_builtin; refine Kd.N_append (Kd.slice 92 k92) (w0 := w) w.heap.size rfl (.tmp 58) (.tmp 66) 24 43 (.slice none 0 0) 24 rfl Try.underlying24 info43 rfl (by decide) (by omega) (.slice Ao9 x4_1.length co9) x4_1 y135 [.slice Ao27 y135.length co27] (fun k_ => (w.heap.size ≤ k_)) (fun k_ => ((fun k_ => (w.heap.size ≤ k_))) k_ ∧ some k_ ≠ (.slice Ao9 x4_1.length co9 : Value).ownBlock) rfl rfl ?aP (fun _ hk => hk) ?aF ?aO ?aB ?aS ?aL ?_; (case aP => exact (Kd.FK_slice_mk (Kd.R_reads' (Kd.R_mono (ok' := (fun k_ => ((fun k_ => (w.heap.size ≤ k_))) k_ ∧ some k_ ≠ (.slice Ao9 x4_1.length co9 : Value).ownBlock)) (Kd.R_apart' (HO137.out) (Kd.N_typed HO_4.out) (by decide)) (fun k_ hk => ⟨hk.1, hk.2⟩))).2.1 (Kd.R_F (Kd.R_mono (ok' := (fun k_ => ((fun k_ => (w.heap.size ≤ k_))) k_ ∧ some k_ ≠ (.slice Ao9 x4_1.length co9 : Value).ownBlock)) (Kd.R_apart' (HO137.out) (Kd.N_typed HO_4.out) (by decide)) (fun k_ hk => ⟨hk.1, hk.2⟩))))); (case aB => exact Z0); (case aF => exact (fun k_ hk => (Nat.le_trans (below_size Z0) hk))); (case aO => exact (by (with_reducible repeat (first | apply Kd.N_alloc | apply Kd.N_drewN | apply Kd.N_drew)); exact Kd.N_mono HO_4.out (fun _ hk => hk.1))); (case aS => exact (below_size Z0)); (case aL => have := LMc22.out; omega); intro v139 w26 ho hb hg hat; rw [← Ny138.out] at ho; have n0_ := A_ (hb); have n1_ := A_ (ho); clear HB; clear HO_4; clear HO137; have HB := n0_; have HO140 := n1_; clear n0_ n1_; clear ho hb hg hat))
              go_roundg kj7
              case measure => have := HK1.out; have := HJ7.out; omega
              case rel => exact ⟨(y138), (wrap64 (x5_1 + 1)), Z17, H', ⟨by have := HK1.out; have := HJ7.out; omega⟩, ⟨Z12 HO140.out⟩, ⟨Z0⟩⟩
             ·rw [if_neg c22] at H
              exact absurd H (by simp)
            ·rw [if_neg c21] at H
             exact absurd H (by simp)
           ·rw [if_neg c20] at H
            have c20b0 : (((rd_T75 l0 x5_1).f0) == 1) = false := beq_eq_false_iff_ne.mpr c20
            have c20b1 : (((rd_T75 l0 x5_1).f0) != 1) = true := bne_iff_ne.mpr c20
            by_cases c28 : ((rd_T75 l0 x5_1).f0) = 0
            ·rw [if_pos c28] at H
             have c28b0 : (((rd_T75 l0 x5_1).f0) == 0) = true := beq_iff_eq.mpr c28
             have c28b1 : (((rd_T75 l0 x5_1).f0) != 0) = false := bne_eq_false_iff_eq.mpr c28
             clear c28
             obtain ⟨y141, hy141⟩ : ∃ y_ : List (List (S92)), y_ = (([] : List (List (S92)))) := ⟨_, rfl⟩
             replace H : (if 0 ≤ t124 then (if t124 ≤ (x4_1.length : Int) then ((some (x4_1.take (t124 : Int).toNat : List (List (S92)))).bind fun y144 => (if y141.length + y144.length < 5864062014805 then ((some (y141 ++ y144 : List (List (S92)))).bind fun y149 => (if 0 ≤ (wrap64 (t124 + 1)) then (if (wrap64 (t124 + 1)) ≤ (x4_1.length : Int) then ((some (x4_1.drop ((wrap64 (t124 + 1)) : Int).toNat : List (List (S92)))).bind fun y152 => (if y149.length + y152.length < 5864062014805 then (spec_EffectsLive.l0 kj7 l0 (y149 ++ y152) (wrap64 (x5_1 + 1))) else (none))) else (none)) else (none))) else (none))) else (none)) else (none)) = some (r1, r2) := by first | (rw [hy141]; with_reducible exact H) | (have H2_ := (Option.bind_some _ _).symm.trans H; rw [hy141]; with_reducible exact H2_) | (have H2_ := (Option.bind_some _ _).symm.trans H; with_reducible exact H2_) | with_reducible exact H | (rw [hy141]; exact H) | exact H
             have Ny141 := A_ hy141
             clear hy141
             by_cases c29 : 0 ≤ t124
             ·rw [if_pos c29] at H
              have c29b0 := eq_true c29
              have c29b1 : decide (0 ≤ t124) = true := decide_eq_true c29
              clear c29
              by_cases c30 : t124 ≤ (x4_1.length : Int)
              ·rw [if_pos c30] at H
               have c30b0 := eq_true c30
               have c30b1 : decide (t124 ≤ (x4_1.length : Int)) = true := decide_eq_true c30
               clear c30
               obtain ⟨y144, hy144⟩ : ∃ y_ : List (List (S92)), y_ = (x4_1.take (t124 : Int).toNat) := ⟨_, rfl⟩
               replace H : (if y141.length + y144.length < 5864062014805 then ((some (y141 ++ y144 : List (List (S92)))).bind fun y149 => (if 0 ≤ (wrap64 (t124 + 1)) then (if (wrap64 (t124 + 1)) ≤ (x4_1.length : Int) then ((some (x4_1.drop ((wrap64 (t124 + 1)) : Int).toNat : List (List (S92)))).bind fun y152 => (if y149.length + y152.length < 5864062014805 then (spec_EffectsLive.l0 kj7 l0 (y149 ++ y152) (wrap64 (x5_1 + 1))) else (none))) else (none)) else (none))) else (none)) = some (r1, r2) := by first | (rw [hy144]; with_reducible exact H) | (have H2_ := (Option.bind_some _ _).symm.trans H; rw [hy144]; with_reducible exact H2_) | (have H2_ := (Option.bind_some _ _).symm.trans H; with_reducible exact H2_) | with_reducible exact H | (rw [hy144]; exact H) | exact H
               have Ny144 := A_ hy144
               clear hy144
               by_cases c31 : y141.length + y144.length < 5864062014805
               ·rw [if_pos c31] at H
                have LMc31 := A_ c31
                clear c31
                obtain ⟨y149, hy149⟩ : ∃ y_ : List (List (S92)), y_ = (y141 ++ y144) := ⟨_, rfl⟩
                replace H : (if 0 ≤ (wrap64 (t124 + 1)) then (if (wrap64 (t124 + 1)) ≤ (x4_1.length : Int) then ((some (x4_1.drop ((wrap64 (t124 + 1)) : Int).toNat : List (List (S92)))).bind fun y152 => (if y149.length + y152.length < 5864062014805 then (spec_EffectsLive.l0 kj7 l0 (y149 ++ y152) (wrap64 (x5_1 + 1))) else (none))) else (none)) else (none)) = some (r1, r2) := by first | (rw [hy149]; with_reducible exact H) | (have H2_ := (Option.bind_some _ _).symm.trans H; rw [hy149]; with_reducible exact H2_) | (have H2_ := (Option.bind_some _ _).symm.trans H; with_reducible exact H2_) | with_reducible exact H | (rw [hy149]; exact H) | exact H
                have Ny149 := A_ hy149
                clear hy149
                obtain ⟨ji32, hji32⟩ : ∃ j_ : Int, (wrap64 (t124 + 1)) = j_ := ⟨_, rfl⟩
                replace H : (if 0 ≤ (ji32) then (if (ji32) ≤ (x4_1.length : Int) then ((some (x4_1.drop ((ji32) : Int).toNat : List (List (S92)))).bind fun y152 => (if y149.length + y152.length < 5864062014805 then (spec_EffectsLive.l0 kj7 l0 (y149 ++ y152) (wrap64 (x5_1 + 1))) else (none))) else (none)) else (none)) = some (r1, r2) := by first | (rw [hji32] at H; exact H) | (simp only [hji32] at H ⊢; exact H)
                have hji32w : (IntKind.i64.wrap (t124 + 1)) = ji32 := (i64_w _).trans hji32
                by_cases c33 : 0 ≤ (ji32)
                ·rw [if_pos c33] at H
                 have c33b0 := eq_true c33
                 have c33b1 : decide (0 ≤ (ji32)) = true := decide_eq_true c33
                 clear c33
                 by_cases c34 : (ji32) ≤ (x4_1.length : Int)
                 ·rw [if_pos c34] at H
                  have c34b0 := eq_true c34
                  have c34b1 : decide ((ji32) ≤ (x4_1.length : Int)) = true := decide_eq_true c34
                  clear c34
                  obtain ⟨y152, hy152⟩ : ∃ y_ : List (List (S92)), y_ = (x4_1.drop ((ji32) : Int).toNat) := ⟨_, rfl⟩
                  replace H : (if y149.length + y152.length < 5864062014805 then (spec_EffectsLive.l0 kj7 l0 (y149 ++ y152) (wrap64 (x5_1 + 1))) else (none)) = some (r1, r2) := by first | (rw [hy152]; with_reducible exact H) | (have H2_ := (Option.bind_some _ _).symm.trans H; rw [hy152]; with_reducible exact H2_) | (have H2_ := (Option.bind_some _ _).symm.trans H; with_reducible exact H2_) | with_reducible exact H | (rw [hy152]; exact H) | exact H
                  have Ny152 := A_ hy152
                  clear hy152
                  by_cases c35 : y149.length + y152.length < 5864062014805
                  ·rw [if_pos c35] at H
                   have LMc35 := A_ c35
                   clear c35
                   obtain ⟨y157, hy157⟩ : ∃ y_ : List (List (S92)), y_ = (y149 ++ y152) := ⟨_, rfl⟩
                   replace H : (spec_EffectsLive.l0 kj7 l0 y157 (wrap64 (x5_1 + 1))) = some (r1, r2) := by first | (rw [hy157]; with_reducible exact H) | (have H2_ := (Option.bind_some _ _).symm.trans H; rw [hy157]; with_reducible exact H2_) | (have H2_ := (Option.bind_some _ _).symm.trans H; with_reducible exact H2_) | with_reducible exact H | (rw [hy157]; exact H) | exact H
                   have Ny157 := A_ hy157
                   clear hy157
                   have H' := A_ H
                   clear H
                   have p130 : 0 ≤ (x5_1 : Int) := of_decide_eq_true Z9
                   have q130 : x5_1 < (l0.length : Int) := of_decide_eq_true Z9
                   obtain ⟨ad130, A130_1, c130_1, e130, hx130_0, hx130_1, hl130_1, hi130_1⟩ := at_T75 HR0.out x5_1 p130 q130
                   obtain rfl : ad123 = ad130 := (by injection e130)
                   have ea_ := Option.some.inj (hv123_1.symm.trans hx130_1)
                   injection ea_ with ea_ en_ ec_
                   subst ea_
                   subst ec_
                   clear en_
                   replace hx130_0 := ZC HB.out hx130_0
                   replace hx130_1 := ZC HB.out hx130_1
                   have HR130_1 := A_ hi130_1
                   have HC130_1 := A_ hl130_1
                   clear hi130_1 hl130_1
                   replace p130 := eq_true p130
                   replace q130 := eq_true q130
                   try go_wp2
                   have n0_ := A_ (Kd.N_drew HO_4.out)
                   have n1_ := A_ (below_drew1 HB.out)
                   clear HO_4
                   clear HB
                   have HO_4 := n0_
                   have HB := n1_
                   clear n0_ n1_
                   have q37 : (t124 : Int) ≤ ((x4_1.length : Int) : Int) := of_decide_eq_true Z9
                   obtain ⟨i037, hi037, _, hsz37, _⟩ := info_parts info43
                   have hroom37 : x4_1.length ≤ co9 := (Kd.N_reads' HO_4.out).2.1
                   have hC37 : Kd.F (Kd.slice 92 k92) _ _ Ao9 x4_1.length x4_1 := (Kd.V_at (base := w.heap.size) (Kd.N_V HO_4.out)).2.2
                   have hcut37 := cut_to (P := Try.prog) 24 43 .i64 Try.underlying24 hi037 Ao9 x4_1.length co9 t124 (of_decide_eq_true Z9) q37 hroom37
                   have hr37 := Kd.F_take (m := (t124 : Int).toNat) hC37 (by omega)
                   have hy37 : y144.length = (t124 : Int).toNat := (by rw [Ny144.out, List.length_take]; omega)
                   rw [← Ny144.out] at hr37
                   rw [← hy37] at hcut37
                   have HO148 := A_ (show Kd.V (Kd.slice 92 k92) 43 _ w.heap.size _ (.slice Ao9 y144.length co9) y144 from Kd.V_mk (by omega) hr37)
                   have HC148 := A_ (show y144.length ≤ co9 from by omega)
                   clear hr37 hC37 hroom37 hi037 hsz37
                   have KY37 := A_ hy37
                   clear hy37
                   replace q37 := eq_true q37
                   have q38 : ((ji32) : Int) ≤ ((x4_1.length : Int) : Int) := of_decide_eq_true Z9
                   obtain ⟨i038, hi038, _, hsz38, _⟩ := info_parts info43
                   have hroom38 : x4_1.length ≤ co9 := (Kd.N_reads' HO_4.out).2.1
                   have hC38 : Kd.F (Kd.slice 92 k92) _ _ Ao9 x4_1.length x4_1 := (Kd.V_at (base := w.heap.size) (Kd.N_V HO_4.out)).2.2
                   have q038 : (0 : Int) ≤ ((ji32) : Int) := of_decide_eq_true Z9
                   have hcut38 := cut_from (P := Try.prog) 24 43 .i64 Try.underlying24 hi038 1 hsz38 Ao9 x4_1.length co9 (ji32) q038 q38
                   have hr38 := Kd.F_cut (m := ((ji32) : Int).toNat) (c := co9) hC38 (by omega) hroom38
                   obtain ⟨A38, hA38⟩ : ∃ A1, A1 = (if co9 = ((ji32) : Int).toNat then Ao9 else (Ao9 : Option Addr).map (·.add (((ji32) : Int).toNat * 1))) := ⟨_, rfl⟩
                   obtain ⟨c38, hc38⟩ : ∃ c1, c1 = co9 - ((ji32) : Int).toNat := ⟨_, rfl⟩
                   have hy38 : y152.length = x4_1.length - ((ji32) : Int).toNat := (by rw [Ny152.out, List.length_drop] <;> omega)
                   rw [show (x4_1).drop ((ji32) : Int).toNat = y152 from Ny152.out.symm] at hr38
                   replace hr38 : Kd.F (Kd.slice 92 k92) _ _ A38 y152.length y152 := (by rw [hA38]; exact hr38)
                   rw [← hy38, ← hA38, ← hc38] at hcut38
                   have HO156 := A_ (show Kd.V (Kd.slice 92 k92) 43 _ w.heap.size _ (.slice A38 y152.length c38) y152 from Kd.V_mk (by rw [hy38, hc38]; exact Nat.sub_le_sub_right hroom38 _) hr38)
                   have HC156 := A_ (show y152.length ≤ c38 from by rw [hy38, hc38]; exact Nat.sub_le_sub_right hroom38 _)
                   clear hr38 hC38 hroom38 hi038 hsz38 hc38
                   have KY38 := A_ hy38
                   have KA38 := A_ hA38
                   clear hy38 hA38
                   replace q38 := eq_true q38
                   refine start_ (n := 11) (S := fun w' => True) (ds := []) #[F,F,F,F,F,F,F,F,F,F,F] (by kernel_rfl) rfl rfl trivial (fun hHeld => ?_); refine with_tabW spec_EffectsLive.tab14 spec_EffectsLive.bits14 (fun HT_ HW_ => ?_)
                   generalize wc.drew = w36 at HO_4 HB HO148 HO156 hHeld ⊢
                   refine pure_ (i := 1) (N := some 71) (v := ?_) (a' := ?_) #[F,T,F,F,F,F,F,F,F,F,F] rfl rfl ZA ZF (Or.inl ⟨by rfl, ?_⟩) ?_ ?_
                   rotate_left
                   ·exact Z18
                   rotate_left
                   ·exact Z6
                   refine pure_ (i := 2) (N := some 72) (v := ?_) (a' := ?_) #[F,T,T,F,F,F,F,F,F,F,F] rfl rfl ZA ZF (Or.inl ⟨by rfl, ?_⟩) ?_ ?_
                   rotate_left
                   ·exact Z18
                   rotate_left
                   ·exact Z6
                   refine pure_ (i := 3) (N := some 73) (v := ?_) (a' := ?_) #[F,T,T,T,F,F,F,F,F,F,F] rfl rfl ZA ZF (Or.inl ⟨by rfl, ?_⟩) ?_ ?_
                   rotate_left
                   ·exact Z18
                   rotate_left
                   ·exact Z6
                   refine pure_ (i := 5) (N := some 75) (v := ?_) (a' := ?_) #[F,T,T,T,F,T,F,F,F,F,F] rfl rfl ZA ZF (Or.inl ⟨by rfl, ?_⟩) ?_ ?_
                   rotate_left
                   ·exact Z18
                   rotate_left
                   ·exact Z6
                   refine pure_ (i := 6) (N := some 76) (v := ?_) (a' := ?_) #[F,T,T,T,F,T,T,F,F,F,F] rfl rfl ZA ZF (Or.inl ⟨by rfl, ?_⟩) ?_ ?_
                   rotate_left
                   ·exact Z18
                   rotate_left
                   ·exact Z6
                   refine pure_ (i := 7) (N := some 77) (v := ?_) (a' := ?_) #[F,T,T,T,F,T,T,T,F,F,F] rfl rfl ZA ZF (Or.inl ⟨by rfl, ?_⟩) ?_ ?_
                   rotate_left
                   ·exact Z18
                   rotate_left
                   ·exact Z6
                   refine pure_ (i := 8) (N := some 78) (v := ?_) (a' := ?_) #[F,T,T,T,F,T,T,T,T,F,F] rfl rfl ZA ZF (Or.inl ⟨by rfl, ?_⟩) ?_ ?_
                   rotate_left
                   ·exact Z18
                   rotate_left
                   ·exact Z6
                   refine one_ (i := 0) (N := some 70) #[T,T,T,T,F,T,T,T,T,F,F] rfl rfl (one_of HT_.out (by kernel_rfl)) (by decide) (fun K hK => ?_)
                   refine Kd.N_lit_step (Kd.slice 92 k92) _ 43 ?hg (N' := 70) ?hd (xs := ([] : List (List (S92)))) (inner := []) (ok := (fun k_ => (w.heap.size ≤ k_) ∧ some k_ ≠ (.slice Ao9 x4_1.length co9 : Value).ownBlock)) (okp := (fun k_ => (w.heap.size ≤ k_) ∧ some k_ ≠ (.slice Ao9 x4_1.length co9 : Value).ownBlock)) ?hr ?hp (fun _ hk => hk) ((show ∀ k_, w36.heap.size ≤ k_ → (fun k_ => (w.heap.size ≤ k_) ∧ some k_ ≠ (.slice Ao9 x4_1.length co9 : Value).ownBlock) k_ from fun k_ hk => ⟨(Nat.le_trans (below_size Z0) hk), Kd.fresh' (Kd.N_lt (Z12 HO_4.out)) k_ hk⟩) _ (Nat.le_refl _)) (Below.refl _ _) (Nat.le_refl _) (by simp) ?_; (case hd => rfl); (case hg => rfl); (case hr => exact Z19); (case hp => exact (Reps.none _ _))
                   intro v142 w39 ho40 hb hg_ hnew_
                   clear hg_ hnew_
                   (first | rw [← Ny141.out] at ho40 | (simp only [Int.reduceToNat] at ho40; rw [← Ny141.out] at ho40))
                   have n0_ := A_ (Kd.N_elder' (Z12 HO_4.out) (Kd.N_base ho40) hb)
                   have n1_ := A_ (Kd.V_elder' (Z23 HO148.out) (Kd.N_base ho40) hb)
                   have n2_ := A_ (Kd.V_elder' (Z23 HO156.out) (Kd.N_base ho40) hb)
                   have n3_ := A_ (Kd.N_lower ho40 (below_size Z0))
                   have n4_ := A_ (below_step Z0 hb)
                   clear HO_4
                   clear HO148
                   clear HO156
                   clear HB
                   have HO_4 := n0_
                   have HO148 := n1_
                   have HO156 := n2_
                   have HO143 := n3_
                   have HB := n4_
                   clear n0_ n1_ n2_ n3_ n4_
                   clear hb ho40
                   refine hK.out _ _ trivial (fun hHeld => ?_)
                   clear hK K
                   refine norm_ (a' := ?_) ?_ ?_
                   rotate_left
                   ·show Act.put _ (some 70) _ = _
                    simp only [Act.put, List.setIfInBounds_toArray, List.set_cons_zero, List.set_cons_succ, i64_w, i32_w]
                    rfl
                   refine one_ (i := 4) (N := some 74) #[T,T,T,T,T,T,T,T,T,F,F] rfl rfl (one_of HT_.out (by kernel_rfl)) (by decide) (fun K hK => ?_)
                   refine Kd.N_append_rows_step (Kd.slice 92 k92) (w0 := w) w.heap.size (by rfl) (.tmp 70) (.tmp 73) 24 43 (.slice none 0 0) 24 rfl Try.underlying24 info43 rfl (by decide) (by omega) v142 y141 y144 _ _ _ (fun k_ => (w.heap.size ≤ k_)) (fun k_ => ((fun k_ => (w.heap.size ≤ k_))) k_ ∧ some k_ ≠ (v142 : Value).ownBlock) rfl rfl ?aO ?aR (fun _ hk => hk) ?aF ?aB ?aS ?aL ?_
                   (case aR => exact (by skip; exact Kd.V_F (Kd.V_mono (ok' := (fun k_ => ((fun k_ => (w.heap.size ≤ k_))) k_ ∧ some k_ ≠ (v142 : Value).ownBlock)) (HO148.out) (fun k_ hk => ⟨hk.1, hk.2⟩))))
                   (case aB => exact Z0)
                   (case aF => exact (fun k_ hk => (Nat.le_trans (below_size Z0) hk)))
                   (case aO => exact (by (with_reducible repeat (first | apply Kd.N_alloc | apply Kd.N_drewN | apply Kd.N_drew)); exact Kd.N_mono HO143.out (fun _ hk => hk.1)))
                   (case aS => exact (below_size Z0))
                   (case aL => have := LMc31.out; omega)
                   intro v150 w41 ho hb hg hat
                   rw [← Ny149.out] at ho
                   have n0_ := A_ (Kd.N_afterv (ok := (fun k_ => (w.heap.size ≤ k_))) (Z12 HO_4.out) hg hat)
                   have n1_ := A_ (Kd.V_afterv (ok := (fun k_ => (w.heap.size ≤ k_))) (Z23 HO148.out) hg hat)
                   have n2_ := A_ (Kd.V_afterv (ok := (fun k_ => (w.heap.size ≤ k_))) (Z23 HO156.out) hg hat)
                   have n3_ := A_ (hb)
                   have n4_ := A_ (ho)
                   clear HO_4
                   clear HO148
                   clear HO156
                   clear HB
                   clear HO143
                   have HO_4 := n0_
                   have HO148 := n1_
                   have HO156 := n2_
                   have HB := n3_
                   have HO151 := n4_
                   clear n0_ n1_ n2_ n3_ n4_
                   clear ho hb hg hat
                   refine hK.out _ _ trivial (fun hHeld => ?_)
                   clear hK K
                   refine norm_ (a' := ?_) ?_ ?_
                   rotate_left
                   ·show Act.put _ (some 74) _ = _
                    simp only [Act.put, List.setIfInBounds_toArray, List.set_cons_zero, List.set_cons_succ, i64_w, i32_w]
                    rfl
                   refine one_ (i := 9) (N := some 79) #[T,T,T,T,T,T,T,T,T,T,F] rfl rfl (one_of HT_.out (by kernel_rfl)) (by decide) (fun K hK => ?_)
                   refine Kd.N_append_rows_step (Kd.slice 92 k92) (w0 := w) w.heap.size (by rfl) (.tmp 74) (.tmp 78) 24 43 (.slice none 0 0) 24 rfl Try.underlying24 info43 rfl (by decide) (by omega) v150 y149 y152 _ _ _ (fun k_ => (w.heap.size ≤ k_)) (fun k_ => ((fun k_ => (w.heap.size ≤ k_))) k_ ∧ some k_ ≠ (v150 : Value).ownBlock) rfl rfl ?aO ?aR (fun _ hk => hk) ?aF ?aB ?aS ?aL ?_
                   (case aR => exact (by skip; exact Kd.V_F (Kd.V_mono (ok' := (fun k_ => ((fun k_ => (w.heap.size ≤ k_))) k_ ∧ some k_ ≠ (v150 : Value).ownBlock)) (HO156.out) (fun k_ hk => ⟨hk.1, hk.2⟩))))
                   (case aB => exact Z0)
                   (case aF => exact (fun k_ hk => (Nat.le_trans (below_size Z0) hk)))
                   (case aO => exact (Z12 HO151.out))
                   (case aS => exact (below_size Z0))
                   (case aL => have := LMc35.out; omega)
                   intro v158 w42 ho hb hg hat
                   rw [← Ny157.out] at ho
                   have n0_ := A_ (Kd.N_afterv (ok := (fun k_ => (w.heap.size ≤ k_))) (Z12 HO_4.out) hg hat)
                   have n1_ := A_ (Kd.V_afterv (ok := (fun k_ => (w.heap.size ≤ k_))) (Z23 HO148.out) hg hat)
                   have n2_ := A_ (Kd.V_afterv (ok := (fun k_ => (w.heap.size ≤ k_))) (Z23 HO156.out) hg hat)
                   have n3_ := A_ (hb)
                   have n4_ := A_ (ho)
                   clear HO_4
                   clear HO148
                   clear HO156
                   clear HB
                   clear HO151
                   have HO_4 := n0_
                   have HO148 := n1_
                   have HO156 := n2_
                   have HB := n3_
                   have HO159 := n4_
                   clear n0_ n1_ n2_ n3_ n4_
                   clear ho hb hg hat
                   refine hK.out _ _ trivial (fun hHeld => ?_)
                   clear hK K
                   refine norm_ (a' := ?_) ?_ ?_
                   rotate_left
                   ·show Act.put _ (some 79) _ = _
                    simp only [Act.put, List.setIfInBounds_toArray, List.set_cons_zero, List.set_cons_succ, i64_w, i32_w]
                    rfl
                   refine pure_ (i := 10) (N := some 4) (v := ?_) (a' := ?_) #[T,T,T,T,T,T,T,T,T,T,T] rfl rfl ZA ZF (Or.inl ⟨by rfl, ?_⟩) ?_ ?_
                   rotate_left
                   ·exact Z18
                   rotate_left
                   ·exact Z6
                   refine done_ (done_of HT_.out (by kernel_rfl)) ?_
                   try go_wp2
                   go_roundg kj7
                   case measure => have := HK1.out; have := HJ7.out; omega
                   case rel => exact ⟨(y157), (wrap64 (x5_1 + 1)), Z17, H', ⟨by have := HK1.out; have := HJ7.out; omega⟩, ⟨Z12 HO159.out⟩, ⟨Z0⟩⟩
                  ·rw [if_neg c35] at H
                   exact absurd H (by simp)
                 ·rw [if_neg c34] at H
                  exact absurd H (by simp)
                ·rw [if_neg c33] at H
                 exact absurd H (by simp)
               ·rw [if_neg c31] at H
                exact absurd H (by simp)
              ·rw [if_neg c30] at H
               exact absurd H (by simp)
             ·rw [if_neg c29] at H
              exact absurd H (by simp)
            ·rw [if_neg c28] at H
             have c28b0 : (((rd_T75 l0 x5_1).f0) == 0) = false := beq_eq_false_iff_ne.mpr c28
             have c28b1 : (((rd_T75 l0 x5_1).f0) != 0) = true := bne_iff_ne.mpr c28
             have H' := A_ H
             clear H
             have p130 : 0 ≤ (x5_1 : Int) := of_decide_eq_true Z9
             have q130 : x5_1 < (l0.length : Int) := of_decide_eq_true Z9
             obtain ⟨ad130, A130_1, c130_1, e130, hx130_0, hx130_1, hl130_1, hi130_1⟩ := at_T75 HR0.out x5_1 p130 q130
             obtain rfl : ad123 = ad130 := (by injection e130)
             have ea_ := Option.some.inj (hv123_1.symm.trans hx130_1)
             injection ea_ with ea_ en_ ec_
             subst ea_
             subst ec_
             clear en_
             replace hx130_0 := ZC HB.out hx130_0
             replace hx130_1 := ZC HB.out hx130_1
             have HR130_1 := A_ hi130_1
             have HC130_1 := A_ hl130_1
             clear hi130_1 hl130_1
             replace p130 := eq_true p130
             replace q130 := eq_true q130
             go_wp2
             go_roundg kj7
             case measure => have := HK1.out; have := HJ7.out; omega
             case rel => exact ⟨(x4_1), (wrap64 (x5_1 + 1)), Z17, H', ⟨by have := HK1.out; have := HJ7.out; omega⟩, ⟨Z12 HO_4.out⟩, ⟨Z0⟩⟩
          ·rw [if_neg c19] at H
           exact absurd H (by simp)
         ·rw [if_neg c18] at H
          exact absurd H (by simp)
     ·rw [if_neg c6] at H
      exact absurd H (by simp)
    ·rw [if_neg c5] at H
     have c5b0 : decide (x5_1 < (l0.length : Int)) = false := decide_eq_false c5
     clear c5
     simp only [Option.some.injEq, Prod.mk.injEq] at H
     obtain ⟨rfl, rfl⟩ := H
     go_wp2
     go_ret2
     exact ⟨_, Z14, Z12 HO_4.out, Z0⟩
def laws_toSlot.f (a0_0 : Int) (a0_1 : Int) : Option (Int × Int) := some (a0_0, a0_1)
set_option maxHeartbeats 8000000 in
set_option maxRecDepth 100000 in
theorem laws_toSlot.calls (a0_0 : Int) (a0_1 : Int) (r1 : Int) (r2 : Int) (w : World) (h : laws_toSlot.f a0_0 a0_1 = some (r1, r2)) :
  Calls Try.prog 62 #[.agg #[.int .i64 a0_0, .int .i64 a0_1]] w fun e w' => e = .returned (.agg #[.int .i64 r1, .int .i64 r2]) ∧ Below w.heap.size w w' := by
 have hu94 := Try.underlying94
 have hu92 := Try.underlying92
 have HB := A_ (Below.refl w.heap.size w)
 have H : (some (a0_0, a0_1)) = some (r1, r2) := h
 clear h
 simp only [Option.some.injEq, Prod.mk.injEq] at H
 obtain ⟨rfl, rfl⟩ := H
 go_enter Try.func62, Try.ntmps62
 go_wp2_with (first | ((with_reducible refine gate_dst (N := 1) rfl ?_); refine box_event ?hg (N := 1) ?hd (cs := #[.int .i64 a0_0, .int .i64 a0_1]) (t := 94) ?hr ?_; (case hd => rfl); (case hg => rfl); (case hr => exact Z19); intro gb160 hg w2 hbox hb; have n0_ := A_ (below_step Z0 hb); have n1_ := A_ (hbox); have n2_ := A_ ((by rw [hg]; exact (below_size Z0) : w.heap.size ≤ gb160)); have n3_ := A_ ((by rw [hg]; exact (below_size Z0) : w.heap.size ≤ gb160)); clear HB; have HB := n0_; have BK160 := n1_; have GW160 := n2_; have GE160 := n3_; clear n0_ n1_ n2_ n3_; clear hb hbox hg) | ((with_reducible refine gate_dst (N := 2) rfl ?_); refine box_event ?hg (N := 2) ?hd (cs := #[.int .i64 0, .int .i64 0]) (t := 92) ?hr ?_; (case hd => rfl); (case hg => rfl); (case hr => exact Z19); intro gb161 hg w3 hbox hb; have n0_ := A_ (blk_below (g := gb160) (o := .cells #[.int .i64 a0_0, .int .i64 a0_1] 94 (0, 0)) (Z7 BK160.out) hb); have n1_ := A_ (below_step (Z1 GE160.out) hb); have n2_ := A_ (hbox); have n3_ := A_ ((by rw [hg]; exact (below_size (Z1 GE160.out)) : w.heap.size ≤ gb161)); have n4_ := A_ ((by rw [hg]; exact (below_size (Z1 GE160.out)) : w.heap.size ≤ gb161)); have n5_ := A_ ((by rw [hg]; exact Nat.ne_of_lt (blk_lt (g := gb160) (o := .cells #[.int .i64 a0_0, .int .i64 a0_1] 94 (0, 0)) (Z7 BK160.out)) : gb160 ≠ gb161)); have n6_ := A_ ((by rw [hg]; exact Nat.ne_of_gt (blk_lt (g := gb160) (o := .cells #[.int .i64 a0_0, .int .i64 a0_1] 94 (0, 0)) (Z7 BK160.out)) : gb161 ≠ gb160)); clear BK160; clear HB; have BK160 := n0_; have HB := n1_; have BK161 := n2_; have GW161 := n3_; have GE161 := n4_; have NB160_161 := n5_; have NB161_160 := n6_; clear n0_ n1_ n2_ n3_ n4_ n5_ n6_; clear hb hbox hg) | ((with_reducible refine gate_dst (N := 3) rfl ?_); refine box_event ?hg (N := 3) ?hd (cs := #[.int .i64 0, .int .i64 0]) (t := 92) ?hr ?_; (case hd => rfl); (case hg => rfl); (case hr => exact Z19); intro gb162 hg w4 hbox hb; have n0_ := A_ (blk_below (g := gb160) (o := .cells #[.int .i64 a0_0, .int .i64 a0_1] 94 (0, 0)) (Z7 BK160.out) hb); have n1_ := A_ (blk_below (g := gb161) (o := .cells #[.int .i64 0, .int .i64 0] 92 (0, 0)) (Z7 BK161.out) hb); have n2_ := A_ (below_step (Z11 GE160.out GE161.out) hb); have n3_ := A_ (hbox); have n4_ := A_ ((by rw [hg]; exact (below_size (Z11 GE160.out GE161.out)) : w.heap.size ≤ gb162)); have n5_ := A_ ((by rw [hg]; exact (below_size (Z11 GE160.out GE161.out)) : w.heap.size ≤ gb162)); have n6_ := A_ ((by rw [hg]; exact Nat.ne_of_lt (blk_lt (g := gb160) (o := .cells #[.int .i64 a0_0, .int .i64 a0_1] 94 (0, 0)) (Z7 BK160.out)) : gb160 ≠ gb162)); have n7_ := A_ ((by rw [hg]; exact Nat.ne_of_gt (blk_lt (g := gb160) (o := .cells #[.int .i64 a0_0, .int .i64 a0_1] 94 (0, 0)) (Z7 BK160.out)) : gb162 ≠ gb160)); have n8_ := A_ ((by rw [hg]; exact Nat.ne_of_lt (blk_lt (g := gb161) (o := .cells #[.int .i64 0, .int .i64 0] 92 (0, 0)) (Z7 BK161.out)) : gb161 ≠ gb162)); have n9_ := A_ ((by rw [hg]; exact Nat.ne_of_gt (blk_lt (g := gb161) (o := .cells #[.int .i64 0, .int .i64 0] 92 (0, 0)) (Z7 BK161.out)) : gb162 ≠ gb161)); clear BK160; clear BK161; clear HB; have BK160 := n0_; have BK161 := n1_; have HB := n2_; have BK162 := n3_; have GW162 := n4_; have GE162 := n5_; have NB160_162 := n6_; have NB162_160 := n7_; have NB161_162 := n8_; have NB162_161 := n9_; clear n0_ n1_ n2_ n3_ n4_ n5_ n6_ n7_ n8_ n9_; clear hb hbox hg; have hnb5 := NB160_161.out; have hnc5 := NB161_160.out; have hnb6 := NB160_162.out; have hnc6 := NB162_160.out; have hcz7_0 : w4.cell? ⟨gb160, 0, none⟩ = some (.int .i64 a0_0) := (blk_cell BK160.out 0).trans rfl; have hcz7_1 : w4.cell? ⟨gb160, 1, none⟩ = some (.int .i64 a0_1) := (blk_cell BK160.out 1).trans rfl; have hfz7_0 := blk_frozen BK160.out 0; have hfz7_1 := blk_frozen BK160.out 1; have hnb8 := NB162_161.out; have hnc8 := NB161_162.out; have hcz9_0 : w4.cell? ⟨gb162, 0, none⟩ = some (.int .i64 0) := (blk_cell BK162.out 0).trans rfl; have hcz9_1 : w4.cell? ⟨gb162, 1, none⟩ = some (.int .i64 0) := (blk_cell BK162.out 1).trans rfl; have hfz9_0 := blk_frozen BK162.out 0; have hfz9_1 := blk_frozen BK162.out 1; have hcz10_0 : w4.cell? ⟨gb161, 0, none⟩ = some (.int .i64 0) := (blk_cell BK161.out 0).trans rfl; have hcz10_1 : w4.cell? ⟨gb161, 1, none⟩ = some (.int .i64 0) := (blk_cell BK161.out 1).trans rfl; have hfz10_0 := blk_frozen BK161.out 0; have hfz10_1 := blk_frozen BK161.out 1))
 refine bodyPost_ret (results_cell_row rfl _ _ gb161 92 #[.int .i64 a0_0, .int .i64 a0_1] (0, 0) _ rfl (by (with_reducible repeat (first | refine blk_drewN ?_ _ | refine blk_drew ?_ | refine blk_alloc ?_ _)); refine blk_put (cs := #[.int .i64 a0_0, .int .i64 0]) ?_ 1 _ rfl; (with_reducible repeat (first | refine blk_drewN ?_ _ | refine blk_drew ?_ | refine blk_alloc ?_ _)); refine blk_put (cs := #[.int .i64 0, .int .i64 0]) ?_ 0 _ rfl; (with_reducible repeat (first | refine blk_drewN ?_ _ | refine blk_drew ?_ | refine blk_alloc ?_ _)); refine blk_far ?_ NB161_162.out _; (with_reducible repeat (first | refine blk_drewN ?_ _ | refine blk_drew ?_ | refine blk_alloc ?_ _)); refine blk_far ?_ NB161_162.out _; (with_reducible repeat (first | refine blk_drewN ?_ _ | refine blk_drew ?_ | refine blk_alloc ?_ _)); exact BK161.out) Try.underlying92 rfl (by kernel_rfl)) rfl ?_
 exact ⟨Z14, by repeat (first | (with_reducible first | exact HB.out | apply below_alloc | apply pw_below_drewN | apply below_drew1 | refine below_set ?_ GE160.out | refine below_set ?_ GE161.out | refine below_set ?_ GE162.out) | exact HB.out)⟩
end Go.Proofs.Ytpadhphdglbciaa.PFnExactEffectsLive
