/- Walks of the functions that the law 'FnExactEffectsLive' reaches, part 7: for each a Lean function and the proof that Go's comes to just its answer (lines of the print, under own names; no condition). -/
import Derived.Test.YtpadhphdglbciaaZFnExactEffectsLiveCells
import Derived.Test.YtpadhphdglbciaaZFnExactEffectsLiveQFnExactEffectsLivex0
import Derived.Test.YtpadhphdglbciaaZFnExactEffectsLiveQFnExactEffectsLivex4
import Derived.Test.YtpadhphdglbciaaZFnExactEffectsLiveQFnExactEffectsLivex5
import Derived.Test.YtpadhphdglbciaaZFnExactEffectsLiveQFnExactEffectsLivex6
namespace Go.Proofs.Ytpadhphdglbciaa.PFnExactEffectsLive
open Go.RowKit Go.Proofs.YtpadhphdglbciaaW.PrintWords Go.Proofs.YtpadhphdglbciaaW.PrintLast Go.Proofs.YtpadhphdglbciaaW.PrintMore
attribute [local go_sem] max2_int min2_int max_two min_two max_three min_three max_four min_four
set_option linter.unusedVariables false
set_option linter.unusedSimpArgs false
mutual
def impl_EffectsLive.l0 : Nat → List (S75) → List (S75) → Int → Int → Option ((List (List (S92))) × Bool)
 | 0, _, _, _, _ => none
 | k + 1, x0, x15, x16, x17 => if x17 < x16 then (if 0 ≤ x17 then (if x17 < (x15.length : Int) then ((impl_within.f ((rd_T75 x15 x17).f0) 0 2).bind fun t198 => (if t198 = true then ((impl_PlaceOk.f k ((rd_T75 x15 x17).f1)).bind fun t199 => (if t199 = true then (impl_EffectsLive.l0 k x0 x15 x16 (wrap64 (x17 + 1))) else (some (([] : List (List (S92))), false)))) else (some (([] : List (List (S92))), false)))) else (none)) else (none)) else (impl_EffectsLive.l1 k ([] : List (List (S92))) x0 (x0.length : Int) 0)
def impl_EffectsLive.l1 : Nat → List (List (S92)) → List (S75) → Int → Int → Option ((List (List (S92))) × Bool)
 | 0, _, _, _, _ => none
 | k + 1, x6, x32, x33, x34 => if x34 < x33 then (if 0 ≤ x34 then (if x34 < (x32.length : Int) then (impl_EffectsLive.l2 k x6 (-1) x32 x33 x34 x6 (x6.length : Int) 0 ((rd_T75 x32 x34).f0) ((rd_T75 x32 x34).f1)) else (none)) else (none)) else (some (x6, true))
def impl_EffectsLive.l2 : Nat → List (List (S92)) → Int → List (S75) → Int → Int → List (List (S92)) → Int → Int → Int → List (S92) → Option ((List (List (S92))) × Bool)
 | 0, _, _, _, _, _, _, _, _, _, _ => none
 | k + 1, x6, x9, x32, x33, x34, x38, x39, x40, x202000, x202001 => if x40 < x39 then (if 0 ≤ x40 then (if x40 < (x38.length : Int) then ((impl_placeCmp.f k (rd_L5 x38 x40) x202001).bind fun t203 => (if t203 = 0 then (impl_EffectsLive.l2 k x6 x40 x32 x33 x34 x38 x39 (wrap64 (x40 + 1)) x202000 x202001) else (impl_EffectsLive.l2 k x6 x9 x32 x33 x34 x38 x39 (wrap64 (x40 + 1)) x202000 x202001))) else (none)) else (none)) else (if ((x202000 == 1) == (decide (x9 ≥ 0))) = true then (some (([] : List (List (S92))), false)) else (if x202000 = 1 then ((impl_placeCopy.f x202001).bind fun t204 => (if x6.length < 5864062014805 then (impl_EffectsLive.l1 k (x6 ++ [t204]) x32 x33 (wrap64 (x34 + 1))) else (none))) else (if x202000 = 0 then ((some (([] : List (List (S92))) : List (List (S92)))).bind fun y210 => (if 0 ≤ x9 then (if x9 ≤ (x6.length : Int) then ((some (x6.take (x9 : Int).toNat : List (List (S92)))).bind fun y213 => (if y210.length + y213.length < 5864062014805 then ((some (y210 ++ y213 : List (List (S92)))).bind fun y218 => (if 0 ≤ (wrap64 (x9 + 1)) then (if (wrap64 (x9 + 1)) ≤ (x6.length : Int) then ((some (x6.drop ((wrap64 (x9 + 1)) : Int).toNat : List (List (S92)))).bind fun y221 => (if y218.length + y221.length < 5864062014805 then (impl_EffectsLive.l1 k (y218 ++ y221) x32 x33 (wrap64 (x34 + 1))) else (none))) else (none)) else (none))) else (none))) else (none)) else (none))) else (impl_EffectsLive.l1 k x6 x32 x33 (wrap64 (x34 + 1))))))
end
def impl_EffectsLive.f (k : Nat) (l0 : List (S75)) : Option ((List (List (S92))) × Bool) := if (l0.length : Int) > 400 then (some (([] : List (List (S92))), false)) else (impl_EffectsLive.l0 k l0 l0 (l0.length : Int) 0)
theorem impl_EffectsLive.mono_l : ∀ k, (∀ y0 y1 y2 y3, LeO (impl_EffectsLive.l0 k y0 y1 y2 y3) (impl_EffectsLive.l0 (k + 1) y0 y1 y2 y3)) ∧ (∀ y0 y1 y2 y3, LeO (impl_EffectsLive.l1 k y0 y1 y2 y3) (impl_EffectsLive.l1 (k + 1) y0 y1 y2 y3)) ∧ (∀ y0 y1 y2 y3 y4 y5 y6 y7 y8 y9, LeO (impl_EffectsLive.l2 k y0 y1 y2 y3 y4 y5 y6 y7 y8 y9) (impl_EffectsLive.l2 (k + 1) y0 y1 y2 y3 y4 y5 y6 y7 y8 y9))
 | 0 => ⟨fun _ _ _ _ r h => by simp [impl_EffectsLive.l0] at h, fun _ _ _ _ r h => by simp [impl_EffectsLive.l1] at h, fun _ _ _ _ _ _ _ _ _ _ r h => by simp [impl_EffectsLive.l2] at h⟩
 | k + 1 => by
  obtain ⟨ih0, ih1, ih2⟩ := impl_EffectsLive.mono_l k
  refine ⟨?_, ?_, ?_⟩
  ·intro y0 y1 y2 y3
   unfold impl_EffectsLive.l0
   repeat' first
   | (with_reducible exact ih0 _ _ _ _)
   | (with_reducible exact ih1 _ _ _ _)
   | (with_reducible exact ih2 _ _ _ _ _ _ _ _ _ _)
   | (with_reducible exact impl_PlaceOk.mono _ _)
   | (with_reducible exact impl_placeCmp.mono _ _ _)
   | (with_reducible exact LeO.refl _)
   | (with_reducible exact LeO.none _)
   | (with_reducible refine LeO.ite ?_ ?_)
   | (with_reducible refine LeO.bind ?_ (fun _ => ?_))
   | exact ih0 _ _ _ _
   | exact ih1 _ _ _ _
   | exact ih2 _ _ _ _ _ _ _ _ _ _
   | exact impl_PlaceOk.mono _ _
   | exact impl_placeCmp.mono _ _ _
   | exact LeO.none _
   | refine LeO.ite ?_ ?_
   | refine LeO.bind ?_ (fun _ => ?_)
  ·intro y0 y1 y2 y3
   unfold impl_EffectsLive.l1
   repeat' first
   | (with_reducible exact ih0 _ _ _ _)
   | (with_reducible exact ih1 _ _ _ _)
   | (with_reducible exact ih2 _ _ _ _ _ _ _ _ _ _)
   | (with_reducible exact impl_PlaceOk.mono _ _)
   | (with_reducible exact impl_placeCmp.mono _ _ _)
   | (with_reducible exact LeO.refl _)
   | (with_reducible exact LeO.none _)
   | (with_reducible refine LeO.ite ?_ ?_)
   | (with_reducible refine LeO.bind ?_ (fun _ => ?_))
   | exact ih0 _ _ _ _
   | exact ih1 _ _ _ _
   | exact ih2 _ _ _ _ _ _ _ _ _ _
   | exact impl_PlaceOk.mono _ _
   | exact impl_placeCmp.mono _ _ _
   | exact LeO.none _
   | refine LeO.ite ?_ ?_
   | refine LeO.bind ?_ (fun _ => ?_)
  ·intro y0 y1 y2 y3 y4 y5 y6 y7 y8 y9
   unfold impl_EffectsLive.l2
   repeat' first
   | (with_reducible exact ih0 _ _ _ _)
   | (with_reducible exact ih1 _ _ _ _)
   | (with_reducible exact ih2 _ _ _ _ _ _ _ _ _ _)
   | (with_reducible exact impl_PlaceOk.mono _ _)
   | (with_reducible exact impl_placeCmp.mono _ _ _)
   | (with_reducible exact LeO.refl _)
   | (with_reducible exact LeO.none _)
   | (with_reducible refine LeO.ite ?_ ?_)
   | (with_reducible refine LeO.bind ?_ (fun _ => ?_))
   | exact ih0 _ _ _ _
   | exact ih1 _ _ _ _
   | exact ih2 _ _ _ _ _ _ _ _ _ _
   | exact impl_PlaceOk.mono _ _
   | exact impl_placeCmp.mono _ _ _
   | exact LeO.none _
   | refine LeO.ite ?_ ?_
   | refine LeO.bind ?_ (fun _ => ?_)
theorem impl_EffectsLive.mono : ∀ a0 k, LeO (impl_EffectsLive.f k a0) (impl_EffectsLive.f (k + 1) a0) := by
 intro a0 k
 obtain ⟨ih0, ih1, ih2⟩ := impl_EffectsLive.mono_l k
 unfold impl_EffectsLive.f
 repeat' first
   | (with_reducible exact ih0 _ _ _ _)
   | (with_reducible exact ih1 _ _ _ _)
   | (with_reducible exact ih2 _ _ _ _ _ _ _ _ _ _)
   | (with_reducible exact impl_PlaceOk.mono _ _)
   | (with_reducible exact impl_placeCmp.mono _ _ _)
   | (with_reducible exact LeO.refl _)
   | (with_reducible exact LeO.none _)
   | (with_reducible refine LeO.ite ?_ ?_)
   | (with_reducible refine LeO.bind ?_ (fun _ => ?_))
   | exact ih0 _ _ _ _
   | exact ih1 _ _ _ _
   | exact ih2 _ _ _ _ _ _ _ _ _ _
   | exact impl_PlaceOk.mono _ _
   | exact impl_placeCmp.mono _ _ _
   | exact LeO.none _
   | refine LeO.ite ?_ ?_
   | refine LeO.bind ?_ (fun _ => ?_)
def impl_EffectsLive.T25 : Bool × List (List Nat × List Nat) := (true, [([], []), ([], []), ([], []), ([1, 2], [1, 2]), ([0, 3], [0, 3]), ([], []), ([], []), ([6], [6]), ([5, 7], [5, 7]), ([4, 8, 4], [4, 8]), ([9, 9, 0, 1, 2, 3, 4, 5, 6, 7, 8, 9], [1, 5, 9])])
def impl_EffectsLive.B25 : List Nat := [0, 0, 0, 6, 15, 0, 0, 64, 224, 511, 1023]
theorem impl_EffectsLive.tab25 : rtab .any (opsOf Try.f12 25) = impl_EffectsLive.T25 := by kernel_rfl
theorem impl_EffectsLive.bits25 : waitsOk impl_EffectsLive.T25.2 impl_EffectsLive.B25 = true := by kernel_rfl
set_option maxHeartbeats 8000000 in
set_option maxRecDepth 100000 in
theorem impl_EffectsLive.calls (k : Nat) (A0 : Option Addr) (c0 : Nat) (l0 : List (S75)) (r1 : List (List (S92))) (r2 : Bool) (w : World) (hr0 : Kd.C k75 w A0 l0.length l0) (hc0 : l0.length ≤ c0) (h : impl_EffectsLive.f k l0 = some (r1, r2)) :
  Calls Try.prog 12 #[.slice A0 l0.length c0] w fun e w' => ∃ v0_ : Value, e = .returned (.tuple #[v0_, .bool r2]) ∧ Kd.S (Kd.slice 92 k92) 43 w' w.heap.size (fun k_ => (w.heap.size ≤ k_)) v0_ r1 ∧ Below w.heap.size w w' := by
 have hu75 := Try.underlying75
 have HR0 := A_ hr0
 have HC0 := A_ hc0
 clear hr0 hc0
 have HB := A_ (Below.refl w.heap.size w)
 have H : (if (l0.length : Int) > 400 then (some (([] : List (List (S92))), false)) else (impl_EffectsLive.l0 k l0 l0 (l0.length : Int) 0)) = some (r1, r2) := h
 clear h
 by_cases c2 : (l0.length : Int) > 400
 ·rw [if_pos c2] at H
  have c2b0 : decide (400 < (l0.length : Int)) = true := decide_eq_true c2
  have c2b1 : decide (400 < l0.length) = true := decide_eq_true (by omega)
  clear c2
  simp only [Option.some.injEq, Prod.mk.injEq] at H
  obtain ⟨rfl, rfl⟩ := H
  go_enter Try.func12, Try.ntmps12
  go_wp2
  go_ret2
  exact ⟨_, Z14, Z28, Z0⟩
 ·rw [if_neg c2] at H
  have c2b0 : decide (400 < (l0.length : Int)) = false := decide_eq_false c2
  have c2b1 : decide (400 < l0.length) = false := decide_eq_false (by omega)
  clear c2
  have H' := A_ H
  clear H
  go_enter Try.func12, Try.ntmps12
  go_wp2
  go_loopg [17] k (fun kq v17 w' => ∃ (x17_1 : Int), v17 = .int .i64 x17_1 ∧ Aside0 (impl_EffectsLive.l0 kq l0 l0 (l0.length : Int) x17_1 = some (r1, r2)) ∧ Aside0 (kq ≤ k) ∧ Aside0 (Below w.heap.size w w'))
  case atStart => exact ⟨(0), Z17, H', ⟨Nat.le_refl _⟩, ⟨Z0⟩⟩
  case round =>
   clear H'
   try clear c1
   try clear c2
   try clear c2b0
   try clear c2b1
   try clear p2
   obtain ⟨x17_1, rfl, HA, HK1, HB⟩ := hrel
   cases gk with
   | zero => exact absurd HA.out (by simp [impl_EffectsLive.l0])
   | succ k1 =>
    have H := HA.out
    clear HA
    simp only [impl_EffectsLive.l0] at H
    by_cases c3 : x17_1 < (l0.length : Int)
    ·rw [if_pos c3] at H
     have c3b0 : decide (x17_1 < (l0.length : Int)) = true := decide_eq_true c3
     clear c3
     by_cases c4 : 0 ≤ x17_1
     ·rw [if_pos c4] at H
      have c4b0 : decide (0 ≤ x17_1) = true := decide_eq_true c4
      clear c4
      by_cases c5 : x17_1 < (l0.length : Int)
      ·rw [if_pos c5] at H
       have c5b0 : decide (x17_1 < (l0.length : Int)) = true := decide_eq_true c5
       clear c5
       replace H := Option.bind_eq_some_iff.mp H
       obtain ⟨t198, A60, H⟩ := H
       replace H : (if t198 = true then ((impl_PlaceOk.f k1 ((rd_T75 l0 x17_1).f1)).bind fun t199 => (if t199 = true then (impl_EffectsLive.l0 k1 l0 l0 (l0.length : Int) (wrap64 (x17_1 + 1))) else (some (([] : List (List (S92))), false)))) else (some (([] : List (List (S92))), false))) = some (r1, r2) := H
       have A6 := A_ A60
       clear A60
       by_cases c7 : t198 = true
       ·subst c7
        have H1 : ((impl_PlaceOk.f k1 ((rd_T75 l0 x17_1).f1)).bind fun t199 => (if t199 = true then (impl_EffectsLive.l0 k1 l0 l0 (l0.length : Int) (wrap64 (x17_1 + 1))) else (some (([] : List (List (S92))), false)))) = some (r1, r2) := by rw [if_pos rfl] at H; exact H
        clear H
        have H := H1
        clear H1
        replace H := Option.bind_eq_some_iff.mp H
        obtain ⟨t199, A80, H⟩ := H
        replace H : (if t199 = true then (impl_EffectsLive.l0 k1 l0 l0 (l0.length : Int) (wrap64 (x17_1 + 1))) else (some (([] : List (List (S92))), false))) = some (r1, r2) := H
        have A8 := A_ A80
        clear A80
        by_cases c9 : t199 = true
        ·subst c9
         have H1 : (impl_EffectsLive.l0 k1 l0 l0 (l0.length : Int) (wrap64 (x17_1 + 1))) = some (r1, r2) := by rw [if_pos rfl] at H; exact H
         clear H
         have H := H1
         clear H1
         have H' := A_ H
         clear H
         have p196 : 0 ≤ (x17_1 : Int) := of_decide_eq_true Z9
         have q196 : x17_1 < (l0.length : Int) := of_decide_eq_true Z9
         obtain ⟨ad196, A196_1, c196_1, e196, hx196_0, hx196_1, hl196_1, hi196_1⟩ := at_T75 HR0.out x17_1 p196 q196
         cases e196
         replace hx196_0 := ZC HB.out hx196_0
         replace hx196_1 := ZC HB.out hx196_1
         have HR196_1 := A_ hi196_1
         have HC196_1 := A_ hl196_1
         clear hi196_1 hl196_1
         replace p196 := eq_true p196
         replace q196 := eq_true q196
         go_wp2_with (first | ((with_reducible refine gate_dst (N := 5) rfl ?_); refine box_event ?hg (N := 5) ?hd (cs := #[.int .i64 0, .slice none 0 0]) (t := 75) ?hr ?_; (case hd => rfl); (case hg => rfl); (case hr => exact Z19); intro gb197 hg w10 hbox hb; have n0_ := A_ (below_step Z0 hb); have n1_ := A_ (hbox); have n2_ := A_ ((by rw [hg]; exact (below_size Z0) : w.heap.size ≤ gb197)); have n3_ := A_ ((by rw [hg]; exact (below_size Z0) : w.heap.size ≤ gb197)); clear HB; have HB := n0_; have BK197 := n1_; have GW197 := n2_; have GE197 := n3_; clear n0_ n1_ n2_ n3_; clear hb hbox hg; have hcz11_0 : w10.cell? ⟨gb197, 0, none⟩ = some (.int .i64 0) := (blk_cell BK197.out 0).trans rfl; have hcz11_1 : w10.cell? ⟨gb197, 1, none⟩ = some (.slice none 0 0) := (blk_cell BK197.out 1).trans rfl; have hfz11_0 := blk_frozen BK197.out 0; have hfz11_1 := blk_frozen BK197.out 1) | ((with_reducible refine gate_callee (f := 52) rfl ?_); refine goesL_ (some 23) rfl rfl Try.func52 (by kernel_rfl) rfl #[.int .i64 ((rd_T75 l0 x17_1).f0), .int .i64 0, .int .i64 2] rfl Z8 ?_; (with_reducible refine (impl_within.calls ((rd_T75 l0 x17_1).f0) 0 2 true _ A6.out).mono ?_); rintro e w' ⟨rfl, ⟨nd, rfl⟩⟩; refine ⟨_, rfl, ?_⟩) | (go_at_call 53; (with_reducible refine (impl_PlaceOk.calls k1 _ _ ((rd_T75 l0 x17_1).f1) true _ ?side1 ?side2 A8.out).mono ?_); (case side1 => exact Kd.C_below HR196_1.out (Z1 GE197.out)); (case side2 => exact HC196_1.out); rintro e w12 ⟨rfl, hb⟩; have n0_ := A_ (blk_below (g := gb197) (o := .cells #[.int .i64 ((rd_T75 l0 x17_1).f0), .slice A196_1 ((rd_T75 l0 x17_1).f1).length c196_1] 75 (0, 0)) (by (with_reducible repeat (first | refine blk_drewN ?_ _ | refine blk_drew ?_ | refine blk_alloc ?_ _)); refine blk_put (cs := #[.int .i64 ((rd_T75 l0 x17_1).f0), .slice none 0 0]) ?_ 1 _ rfl; (with_reducible repeat (first | refine blk_drewN ?_ _ | refine blk_drew ?_ | refine blk_alloc ?_ _)); refine blk_put (cs := #[.int .i64 0, .slice none 0 0]) ?_ 0 _ rfl; (with_reducible repeat (first | refine blk_drewN ?_ _ | refine blk_drew ?_ | refine blk_alloc ?_ _)); exact BK197.out) hb); have n1_ := A_ (below_step (Z1 GE197.out) hb); clear BK197; clear HB; have BK197 := n0_; have HB := n1_; clear n0_ n1_; (try clear hb); (try clear hb2); (try clear hk); (try clear hi)))
         go_roundg k1
         case measure => have := HK1.out; omega
         case rel => exact ⟨(wrap64 (x17_1 + 1)), Z17, H', ⟨by have := HK1.out; omega⟩, ⟨Z1 GE197.out⟩⟩
        ·replace c9 := Bool.eq_false_iff.mpr c9
         subst c9
         have H1 : (some (([] : List (List (S92))), false)) = some (r1, r2) := by rw [if_neg (show ¬ (false = true) by decide)] at H; exact H
         clear H
         have H := H1
         clear H1
         simp only [Option.some.injEq, Prod.mk.injEq] at H
         obtain ⟨rfl, rfl⟩ := H
         have p196 : 0 ≤ (x17_1 : Int) := of_decide_eq_true Z9
         have q196 : x17_1 < (l0.length : Int) := of_decide_eq_true Z9
         obtain ⟨ad196, A196_1, c196_1, e196, hx196_0, hx196_1, hl196_1, hi196_1⟩ := at_T75 HR0.out x17_1 p196 q196
         cases e196
         replace hx196_0 := ZC HB.out hx196_0
         replace hx196_1 := ZC HB.out hx196_1
         have HR196_1 := A_ hi196_1
         have HC196_1 := A_ hl196_1
         clear hi196_1 hl196_1
         replace p196 := eq_true p196
         replace q196 := eq_true q196
         go_wp2_with (first | ((with_reducible refine gate_dst (N := 5) rfl ?_); refine box_event ?hg (N := 5) ?hd (cs := #[.int .i64 0, .slice none 0 0]) (t := 75) ?hr ?_; (case hd => rfl); (case hg => rfl); (case hr => exact Z19); intro gb197 hg w13 hbox hb; have n0_ := A_ (below_step Z0 hb); have n1_ := A_ (hbox); have n2_ := A_ ((by rw [hg]; exact (below_size Z0) : w.heap.size ≤ gb197)); have n3_ := A_ ((by rw [hg]; exact (below_size Z0) : w.heap.size ≤ gb197)); clear HB; have HB := n0_; have BK197 := n1_; have GW197 := n2_; have GE197 := n3_; clear n0_ n1_ n2_ n3_; clear hb hbox hg; have hcz14_0 : w13.cell? ⟨gb197, 0, none⟩ = some (.int .i64 0) := (blk_cell BK197.out 0).trans rfl; have hcz14_1 : w13.cell? ⟨gb197, 1, none⟩ = some (.slice none 0 0) := (blk_cell BK197.out 1).trans rfl; have hfz14_0 := blk_frozen BK197.out 0; have hfz14_1 := blk_frozen BK197.out 1) | ((with_reducible refine gate_callee (f := 52) rfl ?_); refine goesL_ (some 23) rfl rfl Try.func52 (by kernel_rfl) rfl #[.int .i64 ((rd_T75 l0 x17_1).f0), .int .i64 0, .int .i64 2] rfl Z8 ?_; (with_reducible refine (impl_within.calls ((rd_T75 l0 x17_1).f0) 0 2 true _ A6.out).mono ?_); rintro e w' ⟨rfl, ⟨nd, rfl⟩⟩; refine ⟨_, rfl, ?_⟩) | (go_at_call 53; (with_reducible refine (impl_PlaceOk.calls k1 _ _ ((rd_T75 l0 x17_1).f1) false _ ?side1 ?side2 A8.out).mono ?_); (case side1 => exact Kd.C_below HR196_1.out (Z1 GE197.out)); (case side2 => exact HC196_1.out); rintro e w15 ⟨rfl, hb⟩; have n0_ := A_ (blk_below (g := gb197) (o := .cells #[.int .i64 ((rd_T75 l0 x17_1).f0), .slice A196_1 ((rd_T75 l0 x17_1).f1).length c196_1] 75 (0, 0)) (by (with_reducible repeat (first | refine blk_drewN ?_ _ | refine blk_drew ?_ | refine blk_alloc ?_ _)); refine blk_put (cs := #[.int .i64 ((rd_T75 l0 x17_1).f0), .slice none 0 0]) ?_ 1 _ rfl; (with_reducible repeat (first | refine blk_drewN ?_ _ | refine blk_drew ?_ | refine blk_alloc ?_ _)); refine blk_put (cs := #[.int .i64 0, .slice none 0 0]) ?_ 0 _ rfl; (with_reducible repeat (first | refine blk_drewN ?_ _ | refine blk_drew ?_ | refine blk_alloc ?_ _)); exact BK197.out) hb); have n1_ := A_ (below_step (Z1 GE197.out) hb); clear BK197; clear HB; have BK197 := n0_; have HB := n1_; clear n0_ n1_; (try clear hb); (try clear hb2); (try clear hk); (try clear hi)))
         go_ret2
         exact ⟨_, Z14, Z28, Z1 GE197.out⟩
       ·replace c7 := Bool.eq_false_iff.mpr c7
        subst c7
        have H1 : (some (([] : List (List (S92))), false)) = some (r1, r2) := by rw [if_neg (show ¬ (false = true) by decide)] at H; exact H
        clear H
        have H := H1
        clear H1
        simp only [Option.some.injEq, Prod.mk.injEq] at H
        obtain ⟨rfl, rfl⟩ := H
        have p196 : 0 ≤ (x17_1 : Int) := of_decide_eq_true Z9
        have q196 : x17_1 < (l0.length : Int) := of_decide_eq_true Z9
        obtain ⟨ad196, A196_1, c196_1, e196, hx196_0, hx196_1, hl196_1, hi196_1⟩ := at_T75 HR0.out x17_1 p196 q196
        cases e196
        replace hx196_0 := ZC HB.out hx196_0
        replace hx196_1 := ZC HB.out hx196_1
        have HR196_1 := A_ hi196_1
        have HC196_1 := A_ hl196_1
        clear hi196_1 hl196_1
        replace p196 := eq_true p196
        replace q196 := eq_true q196
        go_wp2_with (first | ((with_reducible refine gate_dst (N := 5) rfl ?_); refine box_event ?hg (N := 5) ?hd (cs := #[.int .i64 0, .slice none 0 0]) (t := 75) ?hr ?_; (case hd => rfl); (case hg => rfl); (case hr => exact Z19); intro gb197 hg w16 hbox hb; have n0_ := A_ (below_step Z0 hb); have n1_ := A_ (hbox); have n2_ := A_ ((by rw [hg]; exact (below_size Z0) : w.heap.size ≤ gb197)); have n3_ := A_ ((by rw [hg]; exact (below_size Z0) : w.heap.size ≤ gb197)); clear HB; have HB := n0_; have BK197 := n1_; have GW197 := n2_; have GE197 := n3_; clear n0_ n1_ n2_ n3_; clear hb hbox hg; have hcz17_0 : w16.cell? ⟨gb197, 0, none⟩ = some (.int .i64 0) := (blk_cell BK197.out 0).trans rfl; have hcz17_1 : w16.cell? ⟨gb197, 1, none⟩ = some (.slice none 0 0) := (blk_cell BK197.out 1).trans rfl; have hfz17_0 := blk_frozen BK197.out 0; have hfz17_1 := blk_frozen BK197.out 1) | ((with_reducible refine gate_callee (f := 52) rfl ?_); refine goesL_ (some 23) rfl rfl Try.func52 (by kernel_rfl) rfl #[.int .i64 ((rd_T75 l0 x17_1).f0), .int .i64 0, .int .i64 2] rfl Z8 ?_; (with_reducible refine (impl_within.calls ((rd_T75 l0 x17_1).f0) 0 2 false _ A6.out).mono ?_); rintro e w' ⟨rfl, ⟨nd, rfl⟩⟩; refine ⟨_, rfl, ?_⟩))
        go_ret2
        exact ⟨_, Z14, Z28, Z1 GE197.out⟩
      ·rw [if_neg c5] at H
       exact absurd H (by simp)
     ·rw [if_neg c4] at H
      exact absurd H (by simp)
    ·rw [if_neg c3] at H
     have c3b0 : decide (x17_1 < (l0.length : Int)) = false := decide_eq_false c3
     clear c3
     have H' := A_ H
     clear H
     go_wp2
     go_loopg [6, 34] k1 (fun kq v6 v34 w' => ∃ (x6_2 : List (List (S92))) (x34_2 : Int), v34 = .int .i64 x34_2 ∧ Aside0 (impl_EffectsLive.l1 kq x6_2 l0 (l0.length : Int) x34_2 = some (r1, r2)) ∧ Aside0 (kq ≤ k1) ∧ Aside0 (Kd.S (Kd.slice 92 k92) 43 w' w.heap.size (fun k_ => (w.heap.size ≤ k_)) v6 x6_2) ∧ Aside0 (Below w.heap.size w w'))
     case atStart => exact ⟨(([] : List (List (S92)))), (0), Z17, H', ⟨Nat.le_refl _⟩, ⟨Z28⟩, ⟨Z0⟩⟩
     case round =>
      clear H'
      try clear c1
      try clear p1
      try clear q1
      try clear hx1
      try clear c2
      try clear c2b0
      try clear c2b1
      try clear p2
      try clear c3
      try clear c3b0
      try clear c4
      try clear c4b0
      try clear c5
      try clear c5b0
      try clear p6
      try clear c7
      try clear c9
      try clear c12
      try clear hcz11_0
      try clear hcz11_1
      try clear hcz14_0
      try clear hcz14_1
      try clear hcz17_0
      try clear hcz17_1
      try clear hfz11_0
      try clear hfz11_1
      try clear hfz14_0
      try clear hfz14_1
      try clear hfz17_0
      try clear hfz17_1
      try clear hx196_0
      try clear hx196_1
      try clear p196
      try clear p2
      try clear q196
      obtain ⟨x6_2, x34_2, rfl, HA, HK2, HO_6, HB⟩ := hrel
      cases gk with
      | zero => exact absurd HA.out (by simp [impl_EffectsLive.l1])
      | succ k2 =>
       have H := HA.out
       clear HA
       simp only [impl_EffectsLive.l1] at H
       by_cases c18 : x34_2 < (l0.length : Int)
       ·rw [if_pos c18] at H
        have c18b0 : decide (x34_2 < (l0.length : Int)) = true := decide_eq_true c18
        clear c18
        by_cases c19 : 0 ≤ x34_2
        ·rw [if_pos c19] at H
         have c19b0 : decide (0 ≤ x34_2) = true := decide_eq_true c19
         clear c19
         by_cases c20 : x34_2 < (l0.length : Int)
         ·rw [if_pos c20] at H
          have c20b0 : decide (x34_2 < (l0.length : Int)) = true := decide_eq_true c20
          clear c20
          have H' := A_ H
          clear H
          have p200 : 0 ≤ (x34_2 : Int) := of_decide_eq_true Z9
          have q200 : x34_2 < (l0.length : Int) := of_decide_eq_true Z9
          obtain ⟨ad200, A200_1, c200_1, e200, hx200_0, hx200_1, hl200_1, hi200_1⟩ := at_T75 HR0.out x34_2 p200 q200
          cases e200
          replace hx200_0 := ZC HB.out hx200_0
          replace hx200_1 := ZC HB.out hx200_1
          have HR200_1 := A_ hi200_1
          have HC200_1 := A_ hl200_1
          clear hi200_1 hl200_1
          replace p200 := eq_true p200
          replace q200 := eq_true q200
          go_wp2_with (first | ((with_reducible refine gate_dst (N := 8) rfl ?_); refine box_event ?hg (N := 8) ?hd (cs := #[.int .i64 0, .slice none 0 0]) (t := 75) ?hr ?_; (case hd => rfl); (case hg => rfl); (case hr => exact Z19); intro gb201 hg w21 hbox hb; have n0_ := A_ (Kd.S_below (Kd.S_elderB (Z10 HO_6.out) gb201 (Nat.le_of_eq hg.symm)) hb); have n1_ := A_ (below_step Z0 hb); have n2_ := A_ (hbox); have n3_ := A_ ((by rw [hg]; exact (below_size Z0) : w.heap.size ≤ gb201)); have n4_ := A_ ((by rw [hg]; exact (below_size Z0) : w.heap.size ≤ gb201)); clear HO_6; clear HB; have HO_6 := n0_; have HB := n1_; have BK201 := n2_; have GW201 := n3_; have GE201 := n4_; clear n0_ n1_ n2_ n3_ n4_; clear hb hbox hg; have hcz22_0 : w21.cell? ⟨gb201, 0, none⟩ = some (.int .i64 0) := (blk_cell BK201.out 0).trans rfl; have hcz22_1 : w21.cell? ⟨gb201, 1, none⟩ = some (.slice none 0 0) := (blk_cell BK201.out 1).trans rfl; have hfz22_0 := blk_frozen BK201.out 0; have hfz22_1 := blk_frozen BK201.out 1; obtain ⟨Ao23, co23, eo23⟩ := Kd.S_slice HO_6.out; subst eo23))
          go_loopg [9, 40] k2 (fun kq v9 v40 w' => ∃ (x9_3 : Int) (x40_3 : Int), v9 = .int .i64 x9_3 ∧ v40 = .int .i64 x40_3 ∧ Aside0 (impl_EffectsLive.l2 kq x6_2 x9_3 l0 (l0.length : Int) x34_2 x6_2 (x6_2.length : Int) x40_3 ((rd_T75 l0 x34_2).f0) ((rd_T75 l0 x34_2).f1) = some (r1, r2)) ∧ Aside0 (kq ≤ k2) ∧ Aside0 (Kd.S (Kd.slice 92 k92) 43 w' w.heap.size (fun k_ => (w.heap.size ≤ k_) ∧ k_ ≠ gb201) (.slice Ao23 x6_2.length co23) x6_2) ∧ Aside0 (Kd.N (Kd.slice 92 k92) 43 w' w.heap.size (fun k_ => (w.heap.size ≤ k_) ∧ k_ ≠ gb201) (.slice Ao23 x6_2.length co23) x6_2) ∧ Aside0 (w'.heap[gb201]? = some (.cells #[.int .i64 ((rd_T75 l0 x34_2).f0), (.slice A200_1 ((rd_T75 l0 x34_2).f1).length c200_1)] 75 (0, 0))) ∧ Aside0 (Below w.heap.size w w'))
          case atStart => exact ⟨((-1)), (0), Z17, Z17, H', ⟨Nat.le_refl _⟩, ⟨by (with_reducible repeat (first | apply Kd.S_alloc | apply Kd.S_drewN | apply Kd.S_drew)); exact Kd.S_mono (Kd.S_far (p := ⟨gb201, 1, none⟩) (Kd.S_far (p := ⟨gb201, 0, none⟩) (Kd.S_mono HO_6.out (fun k_ hk => (⟨hk, hk.2⟩ : _ ∧ k_ ≠ gb201))) (fun _ hk => hk.2) (.int .i64 ((rd_T75 l0 x34_2).f0))) (fun _ hk => hk.2) (.slice A200_1 ((rd_T75 l0 x34_2).f1).length c200_1)) (fun _ hk => ⟨hk.1.1, hk.1.2⟩)⟩, ⟨by (with_reducible repeat (first | apply Kd.N_alloc | apply Kd.N_drewN | apply Kd.N_drew)); exact Kd.N_mono (Kd.N_far (p := ⟨gb201, 1, none⟩) (Kd.N_far (p := ⟨gb201, 0, none⟩) (Kd.N_mono (Kd.S_N HO_6.out) (fun k_ hk => (⟨hk, hk.2⟩ : _ ∧ k_ ≠ gb201))) (fun _ hk => hk.2) (.int .i64 ((rd_T75 l0 x34_2).f0))) (fun _ hk => hk.2) (.slice A200_1 ((rd_T75 l0 x34_2).f1).length c200_1)) (fun _ hk => ⟨hk.1.1, hk.1.2⟩)⟩, ⟨by (with_reducible repeat (first | refine blk_drewN ?_ _ | refine blk_drew ?_ | refine blk_alloc ?_ _)); refine blk_put (cs := #[.int .i64 ((rd_T75 l0 x34_2).f0), .slice none 0 0]) ?_ 1 _ rfl; (with_reducible repeat (first | refine blk_drewN ?_ _ | refine blk_drew ?_ | refine blk_alloc ?_ _)); refine blk_put (cs := #[.int .i64 0, .slice none 0 0]) ?_ 0 _ rfl; (with_reducible repeat (first | refine blk_drewN ?_ _ | refine blk_drew ?_ | refine blk_alloc ?_ _)); exact BK201.out⟩, ⟨Z1 GE201.out⟩⟩
          case round =>
           clear H'
           try clear c1
           try clear p1
           try clear q1
           try clear hx1
           try clear c2
           try clear c2b0
           try clear c2b1
           try clear p2
           try clear q2
           try clear hx2
           try clear c3
           try clear c3b0
           try clear c4
           try clear c4b0
           try clear c5
           try clear c5b0
           try clear p6
           try clear c7
           try clear c9
           try clear c12
           try clear c18
           try clear c18b0
           try clear c19
           try clear c19b0
           try clear p19
           try clear q19
           try clear hx19
           try clear c20
           try clear c20b0
           try clear p20
           try clear q20
           try clear hx20
           try clear hcz11_0
           try clear hcz11_1
           try clear hcz14_0
           try clear hcz14_1
           try clear hcz17_0
           try clear hcz17_1
           try clear hcz22_0
           try clear hcz22_1
           try clear hfz11_0
           try clear hfz11_1
           try clear hfz14_0
           try clear hfz14_1
           try clear hfz17_0
           try clear hfz17_1
           try clear hfz22_0
           try clear hfz22_1
           try clear hx196_0
           try clear hx196_1
           try clear hx200_0
           try clear hx200_1
           try clear p1
           try clear p196
           try clear p2
           try clear p200
           try clear p6
           try clear q1
           try clear q196
           try clear q200
           obtain ⟨x9_3, x40_3, rfl, rfl, HA, HK3, HO_6, HO_38, BK201, HB⟩ := hrel
           cases gk with
           | zero => exact absurd HA.out (by simp [impl_EffectsLive.l2])
           | succ k3 =>
            have H := HA.out
            clear HA
            simp only [impl_EffectsLive.l2] at H
            by_cases c24 : x40_3 < (x6_2.length : Int)
            ·rw [if_pos c24] at H
             have c24b0 : decide (x40_3 < (x6_2.length : Int)) = true := decide_eq_true c24
             clear c24
             by_cases c25 : 0 ≤ x40_3
             ·rw [if_pos c25] at H
              have c25b0 : decide (0 ≤ x40_3) = true := decide_eq_true c25
              clear c25
              by_cases c26 : x40_3 < (x6_2.length : Int)
              ·rw [if_pos c26] at H
               have c26b0 : decide (x40_3 < (x6_2.length : Int)) = true := decide_eq_true c26
               clear c26
               replace H := Option.bind_eq_some_iff.mp H
               obtain ⟨t203, A270, H⟩ := H
               replace H : (if t203 = 0 then (impl_EffectsLive.l2 k3 x6_2 x40_3 l0 (l0.length : Int) x34_2 x6_2 (x6_2.length : Int) (wrap64 (x40_3 + 1)) ((rd_T75 l0 x34_2).f0) ((rd_T75 l0 x34_2).f1)) else (impl_EffectsLive.l2 k3 x6_2 x9_3 l0 (l0.length : Int) x34_2 x6_2 (x6_2.length : Int) (wrap64 (x40_3 + 1)) ((rd_T75 l0 x34_2).f0) ((rd_T75 l0 x34_2).f1))) = some (r1, r2) := H
               have A27 := A_ A270
               clear A270
               by_cases c28 : t203 = 0
               ·rw [if_pos c28] at H
                have c28b0 : (t203 == 0) = true := beq_iff_eq.mpr c28
                have c28b1 : (t203 != 0) = false := bne_eq_false_iff_eq.mpr c28
                clear c28
                have H' := A_ H
                clear H
                have p202 : 0 ≤ (x40_3 : Int) := of_decide_eq_true Z9
                have q202 : x40_3 < (x6_2.length : Int) := of_decide_eq_true Z9
                obtain ⟨ad202, A202_0, c202_0, e202, hx202_0, hl202_0, hi202_0⟩ := at_L5 (Kd.N_reads' HO_38.out).2.2 x40_3 p202 q202
                cases e202
                obtain ⟨ce202, hce202, hMe202, hcc202⟩ := Kd.N_get HO_38.out [] x40_3 p202 (by first | exact q202 | exact of_decide_eq_true Z9 | (have e_ := (Kd.N_reads' HO_38.out).1; omega))
                obtain ⟨ua202_0, uc202_0, rfl, ul202_0, ge202_0⟩ := Kd.FK_slice_open hMe202
                have hv202_0 := hcc202 0 _ rfl
                rw [Nat.add_zero, show ((Kd.slice 92 k92)).sz = 1 from rfl, Nat.mul_one] at hv202_0
                replace hv202_0 := Option.some.inj (hv202_0.symm.trans hx202_0)
                injection hv202_0 with hva_ hvn_ hvc_
                rw [hva_] at ge202_0
                rw [hvc_] at ul202_0
                have HL202_0 := A_ (show Kd.V k92 92 _ w.heap.size _ _ (rd_L5 x6_2 x40_3) from Kd.V_mk ul202_0 ge202_0)
                clear hva_ hvn_ hvc_ ge202_0 ul202_0
                clear hcc202 hce202
                have HR202_0 := A_ hi202_0
                have HC202_0 := A_ hl202_0
                clear hi202_0 hl202_0
                replace p202 := eq_true p202
                replace q202 := eq_true q202
                have hcz29_0 : wr.cell? ⟨gb201, 0, none⟩ = some (.int .i64 ((rd_T75 l0 x34_2).f0)) := (blk_cell BK201.out 0).trans rfl
                have hcz29_1 : wr.cell? ⟨gb201, 1, none⟩ = some (.slice A200_1 ((rd_T75 l0 x34_2).f1).length c200_1) := (blk_cell BK201.out 1).trans rfl
                have hfz29_0 := blk_frozen BK201.out 0
                have hfz29_1 := blk_frozen BK201.out 1
                go_wp2_with (first | ((with_reducible refine gate_callee (f := 54) rfl ?_); refine goesL_ (some 48) rfl rfl Try.func54 (by kernel_rfl) rfl #[.slice A202_0 (rd_L5 x6_2 x40_3).length c202_0, .slice A200_1 ((rd_T75 l0 x34_2).f1).length c200_1] rfl Z8 ?_; (with_reducible refine (impl_placeCmp.calls k3 _ _ (rd_L5 x6_2 x40_3) _ _ ((rd_T75 l0 x34_2).f1) t203 _ ?side1 ?side2 ?side3 ?side4 A27.out).mono ?_); (case side1 => repeat (first | exact (Z33 HR202_0.out) | (with_reducible refine Kd.C_alloc ?_ _) | (with_reducible refine Kd.C_drewN ?_ _) | (with_reducible refine Kd.C_drew ?_))); (case side2 => exact HC202_0.out); (case side3 => exact Z13 HR200_1.out); (case side4 => exact HC200_1.out); rintro e w30 ⟨rfl, hb⟩; refine ⟨_, rfl, ?_⟩; have n0_ := A_ (Kd.S_below (Z10 HO_6.out) hb); have n1_ := A_ (Kd.N_below (Z12 HO_38.out) hb); have n2_ := A_ (Kd.V_below (Z23 HL202_0.out) hb); have n3_ := A_ (blk_below (g := gb201) (o := .cells #[.int .i64 ((rd_T75 l0 x34_2).f0), .slice A200_1 ((rd_T75 l0 x34_2).f1).length c200_1] 75 (0, 0)) (Z7 BK201.out) hb); have n4_ := A_ (Kd.C_below (Z33 HR202_0.out) hb); have n5_ := A_ (below_step (Z1 GE201.out) hb); clear HO_6; clear HO_38; clear HL202_0; clear BK201; clear HR202_0; clear HB; have HO_6 := n0_; have HO_38 := n1_; have HL202_0 := n2_; have BK201 := n3_; have HR202_0 := n4_; have HB := n5_; clear n0_ n1_ n2_ n3_ n4_ n5_; (try clear hb); (try clear hb2); (try clear hk); (try clear hi)))
                go_roundg k3
                case measure => have := HK1.out; have := HK2.out; have := HK3.out; omega
                case rel => exact ⟨(x40_3), (wrap64 (x40_3 + 1)), Z17, Z17, H', ⟨by have := HK1.out; have := HK2.out; have := HK3.out; omega⟩, ⟨Z10 HO_6.out⟩, ⟨Z12 HO_38.out⟩, ⟨Z7 BK201.out⟩, ⟨Z1 GE201.out⟩⟩
               ·rw [if_neg c28] at H
                have c28b0 : (t203 == 0) = false := beq_eq_false_iff_ne.mpr c28
                have c28b1 : (t203 != 0) = true := bne_iff_ne.mpr c28
                have H' := A_ H
                clear H
                have p202 : 0 ≤ (x40_3 : Int) := of_decide_eq_true Z9
                have q202 : x40_3 < (x6_2.length : Int) := of_decide_eq_true Z9
                obtain ⟨ad202, A202_0, c202_0, e202, hx202_0, hl202_0, hi202_0⟩ := at_L5 (Kd.N_reads' HO_38.out).2.2 x40_3 p202 q202
                cases e202
                obtain ⟨ce202, hce202, hMe202, hcc202⟩ := Kd.N_get HO_38.out [] x40_3 p202 (by first | exact q202 | exact of_decide_eq_true Z9 | (have e_ := (Kd.N_reads' HO_38.out).1; omega))
                obtain ⟨ua202_0, uc202_0, rfl, ul202_0, ge202_0⟩ := Kd.FK_slice_open hMe202
                have hv202_0 := hcc202 0 _ rfl
                rw [Nat.add_zero, show ((Kd.slice 92 k92)).sz = 1 from rfl, Nat.mul_one] at hv202_0
                replace hv202_0 := Option.some.inj (hv202_0.symm.trans hx202_0)
                injection hv202_0 with hva_ hvn_ hvc_
                rw [hva_] at ge202_0
                rw [hvc_] at ul202_0
                have HL202_0 := A_ (show Kd.V k92 92 _ w.heap.size _ _ (rd_L5 x6_2 x40_3) from Kd.V_mk ul202_0 ge202_0)
                clear hva_ hvn_ hvc_ ge202_0 ul202_0
                clear hcc202 hce202
                have HR202_0 := A_ hi202_0
                have HC202_0 := A_ hl202_0
                clear hi202_0 hl202_0
                replace p202 := eq_true p202
                replace q202 := eq_true q202
                have hcz31_0 : wr.cell? ⟨gb201, 0, none⟩ = some (.int .i64 ((rd_T75 l0 x34_2).f0)) := (blk_cell BK201.out 0).trans rfl
                have hcz31_1 : wr.cell? ⟨gb201, 1, none⟩ = some (.slice A200_1 ((rd_T75 l0 x34_2).f1).length c200_1) := (blk_cell BK201.out 1).trans rfl
                have hfz31_0 := blk_frozen BK201.out 0
                have hfz31_1 := blk_frozen BK201.out 1
                go_wp2_with (first | ((with_reducible refine gate_callee (f := 54) rfl ?_); refine goesL_ (some 48) rfl rfl Try.func54 (by kernel_rfl) rfl #[.slice A202_0 (rd_L5 x6_2 x40_3).length c202_0, .slice A200_1 ((rd_T75 l0 x34_2).f1).length c200_1] rfl Z8 ?_; (with_reducible refine (impl_placeCmp.calls k3 _ _ (rd_L5 x6_2 x40_3) _ _ ((rd_T75 l0 x34_2).f1) t203 _ ?side1 ?side2 ?side3 ?side4 A27.out).mono ?_); (case side1 => repeat (first | exact (Z33 HR202_0.out) | (with_reducible refine Kd.C_alloc ?_ _) | (with_reducible refine Kd.C_drewN ?_ _) | (with_reducible refine Kd.C_drew ?_))); (case side2 => exact HC202_0.out); (case side3 => exact Z13 HR200_1.out); (case side4 => exact HC200_1.out); rintro e w32 ⟨rfl, hb⟩; refine ⟨_, rfl, ?_⟩; have n0_ := A_ (Kd.S_below (Z10 HO_6.out) hb); have n1_ := A_ (Kd.N_below (Z12 HO_38.out) hb); have n2_ := A_ (Kd.V_below (Z23 HL202_0.out) hb); have n3_ := A_ (blk_below (g := gb201) (o := .cells #[.int .i64 ((rd_T75 l0 x34_2).f0), .slice A200_1 ((rd_T75 l0 x34_2).f1).length c200_1] 75 (0, 0)) (Z7 BK201.out) hb); have n4_ := A_ (Kd.C_below (Z33 HR202_0.out) hb); have n5_ := A_ (below_step (Z1 GE201.out) hb); clear HO_6; clear HO_38; clear HL202_0; clear BK201; clear HR202_0; clear HB; have HO_6 := n0_; have HO_38 := n1_; have HL202_0 := n2_; have BK201 := n3_; have HR202_0 := n4_; have HB := n5_; clear n0_ n1_ n2_ n3_ n4_ n5_; (try clear hb); (try clear hb2); (try clear hk); (try clear hi)))
                go_roundg k3
                case measure => have := HK1.out; have := HK2.out; have := HK3.out; omega
                case rel => exact ⟨(x9_3), (wrap64 (x40_3 + 1)), Z17, Z17, H', ⟨by have := HK1.out; have := HK2.out; have := HK3.out; omega⟩, ⟨Z10 HO_6.out⟩, ⟨Z12 HO_38.out⟩, ⟨Z7 BK201.out⟩, ⟨Z1 GE201.out⟩⟩
              ·rw [if_neg c26] at H
               exact absurd H (by simp)
             ·rw [if_neg c25] at H
              exact absurd H (by simp)
            ·rw [if_neg c24] at H
             have c24b0 : decide (x40_3 < (x6_2.length : Int)) = false := decide_eq_false c24
             clear c24
             by_cases c33 : ((((rd_T75 l0 x34_2).f0) == 1) == (decide (x9_3 ≥ 0))) = true
             ·rw [if_pos c33] at H
              have c33b0 : ((((rd_T75 l0 x34_2).f0) == 1) == (decide (x9_3 ≥ 0))) = true := c33
              (try (have c33b1 : decide ((((rd_T75 l0 x34_2).f0) == 1) = (decide (x9_3 ≥ 0))) = true := by simpa using c33))
              (try (have c33b2 : ((((rd_T75 l0 x34_2).f0) == 1) == (decide (x9_3 ≥ 0))) = true := by simpa using c33))
              clear c33
              simp only [Option.some.injEq, Prod.mk.injEq] at H
              obtain ⟨rfl, rfl⟩ := H
              have hcz34_0 : wr.cell? ⟨gb201, 0, none⟩ = some (.int .i64 ((rd_T75 l0 x34_2).f0)) := (blk_cell BK201.out 0).trans rfl
              have hcz34_1 : wr.cell? ⟨gb201, 1, none⟩ = some (.slice A200_1 ((rd_T75 l0 x34_2).f1).length c200_1) := (blk_cell BK201.out 1).trans rfl
              have hfz34_0 := blk_frozen BK201.out 0
              have hfz34_1 := blk_frozen BK201.out 1
              go_wp2
              go_ret2
              exact ⟨_, Z14, Z28, Z1 GE201.out⟩
             ·rw [if_neg c33] at H
              have c33b0 : ((((rd_T75 l0 x34_2).f0) == 1) == (decide (x9_3 ≥ 0))) = false := by simpa using c33
              (try (have c33b1 : decide ((((rd_T75 l0 x34_2).f0) == 1) = (decide (x9_3 ≥ 0))) = false := by simpa using c33))
              (try (have c33b2 : ((((rd_T75 l0 x34_2).f0) == 1) == (decide (x9_3 ≥ 0))) = false := by simpa using c33))
              (try (have c33b3 : ¬ ((((rd_T75 l0 x34_2).f0) == 1) = (decide (x9_3 ≥ 0))) := by simpa using c33))
              clear c33
              by_cases c35 : ((rd_T75 l0 x34_2).f0) = 1
              ·rw [if_pos c35] at H
               have c35b0 : (((rd_T75 l0 x34_2).f0) == 1) = true := beq_iff_eq.mpr c35
               have c35b1 : (((rd_T75 l0 x34_2).f0) != 1) = false := bne_eq_false_iff_eq.mpr c35
               have c33c : decide (0 ≤ x9_3) = false := by
                have hq0_ := c33b0
                rw [c35b0] at hq0_
                cases hq_ : decide (x9_3 ≥ 0) with
                | false => rfl
                | true => rw [hq_] at hq0_; cases hq0_
               clear c35
               replace H := Option.bind_eq_some_iff.mp H
               obtain ⟨t204, A360, H⟩ := H
               replace H : (if x6_2.length < 5864062014805 then (impl_EffectsLive.l1 k3 (x6_2 ++ [t204]) l0 (l0.length : Int) (wrap64 (x34_2 + 1))) else (none)) = some (r1, r2) := H
               have A36 := A_ A360
               clear A360
               by_cases c37 : x6_2.length < 5864062014805
               ·rw [if_pos c37] at H
                have LMc37 := A_ c37
                clear c37
                obtain ⟨y207, hy207⟩ : ∃ y_ : List (List (S92)), y_ = (x6_2 ++ [t204]) := ⟨_, rfl⟩
                replace H : (impl_EffectsLive.l1 k3 y207 l0 (l0.length : Int) (wrap64 (x34_2 + 1))) = some (r1, r2) := by first | (rw [hy207]; with_reducible exact H) | (have H2_ := (Option.bind_some _ _).symm.trans H; rw [hy207]; with_reducible exact H2_) | (have H2_ := (Option.bind_some _ _).symm.trans H; with_reducible exact H2_) | with_reducible exact H | (rw [hy207]; exact H) | exact H
                have Ny207 := A_ hy207
                clear hy207
                have H' := A_ H
                clear H
                have hcz38_0 : wr.cell? ⟨gb201, 0, none⟩ = some (.int .i64 ((rd_T75 l0 x34_2).f0)) := (blk_cell BK201.out 0).trans rfl
                have hcz38_1 : wr.cell? ⟨gb201, 1, none⟩ = some (.slice A200_1 ((rd_T75 l0 x34_2).f1).length c200_1) := (blk_cell BK201.out 1).trans rfl
                have hfz38_0 := blk_frozen BK201.out 0
                have hfz38_1 := blk_frozen BK201.out 1
                go_wp2_with (first | ((with_reducible refine gate_callee (f := 55) rfl ?_); refine goesL_ (some 66) rfl rfl Try.func55 (by kernel_rfl) rfl #[.slice A200_1 ((rd_T75 l0 x34_2).f1).length c200_1] rfl Z8 ?_; (with_reducible refine (impl_placeCopy.calls _ _ ((rd_T75 l0 x34_2).f1) t204 _ ?side1 ?side2 A36.out).mono ?_); (case side1 => exact Z13 HR200_1.out); (case side2 => exact HC200_1.out); rintro e w39 ⟨v205, rfl, ho0, hb⟩; refine ⟨_, rfl, ?_⟩; have n0_ := A_ (Kd.S_elder' (Z10 HO_6.out) (Kd.R_base ho0) hb); have n1_ := A_ (Kd.N_elder' (Z12 HO_38.out) (Kd.R_base ho0) hb); have n2_ := A_ (Kd.R_lower (Kd.R_newM (M := fun k_ => (w.heap.size ≤ k_)) ho0 (below_size (Z1 GE201.out)) (fun k_ h_ => h_)) (below_size (Z1 GE201.out))); have n3_ := A_ (blk_below (g := gb201) (o := .cells #[.int .i64 ((rd_T75 l0 x34_2).f0), .slice A200_1 ((rd_T75 l0 x34_2).f1).length c200_1] 75 (0, 0)) (Z7 BK201.out) hb); have n4_ := A_ (below_step (Z1 GE201.out) hb); clear HO_6; clear HO_38; clear BK201; clear HB; have HO_6 := n0_; have HO_38 := n1_; have HO206 := n2_; have BK201 := n3_; have HB := n4_; clear n0_ n1_ n2_ n3_ n4_; (try clear hb); (try clear hb2); (try clear hk); (try clear hi); (try clear ho0); obtain ⟨Ao41, co41, eo41⟩ := Kd.R_slice HO206.out; subst eo41) | ((with_reducible refine gate_builtin (b := .append) (xs := #[.tmp 63, .tmp 67]) rfl ?_); at_builtin; refine Kd.S_append (Kd.slice 92 k92) (w0 := w) w.heap.size rfl (.tmp 63) (.tmp 67) 24 43 (.slice none 0 0) 24 rfl Try.underlying24 info43 rfl (by decide) (by omega) (.slice Ao23 x6_2.length co23) x6_2 t204 [.slice Ao41 t204.length co41] (fun k_ => (w.heap.size ≤ k_) ∧ k_ ≠ gb201) (fun k_ => some k_ = (.slice Ao41 t204.length co41 : Value).ownBlock) rfl rfl ?aP ?aK ?aF ?aO ?aB ?aS ?aL ?_; (case aP => exact ⟨_, rfl, Kd.R_tight rfl HO206.out⟩); (case aK => exact fun k_ e_ => (Kd.R_mono (ok' := (fun k_ => ((fun k_ => (w.heap.size ≤ k_) ∧ k_ ≠ gb201)) k_ ∧ some k_ ≠ (.slice Ao23 x6_2.length co23 : Value).ownBlock)) (Kd.R_types (Kd.R_apart' (HO206.out) (Kd.S_typed HO_6.out) (by decide)) BK201.out (by decide)) (fun k_ hk => ⟨⟨hk.1.1.1, hk.2⟩, hk.1.2⟩)).1 k_ e_.symm); (case aB => exact (Z1 GE201.out)); (case aF => exact (fun k_ hk => ⟨(Nat.le_trans (below_size (Z1 GE201.out)) hk), Kd.freshB (g := gb201) (o := .cells #[.int .i64 ((rd_T75 l0 x34_2).f0), .slice A200_1 ((rd_T75 l0 x34_2).f1).length c200_1] 75 (0, 0)) (Z7 BK201.out) k_ hk⟩)); (case aO => exact (by (with_reducible repeat (first | apply Kd.S_alloc | apply Kd.S_drewN | apply Kd.S_drew)); exact Kd.S_mono HO_6.out (fun _ hk => ⟨⟨hk.1.1, hk.1.2⟩, fun e_ => hk.2 e_⟩))); (case aS => exact (below_size (Z1 GE201.out))); (case aL => have := LMc37.out; omega); intro v208 w40 ho hb hg hat; rw [← Ny207.out] at ho; have n0_ := A_ (blk_grown (g := gb201) (o := .cells #[.int .i64 ((rd_T75 l0 x34_2).f0), .slice A200_1 ((rd_T75 l0 x34_2).f1).length c200_1] 75 (0, 0)) (Z7 BK201.out) hg (Kd.S_ne HO_6.out BK201.out (by decide))); have n1_ := A_ (hb); have n2_ := A_ (ho); clear BK201; clear HB; clear HO_6; clear HO206; have BK201 := n0_; have HB := n1_; have HO209 := n2_; clear n0_ n1_ n2_; clear ho hb hg hat))
                go_roundg k3
                case measure => have := HK1.out; have := HK2.out; have := HK3.out; omega
                case rel => exact ⟨(y207), (wrap64 (x34_2 + 1)), Z17, H', ⟨by have := HK1.out; have := HK2.out; have := HK3.out; omega⟩, ⟨by (with_reducible repeat (first | apply Kd.S_alloc | apply Kd.S_drewN | apply Kd.S_drew)); exact Kd.S_mono HO209.out (fun _ hk => hk.1)⟩, ⟨Z1 GE201.out⟩⟩
               ·rw [if_neg c37] at H
                exact absurd H (by simp)
              ·rw [if_neg c35] at H
               have c35b0 : (((rd_T75 l0 x34_2).f0) == 1) = false := beq_eq_false_iff_ne.mpr c35
               have c35b1 : (((rd_T75 l0 x34_2).f0) != 1) = true := bne_iff_ne.mpr c35
               have c33c : decide (0 ≤ x9_3) = true := by
                have hq0_ := c33b0
                rw [c35b0] at hq0_
                cases hq_ : decide (x9_3 ≥ 0) with
                | true => rfl
                | false => rw [hq_] at hq0_; cases hq0_
               by_cases c42 : ((rd_T75 l0 x34_2).f0) = 0
               ·rw [if_pos c42] at H
                have c42b0 : (((rd_T75 l0 x34_2).f0) == 0) = true := beq_iff_eq.mpr c42
                have c42b1 : (((rd_T75 l0 x34_2).f0) != 0) = false := bne_eq_false_iff_eq.mpr c42
                clear c42
                obtain ⟨y210, hy210⟩ : ∃ y_ : List (List (S92)), y_ = (([] : List (List (S92)))) := ⟨_, rfl⟩
                replace H : (if 0 ≤ x9_3 then (if x9_3 ≤ (x6_2.length : Int) then ((some (x6_2.take (x9_3 : Int).toNat : List (List (S92)))).bind fun y213 => (if y210.length + y213.length < 5864062014805 then ((some (y210 ++ y213 : List (List (S92)))).bind fun y218 => (if 0 ≤ (wrap64 (x9_3 + 1)) then (if (wrap64 (x9_3 + 1)) ≤ (x6_2.length : Int) then ((some (x6_2.drop ((wrap64 (x9_3 + 1)) : Int).toNat : List (List (S92)))).bind fun y221 => (if y218.length + y221.length < 5864062014805 then (impl_EffectsLive.l1 k3 (y218 ++ y221) l0 (l0.length : Int) (wrap64 (x34_2 + 1))) else (none))) else (none)) else (none))) else (none))) else (none)) else (none)) = some (r1, r2) := by first | (rw [hy210]; with_reducible exact H) | (have H2_ := (Option.bind_some _ _).symm.trans H; rw [hy210]; with_reducible exact H2_) | (have H2_ := (Option.bind_some _ _).symm.trans H; with_reducible exact H2_) | with_reducible exact H | (rw [hy210]; exact H) | exact H
                have Ny210 := A_ hy210
                clear hy210
                by_cases c43 : 0 ≤ x9_3
                ·rw [if_pos c43] at H
                 have c43b0 := eq_true c43
                 have c43b1 : decide (0 ≤ x9_3) = true := decide_eq_true c43
                 clear c43
                 by_cases c44 : x9_3 ≤ (x6_2.length : Int)
                 ·rw [if_pos c44] at H
                  have c44b0 := eq_true c44
                  have c44b1 : decide (x9_3 ≤ (x6_2.length : Int)) = true := decide_eq_true c44
                  clear c44
                  obtain ⟨y213, hy213⟩ : ∃ y_ : List (List (S92)), y_ = (x6_2.take (x9_3 : Int).toNat) := ⟨_, rfl⟩
                  replace H : (if y210.length + y213.length < 5864062014805 then ((some (y210 ++ y213 : List (List (S92)))).bind fun y218 => (if 0 ≤ (wrap64 (x9_3 + 1)) then (if (wrap64 (x9_3 + 1)) ≤ (x6_2.length : Int) then ((some (x6_2.drop ((wrap64 (x9_3 + 1)) : Int).toNat : List (List (S92)))).bind fun y221 => (if y218.length + y221.length < 5864062014805 then (impl_EffectsLive.l1 k3 (y218 ++ y221) l0 (l0.length : Int) (wrap64 (x34_2 + 1))) else (none))) else (none)) else (none))) else (none)) = some (r1, r2) := by first | (rw [hy213]; with_reducible exact H) | (have H2_ := (Option.bind_some _ _).symm.trans H; rw [hy213]; with_reducible exact H2_) | (have H2_ := (Option.bind_some _ _).symm.trans H; with_reducible exact H2_) | with_reducible exact H | (rw [hy213]; exact H) | exact H
                  have Ny213 := A_ hy213
                  clear hy213
                  by_cases c45 : y210.length + y213.length < 5864062014805
                  ·rw [if_pos c45] at H
                   have LMc45 := A_ c45
                   clear c45
                   obtain ⟨y218, hy218⟩ : ∃ y_ : List (List (S92)), y_ = (y210 ++ y213) := ⟨_, rfl⟩
                   replace H : (if 0 ≤ (wrap64 (x9_3 + 1)) then (if (wrap64 (x9_3 + 1)) ≤ (x6_2.length : Int) then ((some (x6_2.drop ((wrap64 (x9_3 + 1)) : Int).toNat : List (List (S92)))).bind fun y221 => (if y218.length + y221.length < 5864062014805 then (impl_EffectsLive.l1 k3 (y218 ++ y221) l0 (l0.length : Int) (wrap64 (x34_2 + 1))) else (none))) else (none)) else (none)) = some (r1, r2) := by first | (rw [hy218]; with_reducible exact H) | (have H2_ := (Option.bind_some _ _).symm.trans H; rw [hy218]; with_reducible exact H2_) | (have H2_ := (Option.bind_some _ _).symm.trans H; with_reducible exact H2_) | with_reducible exact H | (rw [hy218]; exact H) | exact H
                   have Ny218 := A_ hy218
                   clear hy218
                   obtain ⟨ji46, hji46⟩ : ∃ j_ : Int, (wrap64 (x9_3 + 1)) = j_ := ⟨_, rfl⟩
                   replace H : (if 0 ≤ (ji46) then (if (ji46) ≤ (x6_2.length : Int) then ((some (x6_2.drop ((ji46) : Int).toNat : List (List (S92)))).bind fun y221 => (if y218.length + y221.length < 5864062014805 then (impl_EffectsLive.l1 k3 (y218 ++ y221) l0 (l0.length : Int) (wrap64 (x34_2 + 1))) else (none))) else (none)) else (none)) = some (r1, r2) := by first | (rw [hji46] at H; exact H) | (simp only [hji46] at H ⊢; exact H)
                   have hji46w : (IntKind.i64.wrap (x9_3 + 1)) = ji46 := (i64_w _).trans hji46
                   by_cases c47 : 0 ≤ (ji46)
                   ·rw [if_pos c47] at H
                    have c47b0 := eq_true c47
                    have c47b1 : decide (0 ≤ (ji46)) = true := decide_eq_true c47
                    clear c47
                    by_cases c48 : (ji46) ≤ (x6_2.length : Int)
                    ·rw [if_pos c48] at H
                     have c48b0 := eq_true c48
                     have c48b1 : decide ((ji46) ≤ (x6_2.length : Int)) = true := decide_eq_true c48
                     clear c48
                     obtain ⟨y221, hy221⟩ : ∃ y_ : List (List (S92)), y_ = (x6_2.drop ((ji46) : Int).toNat) := ⟨_, rfl⟩
                     replace H : (if y218.length + y221.length < 5864062014805 then (impl_EffectsLive.l1 k3 (y218 ++ y221) l0 (l0.length : Int) (wrap64 (x34_2 + 1))) else (none)) = some (r1, r2) := by first | (rw [hy221]; with_reducible exact H) | (have H2_ := (Option.bind_some _ _).symm.trans H; rw [hy221]; with_reducible exact H2_) | (have H2_ := (Option.bind_some _ _).symm.trans H; with_reducible exact H2_) | with_reducible exact H | (rw [hy221]; exact H) | exact H
                     have Ny221 := A_ hy221
                     clear hy221
                     by_cases c49 : y218.length + y221.length < 5864062014805
                     ·rw [if_pos c49] at H
                      have LMc49 := A_ c49
                      clear c49
                      obtain ⟨y226, hy226⟩ : ∃ y_ : List (List (S92)), y_ = (y218 ++ y221) := ⟨_, rfl⟩
                      replace H : (impl_EffectsLive.l1 k3 y226 l0 (l0.length : Int) (wrap64 (x34_2 + 1))) = some (r1, r2) := by first | (rw [hy226]; with_reducible exact H) | (have H2_ := (Option.bind_some _ _).symm.trans H; rw [hy226]; with_reducible exact H2_) | (have H2_ := (Option.bind_some _ _).symm.trans H; with_reducible exact H2_) | with_reducible exact H | (rw [hy226]; exact H) | exact H
                      have Ny226 := A_ hy226
                      clear hy226
                      have H' := A_ H
                      clear H
                      have hcz50_0 : wr.cell? ⟨gb201, 0, none⟩ = some (.int .i64 ((rd_T75 l0 x34_2).f0)) := (blk_cell BK201.out 0).trans rfl
                      have hcz50_1 : wr.cell? ⟨gb201, 1, none⟩ = some (.slice A200_1 ((rd_T75 l0 x34_2).f1).length c200_1) := (blk_cell BK201.out 1).trans rfl
                      have hfz50_0 := blk_frozen BK201.out 0
                      have hfz50_1 := blk_frozen BK201.out 1
                      have zmx := (Kd.S_reads' HO_6.out).2.2.2.1
                      obtain ⟨z6, hz6, hzR, hzI⟩ := Kd.S_cells HO_6.out
                      obtain ⟨zs_, hzs⟩ : ∃ s_, s_ = wr.heap.size := ⟨_, rfl⟩
                      rw [← hzs] at hzI
                      have HJ := A_ (show Kd.In (Kd.slice 92 k92) wr.drew w.heap.size zs_ z6 from Kd.In_step hzI (fun _ _ => rfl))
                      have HE := A_ (show zs_ ≤ wr.drew.heap.size from Nat.le_of_eq hzs)
                      clear HO_6
                      have HO_6 := A_ (Kd.R_N hzR)
                      clear hzR hzI
                      have zb1 : (x9_3 : Int).toNat ≤ z6.length := by
                       have h_ : x9_3 ≤ (x6_2.length : Int) := of_eq_true c44b0
                       rw [hz6, List.length_map] at h_
                       omega
                      have zb2 : (x9_3 : Int).toNat ≤ (ji46 : Int).toNat := by
                       have h_ : 0 ≤ ji46 := of_eq_true c47b0
                       have h2_ : 0 ≤ x9_3 := of_eq_true c43b0
                       have h3_ : x9_3 ≤ (x6_2.length : Int) := of_eq_true c44b0
                       have h4_ : ji46 ≤ (x6_2.length : Int) := of_eq_true c48b0
                       unfold wrap64 at hji46
                       omega
                      obtain ⟨z210, hz210⟩ : ∃ z_ : List (List (S92) × List Value), z_ = [] := ⟨_, rfl⟩
                      obtain ⟨z213, hz213⟩ : ∃ z_ : List (List (S92) × List Value), z_ = z6.take (x9_3 : Int).toNat := ⟨_, rfl⟩
                      obtain ⟨z218, hz218⟩ : ∃ z_ : List (List (S92) × List Value), z_ = z210 ++ z213 := ⟨_, rfl⟩
                      obtain ⟨z221, hz221⟩ : ∃ z_ : List (List (S92) × List Value), z_ = z6.drop (ji46 : Int).toNat := ⟨_, rfl⟩
                      obtain ⟨z226, hz226⟩ : ∃ z_ : List (List (S92) × List Value), z_ = z218 ++ z221 := ⟨_, rfl⟩
                      have ez213 : y213 = z213.map Prod.fst := by rw [Ny213.out, hz213, hz6, List.map_take]
                      have ez221 : y221 = z221.map Prod.fst := by rw [Ny221.out, hz221, hz6, List.map_drop]
                      have ez218 : y218 = z218.map Prod.fst := by rw [Ny218.out, hz218, Ny210.out, hz210, ez213]; rfl
                      have ez226 : y226 = z226.map Prod.fst := by rw [Ny226.out, hz226, List.map_append, ez218, ez221]
                      have LMz45 := A_ (show z210.length + z213.length < 5864062014805 by have h_ := LMc45.out; rw [ez213, List.length_map, Ny210.out] at h_; rw [hz210]; exact h_)
                      have LMz49 := A_ (show z218.length + z221.length < 5864062014805 by have h_ := LMc49.out; rw [ez218, ez221, List.length_map, List.length_map] at h_; exact h_)
                      have Nz210 := A_ hz210
                      have Nz213 := A_ hz213
                      have Nz218 := A_ hz218
                      have Nz221 := A_ hz221
                      have Nz226 := A_ hz226
                      clear hz210 hz213 hz218 hz221 hz226
                      subst hz6
                      simp only [List.length_map] at *
                      try go_wp2
                      have n0_ := A_ (Kd.N_drew HO_6.out)
                      have n1_ := A_ (Kd.N_drew HO_38.out)
                      have n2_ := A_ (blk_drew BK201.out)
                      have n3_ := A_ (below_drew1 HB.out)
                      clear HO_6
                      clear HO_38
                      clear BK201
                      clear HB
                      have HO_6 := n0_
                      have HO_38 := n1_
                      have BK201 := n2_
                      have HB := n3_
                      clear n0_ n1_ n2_ n3_
                      have q52 : (x9_3 : Int) ≤ ((z6.length : Int) : Int) := of_decide_eq_true Z9
                      obtain ⟨i052, hi052, _, hsz52, _⟩ := info_parts info43
                      have hroom52 : z6.length ≤ co23 := (Kd.N_reads' HO_6.out).2.1
                      have hC52 : Kd.F (Kd.cel (Kd.slice 92 k92)) _ _ Ao23 z6.length z6 := (Kd.V_at (base := w.heap.size) (Kd.N_V HO_6.out)).2.2
                      have hcut52 := cut_to (P := Try.prog) 24 43 .i64 Try.underlying24 hi052 Ao23 z6.length co23 x9_3 (of_decide_eq_true Z9) q52 hroom52
                      have hr52 := Kd.F_take (m := (x9_3 : Int).toNat) hC52 (by omega)
                      have hy52 : z213.length = (x9_3 : Int).toNat := (by rw [Nz213.out, List.length_take]; omega)
                      rw [← Nz213.out] at hr52
                      rw [← hy52] at hcut52
                      have HO217 := A_ (show Kd.V (Kd.cel (Kd.slice 92 k92)) 43 _ w.heap.size _ (.slice Ao23 z213.length co23) z213 from Kd.V_mk (by omega) hr52)
                      have HC217 := A_ (show z213.length ≤ co23 from by omega)
                      clear hr52 hC52 hroom52 hi052 hsz52
                      have KY52 := A_ hy52
                      clear hy52
                      replace q52 := eq_true q52
                      have q53 : ((ji46) : Int) ≤ ((z6.length : Int) : Int) := of_decide_eq_true Z9
                      obtain ⟨i053, hi053, _, hsz53, _⟩ := info_parts info43
                      have hroom53 : z6.length ≤ co23 := (Kd.N_reads' HO_6.out).2.1
                      have hC53 : Kd.F (Kd.cel (Kd.slice 92 k92)) _ _ Ao23 z6.length z6 := (Kd.V_at (base := w.heap.size) (Kd.N_V HO_6.out)).2.2
                      have q053 : (0 : Int) ≤ ((ji46) : Int) := of_decide_eq_true Z9
                      have hcut53 := cut_from (P := Try.prog) 24 43 .i64 Try.underlying24 hi053 1 hsz53 Ao23 z6.length co23 (ji46) q053 q53
                      have hr53 := Kd.F_cut (m := ((ji46) : Int).toNat) (c := co23) hC53 (by omega) hroom53
                      obtain ⟨A53, hA53⟩ : ∃ A1, A1 = (if co23 = ((ji46) : Int).toNat then Ao23 else (Ao23 : Option Addr).map (·.add (((ji46) : Int).toNat * 1))) := ⟨_, rfl⟩
                      obtain ⟨c53, hc53⟩ : ∃ c1, c1 = co23 - ((ji46) : Int).toNat := ⟨_, rfl⟩
                      have hy53 : z221.length = z6.length - ((ji46) : Int).toNat := (by rw [Nz221.out, List.length_drop] <;> omega)
                      rw [show (z6).drop ((ji46) : Int).toNat = z221 from Nz221.out.symm] at hr53
                      replace hr53 : Kd.F (Kd.cel (Kd.slice 92 k92)) _ _ A53 z221.length z221 := (by rw [hA53]; exact hr53)
                      rw [← hy53, ← hA53, ← hc53] at hcut53
                      have HO225 := A_ (show Kd.V (Kd.cel (Kd.slice 92 k92)) 43 _ w.heap.size _ (.slice A53 z221.length c53) z221 from Kd.V_mk (by rw [hy53, hc53]; exact Nat.sub_le_sub_right hroom53 _) hr53)
                      have HC225 := A_ (show z221.length ≤ c53 from by rw [hy53, hc53]; exact Nat.sub_le_sub_right hroom53 _)
                      clear hr53 hC53 hroom53 hi053 hsz53 hc53
                      have KY53 := A_ hy53
                      have KA53 := A_ hA53
                      clear hy53 hA53
                      replace q53 := eq_true q53
                      refine start_ (n := 11) (S := fun w' => True) (ds := []) #[F,F,F,F,F,F,F,F,F,F,F] (by kernel_rfl) rfl rfl trivial (fun hHeld => ?_); refine with_tabW impl_EffectsLive.tab25 impl_EffectsLive.bits25 (fun HT_ HW_ => ?_)
                      generalize wr.drew = w51 at HO_6 HJ HE HO_38 BK201 HB HO217 HO225 hHeld ⊢
                      refine pure_ (i := 1) (N := some 74) (v := ?_) (a' := ?_) #[F,T,F,F,F,F,F,F,F,F,F] rfl rfl ZA ZF (Or.inl ⟨by rfl, ?_⟩) ?_ ?_
                      rotate_left
                      ·exact Z18
                      rotate_left
                      ·exact Z6
                      refine pure_ (i := 2) (N := some 75) (v := ?_) (a' := ?_) #[F,T,T,F,F,F,F,F,F,F,F] rfl rfl ZA ZF (Or.inl ⟨by rfl, ?_⟩) ?_ ?_
                      rotate_left
                      ·exact Z18
                      rotate_left
                      ·exact Z6
                      refine pure_ (i := 3) (N := some 76) (v := ?_) (a' := ?_) #[F,T,T,T,F,F,F,F,F,F,F] rfl rfl ZA ZF (Or.inl ⟨by rfl, ?_⟩) ?_ ?_
                      rotate_left
                      ·exact Z18
                      rotate_left
                      ·exact Z6
                      refine pure_ (i := 5) (N := some 78) (v := ?_) (a' := ?_) #[F,T,T,T,F,T,F,F,F,F,F] rfl rfl ZA ZF (Or.inl ⟨by rfl, ?_⟩) ?_ ?_
                      rotate_left
                      ·exact Z18
                      rotate_left
                      ·exact Z6
                      refine pure_ (i := 6) (N := some 79) (v := ?_) (a' := ?_) #[F,T,T,T,F,T,T,F,F,F,F] rfl rfl ZA ZF (Or.inl ⟨by rfl, ?_⟩) ?_ ?_
                      rotate_left
                      ·exact Z18
                      rotate_left
                      ·exact Z6
                      refine pure_ (i := 7) (N := some 80) (v := ?_) (a' := ?_) #[F,T,T,T,F,T,T,T,F,F,F] rfl rfl ZA ZF (Or.inl ⟨by rfl, ?_⟩) ?_ ?_
                      rotate_left
                      ·exact Z18
                      rotate_left
                      ·exact Z6
                      refine pure_ (i := 8) (N := some 81) (v := ?_) (a' := ?_) #[F,T,T,T,F,T,T,T,T,F,F] rfl rfl ZA ZF (Or.inl ⟨by rfl, ?_⟩) ?_ ?_
                      rotate_left
                      ·exact Z18
                      rotate_left
                      ·exact Z6
                      refine one_ (i := 0) (N := some 73) #[T,T,T,T,F,T,T,T,T,F,F] rfl rfl (one_of HT_.out (by kernel_rfl)) (by decide) (fun K hK => ?_)
                      refine Kd.N_lit_step (Kd.cel (Kd.slice 92 k92)) _ 43 ?hg (N' := 73) ?hd (xs := ([] : List (List (S92) × List Value))) (inner := []) (ok := (fun k_ => (w.heap.size ≤ k_) ∧ some k_ ≠ (.slice Ao23 z6.length co23 : Value).ownBlock ∧ some k_ ≠ (.slice Ao23 z6.length co23 : Value).ownBlock ∧ k_ ≠ gb201)) (okp := (fun k_ => (w.heap.size ≤ k_) ∧ some k_ ≠ (.slice Ao23 z6.length co23 : Value).ownBlock ∧ some k_ ≠ (.slice Ao23 z6.length co23 : Value).ownBlock ∧ k_ ≠ gb201)) ?hr ?hp (fun _ hk => hk) ((show ∀ k_, w51.heap.size ≤ k_ → (fun k_ => (w.heap.size ≤ k_) ∧ some k_ ≠ (.slice Ao23 z6.length co23 : Value).ownBlock ∧ some k_ ≠ (.slice Ao23 z6.length co23 : Value).ownBlock ∧ k_ ≠ gb201) k_ from fun k_ hk => ⟨(Nat.le_trans (below_size (Z1 GE201.out)) hk), Kd.fresh' (Kd.N_lt (Z12 HO_6.out)) k_ hk, Kd.fresh' (Kd.N_lt (Z12 HO_38.out)) k_ hk, Kd.freshB (g := gb201) (o := .cells #[.int .i64 ((rd_T75 l0 x34_2).f0), .slice A200_1 ((rd_T75 l0 x34_2).f1).length c200_1] 75 (0, 0)) (Z7 BK201.out) k_ hk⟩) _ (Nat.le_refl _)) (Below.refl _ _) (Nat.le_refl _) (by simp) ?_; (case hd => rfl); (case hg => rfl); (case hr => exact Z19); (case hp => exact (Reps.none _ _))
                      intro v211 w54 ho55 hb hg_ hnew_
                      have HV211 := A_ (show ∀ k_, v211.ownBlock = some k_ → zs_ ≤ k_ from fun k_ e_ => Nat.le_trans HE.out (Kd.N_base ho55 k_ e_))
                      have nj_ := A_ (Kd.In_step (w1 := w54) HJ.out (fun k_ hk_ => hb.block k_ (Nat.lt_of_lt_of_le hk_ HE.out)))
                      have ne_ := A_ (Nat.le_trans HE.out hb.size)
                      clear HJ HE
                      have HJ := nj_
                      have HE := ne_
                      clear nj_ ne_
                      clear hg_ hnew_
                      (first | rw [← Nz210.out] at ho55 | (simp only [Int.reduceToNat] at ho55; rw [← Nz210.out] at ho55))
                      have n0_ := A_ (Kd.N_elder' (Z12 HO_6.out) (Kd.N_base ho55) hb)
                      have n1_ := A_ (Kd.N_elder' (Z12 HO_38.out) (Kd.N_base ho55) hb)
                      have n2_ := A_ (Kd.V_elder' (Z23 HO217.out) (Kd.N_base ho55) hb)
                      have n3_ := A_ (Kd.V_elder' (Z23 HO225.out) (Kd.N_base ho55) hb)
                      have n4_ := A_ (Kd.N_lower ho55 (below_size (Z1 GE201.out)))
                      have n5_ := A_ (blk_below (g := gb201) (o := .cells #[.int .i64 ((rd_T75 l0 x34_2).f0), .slice A200_1 ((rd_T75 l0 x34_2).f1).length c200_1] 75 (0, 0)) (Z7 BK201.out) hb)
                      have n6_ := A_ (below_step (Z1 GE201.out) hb)
                      clear HO_6
                      clear HO_38
                      clear HO217
                      clear HO225
                      clear BK201
                      clear HB
                      have HO_6 := n0_
                      have HO_38 := n1_
                      have HO217 := n2_
                      have HO225 := n3_
                      have HO212 := n4_
                      have BK201 := n5_
                      have HB := n6_
                      clear n0_ n1_ n2_ n3_ n4_ n5_ n6_
                      clear hb ho55
                      refine hK.out _ _ trivial (fun hHeld => ?_)
                      clear hK K
                      refine norm_ (a' := ?_) ?_ ?_
                      rotate_left
                      ·show Act.put _ (some 73) _ = _
                       simp only [Act.put, List.setIfInBounds_toArray, List.set_cons_zero, List.set_cons_succ, i64_w, i32_w]
                       rfl
                      refine one_ (i := 4) (N := some 77) #[T,T,T,T,T,T,T,T,T,F,F] rfl rfl (one_of HT_.out (by kernel_rfl)) (by decide) (fun K hK => ?_)
                      refine Kd.N_append_rows_step (Kd.cel (Kd.slice 92 k92)) (w0 := w) w.heap.size (by rfl) (.tmp 73) (.tmp 76) 24 43 (.slice none 0 0) 24 rfl Try.underlying24 info43 rfl (by decide) (by omega) v211 z210 z213 _ _ _ (fun k_ => (w.heap.size ≤ k_) ∧ k_ ≠ gb201) (fun k_ => ((fun k_ => (w.heap.size ≤ k_) ∧ k_ ≠ gb201)) k_ ∧ some k_ ≠ (v211 : Value).ownBlock) rfl rfl ?aO ?aR (fun _ hk => hk) ?aF ?aB ?aS ?aL ?_
                      (case aR => exact (by skip; exact Kd.V_F (Kd.V_mono (ok' := (fun k_ => ((fun k_ => (w.heap.size ≤ k_) ∧ k_ ≠ gb201)) k_ ∧ some k_ ≠ (v211 : Value).ownBlock)) (HO217.out) (fun k_ hk => ⟨⟨hk.1.1, hk.1.2⟩, hk.2⟩))))
                      (case aB => exact (Z1 GE201.out))
                      (case aF => exact (fun k_ hk => ⟨(Nat.le_trans (below_size (Z1 GE201.out)) hk), Kd.freshB (g := gb201) (o := .cells #[.int .i64 ((rd_T75 l0 x34_2).f0), .slice A200_1 ((rd_T75 l0 x34_2).f1).length c200_1] 75 (0, 0)) (Z7 BK201.out) k_ hk⟩))
                      (case aO => exact (by (with_reducible repeat (first | apply Kd.N_alloc | apply Kd.N_drewN | apply Kd.N_drew)); exact Kd.N_mono HO212.out (fun _ hk => ⟨hk.1, hk.2.2.2⟩)))
                      (case aS => exact (below_size (Z1 GE201.out)))
                      (case aL => have := LMz45.out; omega)
                      intro v219 w56 ho hb hg hat
                      have HV219 := A_ (show ∀ k_, v219.ownBlock = some k_ → zs_ ≤ k_ from fun k_ e_ => by
                       rcases hat with h_ | ⟨b_, h_, hl_⟩
                       ·exact HV211.out k_ (h_ ▸ e_)
                       ·rw [h_] at e_
                        injection e_ with e_
                        have := HE.out
                        omega)
                      have nj_ := A_ (Kd.In_step (w1 := w56) HJ.out (fun k_ hk_ => hg.block k_ (Nat.lt_of_lt_of_le hk_ HE.out) (fun e_ => by have := HV211.out k_ e_.symm; omega)))
                      have ne_ := A_ (Nat.le_trans HE.out hg.size)
                      clear HJ HE
                      have HJ := nj_
                      have HE := ne_
                      clear nj_ ne_
                      rw [← Nz218.out] at ho
                      have n0_ := A_ (Kd.N_afterv (ok := (fun k_ => (w.heap.size ≤ k_) ∧ k_ ≠ gb201)) (Z12 HO_6.out) hg hat)
                      have n1_ := A_ (Kd.N_afterv (ok := (fun k_ => (w.heap.size ≤ k_) ∧ k_ ≠ gb201)) (Z12 HO_38.out) hg hat)
                      have n2_ := A_ (blk_grown (g := gb201) (o := .cells #[.int .i64 ((rd_T75 l0 x34_2).f0), .slice A200_1 ((rd_T75 l0 x34_2).f1).length c200_1] 75 (0, 0)) (Z7 BK201.out) hg (Kd.N_ne HO212.out BK201.out (by decide)))
                      have n3_ := A_ (Kd.V_afterv (ok := (fun k_ => (w.heap.size ≤ k_) ∧ k_ ≠ gb201)) (Z23 HO217.out) hg hat)
                      have n4_ := A_ (Kd.V_afterv (ok := (fun k_ => (w.heap.size ≤ k_) ∧ k_ ≠ gb201)) (Z23 HO225.out) hg hat)
                      have n5_ := A_ (hb)
                      have n6_ := A_ (ho)
                      clear HO_6
                      clear HO_38
                      clear BK201
                      clear HO217
                      clear HO225
                      clear HB
                      clear HO212
                      have HO_6 := n0_
                      have HO_38 := n1_
                      have BK201 := n2_
                      have HO217 := n3_
                      have HO225 := n4_
                      have HB := n5_
                      have HO220 := n6_
                      clear n0_ n1_ n2_ n3_ n4_ n5_ n6_
                      clear ho hb hg hat
                      refine hK.out _ _ trivial (fun hHeld => ?_)
                      clear hK K
                      refine norm_ (a' := ?_) ?_ ?_
                      rotate_left
                      ·show Act.put _ (some 77) _ = _
                       simp only [Act.put, List.setIfInBounds_toArray, List.set_cons_zero, List.set_cons_succ, i64_w, i32_w]
                       rfl
                      refine one_ (i := 9) (N := some 82) #[T,T,T,T,T,T,T,T,T,T,F] rfl rfl (one_of HT_.out (by kernel_rfl)) (by decide) (fun K hK => ?_)
                      refine Kd.N_append_rows_step (Kd.cel (Kd.slice 92 k92)) (w0 := w) w.heap.size (by rfl) (.tmp 77) (.tmp 81) 24 43 (.slice none 0 0) 24 rfl Try.underlying24 info43 rfl (by decide) (by omega) v219 z218 z221 _ _ _ (fun k_ => (w.heap.size ≤ k_) ∧ k_ ≠ gb201) (fun k_ => ((fun k_ => (w.heap.size ≤ k_) ∧ k_ ≠ gb201)) k_ ∧ some k_ ≠ (v219 : Value).ownBlock) rfl rfl ?aO ?aR (fun _ hk => hk) ?aF ?aB ?aS ?aL ?_
                      (case aR => exact (by skip; exact Kd.V_F (Kd.V_mono (ok' := (fun k_ => ((fun k_ => (w.heap.size ≤ k_) ∧ k_ ≠ gb201)) k_ ∧ some k_ ≠ (v219 : Value).ownBlock)) (HO225.out) (fun k_ hk => ⟨⟨hk.1.1, hk.1.2⟩, hk.2⟩))))
                      (case aB => exact (Z1 GE201.out))
                      (case aF => exact (fun k_ hk => ⟨(Nat.le_trans (below_size (Z1 GE201.out)) hk), Kd.freshB (g := gb201) (o := .cells #[.int .i64 ((rd_T75 l0 x34_2).f0), .slice A200_1 ((rd_T75 l0 x34_2).f1).length c200_1] 75 (0, 0)) (Z7 BK201.out) k_ hk⟩))
                      (case aO => exact (Z12 HO220.out))
                      (case aS => exact (below_size (Z1 GE201.out)))
                      (case aL => have := LMz49.out; omega)
                      intro v227 w57 ho hb hg hat
                      have HV227 := A_ (show ∀ k_, v227.ownBlock = some k_ → zs_ ≤ k_ from fun k_ e_ => by
                       rcases hat with h_ | ⟨b_, h_, hl_⟩
                       ·exact HV219.out k_ (h_ ▸ e_)
                       ·rw [h_] at e_
                        injection e_ with e_
                        have := HE.out
                        omega)
                      have nj_ := A_ (Kd.In_step (w1 := w57) HJ.out (fun k_ hk_ => hg.block k_ (Nat.lt_of_lt_of_le hk_ HE.out) (fun e_ => by have := HV219.out k_ e_.symm; omega)))
                      have ne_ := A_ (Nat.le_trans HE.out hg.size)
                      clear HJ HE
                      have HJ := nj_
                      have HE := ne_
                      clear nj_ ne_
                      rw [← Nz226.out] at ho
                      have n0_ := A_ (Kd.N_afterv (ok := (fun k_ => (w.heap.size ≤ k_) ∧ k_ ≠ gb201)) (Z12 HO_6.out) hg hat)
                      have n1_ := A_ (Kd.N_afterv (ok := (fun k_ => (w.heap.size ≤ k_) ∧ k_ ≠ gb201)) (Z12 HO_38.out) hg hat)
                      have n2_ := A_ (blk_grown (g := gb201) (o := .cells #[.int .i64 ((rd_T75 l0 x34_2).f0), .slice A200_1 ((rd_T75 l0 x34_2).f1).length c200_1] 75 (0, 0)) (Z7 BK201.out) hg (Kd.N_ne HO220.out BK201.out (by decide)))
                      have n3_ := A_ (Kd.V_afterv (ok := (fun k_ => (w.heap.size ≤ k_) ∧ k_ ≠ gb201)) (Z23 HO217.out) hg hat)
                      have n4_ := A_ (Kd.V_afterv (ok := (fun k_ => (w.heap.size ≤ k_) ∧ k_ ≠ gb201)) (Z23 HO225.out) hg hat)
                      have n5_ := A_ (hb)
                      have n6_ := A_ (ho)
                      clear HO_6
                      clear HO_38
                      clear BK201
                      clear HO217
                      clear HO225
                      clear HB
                      clear HO220
                      have HO_6 := n0_
                      have HO_38 := n1_
                      have BK201 := n2_
                      have HO217 := n3_
                      have HO225 := n4_
                      have HB := n5_
                      have HO228 := n6_
                      have HSF := A_ (show Kd.S (Kd.slice 92 k92) 43 w57 w.heap.size (fun k_ => w.heap.size ≤ k_) v227 y226 from by
                       rw [ez226]
                       refine Kd.S_of_cells HO228.out (s := zs_) ?_ HV227.out (fun _ h_ => h_)
                       rw [Nz226.out, Nz218.out, Nz210.out, List.nil_append, Nz213.out, Nz221.out]
                       exact Kd.In_cut HJ.out zb1 zb2)
                      clear n0_ n1_ n2_ n3_ n4_ n5_ n6_
                      clear ho hb hg hat
                      refine hK.out _ _ trivial (fun hHeld => ?_)
                      clear hK K
                      refine norm_ (a' := ?_) ?_ ?_
                      rotate_left
                      ·show Act.put _ (some 82) _ = _
                       simp only [Act.put, List.setIfInBounds_toArray, List.set_cons_zero, List.set_cons_succ, i64_w, i32_w]
                       rfl
                      refine pure_ (i := 10) (N := some 6) (v := ?_) (a' := ?_) #[T,T,T,T,T,T,T,T,T,T,T] rfl rfl ZA ZF (Or.inl ⟨by rfl, ?_⟩) ?_ ?_
                      rotate_left
                      ·exact Z18
                      rotate_left
                      ·exact Z6
                      refine done_ (done_of HT_.out (by kernel_rfl)) ?_
                      try go_wp2
                      go_roundg k3
                      case measure => have := HK1.out; have := HK2.out; have := HK3.out; omega
                      case rel => exact ⟨(y226), (wrap64 (x34_2 + 1)), Z17, H', ⟨by have := HK1.out; have := HK2.out; have := HK3.out; omega⟩, ⟨by (with_reducible repeat (first | apply Kd.S_alloc | apply Kd.S_drewN | apply Kd.S_drew)); exact HSF.out⟩, ⟨Z1 GE201.out⟩⟩
                     ·rw [if_neg c49] at H
                      exact absurd H (by simp)
                    ·rw [if_neg c48] at H
                     exact absurd H (by simp)
                   ·rw [if_neg c47] at H
                    exact absurd H (by simp)
                  ·rw [if_neg c45] at H
                   exact absurd H (by simp)
                 ·rw [if_neg c44] at H
                  exact absurd H (by simp)
                ·rw [if_neg c43] at H
                 exact absurd H (by simp)
               ·rw [if_neg c42] at H
                have c42b0 : (((rd_T75 l0 x34_2).f0) == 0) = false := beq_eq_false_iff_ne.mpr c42
                have c42b1 : (((rd_T75 l0 x34_2).f0) != 0) = true := bne_iff_ne.mpr c42
                have H' := A_ H
                clear H
                have hcz58_0 : wr.cell? ⟨gb201, 0, none⟩ = some (.int .i64 ((rd_T75 l0 x34_2).f0)) := (blk_cell BK201.out 0).trans rfl
                have hcz58_1 : wr.cell? ⟨gb201, 1, none⟩ = some (.slice A200_1 ((rd_T75 l0 x34_2).f1).length c200_1) := (blk_cell BK201.out 1).trans rfl
                have hfz58_0 := blk_frozen BK201.out 0
                have hfz58_1 := blk_frozen BK201.out 1
                go_wp2
                go_roundg k3
                case measure => have := HK1.out; have := HK2.out; have := HK3.out; omega
                case rel => exact ⟨(x6_2), (wrap64 (x34_2 + 1)), Z17, H', ⟨by have := HK1.out; have := HK2.out; have := HK3.out; omega⟩, ⟨by (with_reducible repeat (first | apply Kd.S_alloc | apply Kd.S_drewN | apply Kd.S_drew)); exact Kd.S_mono HO_6.out (fun _ hk => hk.1)⟩, ⟨Z1 GE201.out⟩⟩
         ·rw [if_neg c20] at H
          exact absurd H (by simp)
        ·rw [if_neg c19] at H
         exact absurd H (by simp)
       ·rw [if_neg c18] at H
        have c18b0 : decide (x34_2 < (l0.length : Int)) = false := decide_eq_false c18
        clear c18
        simp only [Option.some.injEq, Prod.mk.injEq] at H
        obtain ⟨rfl, rfl⟩ := H
        go_wp2
        go_ret2
        exact ⟨_, Z14, Z10 HO_6.out, Z0⟩
end Go.Proofs.Ytpadhphdglbciaa.PFnExactEffectsLive
