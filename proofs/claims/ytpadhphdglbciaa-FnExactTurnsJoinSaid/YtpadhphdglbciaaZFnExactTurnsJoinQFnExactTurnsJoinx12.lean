/- Walks of the functions that the law 'FnExactTurnsJoin' reaches, part 12: for each a Lean function and the proof that Go's comes to just its answer (lines of the print, under own names; no condition). -/
import Derived.Test.YtpadhphdglbciaaZFnExactTurnsJoinQFnExactTurnsJoinx0
import Derived.Test.YtpadhphdglbciaaZFnExactTurnsJoinQFnExactTurnsJoinx1
import Derived.Test.YtpadhphdglbciaaZFnExactTurnsJoinQFnExactTurnsJoinx11
namespace Go.Proofs.Ytpadhphdglbciaa.PFnExactTurnsJoin
open Go.RowKit Go.Proofs.YtpadhphdglbciaaW.PrintWords Go.Proofs.YtpadhphdglbciaaW.PrintLast Go.Proofs.YtpadhphdglbciaaW.PrintMore
attribute [local go_sem] max2_int min2_int max_two min_two max_three min_three max_four min_four
set_option linter.unusedVariables false
set_option linter.unusedSimpArgs false
attribute [local go_sem high] eqA99
mutual
def impl_formFits.l0 : Nat → List (S137) → Int → Int → Int → Int → List (S137) → Int → Int → Option (Bool)
 | 0, _, _, _, _, _, _, _, _ => none
 | k + 1, x0, x1, x2, x3, x9, x14, x15, x16 => if x16 < x15 then (if 0 ≤ x16 then (if x16 < (x14.length : Int) then (if ((rd_T137 x14 x16).f0) = 0 then (impl_formFits.j1 k x0 x1 x2 x3 x9 x14 x15 x16 false ((rd_T137 x14 x16).f0) ((rd_T137 x14 x16).f1) ((rd_T137 x14 x16).f2.f0) ((rd_T137 x14 x16).f2.f1) ((rd_T137 x14 x16).f2.f2)) else (impl_formFits.j1 k x0 x1 x2 x3 x9 x14 x15 x16 (!(((rd_T137 x14 x16).f2.f0) == 0) || (!(((rd_T137 x14 x16).f2.f1) == 0) || (!((((rd_T137 x14 x16).f2.f2).toList) == ([] : List UInt8))))) ((rd_T137 x14 x16).f0) ((rd_T137 x14 x16).f1) ((rd_T137 x14 x16).f2.f0) ((rd_T137 x14 x16).f2.f1) ((rd_T137 x14 x16).f2.f2))) else (none)) else (none)) else (if x9 = 1 then (some (decide ((x0.length : Int) ≤ 9))) else (some false))
def impl_formFits.j1 : Nat → List (S137) → Int → Int → Int → Int → List (S137) → Int → Int → Bool → Int → Int → Int → Int → ByteArray → Option (Bool)
 | 0, _, _, _, _, _, _, _, _, _, _, _, _, _, _ => none
 | k + 1, x0, x1, x2, x3, x9, x14, x15, x16, x28, x343000, x343001, x343002, x343003, x343004 => if x28 = true then (some false) else (if x343000 = 0 then (if x343001 = 0 then ((impl_ValOk.f k x343002 x343003 x343004).bind fun t343 => (if t343 = true then (if x9 < 0 then (some false) else (impl_formFits.l0 k x0 x1 x2 x3 (wrap64 (x9 + (1 - 0))) x14 x15 (wrap64 (x16 + 1)))) else (some false))) else (some false)) else (if x343000 = 1 then ((impl_within.f x343001 0 (wrap64 (x1 - 1))).bind fun t344 => (if t344 = true then (if x9 < 0 then (some false) else (impl_formFits.l0 k x0 x1 x2 x3 (wrap64 (x9 + (1 - 0))) x14 x15 (wrap64 (x16 + 1)))) else (some false))) else (if x343000 = 2 then ((impl_within.f x343001 0 (wrap64 (x2 - 1))).bind fun t345 => (if t345 = true then (if x9 < 0 then (some false) else (impl_formFits.l0 k x0 x1 x2 x3 (wrap64 (x9 + (1 - 0))) x14 x15 (wrap64 (x16 + 1)))) else (some false))) else (if x343000 = 3 then ((impl_within.f x343001 0 (wrap64 (x3 - 1))).bind fun t346 => (if t346 = true then (if x9 < 0 then (some false) else (impl_formFits.l0 k x0 x1 x2 x3 (wrap64 (x9 + (1 - 0))) x14 x15 (wrap64 (x16 + 1)))) else (some false))) else (if x343000 = 4 then ((impl_within.f x343001 0 1).bind fun t347 => (if t347 = true then (if x9 < 0 then (some false) else (impl_formFits.l0 k x0 x1 x2 x3 (wrap64 (x9 + (1 - 0))) x14 x15 (wrap64 (x16 + 1)))) else (some false))) else (if x343000 = 5 then ((impl_within.f x343001 0 6).bind fun t348 => (if t348 = true then (if x9 < 2 then (some false) else (impl_formFits.l0 k x0 x1 x2 x3 (wrap64 (x9 + (1 - 2))) x14 x15 (wrap64 (x16 + 1)))) else (some false))) else (if x343000 = 6 then (if x343001 = 0 then (if x9 < 3 then (some false) else (impl_formFits.l0 k x0 x1 x2 x3 (wrap64 (x9 + (1 - 3))) x14 x15 (wrap64 (x16 + 1)))) else (some false)) else (some false))))))))
end
def impl_formFits.f (k : Nat) (l0 : List (S137)) (a1 : Int) (a2 : Int) (a3 : Int) : Option (Bool) := impl_formFits.l0 k l0 a1 a2 a3 0 l0 (l0.length : Int) 0
set_option maxHeartbeats 8000000 in
set_option maxRecDepth 100000 in
theorem impl_formFits.calls (k : Nat) (A0 : Option Addr) (c0 : Nat) (l0 : List (S137)) (a1 : Int) (a2 : Int) (a3 : Int) (r : Bool) (w : World) (hr0 : Kd.C k137 w A0 l0.length l0) (hc0 : l0.length ≤ c0) (h : impl_formFits.f k l0 a1 a2 a3 = some r) :
  Calls Try.prog 118 #[.slice A0 l0.length c0, .int .i64 a1, .int .i64 a2, .int .i64 a3] w fun e w' => e = .returned (.bool r) ∧ Below w.heap.size w w' := by
 have hu137 := Try.underlying137; have hu99 := Try.underlying99; have HR0 := A_ hr0; have HC0 := A_ hc0; clear hr0 hc0; have HB := A_ (Below.refl w.heap.size w); have H : (impl_formFits.l0 k l0 a1 a2 a3 0 l0 (l0.length : Int) 0) = some r := h; clear h; have H' := A_ H; clear H
 go_enter Try.func118, Try.ntmps118
 go_wp2
 go_loopg [9, 16] k (fun kq v9 v16 w' => ∃ (x9_1 : Int) (x16_1 : Int), v9 = .int .i64 x9_1 ∧ v16 = .int .i64 x16_1 ∧ Aside0 (impl_formFits.l0 kq l0 a1 a2 a3 x9_1 l0 (l0.length : Int) x16_1 = some r) ∧ Aside0 (kq ≤ k) ∧ Aside0 (Below w.heap.size w w'))
 case atStart => exact ⟨(0), (0), Z13, Z13, H', ⟨Nat.le_refl _⟩, ⟨Z0⟩⟩
 case round =>
  clear H'
  try clear c1
  try clear p2
  obtain ⟨x9_1, x16_1, rfl, rfl, HA, HK1, HB⟩ := hrel
  cases gk with
  | zero => exact absurd HA.out (by simp [impl_formFits.l0])
  | succ k1 =>
   have H := HA.out; clear HA; simp only [impl_formFits.l0] at H
   by_cases c5 : x16_1 < (l0.length : Int)
   ·rw [if_pos c5] at H
    have c5b0 : decide (x16_1 < (l0.length : Int)) = true := decide_eq_true c5; clear c5
    by_cases c6 : 0 ≤ x16_1
    ·rw [if_pos c6] at H
     have c6b0 : decide (0 ≤ x16_1) = true := decide_eq_true c6; clear c6
     by_cases c7 : x16_1 < (l0.length : Int)
     ·rw [if_pos c7] at H
      have c7b0 : decide (x16_1 < (l0.length : Int)) = true := decide_eq_true c7; clear c7; have HC8 := A_ H; clear H; have p341 : 0 ≤ (x16_1 : Int) := of_decide_eq_true Z9; have q341 : x16_1 < (l0.length : Int) := of_decide_eq_true Z9; obtain ⟨ad341, e341, hx341_0, hx341_1, hx341_2, hx341_3, hx341_4⟩ := at_T137 HR0.out x16_1 p341 q341; cases e341; replace hx341_0 := ZC HB.out hx341_0; replace hx341_1 := ZC HB.out hx341_1; replace hx341_2 := ZC HB.out hx341_2; replace hx341_3 := ZC HB.out hx341_3; replace hx341_4 := ZC HB.out hx341_4; replace p341 := eq_true p341; replace q341 := eq_true q341
      go_upto_region 5 with (first | ((with_reducible refine gate_dst (N := 11) rfl ?_); (try (refine gate_guard (by rfl) ?_; dsimp only)); refine box_event ?hg (N := 11) ?hd (cs := #[.int .i64 0, .int .i64 0, .int .i64 0, .int .i64 0, .string (⟨#[]⟩ : ByteArray)]) (t := 137) ?hr ?_; (case hd => rfl); (case hg => rfl); (case hr => exact Z15); intro gb342 hg w9 hbox hb; have n0_ := A_ (below_step Z0 hb); have n1_ := A_ (hbox); have n2_ := A_ ((by rw [hg]; exact (below_size Z0) : w.heap.size ≤ gb342)); have n3_ := A_ ((by rw [hg]; exact (below_size Z0) : w.heap.size ≤ gb342)); clear HB; have HB := n0_; have BK342 := n1_; have GW342 := n2_; have GE342 := n3_; clear n0_ n1_ n2_ n3_; clear hb hbox hg; have hcz10_0 : w9.cell? ⟨gb342, 0, none⟩ = some (.int .i64 0) := (blk_cell BK342.out 0).trans rfl; have hcz10_1 : w9.cell? ⟨gb342, 1, none⟩ = some (.int .i64 0) := (blk_cell BK342.out 1).trans rfl; have hcz10_2 : w9.cell? ⟨gb342, 2, none⟩ = some (.int .i64 0) := (blk_cell BK342.out 2).trans rfl; have hcz10_3 : w9.cell? ⟨gb342, 3, none⟩ = some (.int .i64 0) := (blk_cell BK342.out 3).trans rfl; have hcz10_4 : w9.cell? ⟨gb342, 4, none⟩ = some (.string (⟨#[]⟩ : ByteArray)) := (blk_cell BK342.out 4).trans rfl; have hfz10_0 := blk_frozen BK342.out 0; have hfz10_1 := blk_frozen BK342.out 1; have hfz10_2 := blk_frozen BK342.out 2; have hfz10_3 := blk_frozen BK342.out 3; have hfz10_4 := blk_frozen BK342.out 4))
      (try simp only [Act.put, List.setIfInBounds_toArray, List.set_cons_zero, List.set_cons_succ])
      go_cut [28] (fun v28 wc => ∃ (kq : Nat) (x28_7 : Bool), v28 = .bool x28_7 ∧ Aside0 (impl_formFits.j1 kq l0 a1 a2 a3 x9_1 l0 (l0.length : Int) x16_1 x28_7 ((rd_T137 l0 x16_1).f0) ((rd_T137 l0 x16_1).f1) ((rd_T137 l0 x16_1).f2.f0) ((rd_T137 l0 x16_1).f2.f1) ((rd_T137 l0 x16_1).f2.f2) = some r) ∧ Aside0 (kq ≤ k1) ∧ Aside0 (wc.heap[gb342]? = some (.cells #[.int .i64 ((rd_T137 l0 x16_1).f0), .int .i64 ((rd_T137 l0 x16_1).f1), .int .i64 ((rd_T137 l0 x16_1).f2.f0), .int .i64 ((rd_T137 l0 x16_1).f2.f1), .string ((rd_T137 l0 x16_1).f2.f2)] 137 (0, 0))) ∧ Aside0 (Below w.heap.size w wc))
      case first =>
       have H := HC8.out; clear HC8
       by_cases c11 : ((rd_T137 l0 x16_1).f0) = 0
       ·rw [if_pos c11] at H
        have c11b0 : (((rd_T137 l0 x16_1).f0) == 0) = true := beq_iff_eq.mpr c11; have c11b1 : (((rd_T137 l0 x16_1).f0) != 0) = false := bne_eq_false_iff_eq.mpr c11; clear c11; (first | rw [c11b0] | (simp only [i64_w, i32_w]; rw [c11b0]) | skip); have H' := A_ H; clear H; have hcz12_0 : w9.cell? ⟨gb342, 0, none⟩ = some (.int .i64 0) := (blk_cell BK342.out 0).trans rfl; have hcz12_1 : w9.cell? ⟨gb342, 1, none⟩ = some (.int .i64 0) := (blk_cell BK342.out 1).trans rfl; have hcz12_2 : w9.cell? ⟨gb342, 2, none⟩ = some (.int .i64 0) := (blk_cell BK342.out 2).trans rfl; have hcz12_3 : w9.cell? ⟨gb342, 3, none⟩ = some (.int .i64 0) := (blk_cell BK342.out 3).trans rfl; have hcz12_4 : w9.cell? ⟨gb342, 4, none⟩ = some (.string (⟨#[]⟩ : ByteArray)) := (blk_cell BK342.out 4).trans rfl; have hfz12_0 := blk_frozen BK342.out 0; have hfz12_1 := blk_frozen BK342.out 1; have hfz12_2 := blk_frozen BK342.out 2; have hfz12_3 := blk_frozen BK342.out 3; have hfz12_4 := blk_frozen BK342.out 4
        go_wp2
        go_meet
        case rel => exact ⟨_, (false), Z13, H', ⟨by have := HK1.out; first | omega | exact Nat.le_refl _⟩, ⟨by (with_reducible repeat (first | refine blk_drewN ?_ _ | refine blk_drew ?_ | refine blk_alloc ?_ _)); refine blk_put (cs := #[.int .i64 ((rd_T137 l0 x16_1).f0), .int .i64 ((rd_T137 l0 x16_1).f1), .int .i64 ((rd_T137 l0 x16_1).f2.f0), .int .i64 ((rd_T137 l0 x16_1).f2.f1), .string (⟨#[]⟩ : ByteArray)]) ?_ 4 _ rfl; (with_reducible repeat (first | refine blk_drewN ?_ _ | refine blk_drew ?_ | refine blk_alloc ?_ _)); refine blk_put (cs := #[.int .i64 ((rd_T137 l0 x16_1).f0), .int .i64 ((rd_T137 l0 x16_1).f1), .int .i64 ((rd_T137 l0 x16_1).f2.f0), .int .i64 0, .string (⟨#[]⟩ : ByteArray)]) ?_ 3 _ rfl; (with_reducible repeat (first | refine blk_drewN ?_ _ | refine blk_drew ?_ | refine blk_alloc ?_ _)); refine blk_put (cs := #[.int .i64 ((rd_T137 l0 x16_1).f0), .int .i64 ((rd_T137 l0 x16_1).f1), .int .i64 0, .int .i64 0, .string (⟨#[]⟩ : ByteArray)]) ?_ 2 _ rfl; (with_reducible repeat (first | refine blk_drewN ?_ _ | refine blk_drew ?_ | refine blk_alloc ?_ _)); refine blk_put (cs := #[.int .i64 ((rd_T137 l0 x16_1).f0), .int .i64 0, .int .i64 0, .int .i64 0, .string (⟨#[]⟩ : ByteArray)]) ?_ 1 _ rfl; (with_reducible repeat (first | refine blk_drewN ?_ _ | refine blk_drew ?_ | refine blk_alloc ?_ _)); refine blk_put (cs := #[.int .i64 0, .int .i64 0, .int .i64 0, .int .i64 0, .string (⟨#[]⟩ : ByteArray)]) ?_ 0 _ rfl; (with_reducible repeat (first | refine blk_drewN ?_ _ | refine blk_drew ?_ | refine blk_alloc ?_ _)); exact BK342.out⟩, ⟨Z1 GE342.out⟩⟩
       ·rw [if_neg c11] at H
        have c11b0 : (((rd_T137 l0 x16_1).f0) == 0) = false := beq_eq_false_iff_ne.mpr c11; have c11b1 : (((rd_T137 l0 x16_1).f0) != 0) = true := bne_iff_ne.mpr c11; (first | rw [c11b0] | (simp only [i64_w, i32_w]; rw [c11b0]) | skip); have H' := A_ H; clear H; have hcz13_0 : w9.cell? ⟨gb342, 0, none⟩ = some (.int .i64 0) := (blk_cell BK342.out 0).trans rfl; have hcz13_1 : w9.cell? ⟨gb342, 1, none⟩ = some (.int .i64 0) := (blk_cell BK342.out 1).trans rfl; have hcz13_2 : w9.cell? ⟨gb342, 2, none⟩ = some (.int .i64 0) := (blk_cell BK342.out 2).trans rfl; have hcz13_3 : w9.cell? ⟨gb342, 3, none⟩ = some (.int .i64 0) := (blk_cell BK342.out 3).trans rfl; have hcz13_4 : w9.cell? ⟨gb342, 4, none⟩ = some (.string (⟨#[]⟩ : ByteArray)) := (blk_cell BK342.out 4).trans rfl; have hfz13_0 := blk_frozen BK342.out 0; have hfz13_1 := blk_frozen BK342.out 1; have hfz13_2 := blk_frozen BK342.out 2; have hfz13_3 := blk_frozen BK342.out 3; have hfz13_4 := blk_frozen BK342.out 4
        go_wp2
        go_meet
        case rel => exact ⟨_, ((!(((rd_T137 l0 x16_1).f2.f0) == 0) || (!(((rd_T137 l0 x16_1).f2.f1) == 0) || (!((((rd_T137 l0 x16_1).f2.f2).toList) == ([] : List UInt8)))))), Z13, H', ⟨by have := HK1.out; first | omega | exact Nat.le_refl _⟩, ⟨by (with_reducible repeat (first | refine blk_drewN ?_ _ | refine blk_drew ?_ | refine blk_alloc ?_ _)); refine blk_put (cs := #[.int .i64 ((rd_T137 l0 x16_1).f0), .int .i64 ((rd_T137 l0 x16_1).f1), .int .i64 ((rd_T137 l0 x16_1).f2.f0), .int .i64 ((rd_T137 l0 x16_1).f2.f1), .string (⟨#[]⟩ : ByteArray)]) ?_ 4 _ rfl; (with_reducible repeat (first | refine blk_drewN ?_ _ | refine blk_drew ?_ | refine blk_alloc ?_ _)); refine blk_put (cs := #[.int .i64 ((rd_T137 l0 x16_1).f0), .int .i64 ((rd_T137 l0 x16_1).f1), .int .i64 ((rd_T137 l0 x16_1).f2.f0), .int .i64 0, .string (⟨#[]⟩ : ByteArray)]) ?_ 3 _ rfl; (with_reducible repeat (first | refine blk_drewN ?_ _ | refine blk_drew ?_ | refine blk_alloc ?_ _)); refine blk_put (cs := #[.int .i64 ((rd_T137 l0 x16_1).f0), .int .i64 ((rd_T137 l0 x16_1).f1), .int .i64 0, .int .i64 0, .string (⟨#[]⟩ : ByteArray)]) ?_ 2 _ rfl; (with_reducible repeat (first | refine blk_drewN ?_ _ | refine blk_drew ?_ | refine blk_alloc ?_ _)); refine blk_put (cs := #[.int .i64 ((rd_T137 l0 x16_1).f0), .int .i64 0, .int .i64 0, .int .i64 0, .string (⟨#[]⟩ : ByteArray)]) ?_ 1 _ rfl; (with_reducible repeat (first | refine blk_drewN ?_ _ | refine blk_drew ?_ | refine blk_alloc ?_ _)); refine blk_put (cs := #[.int .i64 0, .int .i64 0, .int .i64 0, .int .i64 0, .string (⟨#[]⟩ : ByteArray)]) ?_ 0 _ rfl; (with_reducible repeat (first | refine blk_drewN ?_ _ | refine blk_drew ?_ | refine blk_alloc ?_ _)); exact BK342.out⟩, ⟨Z1 GE342.out⟩⟩
      case rest =>
       clear HC8
       try clear c1
       try clear p2
       try clear p3
       try clear q3
       try clear hx3
       try clear c5
       try clear c5b0
       try clear c6
       try clear c6b0
       try clear c7
       try clear c7b0
       try clear c11
       try clear c11b0
       try clear c11b1
       try clear hcz10_0
       try clear hcz10_1
       try clear hcz10_2
       try clear hcz10_3
       try clear hcz10_4
       try clear hcz12_0
       try clear hcz12_1
       try clear hcz12_2
       try clear hcz12_3
       try clear hcz12_4
       try clear hcz13_0
       try clear hcz13_1
       try clear hcz13_2
       try clear hcz13_3
       try clear hcz13_4
       try clear hfz10_0
       try clear hfz10_1
       try clear hfz10_2
       try clear hfz10_3
       try clear hfz10_4
       try clear hfz12_0
       try clear hfz12_1
       try clear hfz12_2
       try clear hfz12_3
       try clear hfz12_4
       try clear hfz13_0
       try clear hfz13_1
       try clear hfz13_2
       try clear hfz13_3
       try clear hfz13_4
       try clear hx341_0
       try clear hx341_1
       try clear hx341_2
       try clear hx341_3
       try clear hx341_4
       try clear p2
       try clear p341
       try clear q341
       obtain ⟨kq, x28_7, rfl, HA, HJ7, BK342, HB⟩ := hcut
       cases kq with
       | zero => exact absurd HA.out (by simp [impl_formFits.j1])
       | succ kj7 =>
        have H := HA.out; clear HA; simp only [impl_formFits.j1] at H
        by_cases c14 : x28_7 = true
        ·subst c14
         have H1 : (some false) = some r := by rw [if_pos rfl] at H; exact H
         clear H; have H := H1; clear H1; obtain rfl := Option.some.inj H
         go_wp2
         go_ret
         exact ⟨Z6, Z1 GE342.out⟩
        ·replace c14 := Bool.eq_false_iff.mpr c14
         subst c14
         have H1 : (if ((rd_T137 l0 x16_1).f0) = 0 then (if ((rd_T137 l0 x16_1).f1) = 0 then ((impl_ValOk.f kj7 ((rd_T137 l0 x16_1).f2.f0) ((rd_T137 l0 x16_1).f2.f1) ((rd_T137 l0 x16_1).f2.f2)).bind fun t343 => (if t343 = true then (if x9_1 < 0 then (some false) else (impl_formFits.l0 kj7 l0 a1 a2 a3 (wrap64 (x9_1 + (1 - 0))) l0 (l0.length : Int) (wrap64 (x16_1 + 1)))) else (some false))) else (some false)) else (if ((rd_T137 l0 x16_1).f0) = 1 then ((impl_within.f ((rd_T137 l0 x16_1).f1) 0 (wrap64 (a1 - 1))).bind fun t344 => (if t344 = true then (if x9_1 < 0 then (some false) else (impl_formFits.l0 kj7 l0 a1 a2 a3 (wrap64 (x9_1 + (1 - 0))) l0 (l0.length : Int) (wrap64 (x16_1 + 1)))) else (some false))) else (if ((rd_T137 l0 x16_1).f0) = 2 then ((impl_within.f ((rd_T137 l0 x16_1).f1) 0 (wrap64 (a2 - 1))).bind fun t345 => (if t345 = true then (if x9_1 < 0 then (some false) else (impl_formFits.l0 kj7 l0 a1 a2 a3 (wrap64 (x9_1 + (1 - 0))) l0 (l0.length : Int) (wrap64 (x16_1 + 1)))) else (some false))) else (if ((rd_T137 l0 x16_1).f0) = 3 then ((impl_within.f ((rd_T137 l0 x16_1).f1) 0 (wrap64 (a3 - 1))).bind fun t346 => (if t346 = true then (if x9_1 < 0 then (some false) else (impl_formFits.l0 kj7 l0 a1 a2 a3 (wrap64 (x9_1 + (1 - 0))) l0 (l0.length : Int) (wrap64 (x16_1 + 1)))) else (some false))) else (if ((rd_T137 l0 x16_1).f0) = 4 then ((impl_within.f ((rd_T137 l0 x16_1).f1) 0 1).bind fun t347 => (if t347 = true then (if x9_1 < 0 then (some false) else (impl_formFits.l0 kj7 l0 a1 a2 a3 (wrap64 (x9_1 + (1 - 0))) l0 (l0.length : Int) (wrap64 (x16_1 + 1)))) else (some false))) else (if ((rd_T137 l0 x16_1).f0) = 5 then ((impl_within.f ((rd_T137 l0 x16_1).f1) 0 6).bind fun t348 => (if t348 = true then (if x9_1 < 2 then (some false) else (impl_formFits.l0 kj7 l0 a1 a2 a3 (wrap64 (x9_1 + (1 - 2))) l0 (l0.length : Int) (wrap64 (x16_1 + 1)))) else (some false))) else (if ((rd_T137 l0 x16_1).f0) = 6 then (if ((rd_T137 l0 x16_1).f1) = 0 then (if x9_1 < 3 then (some false) else (impl_formFits.l0 kj7 l0 a1 a2 a3 (wrap64 (x9_1 + (1 - 3))) l0 (l0.length : Int) (wrap64 (x16_1 + 1)))) else (some false)) else (some false)))))))) = some r := by rw [if_neg (show ¬ (false = true) by decide)] at H; exact H
         clear H; have H := H1; clear H1
         by_cases c15 : ((rd_T137 l0 x16_1).f0) = 0
         ·rw [if_pos c15] at H
          have c15b0 : (((rd_T137 l0 x16_1).f0) == 0) = true := beq_iff_eq.mpr c15; have c15b1 : (((rd_T137 l0 x16_1).f0) != 0) = false := bne_eq_false_iff_eq.mpr c15; clear c15
          by_cases c16 : ((rd_T137 l0 x16_1).f1) = 0
          ·rw [if_pos c16] at H
           have c16b0 : (((rd_T137 l0 x16_1).f1) == 0) = true := beq_iff_eq.mpr c16; have c16b1 : (((rd_T137 l0 x16_1).f1) != 0) = false := bne_eq_false_iff_eq.mpr c16; clear c16; replace H := Option.bind_eq_some_iff.mp H; obtain ⟨t343, A170, H⟩ := H; replace H : (if t343 = true then (if x9_1 < 0 then (some false) else (impl_formFits.l0 kj7 l0 a1 a2 a3 (wrap64 (x9_1 + (1 - 0))) l0 (l0.length : Int) (wrap64 (x16_1 + 1)))) else (some false)) = some r := H; have A17 := A_ A170; clear A170
           by_cases c18 : t343 = true
           ·subst c18
            have H1 : (if x9_1 < 0 then (some false) else (impl_formFits.l0 kj7 l0 a1 a2 a3 (wrap64 (x9_1 + (1 - 0))) l0 (l0.length : Int) (wrap64 (x16_1 + 1)))) = some r := by rw [if_pos rfl] at H; exact H
            clear H; have H := H1; clear H1
            by_cases c19 : x9_1 < 0
            ·rw [if_pos c19] at H
             have c19b0 : decide (x9_1 < 0) = true := decide_eq_true c19; clear c19; obtain rfl := Option.some.inj H; have hcz20_0 : wc.cell? ⟨gb342, 0, none⟩ = some (.int .i64 ((rd_T137 l0 x16_1).f0)) := (blk_cell BK342.out 0).trans rfl; have hcz20_1 : wc.cell? ⟨gb342, 1, none⟩ = some (.int .i64 ((rd_T137 l0 x16_1).f1)) := (blk_cell BK342.out 1).trans rfl; have hcz20_2 : wc.cell? ⟨gb342, 2, none⟩ = some (.int .i64 ((rd_T137 l0 x16_1).f2.f0)) := (blk_cell BK342.out 2).trans rfl; have hcz20_3 : wc.cell? ⟨gb342, 3, none⟩ = some (.int .i64 ((rd_T137 l0 x16_1).f2.f1)) := (blk_cell BK342.out 3).trans rfl; have hcz20_4 : wc.cell? ⟨gb342, 4, none⟩ = some (.string ((rd_T137 l0 x16_1).f2.f2)) := (blk_cell BK342.out 4).trans rfl; have hfz20_0 := blk_frozen BK342.out 0; have hfz20_1 := blk_frozen BK342.out 1; have hfz20_2 := blk_frozen BK342.out 2; have hfz20_3 := blk_frozen BK342.out 3; have hfz20_4 := blk_frozen BK342.out 4
             go_wp2_with (first | (go_at_call 94; (with_reducible refine (impl_ValOk.calls kj7 ((rd_T137 l0 x16_1).f2.f0) ((rd_T137 l0 x16_1).f2.f1) ((rd_T137 l0 x16_1).f2.f2) true _ A17.out).mono ?_); rintro e w21 ⟨rfl, hb⟩; have n0_ := A_ (blk_below (g := gb342) (o := .cells #[.int .i64 ((rd_T137 l0 x16_1).f0), .int .i64 ((rd_T137 l0 x16_1).f1), .int .i64 ((rd_T137 l0 x16_1).f2.f0), .int .i64 ((rd_T137 l0 x16_1).f2.f1), .string ((rd_T137 l0 x16_1).f2.f2)] 137 (0, 0)) (Z4 BK342.out) hb); have n1_ := A_ (below_step (Z1 GE342.out) hb); clear BK342; clear HB; have BK342 := n0_; have HB := n1_; clear n0_ n1_; (try clear hb)))
             go_ret
             exact ⟨Z6, Z1 GE342.out⟩
            ·rw [if_neg c19] at H
             have c19b0 : decide (x9_1 < 0) = false := decide_eq_false c19; clear c19; have H' := A_ H; clear H; have hcz22_0 : wc.cell? ⟨gb342, 0, none⟩ = some (.int .i64 ((rd_T137 l0 x16_1).f0)) := (blk_cell BK342.out 0).trans rfl; have hcz22_1 : wc.cell? ⟨gb342, 1, none⟩ = some (.int .i64 ((rd_T137 l0 x16_1).f1)) := (blk_cell BK342.out 1).trans rfl; have hcz22_2 : wc.cell? ⟨gb342, 2, none⟩ = some (.int .i64 ((rd_T137 l0 x16_1).f2.f0)) := (blk_cell BK342.out 2).trans rfl; have hcz22_3 : wc.cell? ⟨gb342, 3, none⟩ = some (.int .i64 ((rd_T137 l0 x16_1).f2.f1)) := (blk_cell BK342.out 3).trans rfl; have hcz22_4 : wc.cell? ⟨gb342, 4, none⟩ = some (.string ((rd_T137 l0 x16_1).f2.f2)) := (blk_cell BK342.out 4).trans rfl; have hfz22_0 := blk_frozen BK342.out 0; have hfz22_1 := blk_frozen BK342.out 1; have hfz22_2 := blk_frozen BK342.out 2; have hfz22_3 := blk_frozen BK342.out 3; have hfz22_4 := blk_frozen BK342.out 4
             go_wp2_with (first | (go_at_call 94; (with_reducible refine (impl_ValOk.calls kj7 ((rd_T137 l0 x16_1).f2.f0) ((rd_T137 l0 x16_1).f2.f1) ((rd_T137 l0 x16_1).f2.f2) true _ A17.out).mono ?_); rintro e w23 ⟨rfl, hb⟩; have n0_ := A_ (blk_below (g := gb342) (o := .cells #[.int .i64 ((rd_T137 l0 x16_1).f0), .int .i64 ((rd_T137 l0 x16_1).f1), .int .i64 ((rd_T137 l0 x16_1).f2.f0), .int .i64 ((rd_T137 l0 x16_1).f2.f1), .string ((rd_T137 l0 x16_1).f2.f2)] 137 (0, 0)) (Z4 BK342.out) hb); have n1_ := A_ (below_step (Z1 GE342.out) hb); clear BK342; clear HB; have BK342 := n0_; have HB := n1_; clear n0_ n1_; (try clear hb)))
             go_roundg kj7
             case measure => have := HK1.out; have := HJ7.out; omega
             case rel => exact ⟨(wrap64 (x9_1 + (1 - 0))), (wrap64 (x16_1 + 1)), Z13, Z13, H', ⟨by have := HK1.out; have := HJ7.out; omega⟩, ⟨Z1 GE342.out⟩⟩
           ·replace c18 := Bool.eq_false_iff.mpr c18
            subst c18
            have H1 : (some false) = some r := by rw [if_neg (show ¬ (false = true) by decide)] at H; exact H
            clear H; have H := H1; clear H1; obtain rfl := Option.some.inj H; have hcz24_0 : wc.cell? ⟨gb342, 0, none⟩ = some (.int .i64 ((rd_T137 l0 x16_1).f0)) := (blk_cell BK342.out 0).trans rfl; have hcz24_1 : wc.cell? ⟨gb342, 1, none⟩ = some (.int .i64 ((rd_T137 l0 x16_1).f1)) := (blk_cell BK342.out 1).trans rfl; have hcz24_2 : wc.cell? ⟨gb342, 2, none⟩ = some (.int .i64 ((rd_T137 l0 x16_1).f2.f0)) := (blk_cell BK342.out 2).trans rfl; have hcz24_3 : wc.cell? ⟨gb342, 3, none⟩ = some (.int .i64 ((rd_T137 l0 x16_1).f2.f1)) := (blk_cell BK342.out 3).trans rfl; have hcz24_4 : wc.cell? ⟨gb342, 4, none⟩ = some (.string ((rd_T137 l0 x16_1).f2.f2)) := (blk_cell BK342.out 4).trans rfl; have hfz24_0 := blk_frozen BK342.out 0; have hfz24_1 := blk_frozen BK342.out 1; have hfz24_2 := blk_frozen BK342.out 2; have hfz24_3 := blk_frozen BK342.out 3; have hfz24_4 := blk_frozen BK342.out 4
            go_wp2_with (first | (go_at_call 94; (with_reducible refine (impl_ValOk.calls kj7 ((rd_T137 l0 x16_1).f2.f0) ((rd_T137 l0 x16_1).f2.f1) ((rd_T137 l0 x16_1).f2.f2) false _ A17.out).mono ?_); rintro e w25 ⟨rfl, hb⟩; have n0_ := A_ (blk_below (g := gb342) (o := .cells #[.int .i64 ((rd_T137 l0 x16_1).f0), .int .i64 ((rd_T137 l0 x16_1).f1), .int .i64 ((rd_T137 l0 x16_1).f2.f0), .int .i64 ((rd_T137 l0 x16_1).f2.f1), .string ((rd_T137 l0 x16_1).f2.f2)] 137 (0, 0)) (Z4 BK342.out) hb); have n1_ := A_ (below_step (Z1 GE342.out) hb); clear BK342; clear HB; have BK342 := n0_; have HB := n1_; clear n0_ n1_; (try clear hb)))
            go_ret
            exact ⟨Z6, Z1 GE342.out⟩
          ·rw [if_neg c16] at H
           have c16b0 : (((rd_T137 l0 x16_1).f1) == 0) = false := beq_eq_false_iff_ne.mpr c16; have c16b1 : (((rd_T137 l0 x16_1).f1) != 0) = true := bne_iff_ne.mpr c16; obtain rfl := Option.some.inj H; have hcz26_0 : wc.cell? ⟨gb342, 0, none⟩ = some (.int .i64 ((rd_T137 l0 x16_1).f0)) := (blk_cell BK342.out 0).trans rfl; have hcz26_1 : wc.cell? ⟨gb342, 1, none⟩ = some (.int .i64 ((rd_T137 l0 x16_1).f1)) := (blk_cell BK342.out 1).trans rfl; have hcz26_2 : wc.cell? ⟨gb342, 2, none⟩ = some (.int .i64 ((rd_T137 l0 x16_1).f2.f0)) := (blk_cell BK342.out 2).trans rfl; have hcz26_3 : wc.cell? ⟨gb342, 3, none⟩ = some (.int .i64 ((rd_T137 l0 x16_1).f2.f1)) := (blk_cell BK342.out 3).trans rfl; have hcz26_4 : wc.cell? ⟨gb342, 4, none⟩ = some (.string ((rd_T137 l0 x16_1).f2.f2)) := (blk_cell BK342.out 4).trans rfl; have hfz26_0 := blk_frozen BK342.out 0; have hfz26_1 := blk_frozen BK342.out 1; have hfz26_2 := blk_frozen BK342.out 2; have hfz26_3 := blk_frozen BK342.out 3; have hfz26_4 := blk_frozen BK342.out 4
           go_wp2
           go_ret
           exact ⟨Z6, Z1 GE342.out⟩
         ·rw [if_neg c15] at H
          have c15b0 : (((rd_T137 l0 x16_1).f0) == 0) = false := beq_eq_false_iff_ne.mpr c15; have c15b1 : (((rd_T137 l0 x16_1).f0) != 0) = true := bne_iff_ne.mpr c15
          by_cases c27 : ((rd_T137 l0 x16_1).f0) = 1
          ·rw [if_pos c27] at H
           have c27b0 : (((rd_T137 l0 x16_1).f0) == 1) = true := beq_iff_eq.mpr c27; have c27b1 : (((rd_T137 l0 x16_1).f0) != 1) = false := bne_eq_false_iff_eq.mpr c27; clear c27; replace H := Option.bind_eq_some_iff.mp H; obtain ⟨t344, A280, H⟩ := H; replace H : (if t344 = true then (if x9_1 < 0 then (some false) else (impl_formFits.l0 kj7 l0 a1 a2 a3 (wrap64 (x9_1 + (1 - 0))) l0 (l0.length : Int) (wrap64 (x16_1 + 1)))) else (some false)) = some r := H; have A28 := A_ A280; clear A280
           by_cases c29 : t344 = true
           ·subst c29
            have H1 : (if x9_1 < 0 then (some false) else (impl_formFits.l0 kj7 l0 a1 a2 a3 (wrap64 (x9_1 + (1 - 0))) l0 (l0.length : Int) (wrap64 (x16_1 + 1)))) = some r := by rw [if_pos rfl] at H; exact H
            clear H; have H := H1; clear H1
            by_cases c30 : x9_1 < 0
            ·rw [if_pos c30] at H
             have c30b0 : decide (x9_1 < 0) = true := decide_eq_true c30; clear c30; obtain rfl := Option.some.inj H; have hcz31_0 : wc.cell? ⟨gb342, 0, none⟩ = some (.int .i64 ((rd_T137 l0 x16_1).f0)) := (blk_cell BK342.out 0).trans rfl; have hcz31_1 : wc.cell? ⟨gb342, 1, none⟩ = some (.int .i64 ((rd_T137 l0 x16_1).f1)) := (blk_cell BK342.out 1).trans rfl; have hcz31_2 : wc.cell? ⟨gb342, 2, none⟩ = some (.int .i64 ((rd_T137 l0 x16_1).f2.f0)) := (blk_cell BK342.out 2).trans rfl; have hcz31_3 : wc.cell? ⟨gb342, 3, none⟩ = some (.int .i64 ((rd_T137 l0 x16_1).f2.f1)) := (blk_cell BK342.out 3).trans rfl; have hcz31_4 : wc.cell? ⟨gb342, 4, none⟩ = some (.string ((rd_T137 l0 x16_1).f2.f2)) := (blk_cell BK342.out 4).trans rfl; have hfz31_0 := blk_frozen BK342.out 0; have hfz31_1 := blk_frozen BK342.out 1; have hfz31_2 := blk_frozen BK342.out 2; have hfz31_3 := blk_frozen BK342.out 3; have hfz31_4 := blk_frozen BK342.out 4
             go_wp2_with (first | ((with_reducible refine gate_callee (f := 52) rfl ?_); refine goesL_ (some 47) rfl rfl Try.func52 (by kernel_rfl) rfl #[.int .i64 ((rd_T137 l0 x16_1).f1), .int .i64 0, .int .i64 (wrap64 (a1 - 1))] rfl Z3 ?_; (with_reducible refine (impl_within.calls ((rd_T137 l0 x16_1).f1) 0 (wrap64 (a1 - 1)) true _ A28.out).mono ?_); rintro e w' ⟨rfl, ⟨nd, rfl⟩⟩; refine ⟨_, rfl, ?_⟩))
             go_ret
             exact ⟨Z6, Z1 GE342.out⟩
            ·rw [if_neg c30] at H
             have c30b0 : decide (x9_1 < 0) = false := decide_eq_false c30; clear c30; have H' := A_ H; clear H; have hcz32_0 : wc.cell? ⟨gb342, 0, none⟩ = some (.int .i64 ((rd_T137 l0 x16_1).f0)) := (blk_cell BK342.out 0).trans rfl; have hcz32_1 : wc.cell? ⟨gb342, 1, none⟩ = some (.int .i64 ((rd_T137 l0 x16_1).f1)) := (blk_cell BK342.out 1).trans rfl; have hcz32_2 : wc.cell? ⟨gb342, 2, none⟩ = some (.int .i64 ((rd_T137 l0 x16_1).f2.f0)) := (blk_cell BK342.out 2).trans rfl; have hcz32_3 : wc.cell? ⟨gb342, 3, none⟩ = some (.int .i64 ((rd_T137 l0 x16_1).f2.f1)) := (blk_cell BK342.out 3).trans rfl; have hcz32_4 : wc.cell? ⟨gb342, 4, none⟩ = some (.string ((rd_T137 l0 x16_1).f2.f2)) := (blk_cell BK342.out 4).trans rfl; have hfz32_0 := blk_frozen BK342.out 0; have hfz32_1 := blk_frozen BK342.out 1; have hfz32_2 := blk_frozen BK342.out 2; have hfz32_3 := blk_frozen BK342.out 3; have hfz32_4 := blk_frozen BK342.out 4
             go_wp2_with (first | ((with_reducible refine gate_callee (f := 52) rfl ?_); refine goesL_ (some 47) rfl rfl Try.func52 (by kernel_rfl) rfl #[.int .i64 ((rd_T137 l0 x16_1).f1), .int .i64 0, .int .i64 (wrap64 (a1 - 1))] rfl Z3 ?_; (with_reducible refine (impl_within.calls ((rd_T137 l0 x16_1).f1) 0 (wrap64 (a1 - 1)) true _ A28.out).mono ?_); rintro e w' ⟨rfl, ⟨nd, rfl⟩⟩; refine ⟨_, rfl, ?_⟩))
             go_roundg kj7
             case measure => have := HK1.out; have := HJ7.out; omega
             case rel => exact ⟨(wrap64 (x9_1 + (1 - 0))), (wrap64 (x16_1 + 1)), Z13, Z13, H', ⟨by have := HK1.out; have := HJ7.out; omega⟩, ⟨Z1 GE342.out⟩⟩
           ·replace c29 := Bool.eq_false_iff.mpr c29
            subst c29
            have H1 : (some false) = some r := by rw [if_neg (show ¬ (false = true) by decide)] at H; exact H
            clear H; have H := H1; clear H1; obtain rfl := Option.some.inj H; have hcz33_0 : wc.cell? ⟨gb342, 0, none⟩ = some (.int .i64 ((rd_T137 l0 x16_1).f0)) := (blk_cell BK342.out 0).trans rfl; have hcz33_1 : wc.cell? ⟨gb342, 1, none⟩ = some (.int .i64 ((rd_T137 l0 x16_1).f1)) := (blk_cell BK342.out 1).trans rfl; have hcz33_2 : wc.cell? ⟨gb342, 2, none⟩ = some (.int .i64 ((rd_T137 l0 x16_1).f2.f0)) := (blk_cell BK342.out 2).trans rfl; have hcz33_3 : wc.cell? ⟨gb342, 3, none⟩ = some (.int .i64 ((rd_T137 l0 x16_1).f2.f1)) := (blk_cell BK342.out 3).trans rfl; have hcz33_4 : wc.cell? ⟨gb342, 4, none⟩ = some (.string ((rd_T137 l0 x16_1).f2.f2)) := (blk_cell BK342.out 4).trans rfl; have hfz33_0 := blk_frozen BK342.out 0; have hfz33_1 := blk_frozen BK342.out 1; have hfz33_2 := blk_frozen BK342.out 2; have hfz33_3 := blk_frozen BK342.out 3; have hfz33_4 := blk_frozen BK342.out 4
            go_wp2_with (first | ((with_reducible refine gate_callee (f := 52) rfl ?_); refine goesL_ (some 47) rfl rfl Try.func52 (by kernel_rfl) rfl #[.int .i64 ((rd_T137 l0 x16_1).f1), .int .i64 0, .int .i64 (wrap64 (a1 - 1))] rfl Z3 ?_; (with_reducible refine (impl_within.calls ((rd_T137 l0 x16_1).f1) 0 (wrap64 (a1 - 1)) false _ A28.out).mono ?_); rintro e w' ⟨rfl, ⟨nd, rfl⟩⟩; refine ⟨_, rfl, ?_⟩))
            go_ret
            exact ⟨Z6, Z1 GE342.out⟩
          ·rw [if_neg c27] at H
           have c27b0 : (((rd_T137 l0 x16_1).f0) == 1) = false := beq_eq_false_iff_ne.mpr c27; have c27b1 : (((rd_T137 l0 x16_1).f0) != 1) = true := bne_iff_ne.mpr c27
           by_cases c34 : ((rd_T137 l0 x16_1).f0) = 2
           ·rw [if_pos c34] at H
            have c34b0 : (((rd_T137 l0 x16_1).f0) == 2) = true := beq_iff_eq.mpr c34; have c34b1 : (((rd_T137 l0 x16_1).f0) != 2) = false := bne_eq_false_iff_eq.mpr c34; clear c34; replace H := Option.bind_eq_some_iff.mp H; obtain ⟨t345, A350, H⟩ := H; replace H : (if t345 = true then (if x9_1 < 0 then (some false) else (impl_formFits.l0 kj7 l0 a1 a2 a3 (wrap64 (x9_1 + (1 - 0))) l0 (l0.length : Int) (wrap64 (x16_1 + 1)))) else (some false)) = some r := H; have A35 := A_ A350; clear A350
            by_cases c36 : t345 = true
            ·subst c36
             have H1 : (if x9_1 < 0 then (some false) else (impl_formFits.l0 kj7 l0 a1 a2 a3 (wrap64 (x9_1 + (1 - 0))) l0 (l0.length : Int) (wrap64 (x16_1 + 1)))) = some r := by rw [if_pos rfl] at H; exact H
             clear H; have H := H1; clear H1
             by_cases c37 : x9_1 < 0
             ·rw [if_pos c37] at H
              have c37b0 : decide (x9_1 < 0) = true := decide_eq_true c37; clear c37; obtain rfl := Option.some.inj H; have hcz38_0 : wc.cell? ⟨gb342, 0, none⟩ = some (.int .i64 ((rd_T137 l0 x16_1).f0)) := (blk_cell BK342.out 0).trans rfl; have hcz38_1 : wc.cell? ⟨gb342, 1, none⟩ = some (.int .i64 ((rd_T137 l0 x16_1).f1)) := (blk_cell BK342.out 1).trans rfl; have hcz38_2 : wc.cell? ⟨gb342, 2, none⟩ = some (.int .i64 ((rd_T137 l0 x16_1).f2.f0)) := (blk_cell BK342.out 2).trans rfl; have hcz38_3 : wc.cell? ⟨gb342, 3, none⟩ = some (.int .i64 ((rd_T137 l0 x16_1).f2.f1)) := (blk_cell BK342.out 3).trans rfl; have hcz38_4 : wc.cell? ⟨gb342, 4, none⟩ = some (.string ((rd_T137 l0 x16_1).f2.f2)) := (blk_cell BK342.out 4).trans rfl; have hfz38_0 := blk_frozen BK342.out 0; have hfz38_1 := blk_frozen BK342.out 1; have hfz38_2 := blk_frozen BK342.out 2; have hfz38_3 := blk_frozen BK342.out 3; have hfz38_4 := blk_frozen BK342.out 4
              go_wp2_with (first | ((with_reducible refine gate_callee (f := 52) rfl ?_); refine goesL_ (some 54) rfl rfl Try.func52 (by kernel_rfl) rfl #[.int .i64 ((rd_T137 l0 x16_1).f1), .int .i64 0, .int .i64 (wrap64 (a2 - 1))] rfl Z3 ?_; (with_reducible refine (impl_within.calls ((rd_T137 l0 x16_1).f1) 0 (wrap64 (a2 - 1)) true _ A35.out).mono ?_); rintro e w' ⟨rfl, ⟨nd, rfl⟩⟩; refine ⟨_, rfl, ?_⟩))
              go_ret
              exact ⟨Z6, Z1 GE342.out⟩
             ·rw [if_neg c37] at H
              have c37b0 : decide (x9_1 < 0) = false := decide_eq_false c37; clear c37; have H' := A_ H; clear H; have hcz39_0 : wc.cell? ⟨gb342, 0, none⟩ = some (.int .i64 ((rd_T137 l0 x16_1).f0)) := (blk_cell BK342.out 0).trans rfl; have hcz39_1 : wc.cell? ⟨gb342, 1, none⟩ = some (.int .i64 ((rd_T137 l0 x16_1).f1)) := (blk_cell BK342.out 1).trans rfl; have hcz39_2 : wc.cell? ⟨gb342, 2, none⟩ = some (.int .i64 ((rd_T137 l0 x16_1).f2.f0)) := (blk_cell BK342.out 2).trans rfl; have hcz39_3 : wc.cell? ⟨gb342, 3, none⟩ = some (.int .i64 ((rd_T137 l0 x16_1).f2.f1)) := (blk_cell BK342.out 3).trans rfl; have hcz39_4 : wc.cell? ⟨gb342, 4, none⟩ = some (.string ((rd_T137 l0 x16_1).f2.f2)) := (blk_cell BK342.out 4).trans rfl; have hfz39_0 := blk_frozen BK342.out 0; have hfz39_1 := blk_frozen BK342.out 1; have hfz39_2 := blk_frozen BK342.out 2; have hfz39_3 := blk_frozen BK342.out 3; have hfz39_4 := blk_frozen BK342.out 4
              go_wp2_with (first | ((with_reducible refine gate_callee (f := 52) rfl ?_); refine goesL_ (some 54) rfl rfl Try.func52 (by kernel_rfl) rfl #[.int .i64 ((rd_T137 l0 x16_1).f1), .int .i64 0, .int .i64 (wrap64 (a2 - 1))] rfl Z3 ?_; (with_reducible refine (impl_within.calls ((rd_T137 l0 x16_1).f1) 0 (wrap64 (a2 - 1)) true _ A35.out).mono ?_); rintro e w' ⟨rfl, ⟨nd, rfl⟩⟩; refine ⟨_, rfl, ?_⟩))
              go_roundg kj7
              case measure => have := HK1.out; have := HJ7.out; omega
              case rel => exact ⟨(wrap64 (x9_1 + (1 - 0))), (wrap64 (x16_1 + 1)), Z13, Z13, H', ⟨by have := HK1.out; have := HJ7.out; omega⟩, ⟨Z1 GE342.out⟩⟩
            ·replace c36 := Bool.eq_false_iff.mpr c36
             subst c36
             have H1 : (some false) = some r := by rw [if_neg (show ¬ (false = true) by decide)] at H; exact H
             clear H; have H := H1; clear H1; obtain rfl := Option.some.inj H; have hcz40_0 : wc.cell? ⟨gb342, 0, none⟩ = some (.int .i64 ((rd_T137 l0 x16_1).f0)) := (blk_cell BK342.out 0).trans rfl; have hcz40_1 : wc.cell? ⟨gb342, 1, none⟩ = some (.int .i64 ((rd_T137 l0 x16_1).f1)) := (blk_cell BK342.out 1).trans rfl; have hcz40_2 : wc.cell? ⟨gb342, 2, none⟩ = some (.int .i64 ((rd_T137 l0 x16_1).f2.f0)) := (blk_cell BK342.out 2).trans rfl; have hcz40_3 : wc.cell? ⟨gb342, 3, none⟩ = some (.int .i64 ((rd_T137 l0 x16_1).f2.f1)) := (blk_cell BK342.out 3).trans rfl; have hcz40_4 : wc.cell? ⟨gb342, 4, none⟩ = some (.string ((rd_T137 l0 x16_1).f2.f2)) := (blk_cell BK342.out 4).trans rfl; have hfz40_0 := blk_frozen BK342.out 0; have hfz40_1 := blk_frozen BK342.out 1; have hfz40_2 := blk_frozen BK342.out 2; have hfz40_3 := blk_frozen BK342.out 3; have hfz40_4 := blk_frozen BK342.out 4
             go_wp2_with (first | ((with_reducible refine gate_callee (f := 52) rfl ?_); refine goesL_ (some 54) rfl rfl Try.func52 (by kernel_rfl) rfl #[.int .i64 ((rd_T137 l0 x16_1).f1), .int .i64 0, .int .i64 (wrap64 (a2 - 1))] rfl Z3 ?_; (with_reducible refine (impl_within.calls ((rd_T137 l0 x16_1).f1) 0 (wrap64 (a2 - 1)) false _ A35.out).mono ?_); rintro e w' ⟨rfl, ⟨nd, rfl⟩⟩; refine ⟨_, rfl, ?_⟩))
             go_ret
             exact ⟨Z6, Z1 GE342.out⟩
           ·rw [if_neg c34] at H
            have c34b0 : (((rd_T137 l0 x16_1).f0) == 2) = false := beq_eq_false_iff_ne.mpr c34; have c34b1 : (((rd_T137 l0 x16_1).f0) != 2) = true := bne_iff_ne.mpr c34
            by_cases c41 : ((rd_T137 l0 x16_1).f0) = 3
            ·rw [if_pos c41] at H
             have c41b0 : (((rd_T137 l0 x16_1).f0) == 3) = true := beq_iff_eq.mpr c41; have c41b1 : (((rd_T137 l0 x16_1).f0) != 3) = false := bne_eq_false_iff_eq.mpr c41; clear c41; replace H := Option.bind_eq_some_iff.mp H; obtain ⟨t346, A420, H⟩ := H; replace H : (if t346 = true then (if x9_1 < 0 then (some false) else (impl_formFits.l0 kj7 l0 a1 a2 a3 (wrap64 (x9_1 + (1 - 0))) l0 (l0.length : Int) (wrap64 (x16_1 + 1)))) else (some false)) = some r := H; have A42 := A_ A420; clear A420
             by_cases c43 : t346 = true
             ·subst c43
              have H1 : (if x9_1 < 0 then (some false) else (impl_formFits.l0 kj7 l0 a1 a2 a3 (wrap64 (x9_1 + (1 - 0))) l0 (l0.length : Int) (wrap64 (x16_1 + 1)))) = some r := by rw [if_pos rfl] at H; exact H
              clear H; have H := H1; clear H1
              by_cases c44 : x9_1 < 0
              ·rw [if_pos c44] at H
               have c44b0 : decide (x9_1 < 0) = true := decide_eq_true c44; clear c44; obtain rfl := Option.some.inj H; have hcz45_0 : wc.cell? ⟨gb342, 0, none⟩ = some (.int .i64 ((rd_T137 l0 x16_1).f0)) := (blk_cell BK342.out 0).trans rfl; have hcz45_1 : wc.cell? ⟨gb342, 1, none⟩ = some (.int .i64 ((rd_T137 l0 x16_1).f1)) := (blk_cell BK342.out 1).trans rfl; have hcz45_2 : wc.cell? ⟨gb342, 2, none⟩ = some (.int .i64 ((rd_T137 l0 x16_1).f2.f0)) := (blk_cell BK342.out 2).trans rfl; have hcz45_3 : wc.cell? ⟨gb342, 3, none⟩ = some (.int .i64 ((rd_T137 l0 x16_1).f2.f1)) := (blk_cell BK342.out 3).trans rfl; have hcz45_4 : wc.cell? ⟨gb342, 4, none⟩ = some (.string ((rd_T137 l0 x16_1).f2.f2)) := (blk_cell BK342.out 4).trans rfl; have hfz45_0 := blk_frozen BK342.out 0; have hfz45_1 := blk_frozen BK342.out 1; have hfz45_2 := blk_frozen BK342.out 2; have hfz45_3 := blk_frozen BK342.out 3; have hfz45_4 := blk_frozen BK342.out 4
               go_wp2_with (first | ((with_reducible refine gate_callee (f := 52) rfl ?_); refine goesL_ (some 61) rfl rfl Try.func52 (by kernel_rfl) rfl #[.int .i64 ((rd_T137 l0 x16_1).f1), .int .i64 0, .int .i64 (wrap64 (a3 - 1))] rfl Z3 ?_; (with_reducible refine (impl_within.calls ((rd_T137 l0 x16_1).f1) 0 (wrap64 (a3 - 1)) true _ A42.out).mono ?_); rintro e w' ⟨rfl, ⟨nd, rfl⟩⟩; refine ⟨_, rfl, ?_⟩))
               go_ret
               exact ⟨Z6, Z1 GE342.out⟩
              ·rw [if_neg c44] at H
               have c44b0 : decide (x9_1 < 0) = false := decide_eq_false c44; clear c44; have H' := A_ H; clear H; have hcz46_0 : wc.cell? ⟨gb342, 0, none⟩ = some (.int .i64 ((rd_T137 l0 x16_1).f0)) := (blk_cell BK342.out 0).trans rfl; have hcz46_1 : wc.cell? ⟨gb342, 1, none⟩ = some (.int .i64 ((rd_T137 l0 x16_1).f1)) := (blk_cell BK342.out 1).trans rfl; have hcz46_2 : wc.cell? ⟨gb342, 2, none⟩ = some (.int .i64 ((rd_T137 l0 x16_1).f2.f0)) := (blk_cell BK342.out 2).trans rfl; have hcz46_3 : wc.cell? ⟨gb342, 3, none⟩ = some (.int .i64 ((rd_T137 l0 x16_1).f2.f1)) := (blk_cell BK342.out 3).trans rfl; have hcz46_4 : wc.cell? ⟨gb342, 4, none⟩ = some (.string ((rd_T137 l0 x16_1).f2.f2)) := (blk_cell BK342.out 4).trans rfl; have hfz46_0 := blk_frozen BK342.out 0; have hfz46_1 := blk_frozen BK342.out 1; have hfz46_2 := blk_frozen BK342.out 2; have hfz46_3 := blk_frozen BK342.out 3; have hfz46_4 := blk_frozen BK342.out 4
               go_wp2_with (first | ((with_reducible refine gate_callee (f := 52) rfl ?_); refine goesL_ (some 61) rfl rfl Try.func52 (by kernel_rfl) rfl #[.int .i64 ((rd_T137 l0 x16_1).f1), .int .i64 0, .int .i64 (wrap64 (a3 - 1))] rfl Z3 ?_; (with_reducible refine (impl_within.calls ((rd_T137 l0 x16_1).f1) 0 (wrap64 (a3 - 1)) true _ A42.out).mono ?_); rintro e w' ⟨rfl, ⟨nd, rfl⟩⟩; refine ⟨_, rfl, ?_⟩))
               go_roundg kj7
               case measure => have := HK1.out; have := HJ7.out; omega
               case rel => exact ⟨(wrap64 (x9_1 + (1 - 0))), (wrap64 (x16_1 + 1)), Z13, Z13, H', ⟨by have := HK1.out; have := HJ7.out; omega⟩, ⟨Z1 GE342.out⟩⟩
             ·replace c43 := Bool.eq_false_iff.mpr c43
              subst c43
              have H1 : (some false) = some r := by rw [if_neg (show ¬ (false = true) by decide)] at H; exact H
              clear H; have H := H1; clear H1; obtain rfl := Option.some.inj H; have hcz47_0 : wc.cell? ⟨gb342, 0, none⟩ = some (.int .i64 ((rd_T137 l0 x16_1).f0)) := (blk_cell BK342.out 0).trans rfl; have hcz47_1 : wc.cell? ⟨gb342, 1, none⟩ = some (.int .i64 ((rd_T137 l0 x16_1).f1)) := (blk_cell BK342.out 1).trans rfl; have hcz47_2 : wc.cell? ⟨gb342, 2, none⟩ = some (.int .i64 ((rd_T137 l0 x16_1).f2.f0)) := (blk_cell BK342.out 2).trans rfl; have hcz47_3 : wc.cell? ⟨gb342, 3, none⟩ = some (.int .i64 ((rd_T137 l0 x16_1).f2.f1)) := (blk_cell BK342.out 3).trans rfl; have hcz47_4 : wc.cell? ⟨gb342, 4, none⟩ = some (.string ((rd_T137 l0 x16_1).f2.f2)) := (blk_cell BK342.out 4).trans rfl; have hfz47_0 := blk_frozen BK342.out 0; have hfz47_1 := blk_frozen BK342.out 1; have hfz47_2 := blk_frozen BK342.out 2; have hfz47_3 := blk_frozen BK342.out 3; have hfz47_4 := blk_frozen BK342.out 4
              go_wp2_with (first | ((with_reducible refine gate_callee (f := 52) rfl ?_); refine goesL_ (some 61) rfl rfl Try.func52 (by kernel_rfl) rfl #[.int .i64 ((rd_T137 l0 x16_1).f1), .int .i64 0, .int .i64 (wrap64 (a3 - 1))] rfl Z3 ?_; (with_reducible refine (impl_within.calls ((rd_T137 l0 x16_1).f1) 0 (wrap64 (a3 - 1)) false _ A42.out).mono ?_); rintro e w' ⟨rfl, ⟨nd, rfl⟩⟩; refine ⟨_, rfl, ?_⟩))
              go_ret
              exact ⟨Z6, Z1 GE342.out⟩
            ·rw [if_neg c41] at H
             have c41b0 : (((rd_T137 l0 x16_1).f0) == 3) = false := beq_eq_false_iff_ne.mpr c41; have c41b1 : (((rd_T137 l0 x16_1).f0) != 3) = true := bne_iff_ne.mpr c41
             by_cases c48 : ((rd_T137 l0 x16_1).f0) = 4
             ·rw [if_pos c48] at H
              have c48b0 : (((rd_T137 l0 x16_1).f0) == 4) = true := beq_iff_eq.mpr c48; have c48b1 : (((rd_T137 l0 x16_1).f0) != 4) = false := bne_eq_false_iff_eq.mpr c48; clear c48; replace H := Option.bind_eq_some_iff.mp H; obtain ⟨t347, A490, H⟩ := H; replace H : (if t347 = true then (if x9_1 < 0 then (some false) else (impl_formFits.l0 kj7 l0 a1 a2 a3 (wrap64 (x9_1 + (1 - 0))) l0 (l0.length : Int) (wrap64 (x16_1 + 1)))) else (some false)) = some r := H; have A49 := A_ A490; clear A490
              by_cases c50 : t347 = true
              ·subst c50
               have H1 : (if x9_1 < 0 then (some false) else (impl_formFits.l0 kj7 l0 a1 a2 a3 (wrap64 (x9_1 + (1 - 0))) l0 (l0.length : Int) (wrap64 (x16_1 + 1)))) = some r := by rw [if_pos rfl] at H; exact H
               clear H; have H := H1; clear H1
               by_cases c51 : x9_1 < 0
               ·rw [if_pos c51] at H
                have c51b0 : decide (x9_1 < 0) = true := decide_eq_true c51; clear c51; obtain rfl := Option.some.inj H; have hcz52_0 : wc.cell? ⟨gb342, 0, none⟩ = some (.int .i64 ((rd_T137 l0 x16_1).f0)) := (blk_cell BK342.out 0).trans rfl; have hcz52_1 : wc.cell? ⟨gb342, 1, none⟩ = some (.int .i64 ((rd_T137 l0 x16_1).f1)) := (blk_cell BK342.out 1).trans rfl; have hcz52_2 : wc.cell? ⟨gb342, 2, none⟩ = some (.int .i64 ((rd_T137 l0 x16_1).f2.f0)) := (blk_cell BK342.out 2).trans rfl; have hcz52_3 : wc.cell? ⟨gb342, 3, none⟩ = some (.int .i64 ((rd_T137 l0 x16_1).f2.f1)) := (blk_cell BK342.out 3).trans rfl; have hcz52_4 : wc.cell? ⟨gb342, 4, none⟩ = some (.string ((rd_T137 l0 x16_1).f2.f2)) := (blk_cell BK342.out 4).trans rfl; have hfz52_0 := blk_frozen BK342.out 0; have hfz52_1 := blk_frozen BK342.out 1; have hfz52_2 := blk_frozen BK342.out 2; have hfz52_3 := blk_frozen BK342.out 3; have hfz52_4 := blk_frozen BK342.out 4
                go_wp2_with (first | ((with_reducible refine gate_callee (f := 52) rfl ?_); refine goesL_ (some 66) rfl rfl Try.func52 (by kernel_rfl) rfl #[.int .i64 ((rd_T137 l0 x16_1).f1), .int .i64 0, .int .i64 1] rfl Z3 ?_; (with_reducible refine (impl_within.calls ((rd_T137 l0 x16_1).f1) 0 1 true _ A49.out).mono ?_); rintro e w' ⟨rfl, ⟨nd, rfl⟩⟩; refine ⟨_, rfl, ?_⟩))
                go_ret
                exact ⟨Z6, Z1 GE342.out⟩
               ·rw [if_neg c51] at H
                have c51b0 : decide (x9_1 < 0) = false := decide_eq_false c51; clear c51; have H' := A_ H; clear H; have hcz53_0 : wc.cell? ⟨gb342, 0, none⟩ = some (.int .i64 ((rd_T137 l0 x16_1).f0)) := (blk_cell BK342.out 0).trans rfl; have hcz53_1 : wc.cell? ⟨gb342, 1, none⟩ = some (.int .i64 ((rd_T137 l0 x16_1).f1)) := (blk_cell BK342.out 1).trans rfl; have hcz53_2 : wc.cell? ⟨gb342, 2, none⟩ = some (.int .i64 ((rd_T137 l0 x16_1).f2.f0)) := (blk_cell BK342.out 2).trans rfl; have hcz53_3 : wc.cell? ⟨gb342, 3, none⟩ = some (.int .i64 ((rd_T137 l0 x16_1).f2.f1)) := (blk_cell BK342.out 3).trans rfl; have hcz53_4 : wc.cell? ⟨gb342, 4, none⟩ = some (.string ((rd_T137 l0 x16_1).f2.f2)) := (blk_cell BK342.out 4).trans rfl; have hfz53_0 := blk_frozen BK342.out 0; have hfz53_1 := blk_frozen BK342.out 1; have hfz53_2 := blk_frozen BK342.out 2; have hfz53_3 := blk_frozen BK342.out 3; have hfz53_4 := blk_frozen BK342.out 4
                go_wp2_with (first | ((with_reducible refine gate_callee (f := 52) rfl ?_); refine goesL_ (some 66) rfl rfl Try.func52 (by kernel_rfl) rfl #[.int .i64 ((rd_T137 l0 x16_1).f1), .int .i64 0, .int .i64 1] rfl Z3 ?_; (with_reducible refine (impl_within.calls ((rd_T137 l0 x16_1).f1) 0 1 true _ A49.out).mono ?_); rintro e w' ⟨rfl, ⟨nd, rfl⟩⟩; refine ⟨_, rfl, ?_⟩))
                go_roundg kj7
                case measure => have := HK1.out; have := HJ7.out; omega
                case rel => exact ⟨(wrap64 (x9_1 + (1 - 0))), (wrap64 (x16_1 + 1)), Z13, Z13, H', ⟨by have := HK1.out; have := HJ7.out; omega⟩, ⟨Z1 GE342.out⟩⟩
              ·replace c50 := Bool.eq_false_iff.mpr c50
               subst c50
               have H1 : (some false) = some r := by rw [if_neg (show ¬ (false = true) by decide)] at H; exact H
               clear H; have H := H1; clear H1; obtain rfl := Option.some.inj H; have hcz54_0 : wc.cell? ⟨gb342, 0, none⟩ = some (.int .i64 ((rd_T137 l0 x16_1).f0)) := (blk_cell BK342.out 0).trans rfl; have hcz54_1 : wc.cell? ⟨gb342, 1, none⟩ = some (.int .i64 ((rd_T137 l0 x16_1).f1)) := (blk_cell BK342.out 1).trans rfl; have hcz54_2 : wc.cell? ⟨gb342, 2, none⟩ = some (.int .i64 ((rd_T137 l0 x16_1).f2.f0)) := (blk_cell BK342.out 2).trans rfl; have hcz54_3 : wc.cell? ⟨gb342, 3, none⟩ = some (.int .i64 ((rd_T137 l0 x16_1).f2.f1)) := (blk_cell BK342.out 3).trans rfl; have hcz54_4 : wc.cell? ⟨gb342, 4, none⟩ = some (.string ((rd_T137 l0 x16_1).f2.f2)) := (blk_cell BK342.out 4).trans rfl; have hfz54_0 := blk_frozen BK342.out 0; have hfz54_1 := blk_frozen BK342.out 1; have hfz54_2 := blk_frozen BK342.out 2; have hfz54_3 := blk_frozen BK342.out 3; have hfz54_4 := blk_frozen BK342.out 4
               go_wp2_with (first | ((with_reducible refine gate_callee (f := 52) rfl ?_); refine goesL_ (some 66) rfl rfl Try.func52 (by kernel_rfl) rfl #[.int .i64 ((rd_T137 l0 x16_1).f1), .int .i64 0, .int .i64 1] rfl Z3 ?_; (with_reducible refine (impl_within.calls ((rd_T137 l0 x16_1).f1) 0 1 false _ A49.out).mono ?_); rintro e w' ⟨rfl, ⟨nd, rfl⟩⟩; refine ⟨_, rfl, ?_⟩))
               go_ret
               exact ⟨Z6, Z1 GE342.out⟩
             ·rw [if_neg c48] at H
              have c48b0 : (((rd_T137 l0 x16_1).f0) == 4) = false := beq_eq_false_iff_ne.mpr c48; have c48b1 : (((rd_T137 l0 x16_1).f0) != 4) = true := bne_iff_ne.mpr c48
              by_cases c55 : ((rd_T137 l0 x16_1).f0) = 5
              ·rw [if_pos c55] at H
               have c55b0 : (((rd_T137 l0 x16_1).f0) == 5) = true := beq_iff_eq.mpr c55; have c55b1 : (((rd_T137 l0 x16_1).f0) != 5) = false := bne_eq_false_iff_eq.mpr c55; clear c55; replace H := Option.bind_eq_some_iff.mp H; obtain ⟨t348, A560, H⟩ := H; replace H : (if t348 = true then (if x9_1 < 2 then (some false) else (impl_formFits.l0 kj7 l0 a1 a2 a3 (wrap64 (x9_1 + (1 - 2))) l0 (l0.length : Int) (wrap64 (x16_1 + 1)))) else (some false)) = some r := H; have A56 := A_ A560; clear A560
               by_cases c57 : t348 = true
               ·subst c57
                have H1 : (if x9_1 < 2 then (some false) else (impl_formFits.l0 kj7 l0 a1 a2 a3 (wrap64 (x9_1 + (1 - 2))) l0 (l0.length : Int) (wrap64 (x16_1 + 1)))) = some r := by rw [if_pos rfl] at H; exact H
                clear H; have H := H1; clear H1
                by_cases c58 : x9_1 < 2
                ·rw [if_pos c58] at H
                 have c58b0 : decide (x9_1 < 2) = true := decide_eq_true c58; clear c58; obtain rfl := Option.some.inj H; have hcz59_0 : wc.cell? ⟨gb342, 0, none⟩ = some (.int .i64 ((rd_T137 l0 x16_1).f0)) := (blk_cell BK342.out 0).trans rfl; have hcz59_1 : wc.cell? ⟨gb342, 1, none⟩ = some (.int .i64 ((rd_T137 l0 x16_1).f1)) := (blk_cell BK342.out 1).trans rfl; have hcz59_2 : wc.cell? ⟨gb342, 2, none⟩ = some (.int .i64 ((rd_T137 l0 x16_1).f2.f0)) := (blk_cell BK342.out 2).trans rfl; have hcz59_3 : wc.cell? ⟨gb342, 3, none⟩ = some (.int .i64 ((rd_T137 l0 x16_1).f2.f1)) := (blk_cell BK342.out 3).trans rfl; have hcz59_4 : wc.cell? ⟨gb342, 4, none⟩ = some (.string ((rd_T137 l0 x16_1).f2.f2)) := (blk_cell BK342.out 4).trans rfl; have hfz59_0 := blk_frozen BK342.out 0; have hfz59_1 := blk_frozen BK342.out 1; have hfz59_2 := blk_frozen BK342.out 2; have hfz59_3 := blk_frozen BK342.out 3; have hfz59_4 := blk_frozen BK342.out 4
                 go_wp2_with (first | ((with_reducible refine gate_callee (f := 52) rfl ?_); refine goesL_ (some 71) rfl rfl Try.func52 (by kernel_rfl) rfl #[.int .i64 ((rd_T137 l0 x16_1).f1), .int .i64 0, .int .i64 6] rfl Z3 ?_; (with_reducible refine (impl_within.calls ((rd_T137 l0 x16_1).f1) 0 6 true _ A56.out).mono ?_); rintro e w' ⟨rfl, ⟨nd, rfl⟩⟩; refine ⟨_, rfl, ?_⟩))
                 go_ret
                 exact ⟨Z6, Z1 GE342.out⟩
                ·rw [if_neg c58] at H
                 have c58b0 : decide (x9_1 < 2) = false := decide_eq_false c58; clear c58; have H' := A_ H; clear H; have hcz60_0 : wc.cell? ⟨gb342, 0, none⟩ = some (.int .i64 ((rd_T137 l0 x16_1).f0)) := (blk_cell BK342.out 0).trans rfl; have hcz60_1 : wc.cell? ⟨gb342, 1, none⟩ = some (.int .i64 ((rd_T137 l0 x16_1).f1)) := (blk_cell BK342.out 1).trans rfl; have hcz60_2 : wc.cell? ⟨gb342, 2, none⟩ = some (.int .i64 ((rd_T137 l0 x16_1).f2.f0)) := (blk_cell BK342.out 2).trans rfl; have hcz60_3 : wc.cell? ⟨gb342, 3, none⟩ = some (.int .i64 ((rd_T137 l0 x16_1).f2.f1)) := (blk_cell BK342.out 3).trans rfl; have hcz60_4 : wc.cell? ⟨gb342, 4, none⟩ = some (.string ((rd_T137 l0 x16_1).f2.f2)) := (blk_cell BK342.out 4).trans rfl; have hfz60_0 := blk_frozen BK342.out 0; have hfz60_1 := blk_frozen BK342.out 1; have hfz60_2 := blk_frozen BK342.out 2; have hfz60_3 := blk_frozen BK342.out 3; have hfz60_4 := blk_frozen BK342.out 4
                 go_wp2_with (first | ((with_reducible refine gate_callee (f := 52) rfl ?_); refine goesL_ (some 71) rfl rfl Try.func52 (by kernel_rfl) rfl #[.int .i64 ((rd_T137 l0 x16_1).f1), .int .i64 0, .int .i64 6] rfl Z3 ?_; (with_reducible refine (impl_within.calls ((rd_T137 l0 x16_1).f1) 0 6 true _ A56.out).mono ?_); rintro e w' ⟨rfl, ⟨nd, rfl⟩⟩; refine ⟨_, rfl, ?_⟩))
                 go_roundg kj7
                 case measure => have := HK1.out; have := HJ7.out; omega
                 case rel => exact ⟨(wrap64 (x9_1 + (1 - 2))), (wrap64 (x16_1 + 1)), Z13, Z13, H', ⟨by have := HK1.out; have := HJ7.out; omega⟩, ⟨Z1 GE342.out⟩⟩
               ·replace c57 := Bool.eq_false_iff.mpr c57
                subst c57
                have H1 : (some false) = some r := by rw [if_neg (show ¬ (false = true) by decide)] at H; exact H
                clear H; have H := H1; clear H1; obtain rfl := Option.some.inj H; have hcz61_0 : wc.cell? ⟨gb342, 0, none⟩ = some (.int .i64 ((rd_T137 l0 x16_1).f0)) := (blk_cell BK342.out 0).trans rfl; have hcz61_1 : wc.cell? ⟨gb342, 1, none⟩ = some (.int .i64 ((rd_T137 l0 x16_1).f1)) := (blk_cell BK342.out 1).trans rfl; have hcz61_2 : wc.cell? ⟨gb342, 2, none⟩ = some (.int .i64 ((rd_T137 l0 x16_1).f2.f0)) := (blk_cell BK342.out 2).trans rfl; have hcz61_3 : wc.cell? ⟨gb342, 3, none⟩ = some (.int .i64 ((rd_T137 l0 x16_1).f2.f1)) := (blk_cell BK342.out 3).trans rfl; have hcz61_4 : wc.cell? ⟨gb342, 4, none⟩ = some (.string ((rd_T137 l0 x16_1).f2.f2)) := (blk_cell BK342.out 4).trans rfl; have hfz61_0 := blk_frozen BK342.out 0; have hfz61_1 := blk_frozen BK342.out 1; have hfz61_2 := blk_frozen BK342.out 2; have hfz61_3 := blk_frozen BK342.out 3; have hfz61_4 := blk_frozen BK342.out 4
                go_wp2_with (first | ((with_reducible refine gate_callee (f := 52) rfl ?_); refine goesL_ (some 71) rfl rfl Try.func52 (by kernel_rfl) rfl #[.int .i64 ((rd_T137 l0 x16_1).f1), .int .i64 0, .int .i64 6] rfl Z3 ?_; (with_reducible refine (impl_within.calls ((rd_T137 l0 x16_1).f1) 0 6 false _ A56.out).mono ?_); rintro e w' ⟨rfl, ⟨nd, rfl⟩⟩; refine ⟨_, rfl, ?_⟩))
                go_ret
                exact ⟨Z6, Z1 GE342.out⟩
              ·rw [if_neg c55] at H
               have c55b0 : (((rd_T137 l0 x16_1).f0) == 5) = false := beq_eq_false_iff_ne.mpr c55; have c55b1 : (((rd_T137 l0 x16_1).f0) != 5) = true := bne_iff_ne.mpr c55
               by_cases c62 : ((rd_T137 l0 x16_1).f0) = 6
               ·rw [if_pos c62] at H
                have c62b0 : (((rd_T137 l0 x16_1).f0) == 6) = true := beq_iff_eq.mpr c62; have c62b1 : (((rd_T137 l0 x16_1).f0) != 6) = false := bne_eq_false_iff_eq.mpr c62; clear c62
                by_cases c63 : ((rd_T137 l0 x16_1).f1) = 0
                ·rw [if_pos c63] at H
                 have c63b0 : (((rd_T137 l0 x16_1).f1) == 0) = true := beq_iff_eq.mpr c63; have c63b1 : (((rd_T137 l0 x16_1).f1) != 0) = false := bne_eq_false_iff_eq.mpr c63; clear c63
                 by_cases c64 : x9_1 < 3
                 ·rw [if_pos c64] at H
                  have c64b0 : decide (x9_1 < 3) = true := decide_eq_true c64; clear c64; obtain rfl := Option.some.inj H; have hcz65_0 : wc.cell? ⟨gb342, 0, none⟩ = some (.int .i64 ((rd_T137 l0 x16_1).f0)) := (blk_cell BK342.out 0).trans rfl; have hcz65_1 : wc.cell? ⟨gb342, 1, none⟩ = some (.int .i64 ((rd_T137 l0 x16_1).f1)) := (blk_cell BK342.out 1).trans rfl; have hcz65_2 : wc.cell? ⟨gb342, 2, none⟩ = some (.int .i64 ((rd_T137 l0 x16_1).f2.f0)) := (blk_cell BK342.out 2).trans rfl; have hcz65_3 : wc.cell? ⟨gb342, 3, none⟩ = some (.int .i64 ((rd_T137 l0 x16_1).f2.f1)) := (blk_cell BK342.out 3).trans rfl; have hcz65_4 : wc.cell? ⟨gb342, 4, none⟩ = some (.string ((rd_T137 l0 x16_1).f2.f2)) := (blk_cell BK342.out 4).trans rfl; have hfz65_0 := blk_frozen BK342.out 0; have hfz65_1 := blk_frozen BK342.out 1; have hfz65_2 := blk_frozen BK342.out 2; have hfz65_3 := blk_frozen BK342.out 3; have hfz65_4 := blk_frozen BK342.out 4
                  go_wp2
                  go_ret
                  exact ⟨Z6, Z1 GE342.out⟩
                 ·rw [if_neg c64] at H
                  have c64b0 : decide (x9_1 < 3) = false := decide_eq_false c64; clear c64; have H' := A_ H; clear H; have hcz66_0 : wc.cell? ⟨gb342, 0, none⟩ = some (.int .i64 ((rd_T137 l0 x16_1).f0)) := (blk_cell BK342.out 0).trans rfl; have hcz66_1 : wc.cell? ⟨gb342, 1, none⟩ = some (.int .i64 ((rd_T137 l0 x16_1).f1)) := (blk_cell BK342.out 1).trans rfl; have hcz66_2 : wc.cell? ⟨gb342, 2, none⟩ = some (.int .i64 ((rd_T137 l0 x16_1).f2.f0)) := (blk_cell BK342.out 2).trans rfl; have hcz66_3 : wc.cell? ⟨gb342, 3, none⟩ = some (.int .i64 ((rd_T137 l0 x16_1).f2.f1)) := (blk_cell BK342.out 3).trans rfl; have hcz66_4 : wc.cell? ⟨gb342, 4, none⟩ = some (.string ((rd_T137 l0 x16_1).f2.f2)) := (blk_cell BK342.out 4).trans rfl; have hfz66_0 := blk_frozen BK342.out 0; have hfz66_1 := blk_frozen BK342.out 1; have hfz66_2 := blk_frozen BK342.out 2; have hfz66_3 := blk_frozen BK342.out 3; have hfz66_4 := blk_frozen BK342.out 4
                  go_wp2
                  go_roundg kj7
                  case measure => have := HK1.out; have := HJ7.out; omega
                  case rel => exact ⟨(wrap64 (x9_1 + (1 - 3))), (wrap64 (x16_1 + 1)), Z13, Z13, H', ⟨by have := HK1.out; have := HJ7.out; omega⟩, ⟨Z1 GE342.out⟩⟩
                ·rw [if_neg c63] at H
                 have c63b0 : (((rd_T137 l0 x16_1).f1) == 0) = false := beq_eq_false_iff_ne.mpr c63; have c63b1 : (((rd_T137 l0 x16_1).f1) != 0) = true := bne_iff_ne.mpr c63; obtain rfl := Option.some.inj H; have hcz67_0 : wc.cell? ⟨gb342, 0, none⟩ = some (.int .i64 ((rd_T137 l0 x16_1).f0)) := (blk_cell BK342.out 0).trans rfl; have hcz67_1 : wc.cell? ⟨gb342, 1, none⟩ = some (.int .i64 ((rd_T137 l0 x16_1).f1)) := (blk_cell BK342.out 1).trans rfl; have hcz67_2 : wc.cell? ⟨gb342, 2, none⟩ = some (.int .i64 ((rd_T137 l0 x16_1).f2.f0)) := (blk_cell BK342.out 2).trans rfl; have hcz67_3 : wc.cell? ⟨gb342, 3, none⟩ = some (.int .i64 ((rd_T137 l0 x16_1).f2.f1)) := (blk_cell BK342.out 3).trans rfl; have hcz67_4 : wc.cell? ⟨gb342, 4, none⟩ = some (.string ((rd_T137 l0 x16_1).f2.f2)) := (blk_cell BK342.out 4).trans rfl; have hfz67_0 := blk_frozen BK342.out 0; have hfz67_1 := blk_frozen BK342.out 1; have hfz67_2 := blk_frozen BK342.out 2; have hfz67_3 := blk_frozen BK342.out 3; have hfz67_4 := blk_frozen BK342.out 4
                 go_wp2
                 go_ret
                 exact ⟨Z6, Z1 GE342.out⟩
               ·rw [if_neg c62] at H
                have c62b0 : (((rd_T137 l0 x16_1).f0) == 6) = false := beq_eq_false_iff_ne.mpr c62; have c62b1 : (((rd_T137 l0 x16_1).f0) != 6) = true := bne_iff_ne.mpr c62; obtain rfl := Option.some.inj H; have hcz68_0 : wc.cell? ⟨gb342, 0, none⟩ = some (.int .i64 ((rd_T137 l0 x16_1).f0)) := (blk_cell BK342.out 0).trans rfl; have hcz68_1 : wc.cell? ⟨gb342, 1, none⟩ = some (.int .i64 ((rd_T137 l0 x16_1).f1)) := (blk_cell BK342.out 1).trans rfl; have hcz68_2 : wc.cell? ⟨gb342, 2, none⟩ = some (.int .i64 ((rd_T137 l0 x16_1).f2.f0)) := (blk_cell BK342.out 2).trans rfl; have hcz68_3 : wc.cell? ⟨gb342, 3, none⟩ = some (.int .i64 ((rd_T137 l0 x16_1).f2.f1)) := (blk_cell BK342.out 3).trans rfl; have hcz68_4 : wc.cell? ⟨gb342, 4, none⟩ = some (.string ((rd_T137 l0 x16_1).f2.f2)) := (blk_cell BK342.out 4).trans rfl; have hfz68_0 := blk_frozen BK342.out 0; have hfz68_1 := blk_frozen BK342.out 1; have hfz68_2 := blk_frozen BK342.out 2; have hfz68_3 := blk_frozen BK342.out 3; have hfz68_4 := blk_frozen BK342.out 4
                go_wp2
                go_ret
                exact ⟨Z6, Z1 GE342.out⟩
     ·rw [if_neg c7] at H
      exact absurd H (by simp)
    ·rw [if_neg c6] at H
     exact absurd H (by simp)
   ·rw [if_neg c5] at H
    have c5b0 : decide (x16_1 < (l0.length : Int)) = false := decide_eq_false c5; clear c5
    by_cases c69 : x9_1 = 1
    ·rw [if_pos c69] at H
     have c69b0 : (x9_1 == 1) = true := beq_iff_eq.mpr c69; have c69b1 : (x9_1 != 1) = false := bne_eq_false_iff_eq.mpr c69; clear c69; obtain rfl := Option.some.inj H
     go_wp2
     go_ret
     exact ⟨Z6, Z0⟩
    ·rw [if_neg c69] at H
     have c69b0 : (x9_1 == 1) = false := beq_eq_false_iff_ne.mpr c69; have c69b1 : (x9_1 != 1) = true := bne_iff_ne.mpr c69; obtain rfl := Option.some.inj H
     go_wp2
     go_ret
     exact ⟨Z6, Z0⟩
end Go.Proofs.Ytpadhphdglbciaa.PFnExactTurnsJoin
