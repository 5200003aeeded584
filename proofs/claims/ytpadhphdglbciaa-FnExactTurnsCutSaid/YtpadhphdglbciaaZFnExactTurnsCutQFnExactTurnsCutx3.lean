/- Walks of the functions that the law 'FnExactTurnsCut' reaches, part 3: for each a Lean function and the proof that Go's comes to just its answer (lines of the print, under own names; no condition). -/
import Derived.Test.YtpadhphdglbciaaZFnExactTurnsCutQFnExactTurnsCutx0
import Derived.Test.YtpadhphdglbciaaZFnExactTurnsCutQFnExactTurnsCutx1
import Derived.Test.YtpadhphdglbciaaZFnExactTurnsCutQFnExactTurnsCutx2
namespace Go.Proofs.Ytpadhphdglbciaa.PFnExactTurnsCut
open Go.RowKit Go.Proofs.YtpadhphdglbciaaW.PrintWords Go.Proofs.YtpadhphdglbciaaW.PrintLast Go.Proofs.YtpadhphdglbciaaW.PrintMore
attribute [local go_sem] max2_int min2_int max_two min_two max_three min_three max_four min_four
set_option linter.unusedVariables false
set_option linter.unusedSimpArgs false
attribute [local go_sem high] eqA99
def spec_validWord.l0 : Nat → ByteArray → Int → Option (Bool)
 | 0, _, _ => none
 | k + 1, x0, x3 => if x3 < (x0.size : Int) then (if 0 ≤ x3 then ((spec_plainByte.f (bt x0 x3)).bind fun t118 => (if t118 = true then (spec_validWord.l0 k x0 (wrap64 (x3 + 1))) else (some false))) else (none)) else (some true)
def spec_validWord.f (k : Nat) (a0 : ByteArray) : Option (Bool) := if (a0.size : Int) > 12 then (some false) else (spec_validWord.l0 k a0 0)
theorem spec_validWord.mono_l : ∀ k, (∀ y0 y1, LeO (spec_validWord.l0 k y0 y1) (spec_validWord.l0 (k + 1) y0 y1))
 | 0 => fun _ _ r h => by simp [spec_validWord.l0] at h
 | k + 1 => by
  have ih0 := spec_validWord.mono_l k
  ·intro y0 y1
   unfold spec_validWord.l0
   repeat' first
   | (with_reducible exact ih0 _ _)
   | (with_reducible exact LeO.refl _)
   | (with_reducible exact LeO.none _)
   | (with_reducible refine LeO.ite ?_ ?_)
   | (with_reducible refine LeO.bind ?_ (fun _ => ?_))
   | exact ih0 _ _
   | exact LeO.none _
   | refine LeO.ite ?_ ?_
   | refine LeO.bind ?_ (fun _ => ?_)
theorem spec_validWord.mono : ∀ a0 k, LeO (spec_validWord.f k a0) (spec_validWord.f (k + 1) a0) := by
 intro a0 k
 have ih0 := spec_validWord.mono_l k
 unfold spec_validWord.f
 repeat' first
   | (with_reducible exact ih0 _ _)
   | (with_reducible exact LeO.refl _)
   | (with_reducible exact LeO.none _)
   | (with_reducible refine LeO.ite ?_ ?_)
   | (with_reducible refine LeO.bind ?_ (fun _ => ?_))
   | exact ih0 _ _
   | exact LeO.none _
   | refine LeO.ite ?_ ?_
   | refine LeO.bind ?_ (fun _ => ?_)
set_option maxHeartbeats 8000000 in
set_option maxRecDepth 100000 in
theorem spec_validWord.calls (k : Nat) (a0 : ByteArray) (r : Bool) (w : World) (h : spec_validWord.f k a0 = some r) :
  Calls Try.prog 102 #[.string a0] w fun e w' => e = .returned (.bool r) ∧ Drawn0 w w' := by
 have H : (if (a0.size : Int) > 12 then (some false) else (spec_validWord.l0 k a0 0)) = some r := h
 clear h
 by_cases c2 : (a0.size : Int) > 12
 ·rw [if_pos c2] at H
  have c2b0 : decide (12 < (a0.size : Int)) = true := decide_eq_true c2
  have c2b1 : decide (12 < a0.size) = true := decide_eq_true (by omega)
  clear c2
  obtain rfl := Option.some.inj H
  go_enter Try.func102, Try.ntmps102
  go_wp2
  go_ret
  exact ⟨Z12, Z37⟩
 ·rw [if_neg c2] at H
  have c2b0 : decide (12 < (a0.size : Int)) = false := decide_eq_false c2
  have c2b1 : decide (12 < a0.size) = false := decide_eq_false (by omega)
  clear c2
  have H' := A_ H
  clear H
  go_enter Try.func102, Try.ntmps102
  go_wp2
  go_loopg [3] k (fun kq v3 w' => ∃ (x3_1 : Int), v3 = .int .i64 x3_1 ∧ Aside0 (spec_validWord.l0 kq a0 x3_1 = some r) ∧ Aside0 (kq ≤ k) ∧ Drawn0 w w')
  case atStart => exact ⟨(0), Z12, H', ⟨Nat.le_refl _⟩, Z37⟩
  case round =>
   clear H'
   try clear c1
   try clear c2
   try clear c2b0
   try clear c2b1
   try clear p2
   obtain ⟨x3_1, rfl, HA, HK1, ⟨m1, rfl⟩⟩ := hrel
   cases gk with
   | zero => exact absurd HA.out (by simp [spec_validWord.l0])
   | succ k1 =>
    have H := HA.out
    clear HA
    simp only [spec_validWord.l0] at H
    by_cases c3 : x3_1 < (a0.size : Int)
    ·rw [if_pos c3] at H
     have c3b0 : decide (x3_1 < (a0.size : Int)) = true := decide_eq_true c3
     clear c3
     by_cases c4 : 0 ≤ x3_1
     ·rw [if_pos c4] at H
      have c4b0 : decide (0 ≤ x3_1) = true := decide_eq_true c4
      clear c4
      replace H := Option.bind_eq_some_iff.mp H
      obtain ⟨t118, A60, H⟩ := H
      replace H : (if t118 = true then (spec_validWord.l0 k1 a0 (wrap64 (x3_1 + 1))) else (some false)) = some r := H
      have A6 := A_ A60
      clear A60
      by_cases c7 : t118 = true
      ·subst c7
       have H1 : (spec_validWord.l0 k1 a0 (wrap64 (x3_1 + 1))) = some r := by rw [if_pos rfl] at H; exact H
       clear H
       have H := H1
       clear H1
       have H' := A_ H
       clear H
       have p5 : 0 ≤ (x3_1 : Int) := of_decide_eq_true Z7
       have q5 : x3_1 < (a0.size : Int) := of_decide_eq_true Z7
       have hx5 := bt_at a0 x3_1
       replace p5 := eq_true p5
       replace q5 := eq_true q5
       go_wp2_with (first | ((with_reducible refine gate_callee (f := 110) rfl ?_); refine goesL_ (some 16) rfl rfl Try.func110 (by kernel_rfl) rfl #[.int .u8 (bt a0 x3_1)] rfl Z3 ?_; (with_reducible refine (spec_plainByte.calls (bt a0 x3_1) true _ A6.out).mono ?_); rintro e w' ⟨rfl, ⟨nd, rfl⟩⟩; refine ⟨_, rfl, ?_⟩))
       go_roundg k1
       case measure => have := HK1.out; omega
       case rel => exact ⟨(wrap64 (x3_1 + 1)), Z12, H', ⟨by have := HK1.out; omega⟩, Z37⟩
      ·replace c7 := Bool.eq_false_iff.mpr c7
       subst c7
       have H1 : (some false) = some r := by rw [if_neg (show ¬ (false = true) by decide)] at H; exact H
       clear H
       have H := H1
       clear H1
       obtain rfl := Option.some.inj H
       have p5 : 0 ≤ (x3_1 : Int) := of_decide_eq_true Z7
       have q5 : x3_1 < (a0.size : Int) := of_decide_eq_true Z7
       have hx5 := bt_at a0 x3_1
       replace p5 := eq_true p5
       replace q5 := eq_true q5
       go_wp2_with (first | ((with_reducible refine gate_callee (f := 110) rfl ?_); refine goesL_ (some 16) rfl rfl Try.func110 (by kernel_rfl) rfl #[.int .u8 (bt a0 x3_1)] rfl Z3 ?_; (with_reducible refine (spec_plainByte.calls (bt a0 x3_1) false _ A6.out).mono ?_); rintro e w' ⟨rfl, ⟨nd, rfl⟩⟩; refine ⟨_, rfl, ?_⟩))
       go_ret
       exact ⟨Z12, Z37⟩
     ·rw [if_neg c4] at H
      exact absurd H (by simp)
    ·rw [if_neg c3] at H
     have c3b0 : decide (x3_1 < (a0.size : Int)) = false := decide_eq_false c3
     clear c3
     obtain rfl := Option.some.inj H
     go_wp2
     go_ret
     exact ⟨Z12, Z37⟩
def spec_validValue.f (k : Nat) (a0_0 : Int) (a0_1 : Int) (a0_2 : ByteArray) : Option (Bool) := if a0_0 = 0 then (if a0_1 = 0 then (some (a0_2.toList == ([] : List UInt8))) else (some false)) else (if a0_0 = 1 then ((spec_inRange.f a0_1 (-1000) 1000).bind fun t120 => (if t120 = true then (some (a0_2.toList == ([] : List UInt8))) else (some false))) else (if a0_0 = 2 then (if a0_1 = 0 then ((spec_validWord.f k a0_2).bind fun t121 => (some t121)) else (some false)) else (some false)))
theorem spec_validValue.mono : ∀ a0 a1 a2 k, LeO (spec_validValue.f k a0 a1 a2) (spec_validValue.f (k + 1) a0 a1 a2) := by
 intro a0 a1 a2 k
 unfold spec_validValue.f
 repeat' first
   | (with_reducible exact spec_validWord.mono _ _)
   | (with_reducible exact LeO.refl _)
   | (with_reducible exact LeO.none _)
   | (with_reducible refine LeO.ite ?_ ?_)
   | (with_reducible refine LeO.bind ?_ (fun _ => ?_))
   | exact spec_validWord.mono _ _
   | exact LeO.none _
   | refine LeO.ite ?_ ?_
   | refine LeO.bind ?_ (fun _ => ?_)
set_option maxHeartbeats 8000000 in
set_option maxRecDepth 100000 in
theorem spec_validValue.calls (k : Nat) (a0_0 : Int) (a0_1 : Int) (a0_2 : ByteArray) (r : Bool) (w : World) (h : spec_validValue.f k a0_0 a0_1 a0_2 = some r) :
  Calls Try.prog 92 #[.agg #[.int .i64 a0_0, .int .i64 a0_1, .string a0_2]] w fun e w' => e = .returned (.bool r) ∧ Below w.heap.size w w' := by
 have hu99 := Try.underlying99
 have HB := A_ (Below.refl w.heap.size w)
 have H : (if a0_0 = 0 then (if a0_1 = 0 then (some (a0_2.toList == ([] : List UInt8))) else (some false)) else (if a0_0 = 1 then ((spec_inRange.f a0_1 (-1000) 1000).bind fun t120 => (if t120 = true then (some (a0_2.toList == ([] : List UInt8))) else (some false))) else (if a0_0 = 2 then (if a0_1 = 0 then ((spec_validWord.f k a0_2).bind fun t121 => (some t121)) else (some false)) else (some false)))) = some r := h
 clear h
 by_cases c2 : a0_0 = 0
 ·rw [if_pos c2] at H
  have c2b0 : (a0_0 == 0) = true := beq_iff_eq.mpr c2
  have c2b1 : (a0_0 != 0) = false := bne_eq_false_iff_eq.mpr c2
  clear c2
  by_cases c3 : a0_1 = 0
  ·rw [if_pos c3] at H
   have c3b0 : (a0_1 == 0) = true := beq_iff_eq.mpr c3
   have c3b1 : (a0_1 != 0) = false := bne_eq_false_iff_eq.mpr c3
   clear c3
   obtain rfl := Option.some.inj H
   go_enter Try.func92, Try.ntmps92
   go_wp2_with (first | ((with_reducible refine gate_dst (N := 1) rfl ?_); refine box_event ?hg (N := 1) ?hd (cs := #[.int .i64 a0_0, .int .i64 a0_1, .string a0_2]) (t := 99) ?hr ?_; (case hd => rfl); (case hg => rfl); (case hr => exact Z11); intro gb119 hg w4 hbox hb; have n0_ := A_ (below_step Z0 hb); have n1_ := A_ (hbox); have n2_ := A_ ((by rw [hg]; exact (below_size Z0) : w.heap.size ≤ gb119)); have n3_ := A_ ((by rw [hg]; exact (below_size Z0) : w.heap.size ≤ gb119)); clear HB; have HB := n0_; have BK119 := n1_; have GW119 := n2_; have GE119 := n3_; clear n0_ n1_ n2_ n3_; clear hb hbox hg; have hcz5_0 : w4.cell? ⟨gb119, 0, none⟩ = some (.int .i64 a0_0) := (blk_cell BK119.out 0).trans rfl; have hcz5_1 : w4.cell? ⟨gb119, 1, none⟩ = some (.int .i64 a0_1) := (blk_cell BK119.out 1).trans rfl; have hcz5_2 : w4.cell? ⟨gb119, 2, none⟩ = some (.string a0_2) := (blk_cell BK119.out 2).trans rfl; have hfz5_0 := blk_frozen BK119.out 0; have hfz5_1 := blk_frozen BK119.out 1; have hfz5_2 := blk_frozen BK119.out 2))
   go_ret
   exact ⟨Z4, Z1 GE119.out⟩
  ·rw [if_neg c3] at H
   have c3b0 : (a0_1 == 0) = false := beq_eq_false_iff_ne.mpr c3
   have c3b1 : (a0_1 != 0) = true := bne_iff_ne.mpr c3
   obtain rfl := Option.some.inj H
   go_enter Try.func92, Try.ntmps92
   go_wp2_with (first | ((with_reducible refine gate_dst (N := 1) rfl ?_); refine box_event ?hg (N := 1) ?hd (cs := #[.int .i64 a0_0, .int .i64 a0_1, .string a0_2]) (t := 99) ?hr ?_; (case hd => rfl); (case hg => rfl); (case hr => exact Z11); intro gb119 hg w6 hbox hb; have n0_ := A_ (below_step Z0 hb); have n1_ := A_ (hbox); have n2_ := A_ ((by rw [hg]; exact (below_size Z0) : w.heap.size ≤ gb119)); have n3_ := A_ ((by rw [hg]; exact (below_size Z0) : w.heap.size ≤ gb119)); clear HB; have HB := n0_; have BK119 := n1_; have GW119 := n2_; have GE119 := n3_; clear n0_ n1_ n2_ n3_; clear hb hbox hg; have hcz7_0 : w6.cell? ⟨gb119, 0, none⟩ = some (.int .i64 a0_0) := (blk_cell BK119.out 0).trans rfl; have hcz7_1 : w6.cell? ⟨gb119, 1, none⟩ = some (.int .i64 a0_1) := (blk_cell BK119.out 1).trans rfl; have hcz7_2 : w6.cell? ⟨gb119, 2, none⟩ = some (.string a0_2) := (blk_cell BK119.out 2).trans rfl; have hfz7_0 := blk_frozen BK119.out 0; have hfz7_1 := blk_frozen BK119.out 1; have hfz7_2 := blk_frozen BK119.out 2))
   go_ret
   exact ⟨Z4, Z1 GE119.out⟩
 ·rw [if_neg c2] at H
  have c2b0 : (a0_0 == 0) = false := beq_eq_false_iff_ne.mpr c2
  have c2b1 : (a0_0 != 0) = true := bne_iff_ne.mpr c2
  by_cases c8 : a0_0 = 1
  ·rw [if_pos c8] at H
   have c8b0 : (a0_0 == 1) = true := beq_iff_eq.mpr c8
   have c8b1 : (a0_0 != 1) = false := bne_eq_false_iff_eq.mpr c8
   clear c8
   replace H := Option.bind_eq_some_iff.mp H
   obtain ⟨t120, A90, H⟩ := H
   replace H : (if t120 = true then (some (a0_2.toList == ([] : List UInt8))) else (some false)) = some r := H
   have A9 := A_ A90
   clear A90
   by_cases c10 : t120 = true
   ·subst c10
    have H1 : (some (a0_2.toList == ([] : List UInt8))) = some r := by rw [if_pos rfl] at H; exact H
    clear H
    have H := H1
    clear H1
    obtain rfl := Option.some.inj H
    go_enter Try.func92, Try.ntmps92
    go_wp2_with (first | ((with_reducible refine gate_dst (N := 1) rfl ?_); refine box_event ?hg (N := 1) ?hd (cs := #[.int .i64 a0_0, .int .i64 a0_1, .string a0_2]) (t := 99) ?hr ?_; (case hd => rfl); (case hg => rfl); (case hr => exact Z11); intro gb119 hg w11 hbox hb; have n0_ := A_ (below_step Z0 hb); have n1_ := A_ (hbox); have n2_ := A_ ((by rw [hg]; exact (below_size Z0) : w.heap.size ≤ gb119)); have n3_ := A_ ((by rw [hg]; exact (below_size Z0) : w.heap.size ≤ gb119)); clear HB; have HB := n0_; have BK119 := n1_; have GW119 := n2_; have GE119 := n3_; clear n0_ n1_ n2_ n3_; clear hb hbox hg; have hcz12_0 : w11.cell? ⟨gb119, 0, none⟩ = some (.int .i64 a0_0) := (blk_cell BK119.out 0).trans rfl; have hcz12_1 : w11.cell? ⟨gb119, 1, none⟩ = some (.int .i64 a0_1) := (blk_cell BK119.out 1).trans rfl; have hcz12_2 : w11.cell? ⟨gb119, 2, none⟩ = some (.string a0_2) := (blk_cell BK119.out 2).trans rfl; have hfz12_0 := blk_frozen BK119.out 0; have hfz12_1 := blk_frozen BK119.out 1; have hfz12_2 := blk_frozen BK119.out 2) | ((with_reducible refine gate_callee (f := 50) rfl ?_); refine goesL_ (some 19) rfl rfl Try.func50 (by kernel_rfl) rfl #[.int .i64 a0_1, .int .i64 (-1000), .int .i64 1000] rfl Z3 ?_; (with_reducible refine (spec_inRange.calls a0_1 (-1000) 1000 true _ A9.out).mono ?_); rintro e w' ⟨rfl, ⟨nd, rfl⟩⟩; refine ⟨_, rfl, ?_⟩))
    go_ret
    exact ⟨Z4, Z1 GE119.out⟩
   ·replace c10 := Bool.eq_false_iff.mpr c10
    subst c10
    have H1 : (some false) = some r := by rw [if_neg (show ¬ (false = true) by decide)] at H; exact H
    clear H
    have H := H1
    clear H1
    obtain rfl := Option.some.inj H
    go_enter Try.func92, Try.ntmps92
    go_wp2_with (first | ((with_reducible refine gate_dst (N := 1) rfl ?_); refine box_event ?hg (N := 1) ?hd (cs := #[.int .i64 a0_0, .int .i64 a0_1, .string a0_2]) (t := 99) ?hr ?_; (case hd => rfl); (case hg => rfl); (case hr => exact Z11); intro gb119 hg w13 hbox hb; have n0_ := A_ (below_step Z0 hb); have n1_ := A_ (hbox); have n2_ := A_ ((by rw [hg]; exact (below_size Z0) : w.heap.size ≤ gb119)); have n3_ := A_ ((by rw [hg]; exact (below_size Z0) : w.heap.size ≤ gb119)); clear HB; have HB := n0_; have BK119 := n1_; have GW119 := n2_; have GE119 := n3_; clear n0_ n1_ n2_ n3_; clear hb hbox hg; have hcz14_0 : w13.cell? ⟨gb119, 0, none⟩ = some (.int .i64 a0_0) := (blk_cell BK119.out 0).trans rfl; have hcz14_1 : w13.cell? ⟨gb119, 1, none⟩ = some (.int .i64 a0_1) := (blk_cell BK119.out 1).trans rfl; have hcz14_2 : w13.cell? ⟨gb119, 2, none⟩ = some (.string a0_2) := (blk_cell BK119.out 2).trans rfl; have hfz14_0 := blk_frozen BK119.out 0; have hfz14_1 := blk_frozen BK119.out 1; have hfz14_2 := blk_frozen BK119.out 2) | ((with_reducible refine gate_callee (f := 50) rfl ?_); refine goesL_ (some 19) rfl rfl Try.func50 (by kernel_rfl) rfl #[.int .i64 a0_1, .int .i64 (-1000), .int .i64 1000] rfl Z3 ?_; (with_reducible refine (spec_inRange.calls a0_1 (-1000) 1000 false _ A9.out).mono ?_); rintro e w' ⟨rfl, ⟨nd, rfl⟩⟩; refine ⟨_, rfl, ?_⟩))
    go_ret
    exact ⟨Z4, Z1 GE119.out⟩
  ·rw [if_neg c8] at H
   have c8b0 : (a0_0 == 1) = false := beq_eq_false_iff_ne.mpr c8
   have c8b1 : (a0_0 != 1) = true := bne_iff_ne.mpr c8
   by_cases c15 : a0_0 = 2
   ·rw [if_pos c15] at H
    have c15b0 : (a0_0 == 2) = true := beq_iff_eq.mpr c15
    have c15b1 : (a0_0 != 2) = false := bne_eq_false_iff_eq.mpr c15
    clear c15
    by_cases c16 : a0_1 = 0
    ·rw [if_pos c16] at H
     have c16b0 : (a0_1 == 0) = true := beq_iff_eq.mpr c16
     have c16b1 : (a0_1 != 0) = false := bne_eq_false_iff_eq.mpr c16
     clear c16
     replace H := Option.bind_eq_some_iff.mp H
     obtain ⟨t121, A170, H⟩ := H
     replace H : (some t121) = some r := H
     have A17 := A_ A170
     clear A170
     obtain rfl := Option.some.inj H
     go_enter Try.func92, Try.ntmps92
     go_wp2_with (first | ((with_reducible refine gate_dst (N := 1) rfl ?_); refine box_event ?hg (N := 1) ?hd (cs := #[.int .i64 a0_0, .int .i64 a0_1, .string a0_2]) (t := 99) ?hr ?_; (case hd => rfl); (case hg => rfl); (case hr => exact Z11); intro gb119 hg w18 hbox hb; have n0_ := A_ (below_step Z0 hb); have n1_ := A_ (hbox); have n2_ := A_ ((by rw [hg]; exact (below_size Z0) : w.heap.size ≤ gb119)); have n3_ := A_ ((by rw [hg]; exact (below_size Z0) : w.heap.size ≤ gb119)); clear HB; have HB := n0_; have BK119 := n1_; have GW119 := n2_; have GE119 := n3_; clear n0_ n1_ n2_ n3_; clear hb hbox hg; have hcz19_0 : w18.cell? ⟨gb119, 0, none⟩ = some (.int .i64 a0_0) := (blk_cell BK119.out 0).trans rfl; have hcz19_1 : w18.cell? ⟨gb119, 1, none⟩ = some (.int .i64 a0_1) := (blk_cell BK119.out 1).trans rfl; have hcz19_2 : w18.cell? ⟨gb119, 2, none⟩ = some (.string a0_2) := (blk_cell BK119.out 2).trans rfl; have hfz19_0 := blk_frozen BK119.out 0; have hfz19_1 := blk_frozen BK119.out 1; have hfz19_2 := blk_frozen BK119.out 2) | (go_at_call 102; (with_reducible refine (spec_validWord.calls k a0_2 t121 _ A17.out).mono ?_); rintro e w' ⟨rfl, ⟨nd, rfl⟩⟩))
     go_ret
     exact ⟨Z4, Z1 GE119.out⟩
    ·rw [if_neg c16] at H
     have c16b0 : (a0_1 == 0) = false := beq_eq_false_iff_ne.mpr c16
     have c16b1 : (a0_1 != 0) = true := bne_iff_ne.mpr c16
     obtain rfl := Option.some.inj H
     go_enter Try.func92, Try.ntmps92
     go_wp2_with (first | ((with_reducible refine gate_dst (N := 1) rfl ?_); refine box_event ?hg (N := 1) ?hd (cs := #[.int .i64 a0_0, .int .i64 a0_1, .string a0_2]) (t := 99) ?hr ?_; (case hd => rfl); (case hg => rfl); (case hr => exact Z11); intro gb119 hg w20 hbox hb; have n0_ := A_ (below_step Z0 hb); have n1_ := A_ (hbox); have n2_ := A_ ((by rw [hg]; exact (below_size Z0) : w.heap.size ≤ gb119)); have n3_ := A_ ((by rw [hg]; exact (below_size Z0) : w.heap.size ≤ gb119)); clear HB; have HB := n0_; have BK119 := n1_; have GW119 := n2_; have GE119 := n3_; clear n0_ n1_ n2_ n3_; clear hb hbox hg; have hcz21_0 : w20.cell? ⟨gb119, 0, none⟩ = some (.int .i64 a0_0) := (blk_cell BK119.out 0).trans rfl; have hcz21_1 : w20.cell? ⟨gb119, 1, none⟩ = some (.int .i64 a0_1) := (blk_cell BK119.out 1).trans rfl; have hcz21_2 : w20.cell? ⟨gb119, 2, none⟩ = some (.string a0_2) := (blk_cell BK119.out 2).trans rfl; have hfz21_0 := blk_frozen BK119.out 0; have hfz21_1 := blk_frozen BK119.out 1; have hfz21_2 := blk_frozen BK119.out 2))
     go_ret
     exact ⟨Z4, Z1 GE119.out⟩
   ·rw [if_neg c15] at H
    have c15b0 : (a0_0 == 2) = false := beq_eq_false_iff_ne.mpr c15
    have c15b1 : (a0_0 != 2) = true := bne_iff_ne.mpr c15
    obtain rfl := Option.some.inj H
    go_enter Try.func92, Try.ntmps92
    go_wp2_with (first | ((with_reducible refine gate_dst (N := 1) rfl ?_); refine box_event ?hg (N := 1) ?hd (cs := #[.int .i64 a0_0, .int .i64 a0_1, .string a0_2]) (t := 99) ?hr ?_; (case hd => rfl); (case hg => rfl); (case hr => exact Z11); intro gb119 hg w22 hbox hb; have n0_ := A_ (below_step Z0 hb); have n1_ := A_ (hbox); have n2_ := A_ ((by rw [hg]; exact (below_size Z0) : w.heap.size ≤ gb119)); have n3_ := A_ ((by rw [hg]; exact (below_size Z0) : w.heap.size ≤ gb119)); clear HB; have HB := n0_; have BK119 := n1_; have GW119 := n2_; have GE119 := n3_; clear n0_ n1_ n2_ n3_; clear hb hbox hg; have hcz23_0 : w22.cell? ⟨gb119, 0, none⟩ = some (.int .i64 a0_0) := (blk_cell BK119.out 0).trans rfl; have hcz23_1 : w22.cell? ⟨gb119, 1, none⟩ = some (.int .i64 a0_1) := (blk_cell BK119.out 1).trans rfl; have hcz23_2 : w22.cell? ⟨gb119, 2, none⟩ = some (.string a0_2) := (blk_cell BK119.out 2).trans rfl; have hfz23_0 := blk_frozen BK119.out 0; have hfz23_1 := blk_frozen BK119.out 1; have hfz23_2 := blk_frozen BK119.out 2))
    go_ret
    exact ⟨Z4, Z1 GE119.out⟩
def spec_validStep.f (k : Nat) (a0_0 : Int) (a0_1 : Int) (a0_2 : Int) (a0_3 : Int) (a0_4 : ByteArray) (a1 : Int) (a2 : Int) (a3 : Int) : Option (Bool) := if a0_0 = 0 then (if a0_1 = 0 then ((spec_validValue.f k a0_2 a0_3 a0_4).bind fun t123 => (some t123)) else (some false)) else (if a0_0 = 1 then ((spec_inRange.f a0_1 0 (wrap64 (a1 - 1))).bind fun t124 => (if t124 = true then (some (a0_2 == 0 && (a0_3 == 0 && (a0_4.toList == ([] : List UInt8))))) else (some false))) else (if a0_0 = 2 then ((spec_inRange.f a0_1 0 (wrap64 (a2 - 1))).bind fun t125 => (if t125 = true then (some (a0_2 == 0 && (a0_3 == 0 && (a0_4.toList == ([] : List UInt8))))) else (some false))) else (if a0_0 = 3 then ((spec_inRange.f a0_1 0 (wrap64 (a3 - 1))).bind fun t126 => (if t126 = true then (some (a0_2 == 0 && (a0_3 == 0 && (a0_4.toList == ([] : List UInt8))))) else (some false))) else (if a0_0 = 4 then ((spec_inRange.f a0_1 0 1).bind fun t127 => (if t127 = true then (some (a0_2 == 0 && (a0_3 == 0 && (a0_4.toList == ([] : List UInt8))))) else (some false))) else (if a0_0 = 5 then ((spec_inRange.f a0_1 0 6).bind fun t128 => (if t128 = true then (some (a0_2 == 0 && (a0_3 == 0 && (a0_4.toList == ([] : List UInt8))))) else (some false))) else (if a0_0 = 6 then (if a0_1 = 0 then (some (a0_2 == 0 && (a0_3 == 0 && (a0_4.toList == ([] : List UInt8))))) else (some false)) else (some false)))))))
theorem spec_validStep.mono : ∀ a0 a1 a2 a3 a4 a5 a6 a7 k, LeO (spec_validStep.f k a0 a1 a2 a3 a4 a5 a6 a7) (spec_validStep.f (k + 1) a0 a1 a2 a3 a4 a5 a6 a7) := by
 intro a0 a1 a2 a3 a4 a5 a6 a7 k
 unfold spec_validStep.f
 repeat' first
   | (with_reducible exact spec_validValue.mono _ _ _ _)
   | (with_reducible exact LeO.refl _)
   | (with_reducible exact LeO.none _)
   | (with_reducible refine LeO.ite ?_ ?_)
   | (with_reducible refine LeO.bind ?_ (fun _ => ?_))
   | exact spec_validValue.mono _ _ _ _
   | exact LeO.none _
   | refine LeO.ite ?_ ?_
   | refine LeO.bind ?_ (fun _ => ?_)
set_option maxHeartbeats 8000000 in
set_option maxRecDepth 100000 in
theorem spec_validStep.calls (k : Nat) (a0_0 : Int) (a0_1 : Int) (a0_2 : Int) (a0_3 : Int) (a0_4 : ByteArray) (a1 : Int) (a2 : Int) (a3 : Int) (r : Bool) (w : World) (h : spec_validStep.f k a0_0 a0_1 a0_2 a0_3 a0_4 a1 a2 a3 = some r) :
  Calls Try.prog 116 #[.agg #[.int .i64 a0_0, .int .i64 a0_1, .int .i64 a0_2, .int .i64 a0_3, .string a0_4], .int .i64 a1, .int .i64 a2, .int .i64 a3] w fun e w' => e = .returned (.bool r) ∧ Below w.heap.size w w' := by
 have hu137 := Try.underlying137
 have hu99 := Try.underlying99
 have HB := A_ (Below.refl w.heap.size w)
 have H : (if a0_0 = 0 then (if a0_1 = 0 then ((spec_validValue.f k a0_2 a0_3 a0_4).bind fun t123 => (some t123)) else (some false)) else (if a0_0 = 1 then ((spec_inRange.f a0_1 0 (wrap64 (a1 - 1))).bind fun t124 => (if t124 = true then (some (a0_2 == 0 && (a0_3 == 0 && (a0_4.toList == ([] : List UInt8))))) else (some false))) else (if a0_0 = 2 then ((spec_inRange.f a0_1 0 (wrap64 (a2 - 1))).bind fun t125 => (if t125 = true then (some (a0_2 == 0 && (a0_3 == 0 && (a0_4.toList == ([] : List UInt8))))) else (some false))) else (if a0_0 = 3 then ((spec_inRange.f a0_1 0 (wrap64 (a3 - 1))).bind fun t126 => (if t126 = true then (some (a0_2 == 0 && (a0_3 == 0 && (a0_4.toList == ([] : List UInt8))))) else (some false))) else (if a0_0 = 4 then ((spec_inRange.f a0_1 0 1).bind fun t127 => (if t127 = true then (some (a0_2 == 0 && (a0_3 == 0 && (a0_4.toList == ([] : List UInt8))))) else (some false))) else (if a0_0 = 5 then ((spec_inRange.f a0_1 0 6).bind fun t128 => (if t128 = true then (some (a0_2 == 0 && (a0_3 == 0 && (a0_4.toList == ([] : List UInt8))))) else (some false))) else (if a0_0 = 6 then (if a0_1 = 0 then (some (a0_2 == 0 && (a0_3 == 0 && (a0_4.toList == ([] : List UInt8))))) else (some false)) else (some false)))))))) = some r := h
 clear h
 by_cases c5 : a0_0 = 0
 ·rw [if_pos c5] at H
  have c5b0 : (a0_0 == 0) = true := beq_iff_eq.mpr c5
  have c5b1 : (a0_0 != 0) = false := bne_eq_false_iff_eq.mpr c5
  clear c5
  by_cases c6 : a0_1 = 0
  ·rw [if_pos c6] at H
   have c6b0 : (a0_1 == 0) = true := beq_iff_eq.mpr c6
   have c6b1 : (a0_1 != 0) = false := bne_eq_false_iff_eq.mpr c6
   clear c6
   replace H := Option.bind_eq_some_iff.mp H
   obtain ⟨t123, A70, H⟩ := H
   replace H : (some t123) = some r := H
   have A7 := A_ A70
   clear A70
   obtain rfl := Option.some.inj H
   go_enter Try.func116, Try.ntmps116
   go_wp2_with (first | ((with_reducible refine gate_dst (N := 4) rfl ?_); refine box_event ?hg (N := 4) ?hd (cs := #[.int .i64 a0_0, .int .i64 a0_1, .int .i64 a0_2, .int .i64 a0_3, .string a0_4]) (t := 137) ?hr ?_; (case hd => rfl); (case hg => rfl); (case hr => exact Z11); intro gb122 hg w8 hbox hb; have n0_ := A_ (below_step Z0 hb); have n1_ := A_ (hbox); have n2_ := A_ ((by rw [hg]; exact (below_size Z0) : w.heap.size ≤ gb122)); have n3_ := A_ ((by rw [hg]; exact (below_size Z0) : w.heap.size ≤ gb122)); clear HB; have HB := n0_; have BK122 := n1_; have GW122 := n2_; have GE122 := n3_; clear n0_ n1_ n2_ n3_; clear hb hbox hg; have hcz9_0 : w8.cell? ⟨gb122, 0, none⟩ = some (.int .i64 a0_0) := (blk_cell BK122.out 0).trans rfl; have hcz9_1 : w8.cell? ⟨gb122, 1, none⟩ = some (.int .i64 a0_1) := (blk_cell BK122.out 1).trans rfl; have hcz9_2 : w8.cell? ⟨gb122, 2, none⟩ = some (.int .i64 a0_2) := (blk_cell BK122.out 2).trans rfl; have hcz9_3 : w8.cell? ⟨gb122, 3, none⟩ = some (.int .i64 a0_3) := (blk_cell BK122.out 3).trans rfl; have hcz9_4 : w8.cell? ⟨gb122, 4, none⟩ = some (.string a0_4) := (blk_cell BK122.out 4).trans rfl; have hfz9_0 := blk_frozen BK122.out 0; have hfz9_1 := blk_frozen BK122.out 1; have hfz9_2 := blk_frozen BK122.out 2; have hfz9_3 := blk_frozen BK122.out 3; have hfz9_4 := blk_frozen BK122.out 4) | (go_at_call 92; (with_reducible refine (spec_validValue.calls k a0_2 a0_3 a0_4 t123 _ A7.out).mono ?_); rintro e w10 ⟨rfl, hb⟩; have n0_ := A_ (blk_below (g := gb122) (o := .cells #[.int .i64 a0_0, .int .i64 a0_1, .int .i64 a0_2, .int .i64 a0_3, .string a0_4] 137 (0, 0)) (Z2 BK122.out) hb); have n1_ := A_ (below_step (Z1 GE122.out) hb); clear BK122; clear HB; have BK122 := n0_; have HB := n1_; clear n0_ n1_; (try clear hb); (try clear hb2); (try clear hk); (try clear hi)))
   go_ret
   exact ⟨Z4, Z1 GE122.out⟩
  ·rw [if_neg c6] at H
   have c6b0 : (a0_1 == 0) = false := beq_eq_false_iff_ne.mpr c6
   have c6b1 : (a0_1 != 0) = true := bne_iff_ne.mpr c6
   obtain rfl := Option.some.inj H
   go_enter Try.func116, Try.ntmps116
   go_wp2_with (first | ((with_reducible refine gate_dst (N := 4) rfl ?_); refine box_event ?hg (N := 4) ?hd (cs := #[.int .i64 a0_0, .int .i64 a0_1, .int .i64 a0_2, .int .i64 a0_3, .string a0_4]) (t := 137) ?hr ?_; (case hd => rfl); (case hg => rfl); (case hr => exact Z11); intro gb122 hg w11 hbox hb; have n0_ := A_ (below_step Z0 hb); have n1_ := A_ (hbox); have n2_ := A_ ((by rw [hg]; exact (below_size Z0) : w.heap.size ≤ gb122)); have n3_ := A_ ((by rw [hg]; exact (below_size Z0) : w.heap.size ≤ gb122)); clear HB; have HB := n0_; have BK122 := n1_; have GW122 := n2_; have GE122 := n3_; clear n0_ n1_ n2_ n3_; clear hb hbox hg; have hcz12_0 : w11.cell? ⟨gb122, 0, none⟩ = some (.int .i64 a0_0) := (blk_cell BK122.out 0).trans rfl; have hcz12_1 : w11.cell? ⟨gb122, 1, none⟩ = some (.int .i64 a0_1) := (blk_cell BK122.out 1).trans rfl; have hcz12_2 : w11.cell? ⟨gb122, 2, none⟩ = some (.int .i64 a0_2) := (blk_cell BK122.out 2).trans rfl; have hcz12_3 : w11.cell? ⟨gb122, 3, none⟩ = some (.int .i64 a0_3) := (blk_cell BK122.out 3).trans rfl; have hcz12_4 : w11.cell? ⟨gb122, 4, none⟩ = some (.string a0_4) := (blk_cell BK122.out 4).trans rfl; have hfz12_0 := blk_frozen BK122.out 0; have hfz12_1 := blk_frozen BK122.out 1; have hfz12_2 := blk_frozen BK122.out 2; have hfz12_3 := blk_frozen BK122.out 3; have hfz12_4 := blk_frozen BK122.out 4))
   go_ret
   exact ⟨Z4, Z1 GE122.out⟩
 ·rw [if_neg c5] at H
  have c5b0 : (a0_0 == 0) = false := beq_eq_false_iff_ne.mpr c5
  have c5b1 : (a0_0 != 0) = true := bne_iff_ne.mpr c5
  by_cases c13 : a0_0 = 1
  ·rw [if_pos c13] at H
   have c13b0 : (a0_0 == 1) = true := beq_iff_eq.mpr c13
   have c13b1 : (a0_0 != 1) = false := bne_eq_false_iff_eq.mpr c13
   clear c13
   replace H := Option.bind_eq_some_iff.mp H
   obtain ⟨t124, A140, H⟩ := H
   replace H : (if t124 = true then (some (a0_2 == 0 && (a0_3 == 0 && (a0_4.toList == ([] : List UInt8))))) else (some false)) = some r := H
   have A14 := A_ A140
   clear A140
   by_cases c15 : t124 = true
   ·subst c15
    have H1 : (some (a0_2 == 0 && (a0_3 == 0 && (a0_4.toList == ([] : List UInt8))))) = some r := by rw [if_pos rfl] at H; exact H
    clear H
    have H := H1
    clear H1
    obtain rfl := Option.some.inj H
    go_enter Try.func116, Try.ntmps116
    go_wp2_with (first | ((with_reducible refine gate_dst (N := 4) rfl ?_); refine box_event ?hg (N := 4) ?hd (cs := #[.int .i64 a0_0, .int .i64 a0_1, .int .i64 a0_2, .int .i64 a0_3, .string a0_4]) (t := 137) ?hr ?_; (case hd => rfl); (case hg => rfl); (case hr => exact Z11); intro gb122 hg w16 hbox hb; have n0_ := A_ (below_step Z0 hb); have n1_ := A_ (hbox); have n2_ := A_ ((by rw [hg]; exact (below_size Z0) : w.heap.size ≤ gb122)); have n3_ := A_ ((by rw [hg]; exact (below_size Z0) : w.heap.size ≤ gb122)); clear HB; have HB := n0_; have BK122 := n1_; have GW122 := n2_; have GE122 := n3_; clear n0_ n1_ n2_ n3_; clear hb hbox hg; have hcz17_0 : w16.cell? ⟨gb122, 0, none⟩ = some (.int .i64 a0_0) := (blk_cell BK122.out 0).trans rfl; have hcz17_1 : w16.cell? ⟨gb122, 1, none⟩ = some (.int .i64 a0_1) := (blk_cell BK122.out 1).trans rfl; have hcz17_2 : w16.cell? ⟨gb122, 2, none⟩ = some (.int .i64 a0_2) := (blk_cell BK122.out 2).trans rfl; have hcz17_3 : w16.cell? ⟨gb122, 3, none⟩ = some (.int .i64 a0_3) := (blk_cell BK122.out 3).trans rfl; have hcz17_4 : w16.cell? ⟨gb122, 4, none⟩ = some (.string a0_4) := (blk_cell BK122.out 4).trans rfl; have hfz17_0 := blk_frozen BK122.out 0; have hfz17_1 := blk_frozen BK122.out 1; have hfz17_2 := blk_frozen BK122.out 2; have hfz17_3 := blk_frozen BK122.out 3; have hfz17_4 := blk_frozen BK122.out 4) | ((with_reducible refine gate_callee (f := 50) rfl ?_); refine goesL_ (some 27) rfl rfl Try.func50 (by kernel_rfl) rfl #[.int .i64 a0_1, .int .i64 0, .int .i64 (wrap64 (a1 - 1))] rfl Z3 ?_; (with_reducible refine (spec_inRange.calls a0_1 0 (wrap64 (a1 - 1)) true _ A14.out).mono ?_); rintro e w' ⟨rfl, ⟨nd, rfl⟩⟩; refine ⟨_, rfl, ?_⟩))
    go_ret
    exact ⟨Z4, Z1 GE122.out⟩
   ·replace c15 := Bool.eq_false_iff.mpr c15
    subst c15
    have H1 : (some false) = some r := by rw [if_neg (show ¬ (false = true) by decide)] at H; exact H
    clear H
    have H := H1
    clear H1
    obtain rfl := Option.some.inj H
    go_enter Try.func116, Try.ntmps116
    go_wp2_with (first | ((with_reducible refine gate_dst (N := 4) rfl ?_); refine box_event ?hg (N := 4) ?hd (cs := #[.int .i64 a0_0, .int .i64 a0_1, .int .i64 a0_2, .int .i64 a0_3, .string a0_4]) (t := 137) ?hr ?_; (case hd => rfl); (case hg => rfl); (case hr => exact Z11); intro gb122 hg w18 hbox hb; have n0_ := A_ (below_step Z0 hb); have n1_ := A_ (hbox); have n2_ := A_ ((by rw [hg]; exact (below_size Z0) : w.heap.size ≤ gb122)); have n3_ := A_ ((by rw [hg]; exact (below_size Z0) : w.heap.size ≤ gb122)); clear HB; have HB := n0_; have BK122 := n1_; have GW122 := n2_; have GE122 := n3_; clear n0_ n1_ n2_ n3_; clear hb hbox hg; have hcz19_0 : w18.cell? ⟨gb122, 0, none⟩ = some (.int .i64 a0_0) := (blk_cell BK122.out 0).trans rfl; have hcz19_1 : w18.cell? ⟨gb122, 1, none⟩ = some (.int .i64 a0_1) := (blk_cell BK122.out 1).trans rfl; have hcz19_2 : w18.cell? ⟨gb122, 2, none⟩ = some (.int .i64 a0_2) := (blk_cell BK122.out 2).trans rfl; have hcz19_3 : w18.cell? ⟨gb122, 3, none⟩ = some (.int .i64 a0_3) := (blk_cell BK122.out 3).trans rfl; have hcz19_4 : w18.cell? ⟨gb122, 4, none⟩ = some (.string a0_4) := (blk_cell BK122.out 4).trans rfl; have hfz19_0 := blk_frozen BK122.out 0; have hfz19_1 := blk_frozen BK122.out 1; have hfz19_2 := blk_frozen BK122.out 2; have hfz19_3 := blk_frozen BK122.out 3; have hfz19_4 := blk_frozen BK122.out 4) | ((with_reducible refine gate_callee (f := 50) rfl ?_); refine goesL_ (some 27) rfl rfl Try.func50 (by kernel_rfl) rfl #[.int .i64 a0_1, .int .i64 0, .int .i64 (wrap64 (a1 - 1))] rfl Z3 ?_; (with_reducible refine (spec_inRange.calls a0_1 0 (wrap64 (a1 - 1)) false _ A14.out).mono ?_); rintro e w' ⟨rfl, ⟨nd, rfl⟩⟩; refine ⟨_, rfl, ?_⟩))
    go_ret
    exact ⟨Z4, Z1 GE122.out⟩
  ·rw [if_neg c13] at H
   have c13b0 : (a0_0 == 1) = false := beq_eq_false_iff_ne.mpr c13
   have c13b1 : (a0_0 != 1) = true := bne_iff_ne.mpr c13
   by_cases c20 : a0_0 = 2
   ·rw [if_pos c20] at H
    have c20b0 : (a0_0 == 2) = true := beq_iff_eq.mpr c20
    have c20b1 : (a0_0 != 2) = false := bne_eq_false_iff_eq.mpr c20
    clear c20
    replace H := Option.bind_eq_some_iff.mp H
    obtain ⟨t125, A210, H⟩ := H
    replace H : (if t125 = true then (some (a0_2 == 0 && (a0_3 == 0 && (a0_4.toList == ([] : List UInt8))))) else (some false)) = some r := H
    have A21 := A_ A210
    clear A210
    by_cases c22 : t125 = true
    ·subst c22
     have H1 : (some (a0_2 == 0 && (a0_3 == 0 && (a0_4.toList == ([] : List UInt8))))) = some r := by rw [if_pos rfl] at H; exact H
     clear H
     have H := H1
     clear H1
     obtain rfl := Option.some.inj H
     go_enter Try.func116, Try.ntmps116
     go_wp2_with (first | ((with_reducible refine gate_dst (N := 4) rfl ?_); refine box_event ?hg (N := 4) ?hd (cs := #[.int .i64 a0_0, .int .i64 a0_1, .int .i64 a0_2, .int .i64 a0_3, .string a0_4]) (t := 137) ?hr ?_; (case hd => rfl); (case hg => rfl); (case hr => exact Z11); intro gb122 hg w23 hbox hb; have n0_ := A_ (below_step Z0 hb); have n1_ := A_ (hbox); have n2_ := A_ ((by rw [hg]; exact (below_size Z0) : w.heap.size ≤ gb122)); have n3_ := A_ ((by rw [hg]; exact (below_size Z0) : w.heap.size ≤ gb122)); clear HB; have HB := n0_; have BK122 := n1_; have GW122 := n2_; have GE122 := n3_; clear n0_ n1_ n2_ n3_; clear hb hbox hg; have hcz24_0 : w23.cell? ⟨gb122, 0, none⟩ = some (.int .i64 a0_0) := (blk_cell BK122.out 0).trans rfl; have hcz24_1 : w23.cell? ⟨gb122, 1, none⟩ = some (.int .i64 a0_1) := (blk_cell BK122.out 1).trans rfl; have hcz24_2 : w23.cell? ⟨gb122, 2, none⟩ = some (.int .i64 a0_2) := (blk_cell BK122.out 2).trans rfl; have hcz24_3 : w23.cell? ⟨gb122, 3, none⟩ = some (.int .i64 a0_3) := (blk_cell BK122.out 3).trans rfl; have hcz24_4 : w23.cell? ⟨gb122, 4, none⟩ = some (.string a0_4) := (blk_cell BK122.out 4).trans rfl; have hfz24_0 := blk_frozen BK122.out 0; have hfz24_1 := blk_frozen BK122.out 1; have hfz24_2 := blk_frozen BK122.out 2; have hfz24_3 := blk_frozen BK122.out 3; have hfz24_4 := blk_frozen BK122.out 4) | ((with_reducible refine gate_callee (f := 50) rfl ?_); refine goesL_ (some 40) rfl rfl Try.func50 (by kernel_rfl) rfl #[.int .i64 a0_1, .int .i64 0, .int .i64 (wrap64 (a2 - 1))] rfl Z3 ?_; (with_reducible refine (spec_inRange.calls a0_1 0 (wrap64 (a2 - 1)) true _ A21.out).mono ?_); rintro e w' ⟨rfl, ⟨nd, rfl⟩⟩; refine ⟨_, rfl, ?_⟩))
     go_ret
     exact ⟨Z4, Z1 GE122.out⟩
    ·replace c22 := Bool.eq_false_iff.mpr c22
     subst c22
     have H1 : (some false) = some r := by rw [if_neg (show ¬ (false = true) by decide)] at H; exact H
     clear H
     have H := H1
     clear H1
     obtain rfl := Option.some.inj H
     go_enter Try.func116, Try.ntmps116
     go_wp2_with (first | ((with_reducible refine gate_dst (N := 4) rfl ?_); refine box_event ?hg (N := 4) ?hd (cs := #[.int .i64 a0_0, .int .i64 a0_1, .int .i64 a0_2, .int .i64 a0_3, .string a0_4]) (t := 137) ?hr ?_; (case hd => rfl); (case hg => rfl); (case hr => exact Z11); intro gb122 hg w25 hbox hb; have n0_ := A_ (below_step Z0 hb); have n1_ := A_ (hbox); have n2_ := A_ ((by rw [hg]; exact (below_size Z0) : w.heap.size ≤ gb122)); have n3_ := A_ ((by rw [hg]; exact (below_size Z0) : w.heap.size ≤ gb122)); clear HB; have HB := n0_; have BK122 := n1_; have GW122 := n2_; have GE122 := n3_; clear n0_ n1_ n2_ n3_; clear hb hbox hg; have hcz26_0 : w25.cell? ⟨gb122, 0, none⟩ = some (.int .i64 a0_0) := (blk_cell BK122.out 0).trans rfl; have hcz26_1 : w25.cell? ⟨gb122, 1, none⟩ = some (.int .i64 a0_1) := (blk_cell BK122.out 1).trans rfl; have hcz26_2 : w25.cell? ⟨gb122, 2, none⟩ = some (.int .i64 a0_2) := (blk_cell BK122.out 2).trans rfl; have hcz26_3 : w25.cell? ⟨gb122, 3, none⟩ = some (.int .i64 a0_3) := (blk_cell BK122.out 3).trans rfl; have hcz26_4 : w25.cell? ⟨gb122, 4, none⟩ = some (.string a0_4) := (blk_cell BK122.out 4).trans rfl; have hfz26_0 := blk_frozen BK122.out 0; have hfz26_1 := blk_frozen BK122.out 1; have hfz26_2 := blk_frozen BK122.out 2; have hfz26_3 := blk_frozen BK122.out 3; have hfz26_4 := blk_frozen BK122.out 4) | ((with_reducible refine gate_callee (f := 50) rfl ?_); refine goesL_ (some 40) rfl rfl Try.func50 (by kernel_rfl) rfl #[.int .i64 a0_1, .int .i64 0, .int .i64 (wrap64 (a2 - 1))] rfl Z3 ?_; (with_reducible refine (spec_inRange.calls a0_1 0 (wrap64 (a2 - 1)) false _ A21.out).mono ?_); rintro e w' ⟨rfl, ⟨nd, rfl⟩⟩; refine ⟨_, rfl, ?_⟩))
     go_ret
     exact ⟨Z4, Z1 GE122.out⟩
   ·rw [if_neg c20] at H
    have c20b0 : (a0_0 == 2) = false := beq_eq_false_iff_ne.mpr c20
    have c20b1 : (a0_0 != 2) = true := bne_iff_ne.mpr c20
    by_cases c27 : a0_0 = 3
    ·rw [if_pos c27] at H
     have c27b0 : (a0_0 == 3) = true := beq_iff_eq.mpr c27
     have c27b1 : (a0_0 != 3) = false := bne_eq_false_iff_eq.mpr c27
     clear c27
     replace H := Option.bind_eq_some_iff.mp H
     obtain ⟨t126, A280, H⟩ := H
     replace H : (if t126 = true then (some (a0_2 == 0 && (a0_3 == 0 && (a0_4.toList == ([] : List UInt8))))) else (some false)) = some r := H
     have A28 := A_ A280
     clear A280
     by_cases c29 : t126 = true
     ·subst c29
      have H1 : (some (a0_2 == 0 && (a0_3 == 0 && (a0_4.toList == ([] : List UInt8))))) = some r := by rw [if_pos rfl] at H; exact H
      clear H
      have H := H1
      clear H1
      obtain rfl := Option.some.inj H
      go_enter Try.func116, Try.ntmps116
      go_wp2_with (first | ((with_reducible refine gate_dst (N := 4) rfl ?_); refine box_event ?hg (N := 4) ?hd (cs := #[.int .i64 a0_0, .int .i64 a0_1, .int .i64 a0_2, .int .i64 a0_3, .string a0_4]) (t := 137) ?hr ?_; (case hd => rfl); (case hg => rfl); (case hr => exact Z11); intro gb122 hg w30 hbox hb; have n0_ := A_ (below_step Z0 hb); have n1_ := A_ (hbox); have n2_ := A_ ((by rw [hg]; exact (below_size Z0) : w.heap.size ≤ gb122)); have n3_ := A_ ((by rw [hg]; exact (below_size Z0) : w.heap.size ≤ gb122)); clear HB; have HB := n0_; have BK122 := n1_; have GW122 := n2_; have GE122 := n3_; clear n0_ n1_ n2_ n3_; clear hb hbox hg; have hcz31_0 : w30.cell? ⟨gb122, 0, none⟩ = some (.int .i64 a0_0) := (blk_cell BK122.out 0).trans rfl; have hcz31_1 : w30.cell? ⟨gb122, 1, none⟩ = some (.int .i64 a0_1) := (blk_cell BK122.out 1).trans rfl; have hcz31_2 : w30.cell? ⟨gb122, 2, none⟩ = some (.int .i64 a0_2) := (blk_cell BK122.out 2).trans rfl; have hcz31_3 : w30.cell? ⟨gb122, 3, none⟩ = some (.int .i64 a0_3) := (blk_cell BK122.out 3).trans rfl; have hcz31_4 : w30.cell? ⟨gb122, 4, none⟩ = some (.string a0_4) := (blk_cell BK122.out 4).trans rfl; have hfz31_0 := blk_frozen BK122.out 0; have hfz31_1 := blk_frozen BK122.out 1; have hfz31_2 := blk_frozen BK122.out 2; have hfz31_3 := blk_frozen BK122.out 3; have hfz31_4 := blk_frozen BK122.out 4) | ((with_reducible refine gate_callee (f := 50) rfl ?_); refine goesL_ (some 53) rfl rfl Try.func50 (by kernel_rfl) rfl #[.int .i64 a0_1, .int .i64 0, .int .i64 (wrap64 (a3 - 1))] rfl Z3 ?_; (with_reducible refine (spec_inRange.calls a0_1 0 (wrap64 (a3 - 1)) true _ A28.out).mono ?_); rintro e w' ⟨rfl, ⟨nd, rfl⟩⟩; refine ⟨_, rfl, ?_⟩))
      go_ret
      exact ⟨Z4, Z1 GE122.out⟩
     ·replace c29 := Bool.eq_false_iff.mpr c29
      subst c29
      have H1 : (some false) = some r := by rw [if_neg (show ¬ (false = true) by decide)] at H; exact H
      clear H
      have H := H1
      clear H1
      obtain rfl := Option.some.inj H
      go_enter Try.func116, Try.ntmps116
      go_wp2_with (first | ((with_reducible refine gate_dst (N := 4) rfl ?_); refine box_event ?hg (N := 4) ?hd (cs := #[.int .i64 a0_0, .int .i64 a0_1, .int .i64 a0_2, .int .i64 a0_3, .string a0_4]) (t := 137) ?hr ?_; (case hd => rfl); (case hg => rfl); (case hr => exact Z11); intro gb122 hg w32 hbox hb; have n0_ := A_ (below_step Z0 hb); have n1_ := A_ (hbox); have n2_ := A_ ((by rw [hg]; exact (below_size Z0) : w.heap.size ≤ gb122)); have n3_ := A_ ((by rw [hg]; exact (below_size Z0) : w.heap.size ≤ gb122)); clear HB; have HB := n0_; have BK122 := n1_; have GW122 := n2_; have GE122 := n3_; clear n0_ n1_ n2_ n3_; clear hb hbox hg; have hcz33_0 : w32.cell? ⟨gb122, 0, none⟩ = some (.int .i64 a0_0) := (blk_cell BK122.out 0).trans rfl; have hcz33_1 : w32.cell? ⟨gb122, 1, none⟩ = some (.int .i64 a0_1) := (blk_cell BK122.out 1).trans rfl; have hcz33_2 : w32.cell? ⟨gb122, 2, none⟩ = some (.int .i64 a0_2) := (blk_cell BK122.out 2).trans rfl; have hcz33_3 : w32.cell? ⟨gb122, 3, none⟩ = some (.int .i64 a0_3) := (blk_cell BK122.out 3).trans rfl; have hcz33_4 : w32.cell? ⟨gb122, 4, none⟩ = some (.string a0_4) := (blk_cell BK122.out 4).trans rfl; have hfz33_0 := blk_frozen BK122.out 0; have hfz33_1 := blk_frozen BK122.out 1; have hfz33_2 := blk_frozen BK122.out 2; have hfz33_3 := blk_frozen BK122.out 3; have hfz33_4 := blk_frozen BK122.out 4) | ((with_reducible refine gate_callee (f := 50) rfl ?_); refine goesL_ (some 53) rfl rfl Try.func50 (by kernel_rfl) rfl #[.int .i64 a0_1, .int .i64 0, .int .i64 (wrap64 (a3 - 1))] rfl Z3 ?_; (with_reducible refine (spec_inRange.calls a0_1 0 (wrap64 (a3 - 1)) false _ A28.out).mono ?_); rintro e w' ⟨rfl, ⟨nd, rfl⟩⟩; refine ⟨_, rfl, ?_⟩))
      go_ret
      exact ⟨Z4, Z1 GE122.out⟩
    ·rw [if_neg c27] at H
     have c27b0 : (a0_0 == 3) = false := beq_eq_false_iff_ne.mpr c27
     have c27b1 : (a0_0 != 3) = true := bne_iff_ne.mpr c27
     by_cases c34 : a0_0 = 4
     ·rw [if_pos c34] at H
      have c34b0 : (a0_0 == 4) = true := beq_iff_eq.mpr c34
      have c34b1 : (a0_0 != 4) = false := bne_eq_false_iff_eq.mpr c34
      clear c34
      replace H := Option.bind_eq_some_iff.mp H
      obtain ⟨t127, A350, H⟩ := H
      replace H : (if t127 = true then (some (a0_2 == 0 && (a0_3 == 0 && (a0_4.toList == ([] : List UInt8))))) else (some false)) = some r := H
      have A35 := A_ A350
      clear A350
      by_cases c36 : t127 = true
      ·subst c36
       have H1 : (some (a0_2 == 0 && (a0_3 == 0 && (a0_4.toList == ([] : List UInt8))))) = some r := by rw [if_pos rfl] at H; exact H
       clear H
       have H := H1
       clear H1
       obtain rfl := Option.some.inj H
       go_enter Try.func116, Try.ntmps116
       go_wp2_with (first | ((with_reducible refine gate_dst (N := 4) rfl ?_); refine box_event ?hg (N := 4) ?hd (cs := #[.int .i64 a0_0, .int .i64 a0_1, .int .i64 a0_2, .int .i64 a0_3, .string a0_4]) (t := 137) ?hr ?_; (case hd => rfl); (case hg => rfl); (case hr => exact Z11); intro gb122 hg w37 hbox hb; have n0_ := A_ (below_step Z0 hb); have n1_ := A_ (hbox); have n2_ := A_ ((by rw [hg]; exact (below_size Z0) : w.heap.size ≤ gb122)); have n3_ := A_ ((by rw [hg]; exact (below_size Z0) : w.heap.size ≤ gb122)); clear HB; have HB := n0_; have BK122 := n1_; have GW122 := n2_; have GE122 := n3_; clear n0_ n1_ n2_ n3_; clear hb hbox hg; have hcz38_0 : w37.cell? ⟨gb122, 0, none⟩ = some (.int .i64 a0_0) := (blk_cell BK122.out 0).trans rfl; have hcz38_1 : w37.cell? ⟨gb122, 1, none⟩ = some (.int .i64 a0_1) := (blk_cell BK122.out 1).trans rfl; have hcz38_2 : w37.cell? ⟨gb122, 2, none⟩ = some (.int .i64 a0_2) := (blk_cell BK122.out 2).trans rfl; have hcz38_3 : w37.cell? ⟨gb122, 3, none⟩ = some (.int .i64 a0_3) := (blk_cell BK122.out 3).trans rfl; have hcz38_4 : w37.cell? ⟨gb122, 4, none⟩ = some (.string a0_4) := (blk_cell BK122.out 4).trans rfl; have hfz38_0 := blk_frozen BK122.out 0; have hfz38_1 := blk_frozen BK122.out 1; have hfz38_2 := blk_frozen BK122.out 2; have hfz38_3 := blk_frozen BK122.out 3; have hfz38_4 := blk_frozen BK122.out 4) | ((with_reducible refine gate_callee (f := 50) rfl ?_); refine goesL_ (some 64) rfl rfl Try.func50 (by kernel_rfl) rfl #[.int .i64 a0_1, .int .i64 0, .int .i64 1] rfl Z3 ?_; (with_reducible refine (spec_inRange.calls a0_1 0 1 true _ A35.out).mono ?_); rintro e w' ⟨rfl, ⟨nd, rfl⟩⟩; refine ⟨_, rfl, ?_⟩))
       go_ret
       exact ⟨Z4, Z1 GE122.out⟩
      ·replace c36 := Bool.eq_false_iff.mpr c36
       subst c36
       have H1 : (some false) = some r := by rw [if_neg (show ¬ (false = true) by decide)] at H; exact H
       clear H
       have H := H1
       clear H1
       obtain rfl := Option.some.inj H
       go_enter Try.func116, Try.ntmps116
       go_wp2_with (first | ((with_reducible refine gate_dst (N := 4) rfl ?_); refine box_event ?hg (N := 4) ?hd (cs := #[.int .i64 a0_0, .int .i64 a0_1, .int .i64 a0_2, .int .i64 a0_3, .string a0_4]) (t := 137) ?hr ?_; (case hd => rfl); (case hg => rfl); (case hr => exact Z11); intro gb122 hg w39 hbox hb; have n0_ := A_ (below_step Z0 hb); have n1_ := A_ (hbox); have n2_ := A_ ((by rw [hg]; exact (below_size Z0) : w.heap.size ≤ gb122)); have n3_ := A_ ((by rw [hg]; exact (below_size Z0) : w.heap.size ≤ gb122)); clear HB; have HB := n0_; have BK122 := n1_; have GW122 := n2_; have GE122 := n3_; clear n0_ n1_ n2_ n3_; clear hb hbox hg; have hcz40_0 : w39.cell? ⟨gb122, 0, none⟩ = some (.int .i64 a0_0) := (blk_cell BK122.out 0).trans rfl; have hcz40_1 : w39.cell? ⟨gb122, 1, none⟩ = some (.int .i64 a0_1) := (blk_cell BK122.out 1).trans rfl; have hcz40_2 : w39.cell? ⟨gb122, 2, none⟩ = some (.int .i64 a0_2) := (blk_cell BK122.out 2).trans rfl; have hcz40_3 : w39.cell? ⟨gb122, 3, none⟩ = some (.int .i64 a0_3) := (blk_cell BK122.out 3).trans rfl; have hcz40_4 : w39.cell? ⟨gb122, 4, none⟩ = some (.string a0_4) := (blk_cell BK122.out 4).trans rfl; have hfz40_0 := blk_frozen BK122.out 0; have hfz40_1 := blk_frozen BK122.out 1; have hfz40_2 := blk_frozen BK122.out 2; have hfz40_3 := blk_frozen BK122.out 3; have hfz40_4 := blk_frozen BK122.out 4) | ((with_reducible refine gate_callee (f := 50) rfl ?_); refine goesL_ (some 64) rfl rfl Try.func50 (by kernel_rfl) rfl #[.int .i64 a0_1, .int .i64 0, .int .i64 1] rfl Z3 ?_; (with_reducible refine (spec_inRange.calls a0_1 0 1 false _ A35.out).mono ?_); rintro e w' ⟨rfl, ⟨nd, rfl⟩⟩; refine ⟨_, rfl, ?_⟩))
       go_ret
       exact ⟨Z4, Z1 GE122.out⟩
     ·rw [if_neg c34] at H
      have c34b0 : (a0_0 == 4) = false := beq_eq_false_iff_ne.mpr c34
      have c34b1 : (a0_0 != 4) = true := bne_iff_ne.mpr c34
      by_cases c41 : a0_0 = 5
      ·rw [if_pos c41] at H
       have c41b0 : (a0_0 == 5) = true := beq_iff_eq.mpr c41
       have c41b1 : (a0_0 != 5) = false := bne_eq_false_iff_eq.mpr c41
       clear c41
       replace H := Option.bind_eq_some_iff.mp H
       obtain ⟨t128, A420, H⟩ := H
       replace H : (if t128 = true then (some (a0_2 == 0 && (a0_3 == 0 && (a0_4.toList == ([] : List UInt8))))) else (some false)) = some r := H
       have A42 := A_ A420
       clear A420
       by_cases c43 : t128 = true
       ·subst c43
        have H1 : (some (a0_2 == 0 && (a0_3 == 0 && (a0_4.toList == ([] : List UInt8))))) = some r := by rw [if_pos rfl] at H; exact H
        clear H
        have H := H1
        clear H1
        obtain rfl := Option.some.inj H
        go_enter Try.func116, Try.ntmps116
        go_wp2_with (first | ((with_reducible refine gate_dst (N := 4) rfl ?_); refine box_event ?hg (N := 4) ?hd (cs := #[.int .i64 a0_0, .int .i64 a0_1, .int .i64 a0_2, .int .i64 a0_3, .string a0_4]) (t := 137) ?hr ?_; (case hd => rfl); (case hg => rfl); (case hr => exact Z11); intro gb122 hg w44 hbox hb; have n0_ := A_ (below_step Z0 hb); have n1_ := A_ (hbox); have n2_ := A_ ((by rw [hg]; exact (below_size Z0) : w.heap.size ≤ gb122)); have n3_ := A_ ((by rw [hg]; exact (below_size Z0) : w.heap.size ≤ gb122)); clear HB; have HB := n0_; have BK122 := n1_; have GW122 := n2_; have GE122 := n3_; clear n0_ n1_ n2_ n3_; clear hb hbox hg; have hcz45_0 : w44.cell? ⟨gb122, 0, none⟩ = some (.int .i64 a0_0) := (blk_cell BK122.out 0).trans rfl; have hcz45_1 : w44.cell? ⟨gb122, 1, none⟩ = some (.int .i64 a0_1) := (blk_cell BK122.out 1).trans rfl; have hcz45_2 : w44.cell? ⟨gb122, 2, none⟩ = some (.int .i64 a0_2) := (blk_cell BK122.out 2).trans rfl; have hcz45_3 : w44.cell? ⟨gb122, 3, none⟩ = some (.int .i64 a0_3) := (blk_cell BK122.out 3).trans rfl; have hcz45_4 : w44.cell? ⟨gb122, 4, none⟩ = some (.string a0_4) := (blk_cell BK122.out 4).trans rfl; have hfz45_0 := blk_frozen BK122.out 0; have hfz45_1 := blk_frozen BK122.out 1; have hfz45_2 := blk_frozen BK122.out 2; have hfz45_3 := blk_frozen BK122.out 3; have hfz45_4 := blk_frozen BK122.out 4) | ((with_reducible refine gate_callee (f := 50) rfl ?_); refine goesL_ (some 75) rfl rfl Try.func50 (by kernel_rfl) rfl #[.int .i64 a0_1, .int .i64 0, .int .i64 6] rfl Z3 ?_; (with_reducible refine (spec_inRange.calls a0_1 0 6 true _ A42.out).mono ?_); rintro e w' ⟨rfl, ⟨nd, rfl⟩⟩; refine ⟨_, rfl, ?_⟩))
        go_ret
        exact ⟨Z4, Z1 GE122.out⟩
       ·replace c43 := Bool.eq_false_iff.mpr c43
        subst c43
        have H1 : (some false) = some r := by rw [if_neg (show ¬ (false = true) by decide)] at H; exact H
        clear H
        have H := H1
        clear H1
        obtain rfl := Option.some.inj H
        go_enter Try.func116, Try.ntmps116
        go_wp2_with (first | ((with_reducible refine gate_dst (N := 4) rfl ?_); refine box_event ?hg (N := 4) ?hd (cs := #[.int .i64 a0_0, .int .i64 a0_1, .int .i64 a0_2, .int .i64 a0_3, .string a0_4]) (t := 137) ?hr ?_; (case hd => rfl); (case hg => rfl); (case hr => exact Z11); intro gb122 hg w46 hbox hb; have n0_ := A_ (below_step Z0 hb); have n1_ := A_ (hbox); have n2_ := A_ ((by rw [hg]; exact (below_size Z0) : w.heap.size ≤ gb122)); have n3_ := A_ ((by rw [hg]; exact (below_size Z0) : w.heap.size ≤ gb122)); clear HB; have HB := n0_; have BK122 := n1_; have GW122 := n2_; have GE122 := n3_; clear n0_ n1_ n2_ n3_; clear hb hbox hg; have hcz47_0 : w46.cell? ⟨gb122, 0, none⟩ = some (.int .i64 a0_0) := (blk_cell BK122.out 0).trans rfl; have hcz47_1 : w46.cell? ⟨gb122, 1, none⟩ = some (.int .i64 a0_1) := (blk_cell BK122.out 1).trans rfl; have hcz47_2 : w46.cell? ⟨gb122, 2, none⟩ = some (.int .i64 a0_2) := (blk_cell BK122.out 2).trans rfl; have hcz47_3 : w46.cell? ⟨gb122, 3, none⟩ = some (.int .i64 a0_3) := (blk_cell BK122.out 3).trans rfl; have hcz47_4 : w46.cell? ⟨gb122, 4, none⟩ = some (.string a0_4) := (blk_cell BK122.out 4).trans rfl; have hfz47_0 := blk_frozen BK122.out 0; have hfz47_1 := blk_frozen BK122.out 1; have hfz47_2 := blk_frozen BK122.out 2; have hfz47_3 := blk_frozen BK122.out 3; have hfz47_4 := blk_frozen BK122.out 4) | ((with_reducible refine gate_callee (f := 50) rfl ?_); refine goesL_ (some 75) rfl rfl Try.func50 (by kernel_rfl) rfl #[.int .i64 a0_1, .int .i64 0, .int .i64 6] rfl Z3 ?_; (with_reducible refine (spec_inRange.calls a0_1 0 6 false _ A42.out).mono ?_); rintro e w' ⟨rfl, ⟨nd, rfl⟩⟩; refine ⟨_, rfl, ?_⟩))
        go_ret
        exact ⟨Z4, Z1 GE122.out⟩
      ·rw [if_neg c41] at H
       have c41b0 : (a0_0 == 5) = false := beq_eq_false_iff_ne.mpr c41
       have c41b1 : (a0_0 != 5) = true := bne_iff_ne.mpr c41
       by_cases c48 : a0_0 = 6
       ·rw [if_pos c48] at H
        have c48b0 : (a0_0 == 6) = true := beq_iff_eq.mpr c48
        have c48b1 : (a0_0 != 6) = false := bne_eq_false_iff_eq.mpr c48
        clear c48
        by_cases c49 : a0_1 = 0
        ·rw [if_pos c49] at H
         have c49b0 : (a0_1 == 0) = true := beq_iff_eq.mpr c49
         have c49b1 : (a0_1 != 0) = false := bne_eq_false_iff_eq.mpr c49
         clear c49
         obtain rfl := Option.some.inj H
         go_enter Try.func116, Try.ntmps116
         go_wp2_with (first | ((with_reducible refine gate_dst (N := 4) rfl ?_); refine box_event ?hg (N := 4) ?hd (cs := #[.int .i64 a0_0, .int .i64 a0_1, .int .i64 a0_2, .int .i64 a0_3, .string a0_4]) (t := 137) ?hr ?_; (case hd => rfl); (case hg => rfl); (case hr => exact Z11); intro gb122 hg w50 hbox hb; have n0_ := A_ (below_step Z0 hb); have n1_ := A_ (hbox); have n2_ := A_ ((by rw [hg]; exact (below_size Z0) : w.heap.size ≤ gb122)); have n3_ := A_ ((by rw [hg]; exact (below_size Z0) : w.heap.size ≤ gb122)); clear HB; have HB := n0_; have BK122 := n1_; have GW122 := n2_; have GE122 := n3_; clear n0_ n1_ n2_ n3_; clear hb hbox hg; have hcz51_0 : w50.cell? ⟨gb122, 0, none⟩ = some (.int .i64 a0_0) := (blk_cell BK122.out 0).trans rfl; have hcz51_1 : w50.cell? ⟨gb122, 1, none⟩ = some (.int .i64 a0_1) := (blk_cell BK122.out 1).trans rfl; have hcz51_2 : w50.cell? ⟨gb122, 2, none⟩ = some (.int .i64 a0_2) := (blk_cell BK122.out 2).trans rfl; have hcz51_3 : w50.cell? ⟨gb122, 3, none⟩ = some (.int .i64 a0_3) := (blk_cell BK122.out 3).trans rfl; have hcz51_4 : w50.cell? ⟨gb122, 4, none⟩ = some (.string a0_4) := (blk_cell BK122.out 4).trans rfl; have hfz51_0 := blk_frozen BK122.out 0; have hfz51_1 := blk_frozen BK122.out 1; have hfz51_2 := blk_frozen BK122.out 2; have hfz51_3 := blk_frozen BK122.out 3; have hfz51_4 := blk_frozen BK122.out 4))
         go_ret
         exact ⟨Z4, Z1 GE122.out⟩
        ·rw [if_neg c49] at H
         have c49b0 : (a0_1 == 0) = false := beq_eq_false_iff_ne.mpr c49
         have c49b1 : (a0_1 != 0) = true := bne_iff_ne.mpr c49
         obtain rfl := Option.some.inj H
         go_enter Try.func116, Try.ntmps116
         go_wp2_with (first | ((with_reducible refine gate_dst (N := 4) rfl ?_); refine box_event ?hg (N := 4) ?hd (cs := #[.int .i64 a0_0, .int .i64 a0_1, .int .i64 a0_2, .int .i64 a0_3, .string a0_4]) (t := 137) ?hr ?_; (case hd => rfl); (case hg => rfl); (case hr => exact Z11); intro gb122 hg w52 hbox hb; have n0_ := A_ (below_step Z0 hb); have n1_ := A_ (hbox); have n2_ := A_ ((by rw [hg]; exact (below_size Z0) : w.heap.size ≤ gb122)); have n3_ := A_ ((by rw [hg]; exact (below_size Z0) : w.heap.size ≤ gb122)); clear HB; have HB := n0_; have BK122 := n1_; have GW122 := n2_; have GE122 := n3_; clear n0_ n1_ n2_ n3_; clear hb hbox hg; have hcz53_0 : w52.cell? ⟨gb122, 0, none⟩ = some (.int .i64 a0_0) := (blk_cell BK122.out 0).trans rfl; have hcz53_1 : w52.cell? ⟨gb122, 1, none⟩ = some (.int .i64 a0_1) := (blk_cell BK122.out 1).trans rfl; have hcz53_2 : w52.cell? ⟨gb122, 2, none⟩ = some (.int .i64 a0_2) := (blk_cell BK122.out 2).trans rfl; have hcz53_3 : w52.cell? ⟨gb122, 3, none⟩ = some (.int .i64 a0_3) := (blk_cell BK122.out 3).trans rfl; have hcz53_4 : w52.cell? ⟨gb122, 4, none⟩ = some (.string a0_4) := (blk_cell BK122.out 4).trans rfl; have hfz53_0 := blk_frozen BK122.out 0; have hfz53_1 := blk_frozen BK122.out 1; have hfz53_2 := blk_frozen BK122.out 2; have hfz53_3 := blk_frozen BK122.out 3; have hfz53_4 := blk_frozen BK122.out 4))
         go_ret
         exact ⟨Z4, Z1 GE122.out⟩
       ·rw [if_neg c48] at H
        have c48b0 : (a0_0 == 6) = false := beq_eq_false_iff_ne.mpr c48
        have c48b1 : (a0_0 != 6) = true := bne_iff_ne.mpr c48
        obtain rfl := Option.some.inj H
        go_enter Try.func116, Try.ntmps116
        go_wp2_with (first | ((with_reducible refine gate_dst (N := 4) rfl ?_); refine box_event ?hg (N := 4) ?hd (cs := #[.int .i64 a0_0, .int .i64 a0_1, .int .i64 a0_2, .int .i64 a0_3, .string a0_4]) (t := 137) ?hr ?_; (case hd => rfl); (case hg => rfl); (case hr => exact Z11); intro gb122 hg w54 hbox hb; have n0_ := A_ (below_step Z0 hb); have n1_ := A_ (hbox); have n2_ := A_ ((by rw [hg]; exact (below_size Z0) : w.heap.size ≤ gb122)); have n3_ := A_ ((by rw [hg]; exact (below_size Z0) : w.heap.size ≤ gb122)); clear HB; have HB := n0_; have BK122 := n1_; have GW122 := n2_; have GE122 := n3_; clear n0_ n1_ n2_ n3_; clear hb hbox hg; have hcz55_0 : w54.cell? ⟨gb122, 0, none⟩ = some (.int .i64 a0_0) := (blk_cell BK122.out 0).trans rfl; have hcz55_1 : w54.cell? ⟨gb122, 1, none⟩ = some (.int .i64 a0_1) := (blk_cell BK122.out 1).trans rfl; have hcz55_2 : w54.cell? ⟨gb122, 2, none⟩ = some (.int .i64 a0_2) := (blk_cell BK122.out 2).trans rfl; have hcz55_3 : w54.cell? ⟨gb122, 3, none⟩ = some (.int .i64 a0_3) := (blk_cell BK122.out 3).trans rfl; have hcz55_4 : w54.cell? ⟨gb122, 4, none⟩ = some (.string a0_4) := (blk_cell BK122.out 4).trans rfl; have hfz55_0 := blk_frozen BK122.out 0; have hfz55_1 := blk_frozen BK122.out 1; have hfz55_2 := blk_frozen BK122.out 2; have hfz55_3 := blk_frozen BK122.out 3; have hfz55_4 := blk_frozen BK122.out 4))
        go_ret
        exact ⟨Z4, Z1 GE122.out⟩
def spec_takes.f (a0_0 : Int) (a0_1 : Int) (a0_2 : Int) (a0_3 : Int) (a0_4 : ByteArray) : Option (Int) := if a0_0 = 5 then (some 2) else (if a0_0 = 6 then (some 3) else (some 0))
set_option maxHeartbeats 8000000 in
set_option maxRecDepth 100000 in
theorem spec_takes.calls (a0_0 : Int) (a0_1 : Int) (a0_2 : Int) (a0_3 : Int) (a0_4 : ByteArray) (r : Int) (w : World) (h : spec_takes.f a0_0 a0_1 a0_2 a0_3 a0_4 = some r) :
  Calls Try.prog 117 #[.agg #[.int .i64 a0_0, .int .i64 a0_1, .int .i64 a0_2, .int .i64 a0_3, .string a0_4]] w fun e w' => e = .returned (.int .i64 r) ∧ Below w.heap.size w w' := by
 have hu137 := Try.underlying137
 have HB := A_ (Below.refl w.heap.size w)
 have H : (if a0_0 = 5 then (some 2) else (if a0_0 = 6 then (some 3) else (some 0))) = some r := h
 clear h
 by_cases c2 : a0_0 = 5
 ·rw [if_pos c2] at H
  have c2b0 : (a0_0 == 5) = true := beq_iff_eq.mpr c2
  have c2b1 : (a0_0 != 5) = false := bne_eq_false_iff_eq.mpr c2
  clear c2
  obtain rfl := Option.some.inj H
  go_enter Try.func117, Try.ntmps117
  go_wp2_with (first | ((with_reducible refine gate_dst (N := 1) rfl ?_); refine box_event ?hg (N := 1) ?hd (cs := #[.int .i64 a0_0, .int .i64 a0_1, .int .i64 a0_2, .int .i64 a0_3, .string a0_4]) (t := 137) ?hr ?_; (case hd => rfl); (case hg => rfl); (case hr => exact Z11); intro gb129 hg w3 hbox hb; have n0_ := A_ (below_step Z0 hb); have n1_ := A_ (hbox); have n2_ := A_ ((by rw [hg]; exact (below_size Z0) : w.heap.size ≤ gb129)); have n3_ := A_ ((by rw [hg]; exact (below_size Z0) : w.heap.size ≤ gb129)); clear HB; have HB := n0_; have BK129 := n1_; have GW129 := n2_; have GE129 := n3_; clear n0_ n1_ n2_ n3_; clear hb hbox hg; have hcz4_0 : w3.cell? ⟨gb129, 0, none⟩ = some (.int .i64 a0_0) := (blk_cell BK129.out 0).trans rfl; have hcz4_1 : w3.cell? ⟨gb129, 1, none⟩ = some (.int .i64 a0_1) := (blk_cell BK129.out 1).trans rfl; have hcz4_2 : w3.cell? ⟨gb129, 2, none⟩ = some (.int .i64 a0_2) := (blk_cell BK129.out 2).trans rfl; have hcz4_3 : w3.cell? ⟨gb129, 3, none⟩ = some (.int .i64 a0_3) := (blk_cell BK129.out 3).trans rfl; have hcz4_4 : w3.cell? ⟨gb129, 4, none⟩ = some (.string a0_4) := (blk_cell BK129.out 4).trans rfl; have hfz4_0 := blk_frozen BK129.out 0; have hfz4_1 := blk_frozen BK129.out 1; have hfz4_2 := blk_frozen BK129.out 2; have hfz4_3 := blk_frozen BK129.out 3; have hfz4_4 := blk_frozen BK129.out 4))
  go_ret
  exact ⟨Z4, Z1 GE129.out⟩
 ·rw [if_neg c2] at H
  have c2b0 : (a0_0 == 5) = false := beq_eq_false_iff_ne.mpr c2
  have c2b1 : (a0_0 != 5) = true := bne_iff_ne.mpr c2
  by_cases c5 : a0_0 = 6
  ·rw [if_pos c5] at H
   have c5b0 : (a0_0 == 6) = true := beq_iff_eq.mpr c5
   have c5b1 : (a0_0 != 6) = false := bne_eq_false_iff_eq.mpr c5
   clear c5
   obtain rfl := Option.some.inj H
   go_enter Try.func117, Try.ntmps117
   go_wp2_with (first | ((with_reducible refine gate_dst (N := 1) rfl ?_); refine box_event ?hg (N := 1) ?hd (cs := #[.int .i64 a0_0, .int .i64 a0_1, .int .i64 a0_2, .int .i64 a0_3, .string a0_4]) (t := 137) ?hr ?_; (case hd => rfl); (case hg => rfl); (case hr => exact Z11); intro gb129 hg w6 hbox hb; have n0_ := A_ (below_step Z0 hb); have n1_ := A_ (hbox); have n2_ := A_ ((by rw [hg]; exact (below_size Z0) : w.heap.size ≤ gb129)); have n3_ := A_ ((by rw [hg]; exact (below_size Z0) : w.heap.size ≤ gb129)); clear HB; have HB := n0_; have BK129 := n1_; have GW129 := n2_; have GE129 := n3_; clear n0_ n1_ n2_ n3_; clear hb hbox hg; have hcz7_0 : w6.cell? ⟨gb129, 0, none⟩ = some (.int .i64 a0_0) := (blk_cell BK129.out 0).trans rfl; have hcz7_1 : w6.cell? ⟨gb129, 1, none⟩ = some (.int .i64 a0_1) := (blk_cell BK129.out 1).trans rfl; have hcz7_2 : w6.cell? ⟨gb129, 2, none⟩ = some (.int .i64 a0_2) := (blk_cell BK129.out 2).trans rfl; have hcz7_3 : w6.cell? ⟨gb129, 3, none⟩ = some (.int .i64 a0_3) := (blk_cell BK129.out 3).trans rfl; have hcz7_4 : w6.cell? ⟨gb129, 4, none⟩ = some (.string a0_4) := (blk_cell BK129.out 4).trans rfl; have hfz7_0 := blk_frozen BK129.out 0; have hfz7_1 := blk_frozen BK129.out 1; have hfz7_2 := blk_frozen BK129.out 2; have hfz7_3 := blk_frozen BK129.out 3; have hfz7_4 := blk_frozen BK129.out 4))
   go_ret
   exact ⟨Z4, Z1 GE129.out⟩
  ·rw [if_neg c5] at H
   have c5b0 : (a0_0 == 6) = false := beq_eq_false_iff_ne.mpr c5
   have c5b1 : (a0_0 != 6) = true := bne_iff_ne.mpr c5
   obtain rfl := Option.some.inj H
   go_enter Try.func117, Try.ntmps117
   go_wp2_with (first | ((with_reducible refine gate_dst (N := 1) rfl ?_); refine box_event ?hg (N := 1) ?hd (cs := #[.int .i64 a0_0, .int .i64 a0_1, .int .i64 a0_2, .int .i64 a0_3, .string a0_4]) (t := 137) ?hr ?_; (case hd => rfl); (case hg => rfl); (case hr => exact Z11); intro gb129 hg w8 hbox hb; have n0_ := A_ (below_step Z0 hb); have n1_ := A_ (hbox); have n2_ := A_ ((by rw [hg]; exact (below_size Z0) : w.heap.size ≤ gb129)); have n3_ := A_ ((by rw [hg]; exact (below_size Z0) : w.heap.size ≤ gb129)); clear HB; have HB := n0_; have BK129 := n1_; have GW129 := n2_; have GE129 := n3_; clear n0_ n1_ n2_ n3_; clear hb hbox hg; have hcz9_0 : w8.cell? ⟨gb129, 0, none⟩ = some (.int .i64 a0_0) := (blk_cell BK129.out 0).trans rfl; have hcz9_1 : w8.cell? ⟨gb129, 1, none⟩ = some (.int .i64 a0_1) := (blk_cell BK129.out 1).trans rfl; have hcz9_2 : w8.cell? ⟨gb129, 2, none⟩ = some (.int .i64 a0_2) := (blk_cell BK129.out 2).trans rfl; have hcz9_3 : w8.cell? ⟨gb129, 3, none⟩ = some (.int .i64 a0_3) := (blk_cell BK129.out 3).trans rfl; have hcz9_4 : w8.cell? ⟨gb129, 4, none⟩ = some (.string a0_4) := (blk_cell BK129.out 4).trans rfl; have hfz9_0 := blk_frozen BK129.out 0; have hfz9_1 := blk_frozen BK129.out 1; have hfz9_2 := blk_frozen BK129.out 2; have hfz9_3 := blk_frozen BK129.out 3; have hfz9_4 := blk_frozen BK129.out 4))
   go_ret
   exact ⟨Z4, Z1 GE129.out⟩
def spec_validForm.l0 : Nat → List (S137) → Int → Int → Int → Int → Int → Option (Bool)
 | 0, _, _, _, _, _, _ => none
 | k + 1, x0, x1, x2, x3, x9, x10 => if x10 < (x0.length : Int) then (if 0 ≤ x10 then ((spec_validStep.f k ((rd_T137 x0 x10).f0) ((rd_T137 x0 x10).f1) ((rd_T137 x0 x10).f2.f0) ((rd_T137 x0 x10).f2.f1) ((rd_T137 x0 x10).f2.f2) x1 x2 x3).bind fun t131 => (if t131 = true then ((spec_takes.f ((rd_T137 x0 x10).f0) ((rd_T137 x0 x10).f1) ((rd_T137 x0 x10).f2.f0) ((rd_T137 x0 x10).f2.f1) ((rd_T137 x0 x10).f2.f2)).bind fun t133 => (if x9 < t133 then (some false) else ((spec_takes.f ((rd_T137 x0 x10).f0) ((rd_T137 x0 x10).f1) ((rd_T137 x0 x10).f2.f0) ((rd_T137 x0 x10).f2.f1) ((rd_T137 x0 x10).f2.f2)).bind fun t135 => (spec_validForm.l0 k x0 x1 x2 x3 (wrap64 ((wrap64 (x9 - t135)) + 1)) (wrap64 (x10 + 1)))))) else (some false))) else (none)) else (some (x9 == 1))
def spec_validForm.f (k : Nat) (l0 : List (S137)) (a1 : Int) (a2 : Int) (a3 : Int) : Option (Bool) := if (l0.length : Int) > 9 then (some false) else (spec_validForm.l0 k l0 a1 a2 a3 0 0)
theorem spec_validForm.mono_l : ∀ k, (∀ y0 y1 y2 y3 y4 y5, LeO (spec_validForm.l0 k y0 y1 y2 y3 y4 y5) (spec_validForm.l0 (k + 1) y0 y1 y2 y3 y4 y5))
 | 0 => fun _ _ _ _ _ _ r h => by simp [spec_validForm.l0] at h
 | k + 1 => by
  have ih0 := spec_validForm.mono_l k
  ·intro y0 y1 y2 y3 y4 y5
   unfold spec_validForm.l0
   repeat' first
   | (with_reducible exact ih0 _ _ _ _ _ _)
   | (with_reducible exact spec_validStep.mono _ _ _ _ _ _ _ _ _)
   | (with_reducible exact LeO.refl _)
   | (with_reducible exact LeO.none _)
   | (with_reducible refine LeO.ite ?_ ?_)
   | (with_reducible refine LeO.bind ?_ (fun _ => ?_))
   | exact ih0 _ _ _ _ _ _
   | exact spec_validStep.mono _ _ _ _ _ _ _ _ _
   | exact LeO.none _
   | refine LeO.ite ?_ ?_
   | refine LeO.bind ?_ (fun _ => ?_)
theorem spec_validForm.mono : ∀ a0 a1 a2 a3 k, LeO (spec_validForm.f k a0 a1 a2 a3) (spec_validForm.f (k + 1) a0 a1 a2 a3) := by
 intro a0 a1 a2 a3 k
 have ih0 := spec_validForm.mono_l k
 unfold spec_validForm.f
 repeat' first
   | (with_reducible exact ih0 _ _ _ _ _ _)
   | (with_reducible exact spec_validStep.mono _ _ _ _ _ _ _ _ _)
   | (with_reducible exact LeO.refl _)
   | (with_reducible exact LeO.none _)
   | (with_reducible refine LeO.ite ?_ ?_)
   | (with_reducible refine LeO.bind ?_ (fun _ => ?_))
   | exact ih0 _ _ _ _ _ _
   | exact spec_validStep.mono _ _ _ _ _ _ _ _ _
   | exact LeO.none _
   | refine LeO.ite ?_ ?_
   | refine LeO.bind ?_ (fun _ => ?_)
set_option maxHeartbeats 8000000 in
set_option maxRecDepth 100000 in
theorem spec_validForm.calls (k : Nat) (A0 : Option Addr) (c0 : Nat) (l0 : List (S137)) (a1 : Int) (a2 : Int) (a3 : Int) (r : Bool) (w : World) (hr0 : Kd.C k137 w A0 l0.length l0) (hc0 : l0.length ≤ c0) (h : spec_validForm.f k l0 a1 a2 a3 = some r) :
  Calls Try.prog 112 #[.slice A0 l0.length c0, .int .i64 a1, .int .i64 a2, .int .i64 a3] w fun e w' => e = .returned (.bool r) ∧ Below w.heap.size w w' := by
 have hu137 := Try.underlying137
 have HR0 := A_ hr0
 have HC0 := A_ hc0
 clear hr0 hc0
 have HB := A_ (Below.refl w.heap.size w)
 have H : (if (l0.length : Int) > 9 then (some false) else (spec_validForm.l0 k l0 a1 a2 a3 0 0)) = some r := h
 clear h
 by_cases c5 : (l0.length : Int) > 9
 ·rw [if_pos c5] at H
  have c5b0 : decide (9 < (l0.length : Int)) = true := decide_eq_true c5
  have c5b1 : decide (9 < l0.length) = true := decide_eq_true (by omega)
  clear c5
  obtain rfl := Option.some.inj H
  go_enter Try.func112, Try.ntmps112
  go_wp2
  go_ret
  exact ⟨Z4, Z0⟩
 ·rw [if_neg c5] at H
  have c5b0 : decide (9 < (l0.length : Int)) = false := decide_eq_false c5
  have c5b1 : decide (9 < l0.length) = false := decide_eq_false (by omega)
  clear c5
  have H' := A_ H
  clear H
  go_enter Try.func112, Try.ntmps112
  go_wp2
  go_loopg [9, 10] k (fun kq v9 v10 w' => ∃ (x9_1 : Int) (x10_1 : Int), v9 = .int .i64 x9_1 ∧ v10 = .int .i64 x10_1 ∧ Aside0 (spec_validForm.l0 kq l0 a1 a2 a3 x9_1 x10_1 = some r) ∧ Aside0 (kq ≤ k) ∧ Aside0 (Below w.heap.size w w'))
  case atStart => exact ⟨(0), (0), Z12, Z12, H', ⟨Nat.le_refl _⟩, ⟨Z0⟩⟩
  case round =>
   clear H'
   try clear c1
   try clear p2
   try clear c5
   try clear c5b0
   try clear c5b1
   obtain ⟨x9_1, x10_1, rfl, rfl, HA, HK1, HB⟩ := hrel
   cases gk with
   | zero => exact absurd HA.out (by simp [spec_validForm.l0])
   | succ k1 =>
    have H := HA.out
    clear HA
    simp only [spec_validForm.l0] at H
    by_cases c6 : x10_1 < (l0.length : Int)
    ·rw [if_pos c6] at H
     have c6b0 : decide (x10_1 < (l0.length : Int)) = true := decide_eq_true c6
     clear c6
     by_cases c7 : 0 ≤ x10_1
     ·rw [if_pos c7] at H
      have c7b0 : decide (0 ≤ x10_1) = true := decide_eq_true c7
      clear c7
      replace H := Option.bind_eq_some_iff.mp H
      obtain ⟨t131, A80, H⟩ := H
      replace H : (if t131 = true then ((spec_takes.f ((rd_T137 l0 x10_1).f0) ((rd_T137 l0 x10_1).f1) ((rd_T137 l0 x10_1).f2.f0) ((rd_T137 l0 x10_1).f2.f1) ((rd_T137 l0 x10_1).f2.f2)).bind fun t133 => (if x9_1 < t133 then (some false) else ((spec_takes.f ((rd_T137 l0 x10_1).f0) ((rd_T137 l0 x10_1).f1) ((rd_T137 l0 x10_1).f2.f0) ((rd_T137 l0 x10_1).f2.f1) ((rd_T137 l0 x10_1).f2.f2)).bind fun t135 => (spec_validForm.l0 k1 l0 a1 a2 a3 (wrap64 ((wrap64 (x9_1 - t135)) + 1)) (wrap64 (x10_1 + 1)))))) else (some false)) = some r := H
      have A8 := A_ A80
      clear A80
      by_cases c9 : t131 = true
      ·subst c9
       have H1 : ((spec_takes.f ((rd_T137 l0 x10_1).f0) ((rd_T137 l0 x10_1).f1) ((rd_T137 l0 x10_1).f2.f0) ((rd_T137 l0 x10_1).f2.f1) ((rd_T137 l0 x10_1).f2.f2)).bind fun t133 => (if x9_1 < t133 then (some false) else ((spec_takes.f ((rd_T137 l0 x10_1).f0) ((rd_T137 l0 x10_1).f1) ((rd_T137 l0 x10_1).f2.f0) ((rd_T137 l0 x10_1).f2.f1) ((rd_T137 l0 x10_1).f2.f2)).bind fun t135 => (spec_validForm.l0 k1 l0 a1 a2 a3 (wrap64 ((wrap64 (x9_1 - t135)) + 1)) (wrap64 (x10_1 + 1)))))) = some r := by rw [if_pos rfl] at H; exact H
       clear H
       have H := H1
       clear H1
       replace H := Option.bind_eq_some_iff.mp H
       obtain ⟨t133, A100, H⟩ := H
       replace H : (if x9_1 < t133 then (some false) else ((spec_takes.f ((rd_T137 l0 x10_1).f0) ((rd_T137 l0 x10_1).f1) ((rd_T137 l0 x10_1).f2.f0) ((rd_T137 l0 x10_1).f2.f1) ((rd_T137 l0 x10_1).f2.f2)).bind fun t135 => (spec_validForm.l0 k1 l0 a1 a2 a3 (wrap64 ((wrap64 (x9_1 - t135)) + 1)) (wrap64 (x10_1 + 1))))) = some r := H
       have A10 := A_ A100
       clear A100
       by_cases c11 : x9_1 < t133
       ·rw [if_pos c11] at H
        have c11b0 : decide (x9_1 < t133) = true := decide_eq_true c11
        clear c11
        obtain rfl := Option.some.inj H
        have p130 : 0 ≤ (x10_1 : Int) := of_decide_eq_true Z7
        have q130 : x10_1 < (l0.length : Int) := of_decide_eq_true Z7
        obtain ⟨ad130, e130, hx130_0, hx130_1, hx130_2, hx130_3, hx130_4⟩ := at_T137 HR0.out x10_1 p130 q130
        cases e130
        replace hx130_0 := ZC HB.out hx130_0
        replace hx130_1 := ZC HB.out hx130_1
        replace hx130_2 := ZC HB.out hx130_2
        replace hx130_3 := ZC HB.out hx130_3
        replace hx130_4 := ZC HB.out hx130_4
        replace p130 := eq_true p130
        replace q130 := eq_true q130
        go_wp2_with (first | ((with_reducible refine gate_callee (f := 116) rfl ?_); refine goesL_ (some 27) rfl rfl Try.func116 (by kernel_rfl) rfl #[.agg #[.int .i64 ((rd_T137 l0 x10_1).f0), .int .i64 ((rd_T137 l0 x10_1).f1), .int .i64 ((rd_T137 l0 x10_1).f2.f0), .int .i64 ((rd_T137 l0 x10_1).f2.f1), .string ((rd_T137 l0 x10_1).f2.f2)], .int .i64 a1, .int .i64 a2, .int .i64 a3] rfl Z3 ?_; (with_reducible refine (spec_validStep.calls k1 ((rd_T137 l0 x10_1).f0) ((rd_T137 l0 x10_1).f1) ((rd_T137 l0 x10_1).f2.f0) ((rd_T137 l0 x10_1).f2.f1) ((rd_T137 l0 x10_1).f2.f2) a1 a2 a3 true _ A8.out).mono ?_); rintro e w12 ⟨rfl, hb⟩; refine ⟨_, rfl, ?_⟩; have n0_ := A_ (below_step Z0 hb); clear HB; have HB := n0_; clear n0_; (try clear hb); (try clear hb2); (try clear hk); (try clear hi); have p132 : 0 ≤ (x10_1 : Int) := of_decide_eq_true Z7; have q132 : x10_1 < (l0.length : Int) := of_decide_eq_true Z7; obtain ⟨ad132, e132, hx132_0, hx132_1, hx132_2, hx132_3, hx132_4⟩ := at_T137 HR0.out x10_1 p132 q132; obtain rfl : ad130 = ad132 := (by injection e132); replace hx132_0 := ZC HB.out hx132_0; replace hx132_1 := ZC HB.out hx132_1; replace hx132_2 := ZC HB.out hx132_2; replace hx132_3 := ZC HB.out hx132_3; replace hx132_4 := ZC HB.out hx132_4; replace p132 := eq_true p132; replace q132 := eq_true q132) | (go_at_call 117; (with_reducible refine (spec_takes.calls ((rd_T137 l0 x10_1).f0) ((rd_T137 l0 x10_1).f1) ((rd_T137 l0 x10_1).f2.f0) ((rd_T137 l0 x10_1).f2.f1) ((rd_T137 l0 x10_1).f2.f2) t133 _ A10.out).mono ?_); rintro e w13 ⟨rfl, hb⟩; have n0_ := A_ (below_step Z0 hb); clear HB; have HB := n0_; clear n0_; (try clear hb); (try clear hb2); (try clear hk); (try clear hi)))
        go_ret
        exact ⟨Z4, Z0⟩
       ·rw [if_neg c11] at H
        have c11b0 : decide (x9_1 < t133) = false := decide_eq_false c11
        clear c11
        replace H := Option.bind_eq_some_iff.mp H
        obtain ⟨t135, A140, H⟩ := H
        replace H : (spec_validForm.l0 k1 l0 a1 a2 a3 (wrap64 ((wrap64 (x9_1 - t135)) + 1)) (wrap64 (x10_1 + 1))) = some r := H
        have A14 := A_ A140
        clear A140
        have H' := A_ H
        clear H
        have p130 : 0 ≤ (x10_1 : Int) := of_decide_eq_true Z7
        have q130 : x10_1 < (l0.length : Int) := of_decide_eq_true Z7
        obtain ⟨ad130, e130, hx130_0, hx130_1, hx130_2, hx130_3, hx130_4⟩ := at_T137 HR0.out x10_1 p130 q130
        cases e130
        replace hx130_0 := ZC HB.out hx130_0
        replace hx130_1 := ZC HB.out hx130_1
        replace hx130_2 := ZC HB.out hx130_2
        replace hx130_3 := ZC HB.out hx130_3
        replace hx130_4 := ZC HB.out hx130_4
        replace p130 := eq_true p130
        replace q130 := eq_true q130
        go_wp2_with (first | ((with_reducible refine gate_callee (f := 116) rfl ?_); refine goesL_ (some 27) rfl rfl Try.func116 (by kernel_rfl) rfl #[.agg #[.int .i64 ((rd_T137 l0 x10_1).f0), .int .i64 ((rd_T137 l0 x10_1).f1), .int .i64 ((rd_T137 l0 x10_1).f2.f0), .int .i64 ((rd_T137 l0 x10_1).f2.f1), .string ((rd_T137 l0 x10_1).f2.f2)], .int .i64 a1, .int .i64 a2, .int .i64 a3] rfl Z3 ?_; (with_reducible refine (spec_validStep.calls k1 ((rd_T137 l0 x10_1).f0) ((rd_T137 l0 x10_1).f1) ((rd_T137 l0 x10_1).f2.f0) ((rd_T137 l0 x10_1).f2.f1) ((rd_T137 l0 x10_1).f2.f2) a1 a2 a3 true _ A8.out).mono ?_); rintro e w15 ⟨rfl, hb⟩; refine ⟨_, rfl, ?_⟩; have n0_ := A_ (below_step Z0 hb); clear HB; have HB := n0_; clear n0_; (try clear hb); (try clear hb2); (try clear hk); (try clear hi); have p132 : 0 ≤ (x10_1 : Int) := of_decide_eq_true Z7; have q132 : x10_1 < (l0.length : Int) := of_decide_eq_true Z7; obtain ⟨ad132, e132, hx132_0, hx132_1, hx132_2, hx132_3, hx132_4⟩ := at_T137 HR0.out x10_1 p132 q132; obtain rfl : ad130 = ad132 := (by injection e132); replace hx132_0 := ZC HB.out hx132_0; replace hx132_1 := ZC HB.out hx132_1; replace hx132_2 := ZC HB.out hx132_2; replace hx132_3 := ZC HB.out hx132_3; replace hx132_4 := ZC HB.out hx132_4; replace p132 := eq_true p132; replace q132 := eq_true q132) | (go_at_call 117; (with_reducible refine (spec_takes.calls ((rd_T137 l0 x10_1).f0) ((rd_T137 l0 x10_1).f1) ((rd_T137 l0 x10_1).f2.f0) ((rd_T137 l0 x10_1).f2.f1) ((rd_T137 l0 x10_1).f2.f2) t133 _ A10.out).mono ?_); rintro e w16 ⟨rfl, hb⟩; have n0_ := A_ (below_step Z0 hb); clear HB; have HB := n0_; clear n0_; (try clear hb); (try clear hb2); (try clear hk); (try clear hi); have p134 : 0 ≤ (x10_1 : Int) := of_decide_eq_true Z7; have q134 : x10_1 < (l0.length : Int) := of_decide_eq_true Z7; obtain ⟨ad134, e134, hx134_0, hx134_1, hx134_2, hx134_3, hx134_4⟩ := at_T137 HR0.out x10_1 p134 q134; obtain rfl : ad130 = ad134 := (by injection e134); replace hx134_0 := ZC HB.out hx134_0; replace hx134_1 := ZC HB.out hx134_1; replace hx134_2 := ZC HB.out hx134_2; replace hx134_3 := ZC HB.out hx134_3; replace hx134_4 := ZC HB.out hx134_4; replace p134 := eq_true p134; replace q134 := eq_true q134) | ((with_reducible refine gate_callee (f := 117) rfl ?_); refine goesL_ (some 43) rfl rfl Try.func117 (by kernel_rfl) rfl #[.agg #[.int .i64 ((rd_T137 l0 x10_1).f0), .int .i64 ((rd_T137 l0 x10_1).f1), .int .i64 ((rd_T137 l0 x10_1).f2.f0), .int .i64 ((rd_T137 l0 x10_1).f2.f1), .string ((rd_T137 l0 x10_1).f2.f2)]] rfl Z3 ?_; (with_reducible refine (spec_takes.calls ((rd_T137 l0 x10_1).f0) ((rd_T137 l0 x10_1).f1) ((rd_T137 l0 x10_1).f2.f0) ((rd_T137 l0 x10_1).f2.f1) ((rd_T137 l0 x10_1).f2.f2) t135 _ A14.out).mono ?_); rintro e w17 ⟨rfl, hb⟩; refine ⟨_, rfl, ?_⟩; have n0_ := A_ (below_step Z0 hb); clear HB; have HB := n0_; clear n0_; (try clear hb); (try clear hb2); (try clear hk); (try clear hi)))
        go_roundg k1
        case measure => have := HK1.out; omega
        case rel => exact ⟨(wrap64 ((wrap64 (x9_1 - t135)) + 1)), (wrap64 (x10_1 + 1)), Z12, Z12, H', ⟨by have := HK1.out; omega⟩, ⟨Z0⟩⟩
      ·replace c9 := Bool.eq_false_iff.mpr c9
       subst c9
       have H1 : (some false) = some r := by rw [if_neg (show ¬ (false = true) by decide)] at H; exact H
       clear H
       have H := H1
       clear H1
       obtain rfl := Option.some.inj H
       have p130 : 0 ≤ (x10_1 : Int) := of_decide_eq_true Z7
       have q130 : x10_1 < (l0.length : Int) := of_decide_eq_true Z7
       obtain ⟨ad130, e130, hx130_0, hx130_1, hx130_2, hx130_3, hx130_4⟩ := at_T137 HR0.out x10_1 p130 q130
       cases e130
       replace hx130_0 := ZC HB.out hx130_0
       replace hx130_1 := ZC HB.out hx130_1
       replace hx130_2 := ZC HB.out hx130_2
       replace hx130_3 := ZC HB.out hx130_3
       replace hx130_4 := ZC HB.out hx130_4
       replace p130 := eq_true p130
       replace q130 := eq_true q130
       go_wp2_with (first | ((with_reducible refine gate_callee (f := 116) rfl ?_); refine goesL_ (some 27) rfl rfl Try.func116 (by kernel_rfl) rfl #[.agg #[.int .i64 ((rd_T137 l0 x10_1).f0), .int .i64 ((rd_T137 l0 x10_1).f1), .int .i64 ((rd_T137 l0 x10_1).f2.f0), .int .i64 ((rd_T137 l0 x10_1).f2.f1), .string ((rd_T137 l0 x10_1).f2.f2)], .int .i64 a1, .int .i64 a2, .int .i64 a3] rfl Z3 ?_; (with_reducible refine (spec_validStep.calls k1 ((rd_T137 l0 x10_1).f0) ((rd_T137 l0 x10_1).f1) ((rd_T137 l0 x10_1).f2.f0) ((rd_T137 l0 x10_1).f2.f1) ((rd_T137 l0 x10_1).f2.f2) a1 a2 a3 false _ A8.out).mono ?_); rintro e w18 ⟨rfl, hb⟩; refine ⟨_, rfl, ?_⟩; have n0_ := A_ (below_step Z0 hb); clear HB; have HB := n0_; clear n0_; (try clear hb); (try clear hb2); (try clear hk); (try clear hi)))
       go_ret
       exact ⟨Z4, Z0⟩
     ·rw [if_neg c7] at H
      exact absurd H (by simp)
    ·rw [if_neg c6] at H
     have c6b0 : decide (x10_1 < (l0.length : Int)) = false := decide_eq_false c6
     clear c6
     obtain rfl := Option.some.inj H
     go_wp2
     go_ret
     exact ⟨Z4, Z0⟩
def spec_validUpdate.f (k : Nat) (l0_0 : List (S92)) (a0_1 : Int) (l0_2 : List (S137)) (a0_3 : Int) : Option (Bool) := (spec_validPlace.f k l0_0).bind fun t137 => (if t137 = true then ((spec_inRange.f a0_1 0 2).bind fun t138 => (if t138 = true then ((spec_inRange.f a0_3 (-1) 2).bind fun t139 => (if t139 = true then ((spec_validForm.f k l0_2 0 3 0).bind fun t140 => (some t140)) else (some false))) else (some false))) else (some false))
theorem spec_validUpdate.mono : ∀ a0 a1 a2 a3 k, LeO (spec_validUpdate.f k a0 a1 a2 a3) (spec_validUpdate.f (k + 1) a0 a1 a2 a3) := by
 intro a0 a1 a2 a3 k
 unfold spec_validUpdate.f
 repeat' first
   | (with_reducible exact spec_validForm.mono _ _ _ _ _)
   | (with_reducible exact spec_validPlace.mono _ _)
   | (with_reducible exact LeO.refl _)
   | (with_reducible exact LeO.none _)
   | (with_reducible refine LeO.ite ?_ ?_)
   | (with_reducible refine LeO.bind ?_ (fun _ => ?_))
   | exact spec_validForm.mono _ _ _ _ _
   | exact spec_validPlace.mono _ _
   | exact LeO.none _
   | refine LeO.ite ?_ ?_
   | refine LeO.bind ?_ (fun _ => ?_)
set_option maxHeartbeats 8000000 in
set_option maxRecDepth 100000 in
theorem spec_validUpdate.calls (k : Nat) (A0_0 : Option Addr) (c0_0 : Nat) (l0_0 : List (S92)) (a0_1 : Int) (A0_2 : Option Addr) (c0_2 : Nat) (l0_2 : List (S137)) (a0_3 : Int) (r : Bool) (w : World) (hr0_0 : Kd.C k92 w A0_0 l0_0.length l0_0) (hc0_0 : l0_0.length ≤ c0_0) (hr0_2 : Kd.C k137 w A0_2 l0_2.length l0_2) (hc0_2 : l0_2.length ≤ c0_2) (h : spec_validUpdate.f k l0_0 a0_1 l0_2 a0_3 = some r) :
  Calls Try.prog 105 #[.agg #[.slice A0_0 l0_0.length c0_0, .int .i64 a0_1, .slice A0_2 l0_2.length c0_2, .int .i64 a0_3]] w fun e w' => e = .returned (.bool r) ∧ Below w.heap.size w w' := by
 have hu120 := Try.underlying120
 have HR0_0 := A_ hr0_0
 have HC0_0 := A_ hc0_0
 clear hr0_0 hc0_0
 have HR0_2 := A_ hr0_2
 have HC0_2 := A_ hc0_2
 clear hr0_2 hc0_2
 have HB := A_ (Below.refl w.heap.size w)
 have H : ((spec_validPlace.f k l0_0).bind fun t137 => (if t137 = true then ((spec_inRange.f a0_1 0 2).bind fun t138 => (if t138 = true then ((spec_inRange.f a0_3 (-1) 2).bind fun t139 => (if t139 = true then ((spec_validForm.f k l0_2 0 3 0).bind fun t140 => (some t140)) else (some false))) else (some false))) else (some false))) = some r := h
 clear h
 replace H := Option.bind_eq_some_iff.mp H
 obtain ⟨t137, A20, H⟩ := H
 replace H : (if t137 = true then ((spec_inRange.f a0_1 0 2).bind fun t138 => (if t138 = true then ((spec_inRange.f a0_3 (-1) 2).bind fun t139 => (if t139 = true then ((spec_validForm.f k l0_2 0 3 0).bind fun t140 => (some t140)) else (some false))) else (some false))) else (some false)) = some r := H
 have A2 := A_ A20
 clear A20
 by_cases c3 : t137 = true
 ·subst c3
  have H1 : ((spec_inRange.f a0_1 0 2).bind fun t138 => (if t138 = true then ((spec_inRange.f a0_3 (-1) 2).bind fun t139 => (if t139 = true then ((spec_validForm.f k l0_2 0 3 0).bind fun t140 => (some t140)) else (some false))) else (some false))) = some r := by rw [if_pos rfl] at H; exact H
  clear H
  have H := H1
  clear H1
  replace H := Option.bind_eq_some_iff.mp H
  obtain ⟨t138, A40, H⟩ := H
  replace H : (if t138 = true then ((spec_inRange.f a0_3 (-1) 2).bind fun t139 => (if t139 = true then ((spec_validForm.f k l0_2 0 3 0).bind fun t140 => (some t140)) else (some false))) else (some false)) = some r := H
  have A4 := A_ A40
  clear A40
  by_cases c5 : t138 = true
  ·subst c5
   have H1 : ((spec_inRange.f a0_3 (-1) 2).bind fun t139 => (if t139 = true then ((spec_validForm.f k l0_2 0 3 0).bind fun t140 => (some t140)) else (some false))) = some r := by rw [if_pos rfl] at H; exact H
   clear H
   have H := H1
   clear H1
   replace H := Option.bind_eq_some_iff.mp H
   obtain ⟨t139, A60, H⟩ := H
   replace H : (if t139 = true then ((spec_validForm.f k l0_2 0 3 0).bind fun t140 => (some t140)) else (some false)) = some r := H
   have A6 := A_ A60
   clear A60
   by_cases c7 : t139 = true
   ·subst c7
    have H1 : ((spec_validForm.f k l0_2 0 3 0).bind fun t140 => (some t140)) = some r := by rw [if_pos rfl] at H; exact H
    clear H
    have H := H1
    clear H1
    replace H := Option.bind_eq_some_iff.mp H
    obtain ⟨t140, A80, H⟩ := H
    replace H : (some t140) = some r := H
    have A8 := A_ A80
    clear A80
    obtain rfl := Option.some.inj H
    go_enter Try.func105, Try.ntmps105
    go_wp2_with (first | ((with_reducible refine gate_dst (N := 1) rfl ?_); refine box_event ?hg (N := 1) ?hd (cs := #[.slice A0_0 l0_0.length c0_0, .int .i64 a0_1, .slice A0_2 l0_2.length c0_2, .int .i64 a0_3]) (t := 120) ?hr ?_; (case hd => rfl); (case hg => rfl); (case hr => exact Z11); intro gb136 hg w9 hbox hb; have n0_ := A_ (below_step Z0 hb); have n1_ := A_ (hbox); have n2_ := A_ ((by rw [hg]; exact (below_size Z0) : w.heap.size ≤ gb136)); have n3_ := A_ ((by rw [hg]; exact (below_size Z0) : w.heap.size ≤ gb136)); clear HB; have HB := n0_; have BK136 := n1_; have GW136 := n2_; have GE136 := n3_; clear n0_ n1_ n2_ n3_; clear hb hbox hg; have hcz10_0 : w9.cell? ⟨gb136, 0, none⟩ = some (.slice A0_0 l0_0.length c0_0) := (blk_cell BK136.out 0).trans rfl; have hcz10_1 : w9.cell? ⟨gb136, 1, none⟩ = some (.int .i64 a0_1) := (blk_cell BK136.out 1).trans rfl; have hcz10_2 : w9.cell? ⟨gb136, 2, none⟩ = some (.slice A0_2 l0_2.length c0_2) := (blk_cell BK136.out 2).trans rfl; have hcz10_3 : w9.cell? ⟨gb136, 3, none⟩ = some (.int .i64 a0_3) := (blk_cell BK136.out 3).trans rfl; have hfz10_0 := blk_frozen BK136.out 0; have hfz10_1 := blk_frozen BK136.out 1; have hfz10_2 := blk_frozen BK136.out 2; have hfz10_3 := blk_frozen BK136.out 3) | ((with_reducible refine gate_callee (f := 49) rfl ?_); refine goesL_ (some 5) rfl rfl Try.func49 (by kernel_rfl) rfl #[.slice A0_0 l0_0.length c0_0] rfl Z3 ?_; (with_reducible refine (spec_validPlace.calls k _ _ l0_0 true _ ?side1 ?side2 A2.out).mono ?_); (case side1 => exact Z6 HR0_0.out); (case side2 => exact HC0_0.out); rintro e w11 ⟨rfl, hb⟩; refine ⟨_, rfl, ?_⟩; have n0_ := A_ (blk_below (g := gb136) (o := .cells #[.slice A0_0 l0_0.length c0_0, .int .i64 a0_1, .slice A0_2 l0_2.length c0_2, .int .i64 a0_3] 120 (0, 0)) (Z2 BK136.out) hb); have n1_ := A_ (below_step (Z1 GE136.out) hb); clear BK136; clear HB; have BK136 := n0_; have HB := n1_; clear n0_ n1_; (try clear hb); (try clear hb2); (try clear hk); (try clear hi); have hcz12_0 : w11.cell? ⟨gb136, 0, none⟩ = some (.slice A0_0 l0_0.length c0_0) := (blk_cell BK136.out 0).trans rfl; have hcz12_1 : w11.cell? ⟨gb136, 1, none⟩ = some (.int .i64 a0_1) := (blk_cell BK136.out 1).trans rfl; have hcz12_2 : w11.cell? ⟨gb136, 2, none⟩ = some (.slice A0_2 l0_2.length c0_2) := (blk_cell BK136.out 2).trans rfl; have hcz12_3 : w11.cell? ⟨gb136, 3, none⟩ = some (.int .i64 a0_3) := (blk_cell BK136.out 3).trans rfl; have hfz12_0 := blk_frozen BK136.out 0; have hfz12_1 := blk_frozen BK136.out 1; have hfz12_2 := blk_frozen BK136.out 2; have hfz12_3 := blk_frozen BK136.out 3) | (go_at_call 50; (with_reducible refine (spec_inRange.calls a0_1 0 2 true _ A4.out).mono ?_); rintro e w' ⟨rfl, ⟨nd, rfl⟩⟩) | (go_at_call 50; (with_reducible refine (spec_inRange.calls a0_3 (-1) 2 true _ A6.out).mono ?_); rintro e w' ⟨rfl, ⟨nd, rfl⟩⟩) | (go_at_call 112; (with_reducible refine (spec_validForm.calls k _ _ l0_2 0 3 0 t140 _ ?side1 ?side2 A8.out).mono ?_); (case side1 => exact Z44 HR0_2.out GE136.out); (case side2 => exact HC0_2.out); rintro e w13 ⟨rfl, hb⟩; have n0_ := A_ (blk_below (g := gb136) (o := .cells #[.slice A0_0 l0_0.length c0_0, .int .i64 a0_1, .slice A0_2 l0_2.length c0_2, .int .i64 a0_3] 120 (0, 0)) (Z2 BK136.out) hb); have n1_ := A_ (below_step (Z1 GE136.out) hb); clear BK136; clear HB; have BK136 := n0_; have HB := n1_; clear n0_ n1_; (try clear hb); (try clear hb2); (try clear hk); (try clear hi)))
    go_ret
    exact ⟨Z4, Z1 GE136.out⟩
   ·replace c7 := Bool.eq_false_iff.mpr c7
    subst c7
    have H1 : (some false) = some r := by rw [if_neg (show ¬ (false = true) by decide)] at H; exact H
    clear H
    have H := H1
    clear H1
    obtain rfl := Option.some.inj H
    go_enter Try.func105, Try.ntmps105
    go_wp2_with (first | ((with_reducible refine gate_dst (N := 1) rfl ?_); refine box_event ?hg (N := 1) ?hd (cs := #[.slice A0_0 l0_0.length c0_0, .int .i64 a0_1, .slice A0_2 l0_2.length c0_2, .int .i64 a0_3]) (t := 120) ?hr ?_; (case hd => rfl); (case hg => rfl); (case hr => exact Z11); intro gb136 hg w14 hbox hb; have n0_ := A_ (below_step Z0 hb); have n1_ := A_ (hbox); have n2_ := A_ ((by rw [hg]; exact (below_size Z0) : w.heap.size ≤ gb136)); have n3_ := A_ ((by rw [hg]; exact (below_size Z0) : w.heap.size ≤ gb136)); clear HB; have HB := n0_; have BK136 := n1_; have GW136 := n2_; have GE136 := n3_; clear n0_ n1_ n2_ n3_; clear hb hbox hg; have hcz15_0 : w14.cell? ⟨gb136, 0, none⟩ = some (.slice A0_0 l0_0.length c0_0) := (blk_cell BK136.out 0).trans rfl; have hcz15_1 : w14.cell? ⟨gb136, 1, none⟩ = some (.int .i64 a0_1) := (blk_cell BK136.out 1).trans rfl; have hcz15_2 : w14.cell? ⟨gb136, 2, none⟩ = some (.slice A0_2 l0_2.length c0_2) := (blk_cell BK136.out 2).trans rfl; have hcz15_3 : w14.cell? ⟨gb136, 3, none⟩ = some (.int .i64 a0_3) := (blk_cell BK136.out 3).trans rfl; have hfz15_0 := blk_frozen BK136.out 0; have hfz15_1 := blk_frozen BK136.out 1; have hfz15_2 := blk_frozen BK136.out 2; have hfz15_3 := blk_frozen BK136.out 3) | ((with_reducible refine gate_callee (f := 49) rfl ?_); refine goesL_ (some 5) rfl rfl Try.func49 (by kernel_rfl) rfl #[.slice A0_0 l0_0.length c0_0] rfl Z3 ?_; (with_reducible refine (spec_validPlace.calls k _ _ l0_0 true _ ?side1 ?side2 A2.out).mono ?_); (case side1 => exact Z6 HR0_0.out); (case side2 => exact HC0_0.out); rintro e w16 ⟨rfl, hb⟩; refine ⟨_, rfl, ?_⟩; have n0_ := A_ (blk_below (g := gb136) (o := .cells #[.slice A0_0 l0_0.length c0_0, .int .i64 a0_1, .slice A0_2 l0_2.length c0_2, .int .i64 a0_3] 120 (0, 0)) (Z2 BK136.out) hb); have n1_ := A_ (below_step (Z1 GE136.out) hb); clear BK136; clear HB; have BK136 := n0_; have HB := n1_; clear n0_ n1_; (try clear hb); (try clear hb2); (try clear hk); (try clear hi); have hcz17_0 : w16.cell? ⟨gb136, 0, none⟩ = some (.slice A0_0 l0_0.length c0_0) := (blk_cell BK136.out 0).trans rfl; have hcz17_1 : w16.cell? ⟨gb136, 1, none⟩ = some (.int .i64 a0_1) := (blk_cell BK136.out 1).trans rfl; have hcz17_2 : w16.cell? ⟨gb136, 2, none⟩ = some (.slice A0_2 l0_2.length c0_2) := (blk_cell BK136.out 2).trans rfl; have hcz17_3 : w16.cell? ⟨gb136, 3, none⟩ = some (.int .i64 a0_3) := (blk_cell BK136.out 3).trans rfl; have hfz17_0 := blk_frozen BK136.out 0; have hfz17_1 := blk_frozen BK136.out 1; have hfz17_2 := blk_frozen BK136.out 2; have hfz17_3 := blk_frozen BK136.out 3) | (go_at_call 50; (with_reducible refine (spec_inRange.calls a0_1 0 2 true _ A4.out).mono ?_); rintro e w' ⟨rfl, ⟨nd, rfl⟩⟩) | (go_at_call 50; (with_reducible refine (spec_inRange.calls a0_3 (-1) 2 false _ A6.out).mono ?_); rintro e w' ⟨rfl, ⟨nd, rfl⟩⟩))
    go_ret
    exact ⟨Z4, Z1 GE136.out⟩
  ·replace c5 := Bool.eq_false_iff.mpr c5
   subst c5
   have H1 : (some false) = some r := by rw [if_neg (show ¬ (false = true) by decide)] at H; exact H
   clear H
   have H := H1
   clear H1
   obtain rfl := Option.some.inj H
   go_enter Try.func105, Try.ntmps105
   go_wp2_with (first | ((with_reducible refine gate_dst (N := 1) rfl ?_); refine box_event ?hg (N := 1) ?hd (cs := #[.slice A0_0 l0_0.length c0_0, .int .i64 a0_1, .slice A0_2 l0_2.length c0_2, .int .i64 a0_3]) (t := 120) ?hr ?_; (case hd => rfl); (case hg => rfl); (case hr => exact Z11); intro gb136 hg w18 hbox hb; have n0_ := A_ (below_step Z0 hb); have n1_ := A_ (hbox); have n2_ := A_ ((by rw [hg]; exact (below_size Z0) : w.heap.size ≤ gb136)); have n3_ := A_ ((by rw [hg]; exact (below_size Z0) : w.heap.size ≤ gb136)); clear HB; have HB := n0_; have BK136 := n1_; have GW136 := n2_; have GE136 := n3_; clear n0_ n1_ n2_ n3_; clear hb hbox hg; have hcz19_0 : w18.cell? ⟨gb136, 0, none⟩ = some (.slice A0_0 l0_0.length c0_0) := (blk_cell BK136.out 0).trans rfl; have hcz19_1 : w18.cell? ⟨gb136, 1, none⟩ = some (.int .i64 a0_1) := (blk_cell BK136.out 1).trans rfl; have hcz19_2 : w18.cell? ⟨gb136, 2, none⟩ = some (.slice A0_2 l0_2.length c0_2) := (blk_cell BK136.out 2).trans rfl; have hcz19_3 : w18.cell? ⟨gb136, 3, none⟩ = some (.int .i64 a0_3) := (blk_cell BK136.out 3).trans rfl; have hfz19_0 := blk_frozen BK136.out 0; have hfz19_1 := blk_frozen BK136.out 1; have hfz19_2 := blk_frozen BK136.out 2; have hfz19_3 := blk_frozen BK136.out 3) | ((with_reducible refine gate_callee (f := 49) rfl ?_); refine goesL_ (some 5) rfl rfl Try.func49 (by kernel_rfl) rfl #[.slice A0_0 l0_0.length c0_0] rfl Z3 ?_; (with_reducible refine (spec_validPlace.calls k _ _ l0_0 true _ ?side1 ?side2 A2.out).mono ?_); (case side1 => exact Z6 HR0_0.out); (case side2 => exact HC0_0.out); rintro e w20 ⟨rfl, hb⟩; refine ⟨_, rfl, ?_⟩; have n0_ := A_ (blk_below (g := gb136) (o := .cells #[.slice A0_0 l0_0.length c0_0, .int .i64 a0_1, .slice A0_2 l0_2.length c0_2, .int .i64 a0_3] 120 (0, 0)) (Z2 BK136.out) hb); have n1_ := A_ (below_step (Z1 GE136.out) hb); clear BK136; clear HB; have BK136 := n0_; have HB := n1_; clear n0_ n1_; (try clear hb); (try clear hb2); (try clear hk); (try clear hi); have hcz21_0 : w20.cell? ⟨gb136, 0, none⟩ = some (.slice A0_0 l0_0.length c0_0) := (blk_cell BK136.out 0).trans rfl; have hcz21_1 : w20.cell? ⟨gb136, 1, none⟩ = some (.int .i64 a0_1) := (blk_cell BK136.out 1).trans rfl; have hcz21_2 : w20.cell? ⟨gb136, 2, none⟩ = some (.slice A0_2 l0_2.length c0_2) := (blk_cell BK136.out 2).trans rfl; have hcz21_3 : w20.cell? ⟨gb136, 3, none⟩ = some (.int .i64 a0_3) := (blk_cell BK136.out 3).trans rfl; have hfz21_0 := blk_frozen BK136.out 0; have hfz21_1 := blk_frozen BK136.out 1; have hfz21_2 := blk_frozen BK136.out 2; have hfz21_3 := blk_frozen BK136.out 3) | (go_at_call 50; (with_reducible refine (spec_inRange.calls a0_1 0 2 false _ A4.out).mono ?_); rintro e w' ⟨rfl, ⟨nd, rfl⟩⟩))
   go_ret
   exact ⟨Z4, Z1 GE136.out⟩
 ·replace c3 := Bool.eq_false_iff.mpr c3
  subst c3
  have H1 : (some false) = some r := by rw [if_neg (show ¬ (false = true) by decide)] at H; exact H
  clear H
  have H := H1
  clear H1
  obtain rfl := Option.some.inj H
  go_enter Try.func105, Try.ntmps105
  go_wp2_with (first | ((with_reducible refine gate_dst (N := 1) rfl ?_); refine box_event ?hg (N := 1) ?hd (cs := #[.slice A0_0 l0_0.length c0_0, .int .i64 a0_1, .slice A0_2 l0_2.length c0_2, .int .i64 a0_3]) (t := 120) ?hr ?_; (case hd => rfl); (case hg => rfl); (case hr => exact Z11); intro gb136 hg w22 hbox hb; have n0_ := A_ (below_step Z0 hb); have n1_ := A_ (hbox); have n2_ := A_ ((by rw [hg]; exact (below_size Z0) : w.heap.size ≤ gb136)); have n3_ := A_ ((by rw [hg]; exact (below_size Z0) : w.heap.size ≤ gb136)); clear HB; have HB := n0_; have BK136 := n1_; have GW136 := n2_; have GE136 := n3_; clear n0_ n1_ n2_ n3_; clear hb hbox hg; have hcz23_0 : w22.cell? ⟨gb136, 0, none⟩ = some (.slice A0_0 l0_0.length c0_0) := (blk_cell BK136.out 0).trans rfl; have hcz23_1 : w22.cell? ⟨gb136, 1, none⟩ = some (.int .i64 a0_1) := (blk_cell BK136.out 1).trans rfl; have hcz23_2 : w22.cell? ⟨gb136, 2, none⟩ = some (.slice A0_2 l0_2.length c0_2) := (blk_cell BK136.out 2).trans rfl; have hcz23_3 : w22.cell? ⟨gb136, 3, none⟩ = some (.int .i64 a0_3) := (blk_cell BK136.out 3).trans rfl; have hfz23_0 := blk_frozen BK136.out 0; have hfz23_1 := blk_frozen BK136.out 1; have hfz23_2 := blk_frozen BK136.out 2; have hfz23_3 := blk_frozen BK136.out 3) | ((with_reducible refine gate_callee (f := 49) rfl ?_); refine goesL_ (some 5) rfl rfl Try.func49 (by kernel_rfl) rfl #[.slice A0_0 l0_0.length c0_0] rfl Z3 ?_; (with_reducible refine (spec_validPlace.calls k _ _ l0_0 false _ ?side1 ?side2 A2.out).mono ?_); (case side1 => exact Z6 HR0_0.out); (case side2 => exact HC0_0.out); rintro e w24 ⟨rfl, hb⟩; refine ⟨_, rfl, ?_⟩; have n0_ := A_ (blk_below (g := gb136) (o := .cells #[.slice A0_0 l0_0.length c0_0, .int .i64 a0_1, .slice A0_2 l0_2.length c0_2, .int .i64 a0_3] 120 (0, 0)) (Z2 BK136.out) hb); have n1_ := A_ (below_step (Z1 GE136.out) hb); clear BK136; clear HB; have BK136 := n0_; have HB := n1_; clear n0_ n1_; (try clear hb); (try clear hb2); (try clear hk); (try clear hi)))
  go_ret
  exact ⟨Z4, Z1 GE136.out⟩
end Go.Proofs.Ytpadhphdglbciaa.PFnExactTurnsCut
