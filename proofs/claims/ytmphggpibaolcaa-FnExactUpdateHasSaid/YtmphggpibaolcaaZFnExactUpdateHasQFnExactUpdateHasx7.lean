/- Walks of the functions that the law 'FnExactUpdateHas' reaches, part 7: for each a Lean function and the proof that Go's comes to just its answer (lines of the print, under own names; no condition). -/
import Derived.Test.YtmphggpibaolcaaZFnExactUpdateHasQFnExactUpdateHasx0
import Derived.Test.YtmphggpibaolcaaZFnExactUpdateHasQFnExactUpdateHasx2
import Derived.Test.YtmphggpibaolcaaZFnExactUpdateHasQFnExactUpdateHasx3
import Derived.Test.YtmphggpibaolcaaZFnExactUpdateHasQFnExactUpdateHasx4
import Derived.Test.YtmphggpibaolcaaZFnExactUpdateHasQFnExactUpdateHasx5
namespace Go.Proofs.Ytmphggpibaolcaa.PFnExactUpdateHas
open Go.RowKit Go.Proofs.YtmphggpibaolcaaW.PrintWords Go.Proofs.YtmphggpibaolcaaW.PrintLast Go.Proofs.YtmphggpibaolcaaW.PrintMore
attribute [local go_sem] max2_int min2_int max_two min_two max_three min_three max_four min_four
set_option linter.unusedVariables false
set_option linter.unusedSimpArgs false
attribute [local go_sem high] eqA124
def spec_validStep.f (k : Nat) (a0_0 : Int) (a0_1 : Int) (a0_2 : Int) (a0_3 : Int) (a0_4 : ByteArray) (a1 : Int) (a2 : Int) (a3 : Int) : Option (Bool) := if a0_0 = 0 then (if a0_1 = 0 then ((spec_validValue.f k a0_2 a0_3 a0_4).bind fun t144 => (some t144)) else (some false)) else (if a0_0 = 1 then ((spec_inRange.f a0_1 0 (wrap64 (a1 - 1))).bind fun t145 => (if t145 = true then (some (a0_2 == 0 && (a0_3 == 0 && (a0_4.toList == ([] : List UInt8))))) else (some false))) else (if a0_0 = 2 then ((spec_inRange.f a0_1 0 (wrap64 (a2 - 1))).bind fun t146 => (if t146 = true then (some (a0_2 == 0 && (a0_3 == 0 && (a0_4.toList == ([] : List UInt8))))) else (some false))) else (if a0_0 = 3 then ((spec_inRange.f a0_1 0 (wrap64 (a3 - 1))).bind fun t147 => (if t147 = true then (some (a0_2 == 0 && (a0_3 == 0 && (a0_4.toList == ([] : List UInt8))))) else (some false))) else (if a0_0 = 4 then ((spec_inRange.f a0_1 0 1).bind fun t148 => (if t148 = true then (some (a0_2 == 0 && (a0_3 == 0 && (a0_4.toList == ([] : List UInt8))))) else (some false))) else (if a0_0 = 5 then ((spec_inRange.f a0_1 0 6).bind fun t149 => (if t149 = true then (some (a0_2 == 0 && (a0_3 == 0 && (a0_4.toList == ([] : List UInt8))))) else (some false))) else (if a0_0 = 6 then (if a0_1 = 0 then (some (a0_2 == 0 && (a0_3 == 0 && (a0_4.toList == ([] : List UInt8))))) else (some false)) else (some false)))))))
theorem spec_validStep.mono : ∀ a0 a1 a2 a3 a4 a5 a6 a7 k, LeO (spec_validStep.f k a0 a1 a2 a3 a4 a5 a6 a7) (spec_validStep.f (k + 1) a0 a1 a2 a3 a4 a5 a6 a7) := by
 intro a0 a1 a2 a3 a4 a5 a6 a7 k
 unfold spec_validStep.f
 repeat' first
   | (with_reducible exact spec_validValue.mono _ _ _ _)
   | (with_reducible exact LeO.refl _)
   | (with_reducible exact LeO.none _)
   | (with_reducible refine LeO.ite ?_ ?_)
   | (with_reducible refine LeO.bind ?_ (fun _ => ?_))
   | exact spec_validValue.mono _ _ _ _
   | exact LeO.none _
   | refine LeO.ite ?_ ?_
   | refine LeO.bind ?_ (fun _ => ?_)
set_option maxHeartbeats 8000000 in
set_option maxRecDepth 100000 in
theorem spec_validStep.calls (k : Nat) (a0_0 : Int) (a0_1 : Int) (a0_2 : Int) (a0_3 : Int) (a0_4 : ByteArray) (a1 : Int) (a2 : Int) (a3 : Int) (r : Bool) (w : World) (h : spec_validStep.f k a0_0 a0_1 a0_2 a0_3 a0_4 a1 a2 a3 = some r) :
  Calls Try.prog 94 #[.agg #[.int .i64 a0_0, .int .i64 a0_1, .int .i64 a0_2, .int .i64 a0_3, .string a0_4], .int .i64 a1, .int .i64 a2, .int .i64 a3] w fun e w' => e = .returned (.bool r) ∧ Below w.heap.size w w' := by
 have hu126 := Try.underlying126
 have hu124 := Try.underlying124
 have HB := A_ (Below.refl w.heap.size w)
 have H : (if a0_0 = 0 then (if a0_1 = 0 then ((spec_validValue.f k a0_2 a0_3 a0_4).bind fun t144 => (some t144)) else (some false)) else (if a0_0 = 1 then ((spec_inRange.f a0_1 0 (wrap64 (a1 - 1))).bind fun t145 => (if t145 = true then (some (a0_2 == 0 && (a0_3 == 0 && (a0_4.toList == ([] : List UInt8))))) else (some false))) else (if a0_0 = 2 then ((spec_inRange.f a0_1 0 (wrap64 (a2 - 1))).bind fun t146 => (if t146 = true then (some (a0_2 == 0 && (a0_3 == 0 && (a0_4.toList == ([] : List UInt8))))) else (some false))) else (if a0_0 = 3 then ((spec_inRange.f a0_1 0 (wrap64 (a3 - 1))).bind fun t147 => (if t147 = true then (some (a0_2 == 0 && (a0_3 == 0 && (a0_4.toList == ([] : List UInt8))))) else (some false))) else (if a0_0 = 4 then ((spec_inRange.f a0_1 0 1).bind fun t148 => (if t148 = true then (some (a0_2 == 0 && (a0_3 == 0 && (a0_4.toList == ([] : List UInt8))))) else (some false))) else (if a0_0 = 5 then ((spec_inRange.f a0_1 0 6).bind fun t149 => (if t149 = true then (some (a0_2 == 0 && (a0_3 == 0 && (a0_4.toList == ([] : List UInt8))))) else (some false))) else (if a0_0 = 6 then (if a0_1 = 0 then (some (a0_2 == 0 && (a0_3 == 0 && (a0_4.toList == ([] : List UInt8))))) else (some false)) else (some false)))))))) = some r := h
 clear h
 by_cases c5 : a0_0 = 0
 ·rw [if_pos c5] at H
  have c5b0 : (a0_0 == 0) = true := beq_iff_eq.mpr c5
  have c5b1 : (a0_0 != 0) = false := bne_eq_false_iff_eq.mpr c5
  clear c5
  by_cases c6 : a0_1 = 0
  ·rw [if_pos c6] at H
   have c6b0 : (a0_1 == 0) = true := beq_iff_eq.mpr c6
   have c6b1 : (a0_1 != 0) = false := bne_eq_false_iff_eq.mpr c6
   clear c6
   replace H := Option.bind_eq_some_iff.mp H
   obtain ⟨t144, A70, H⟩ := H
   replace H : (some t144) = some r := H
   have A7 := A_ A70
   clear A70
   obtain rfl := Option.some.inj H
   go_enter Try.func94, Try.ntmps94
   go_wp2_with (first | ((with_reducible refine gate_dst (N := 4) rfl ?_); refine box_event ?hg (N := 4) ?hd (cs := #[.int .i64 a0_0, .int .i64 a0_1, .int .i64 a0_2, .int .i64 a0_3, .string a0_4]) (t := 126) ?hr ?_; (case hd => rfl); (case hg => rfl); (case hr => exact Z16); intro gb143 hg w8 hbox hb; have n0_ := A_ (below_step Z1 hb); have n1_ := A_ (hbox); have n2_ := A_ ((by rw [hg]; exact (below_size Z1) : w.heap.size ≤ gb143)); have n3_ := A_ ((by rw [hg]; exact (below_size Z1) : w.heap.size ≤ gb143)); clear HB; have HB := n0_; have BK143 := n1_; have GW143 := n2_; have GE143 := n3_; clear n0_ n1_ n2_ n3_; clear hb hbox hg; have hcz9_0 : w8.cell? ⟨gb143, 0, none⟩ = some (.int .i64 a0_0) := (blk_cell BK143.out 0).trans rfl; have hcz9_1 : w8.cell? ⟨gb143, 1, none⟩ = some (.int .i64 a0_1) := (blk_cell BK143.out 1).trans rfl; have hcz9_2 : w8.cell? ⟨gb143, 2, none⟩ = some (.int .i64 a0_2) := (blk_cell BK143.out 2).trans rfl; have hcz9_3 : w8.cell? ⟨gb143, 3, none⟩ = some (.int .i64 a0_3) := (blk_cell BK143.out 3).trans rfl; have hcz9_4 : w8.cell? ⟨gb143, 4, none⟩ = some (.string a0_4) := (blk_cell BK143.out 4).trans rfl; have hfz9_0 := blk_frozen BK143.out 0; have hfz9_1 := blk_frozen BK143.out 1; have hfz9_2 := blk_frozen BK143.out 2; have hfz9_3 := blk_frozen BK143.out 3; have hfz9_4 := blk_frozen BK143.out 4) | (go_at_call 93; (with_reducible refine (spec_validValue.calls k a0_2 a0_3 a0_4 t144 _ A7.out).mono ?_); rintro e w10 ⟨rfl, hb⟩; have n0_ := A_ (blk_below (g := gb143) (o := .cells #[.int .i64 a0_0, .int .i64 a0_1, .int .i64 a0_2, .int .i64 a0_3, .string a0_4] 126 (0, 0)) (Z3 BK143.out) hb); have n1_ := A_ (below_step (Z2 GE143.out) hb); clear BK143; clear HB; have BK143 := n0_; have HB := n1_; clear n0_ n1_; (try clear hb); (try clear hb2); (try clear hk); (try clear hi)))
   go_ret
   exact ⟨Z7, Z2 GE143.out⟩
  ·rw [if_neg c6] at H
   have c6b0 : (a0_1 == 0) = false := beq_eq_false_iff_ne.mpr c6
   have c6b1 : (a0_1 != 0) = true := bne_iff_ne.mpr c6
   obtain rfl := Option.some.inj H
   go_enter Try.func94, Try.ntmps94
   go_wp2_with (first | ((with_reducible refine gate_dst (N := 4) rfl ?_); refine box_event ?hg (N := 4) ?hd (cs := #[.int .i64 a0_0, .int .i64 a0_1, .int .i64 a0_2, .int .i64 a0_3, .string a0_4]) (t := 126) ?hr ?_; (case hd => rfl); (case hg => rfl); (case hr => exact Z16); intro gb143 hg w11 hbox hb; have n0_ := A_ (below_step Z1 hb); have n1_ := A_ (hbox); have n2_ := A_ ((by rw [hg]; exact (below_size Z1) : w.heap.size ≤ gb143)); have n3_ := A_ ((by rw [hg]; exact (below_size Z1) : w.heap.size ≤ gb143)); clear HB; have HB := n0_; have BK143 := n1_; have GW143 := n2_; have GE143 := n3_; clear n0_ n1_ n2_ n3_; clear hb hbox hg; have hcz12_0 : w11.cell? ⟨gb143, 0, none⟩ = some (.int .i64 a0_0) := (blk_cell BK143.out 0).trans rfl; have hcz12_1 : w11.cell? ⟨gb143, 1, none⟩ = some (.int .i64 a0_1) := (blk_cell BK143.out 1).trans rfl; have hcz12_2 : w11.cell? ⟨gb143, 2, none⟩ = some (.int .i64 a0_2) := (blk_cell BK143.out 2).trans rfl; have hcz12_3 : w11.cell? ⟨gb143, 3, none⟩ = some (.int .i64 a0_3) := (blk_cell BK143.out 3).trans rfl; have hcz12_4 : w11.cell? ⟨gb143, 4, none⟩ = some (.string a0_4) := (blk_cell BK143.out 4).trans rfl; have hfz12_0 := blk_frozen BK143.out 0; have hfz12_1 := blk_frozen BK143.out 1; have hfz12_2 := blk_frozen BK143.out 2; have hfz12_3 := blk_frozen BK143.out 3; have hfz12_4 := blk_frozen BK143.out 4))
   go_ret
   exact ⟨Z7, Z2 GE143.out⟩
 ·rw [if_neg c5] at H
  have c5b0 : (a0_0 == 0) = false := beq_eq_false_iff_ne.mpr c5
  have c5b1 : (a0_0 != 0) = true := bne_iff_ne.mpr c5
  by_cases c13 : a0_0 = 1
  ·rw [if_pos c13] at H
   have c13b0 : (a0_0 == 1) = true := beq_iff_eq.mpr c13
   have c13b1 : (a0_0 != 1) = false := bne_eq_false_iff_eq.mpr c13
   clear c13
   replace H := Option.bind_eq_some_iff.mp H
   obtain ⟨t145, A140, H⟩ := H
   replace H : (if t145 = true then (some (a0_2 == 0 && (a0_3 == 0 && (a0_4.toList == ([] : List UInt8))))) else (some false)) = some r := H
   have A14 := A_ A140
   clear A140
   by_cases c15 : t145 = true
   ·subst c15
    have H1 : (some (a0_2 == 0 && (a0_3 == 0 && (a0_4.toList == ([] : List UInt8))))) = some r := by rw [if_pos rfl] at H; exact H
    clear H
    have H := H1
    clear H1
    obtain rfl := Option.some.inj H
    go_enter Try.func94, Try.ntmps94
    go_wp2_with (first | ((with_reducible refine gate_dst (N := 4) rfl ?_); refine box_event ?hg (N := 4) ?hd (cs := #[.int .i64 a0_0, .int .i64 a0_1, .int .i64 a0_2, .int .i64 a0_3, .string a0_4]) (t := 126) ?hr ?_; (case hd => rfl); (case hg => rfl); (case hr => exact Z16); intro gb143 hg w16 hbox hb; have n0_ := A_ (below_step Z1 hb); have n1_ := A_ (hbox); have n2_ := A_ ((by rw [hg]; exact (below_size Z1) : w.heap.size ≤ gb143)); have n3_ := A_ ((by rw [hg]; exact (below_size Z1) : w.heap.size ≤ gb143)); clear HB; have HB := n0_; have BK143 := n1_; have GW143 := n2_; have GE143 := n3_; clear n0_ n1_ n2_ n3_; clear hb hbox hg; have hcz17_0 : w16.cell? ⟨gb143, 0, none⟩ = some (.int .i64 a0_0) := (blk_cell BK143.out 0).trans rfl; have hcz17_1 : w16.cell? ⟨gb143, 1, none⟩ = some (.int .i64 a0_1) := (blk_cell BK143.out 1).trans rfl; have hcz17_2 : w16.cell? ⟨gb143, 2, none⟩ = some (.int .i64 a0_2) := (blk_cell BK143.out 2).trans rfl; have hcz17_3 : w16.cell? ⟨gb143, 3, none⟩ = some (.int .i64 a0_3) := (blk_cell BK143.out 3).trans rfl; have hcz17_4 : w16.cell? ⟨gb143, 4, none⟩ = some (.string a0_4) := (blk_cell BK143.out 4).trans rfl; have hfz17_0 := blk_frozen BK143.out 0; have hfz17_1 := blk_frozen BK143.out 1; have hfz17_2 := blk_frozen BK143.out 2; have hfz17_3 := blk_frozen BK143.out 3; have hfz17_4 := blk_frozen BK143.out 4) | ((with_reducible refine gate_callee (f := 77) rfl ?_); refine goesL_ (some 27) rfl rfl Try.func77 (by kernel_rfl) rfl #[.int .i64 a0_1, .int .i64 0, .int .i64 (wrap64 (a1 - 1))] rfl Z5 ?_; (with_reducible refine (spec_inRange.calls a0_1 0 (wrap64 (a1 - 1)) true _ A14.out).mono ?_); rintro e w' ⟨rfl, ⟨nd, rfl⟩⟩; refine ⟨_, rfl, ?_⟩))
    go_ret
    exact ⟨Z7, Z2 GE143.out⟩
   ·replace c15 := Bool.eq_false_iff.mpr c15
    subst c15
    have H1 : (some false) = some r := by rw [if_neg (show ¬ (false = true) by decide)] at H; exact H
    clear H
    have H := H1
    clear H1
    obtain rfl := Option.some.inj H
    go_enter Try.func94, Try.ntmps94
    go_wp2_with (first | ((with_reducible refine gate_dst (N := 4) rfl ?_); refine box_event ?hg (N := 4) ?hd (cs := #[.int .i64 a0_0, .int .i64 a0_1, .int .i64 a0_2, .int .i64 a0_3, .string a0_4]) (t := 126) ?hr ?_; (case hd => rfl); (case hg => rfl); (case hr => exact Z16); intro gb143 hg w18 hbox hb; have n0_ := A_ (below_step Z1 hb); have n1_ := A_ (hbox); have n2_ := A_ ((by rw [hg]; exact (below_size Z1) : w.heap.size ≤ gb143)); have n3_ := A_ ((by rw [hg]; exact (below_size Z1) : w.heap.size ≤ gb143)); clear HB; have HB := n0_; have BK143 := n1_; have GW143 := n2_; have GE143 := n3_; clear n0_ n1_ n2_ n3_; clear hb hbox hg; have hcz19_0 : w18.cell? ⟨gb143, 0, none⟩ = some (.int .i64 a0_0) := (blk_cell BK143.out 0).trans rfl; have hcz19_1 : w18.cell? ⟨gb143, 1, none⟩ = some (.int .i64 a0_1) := (blk_cell BK143.out 1).trans rfl; have hcz19_2 : w18.cell? ⟨gb143, 2, none⟩ = some (.int .i64 a0_2) := (blk_cell BK143.out 2).trans rfl; have hcz19_3 : w18.cell? ⟨gb143, 3, none⟩ = some (.int .i64 a0_3) := (blk_cell BK143.out 3).trans rfl; have hcz19_4 : w18.cell? ⟨gb143, 4, none⟩ = some (.string a0_4) := (blk_cell BK143.out 4).trans rfl; have hfz19_0 := blk_frozen BK143.out 0; have hfz19_1 := blk_frozen BK143.out 1; have hfz19_2 := blk_frozen BK143.out 2; have hfz19_3 := blk_frozen BK143.out 3; have hfz19_4 := blk_frozen BK143.out 4) | ((with_reducible refine gate_callee (f := 77) rfl ?_); refine goesL_ (some 27) rfl rfl Try.func77 (by kernel_rfl) rfl #[.int .i64 a0_1, .int .i64 0, .int .i64 (wrap64 (a1 - 1))] rfl Z5 ?_; (with_reducible refine (spec_inRange.calls a0_1 0 (wrap64 (a1 - 1)) false _ A14.out).mono ?_); rintro e w' ⟨rfl, ⟨nd, rfl⟩⟩; refine ⟨_, rfl, ?_⟩))
    go_ret
    exact ⟨Z7, Z2 GE143.out⟩
  ·rw [if_neg c13] at H
   have c13b0 : (a0_0 == 1) = false := beq_eq_false_iff_ne.mpr c13
   have c13b1 : (a0_0 != 1) = true := bne_iff_ne.mpr c13
   by_cases c20 : a0_0 = 2
   ·rw [if_pos c20] at H
    have c20b0 : (a0_0 == 2) = true := beq_iff_eq.mpr c20
    have c20b1 : (a0_0 != 2) = false := bne_eq_false_iff_eq.mpr c20
    clear c20
    replace H := Option.bind_eq_some_iff.mp H
    obtain ⟨t146, A210, H⟩ := H
    replace H : (if t146 = true then (some (a0_2 == 0 && (a0_3 == 0 && (a0_4.toList == ([] : List UInt8))))) else (some false)) = some r := H
    have A21 := A_ A210
    clear A210
    by_cases c22 : t146 = true
    ·subst c22
     have H1 : (some (a0_2 == 0 && (a0_3 == 0 && (a0_4.toList == ([] : List UInt8))))) = some r := by rw [if_pos rfl] at H; exact H
     clear H
     have H := H1
     clear H1
     obtain rfl := Option.some.inj H
     go_enter Try.func94, Try.ntmps94
     go_wp2_with (first | ((with_reducible refine gate_dst (N := 4) rfl ?_); refine box_event ?hg (N := 4) ?hd (cs := #[.int .i64 a0_0, .int .i64 a0_1, .int .i64 a0_2, .int .i64 a0_3, .string a0_4]) (t := 126) ?hr ?_; (case hd => rfl); (case hg => rfl); (case hr => exact Z16); intro gb143 hg w23 hbox hb; have n0_ := A_ (below_step Z1 hb); have n1_ := A_ (hbox); have n2_ := A_ ((by rw [hg]; exact (below_size Z1) : w.heap.size ≤ gb143)); have n3_ := A_ ((by rw [hg]; exact (below_size Z1) : w.heap.size ≤ gb143)); clear HB; have HB := n0_; have BK143 := n1_; have GW143 := n2_; have GE143 := n3_; clear n0_ n1_ n2_ n3_; clear hb hbox hg; have hcz24_0 : w23.cell? ⟨gb143, 0, none⟩ = some (.int .i64 a0_0) := (blk_cell BK143.out 0).trans rfl; have hcz24_1 : w23.cell? ⟨gb143, 1, none⟩ = some (.int .i64 a0_1) := (blk_cell BK143.out 1).trans rfl; have hcz24_2 : w23.cell? ⟨gb143, 2, none⟩ = some (.int .i64 a0_2) := (blk_cell BK143.out 2).trans rfl; have hcz24_3 : w23.cell? ⟨gb143, 3, none⟩ = some (.int .i64 a0_3) := (blk_cell BK143.out 3).trans rfl; have hcz24_4 : w23.cell? ⟨gb143, 4, none⟩ = some (.string a0_4) := (blk_cell BK143.out 4).trans rfl; have hfz24_0 := blk_frozen BK143.out 0; have hfz24_1 := blk_frozen BK143.out 1; have hfz24_2 := blk_frozen BK143.out 2; have hfz24_3 := blk_frozen BK143.out 3; have hfz24_4 := blk_frozen BK143.out 4) | ((with_reducible refine gate_callee (f := 77) rfl ?_); refine goesL_ (some 40) rfl rfl Try.func77 (by kernel_rfl) rfl #[.int .i64 a0_1, .int .i64 0, .int .i64 (wrap64 (a2 - 1))] rfl Z5 ?_; (with_reducible refine (spec_inRange.calls a0_1 0 (wrap64 (a2 - 1)) true _ A21.out).mono ?_); rintro e w' ⟨rfl, ⟨nd, rfl⟩⟩; refine ⟨_, rfl, ?_⟩))
     go_ret
     exact ⟨Z7, Z2 GE143.out⟩
    ·replace c22 := Bool.eq_false_iff.mpr c22
     subst c22
     have H1 : (some false) = some r := by rw [if_neg (show ¬ (false = true) by decide)] at H; exact H
     clear H
     have H := H1
     clear H1
     obtain rfl := Option.some.inj H
     go_enter Try.func94, Try.ntmps94
     go_wp2_with (first | ((with_reducible refine gate_dst (N := 4) rfl ?_); refine box_event ?hg (N := 4) ?hd (cs := #[.int .i64 a0_0, .int .i64 a0_1, .int .i64 a0_2, .int .i64 a0_3, .string a0_4]) (t := 126) ?hr ?_; (case hd => rfl); (case hg => rfl); (case hr => exact Z16); intro gb143 hg w25 hbox hb; have n0_ := A_ (below_step Z1 hb); have n1_ := A_ (hbox); have n2_ := A_ ((by rw [hg]; exact (below_size Z1) : w.heap.size ≤ gb143)); have n3_ := A_ ((by rw [hg]; exact (below_size Z1) : w.heap.size ≤ gb143)); clear HB; have HB := n0_; have BK143 := n1_; have GW143 := n2_; have GE143 := n3_; clear n0_ n1_ n2_ n3_; clear hb hbox hg; have hcz26_0 : w25.cell? ⟨gb143, 0, none⟩ = some (.int .i64 a0_0) := (blk_cell BK143.out 0).trans rfl; have hcz26_1 : w25.cell? ⟨gb143, 1, none⟩ = some (.int .i64 a0_1) := (blk_cell BK143.out 1).trans rfl; have hcz26_2 : w25.cell? ⟨gb143, 2, none⟩ = some (.int .i64 a0_2) := (blk_cell BK143.out 2).trans rfl; have hcz26_3 : w25.cell? ⟨gb143, 3, none⟩ = some (.int .i64 a0_3) := (blk_cell BK143.out 3).trans rfl; have hcz26_4 : w25.cell? ⟨gb143, 4, none⟩ = some (.string a0_4) := (blk_cell BK143.out 4).trans rfl; have hfz26_0 := blk_frozen BK143.out 0; have hfz26_1 := blk_frozen BK143.out 1; have hfz26_2 := blk_frozen BK143.out 2; have hfz26_3 := blk_frozen BK143.out 3; have hfz26_4 := blk_frozen BK143.out 4) | ((with_reducible refine gate_callee (f := 77) rfl ?_); refine goesL_ (some 40) rfl rfl Try.func77 (by kernel_rfl) rfl #[.int .i64 a0_1, .int .i64 0, .int .i64 (wrap64 (a2 - 1))] rfl Z5 ?_; (with_reducible refine (spec_inRange.calls a0_1 0 (wrap64 (a2 - 1)) false _ A21.out).mono ?_); rintro e w' ⟨rfl, ⟨nd, rfl⟩⟩; refine ⟨_, rfl, ?_⟩))
     go_ret
     exact ⟨Z7, Z2 GE143.out⟩
   ·rw [if_neg c20] at H
    have c20b0 : (a0_0 == 2) = false := beq_eq_false_iff_ne.mpr c20
    have c20b1 : (a0_0 != 2) = true := bne_iff_ne.mpr c20
    by_cases c27 : a0_0 = 3
    ·rw [if_pos c27] at H
     have c27b0 : (a0_0 == 3) = true := beq_iff_eq.mpr c27
     have c27b1 : (a0_0 != 3) = false := bne_eq_false_iff_eq.mpr c27
     clear c27
     replace H := Option.bind_eq_some_iff.mp H
     obtain ⟨t147, A280, H⟩ := H
     replace H : (if t147 = true then (some (a0_2 == 0 && (a0_3 == 0 && (a0_4.toList == ([] : List UInt8))))) else (some false)) = some r := H
     have A28 := A_ A280
     clear A280
     by_cases c29 : t147 = true
     ·subst c29
      have H1 : (some (a0_2 == 0 && (a0_3 == 0 && (a0_4.toList == ([] : List UInt8))))) = some r := by rw [if_pos rfl] at H; exact H
      clear H
      have H := H1
      clear H1
      obtain rfl := Option.some.inj H
      go_enter Try.func94, Try.ntmps94
      go_wp2_with (first | ((with_reducible refine gate_dst (N := 4) rfl ?_); refine box_event ?hg (N := 4) ?hd (cs := #[.int .i64 a0_0, .int .i64 a0_1, .int .i64 a0_2, .int .i64 a0_3, .string a0_4]) (t := 126) ?hr ?_; (case hd => rfl); (case hg => rfl); (case hr => exact Z16); intro gb143 hg w30 hbox hb; have n0_ := A_ (below_step Z1 hb); have n1_ := A_ (hbox); have n2_ := A_ ((by rw [hg]; exact (below_size Z1) : w.heap.size ≤ gb143)); have n3_ := A_ ((by rw [hg]; exact (below_size Z1) : w.heap.size ≤ gb143)); clear HB; have HB := n0_; have BK143 := n1_; have GW143 := n2_; have GE143 := n3_; clear n0_ n1_ n2_ n3_; clear hb hbox hg; have hcz31_0 : w30.cell? ⟨gb143, 0, none⟩ = some (.int .i64 a0_0) := (blk_cell BK143.out 0).trans rfl; have hcz31_1 : w30.cell? ⟨gb143, 1, none⟩ = some (.int .i64 a0_1) := (blk_cell BK143.out 1).trans rfl; have hcz31_2 : w30.cell? ⟨gb143, 2, none⟩ = some (.int .i64 a0_2) := (blk_cell BK143.out 2).trans rfl; have hcz31_3 : w30.cell? ⟨gb143, 3, none⟩ = some (.int .i64 a0_3) := (blk_cell BK143.out 3).trans rfl; have hcz31_4 : w30.cell? ⟨gb143, 4, none⟩ = some (.string a0_4) := (blk_cell BK143.out 4).trans rfl; have hfz31_0 := blk_frozen BK143.out 0; have hfz31_1 := blk_frozen BK143.out 1; have hfz31_2 := blk_frozen BK143.out 2; have hfz31_3 := blk_frozen BK143.out 3; have hfz31_4 := blk_frozen BK143.out 4) | ((with_reducible refine gate_callee (f := 77) rfl ?_); refine goesL_ (some 53) rfl rfl Try.func77 (by kernel_rfl) rfl #[.int .i64 a0_1, .int .i64 0, .int .i64 (wrap64 (a3 - 1))] rfl Z5 ?_; (with_reducible refine (spec_inRange.calls a0_1 0 (wrap64 (a3 - 1)) true _ A28.out).mono ?_); rintro e w' ⟨rfl, ⟨nd, rfl⟩⟩; refine ⟨_, rfl, ?_⟩))
      go_ret
      exact ⟨Z7, Z2 GE143.out⟩
     ·replace c29 := Bool.eq_false_iff.mpr c29
      subst c29
      have H1 : (some false) = some r := by rw [if_neg (show ¬ (false = true) by decide)] at H; exact H
      clear H
      have H := H1
      clear H1
      obtain rfl := Option.some.inj H
      go_enter Try.func94, Try.ntmps94
      go_wp2_with (first | ((with_reducible refine gate_dst (N := 4) rfl ?_); refine box_event ?hg (N := 4) ?hd (cs := #[.int .i64 a0_0, .int .i64 a0_1, .int .i64 a0_2, .int .i64 a0_3, .string a0_4]) (t := 126) ?hr ?_; (case hd => rfl); (case hg => rfl); (case hr => exact Z16); intro gb143 hg w32 hbox hb; have n0_ := A_ (below_step Z1 hb); have n1_ := A_ (hbox); have n2_ := A_ ((by rw [hg]; exact (below_size Z1) : w.heap.size ≤ gb143)); have n3_ := A_ ((by rw [hg]; exact (below_size Z1) : w.heap.size ≤ gb143)); clear HB; have HB := n0_; have BK143 := n1_; have GW143 := n2_; have GE143 := n3_; clear n0_ n1_ n2_ n3_; clear hb hbox hg; have hcz33_0 : w32.cell? ⟨gb143, 0, none⟩ = some (.int .i64 a0_0) := (blk_cell BK143.out 0).trans rfl; have hcz33_1 : w32.cell? ⟨gb143, 1, none⟩ = some (.int .i64 a0_1) := (blk_cell BK143.out 1).trans rfl; have hcz33_2 : w32.cell? ⟨gb143, 2, none⟩ = some (.int .i64 a0_2) := (blk_cell BK143.out 2).trans rfl; have hcz33_3 : w32.cell? ⟨gb143, 3, none⟩ = some (.int .i64 a0_3) := (blk_cell BK143.out 3).trans rfl; have hcz33_4 : w32.cell? ⟨gb143, 4, none⟩ = some (.string a0_4) := (blk_cell BK143.out 4).trans rfl; have hfz33_0 := blk_frozen BK143.out 0; have hfz33_1 := blk_frozen BK143.out 1; have hfz33_2 := blk_frozen BK143.out 2; have hfz33_3 := blk_frozen BK143.out 3; have hfz33_4 := blk_frozen BK143.out 4) | ((with_reducible refine gate_callee (f := 77) rfl ?_); refine goesL_ (some 53) rfl rfl Try.func77 (by kernel_rfl) rfl #[.int .i64 a0_1, .int .i64 0, .int .i64 (wrap64 (a3 - 1))] rfl Z5 ?_; (with_reducible refine (spec_inRange.calls a0_1 0 (wrap64 (a3 - 1)) false _ A28.out).mono ?_); rintro e w' ⟨rfl, ⟨nd, rfl⟩⟩; refine ⟨_, rfl, ?_⟩))
      go_ret
      exact ⟨Z7, Z2 GE143.out⟩
    ·rw [if_neg c27] at H
     have c27b0 : (a0_0 == 3) = false := beq_eq_false_iff_ne.mpr c27
     have c27b1 : (a0_0 != 3) = true := bne_iff_ne.mpr c27
     by_cases c34 : a0_0 = 4
     ·rw [if_pos c34] at H
      have c34b0 : (a0_0 == 4) = true := beq_iff_eq.mpr c34
      have c34b1 : (a0_0 != 4) = false := bne_eq_false_iff_eq.mpr c34
      clear c34
      replace H := Option.bind_eq_some_iff.mp H
      obtain ⟨t148, A350, H⟩ := H
      replace H : (if t148 = true then (some (a0_2 == 0 && (a0_3 == 0 && (a0_4.toList == ([] : List UInt8))))) else (some false)) = some r := H
      have A35 := A_ A350
      clear A350
      by_cases c36 : t148 = true
      ·subst c36
       have H1 : (some (a0_2 == 0 && (a0_3 == 0 && (a0_4.toList == ([] : List UInt8))))) = some r := by rw [if_pos rfl] at H; exact H
       clear H
       have H := H1
       clear H1
       obtain rfl := Option.some.inj H
       go_enter Try.func94, Try.ntmps94
       go_wp2_with (first | ((with_reducible refine gate_dst (N := 4) rfl ?_); refine box_event ?hg (N := 4) ?hd (cs := #[.int .i64 a0_0, .int .i64 a0_1, .int .i64 a0_2, .int .i64 a0_3, .string a0_4]) (t := 126) ?hr ?_; (case hd => rfl); (case hg => rfl); (case hr => exact Z16); intro gb143 hg w37 hbox hb; have n0_ := A_ (below_step Z1 hb); have n1_ := A_ (hbox); have n2_ := A_ ((by rw [hg]; exact (below_size Z1) : w.heap.size ≤ gb143)); have n3_ := A_ ((by rw [hg]; exact (below_size Z1) : w.heap.size ≤ gb143)); clear HB; have HB := n0_; have BK143 := n1_; have GW143 := n2_; have GE143 := n3_; clear n0_ n1_ n2_ n3_; clear hb hbox hg; have hcz38_0 : w37.cell? ⟨gb143, 0, none⟩ = some (.int .i64 a0_0) := (blk_cell BK143.out 0).trans rfl; have hcz38_1 : w37.cell? ⟨gb143, 1, none⟩ = some (.int .i64 a0_1) := (blk_cell BK143.out 1).trans rfl; have hcz38_2 : w37.cell? ⟨gb143, 2, none⟩ = some (.int .i64 a0_2) := (blk_cell BK143.out 2).trans rfl; have hcz38_3 : w37.cell? ⟨gb143, 3, none⟩ = some (.int .i64 a0_3) := (blk_cell BK143.out 3).trans rfl; have hcz38_4 : w37.cell? ⟨gb143, 4, none⟩ = some (.string a0_4) := (blk_cell BK143.out 4).trans rfl; have hfz38_0 := blk_frozen BK143.out 0; have hfz38_1 := blk_frozen BK143.out 1; have hfz38_2 := blk_frozen BK143.out 2; have hfz38_3 := blk_frozen BK143.out 3; have hfz38_4 := blk_frozen BK143.out 4) | ((with_reducible refine gate_callee (f := 77) rfl ?_); refine goesL_ (some 64) rfl rfl Try.func77 (by kernel_rfl) rfl #[.int .i64 a0_1, .int .i64 0, .int .i64 1] rfl Z5 ?_; (with_reducible refine (spec_inRange.calls a0_1 0 1 true _ A35.out).mono ?_); rintro e w' ⟨rfl, ⟨nd, rfl⟩⟩; refine ⟨_, rfl, ?_⟩))
       go_ret
       exact ⟨Z7, Z2 GE143.out⟩
      ·replace c36 := Bool.eq_false_iff.mpr c36
       subst c36
       have H1 : (some false) = some r := by rw [if_neg (show ¬ (false = true) by decide)] at H; exact H
       clear H
       have H := H1
       clear H1
       obtain rfl := Option.some.inj H
       go_enter Try.func94, Try.ntmps94
       go_wp2_with (first | ((with_reducible refine gate_dst (N := 4) rfl ?_); refine box_event ?hg (N := 4) ?hd (cs := #[.int .i64 a0_0, .int .i64 a0_1, .int .i64 a0_2, .int .i64 a0_3, .string a0_4]) (t := 126) ?hr ?_; (case hd => rfl); (case hg => rfl); (case hr => exact Z16); intro gb143 hg w39 hbox hb; have n0_ := A_ (below_step Z1 hb); have n1_ := A_ (hbox); have n2_ := A_ ((by rw [hg]; exact (below_size Z1) : w.heap.size ≤ gb143)); have n3_ := A_ ((by rw [hg]; exact (below_size Z1) : w.heap.size ≤ gb143)); clear HB; have HB := n0_; have BK143 := n1_; have GW143 := n2_; have GE143 := n3_; clear n0_ n1_ n2_ n3_; clear hb hbox hg; have hcz40_0 : w39.cell? ⟨gb143, 0, none⟩ = some (.int .i64 a0_0) := (blk_cell BK143.out 0).trans rfl; have hcz40_1 : w39.cell? ⟨gb143, 1, none⟩ = some (.int .i64 a0_1) := (blk_cell BK143.out 1).trans rfl; have hcz40_2 : w39.cell? ⟨gb143, 2, none⟩ = some (.int .i64 a0_2) := (blk_cell BK143.out 2).trans rfl; have hcz40_3 : w39.cell? ⟨gb143, 3, none⟩ = some (.int .i64 a0_3) := (blk_cell BK143.out 3).trans rfl; have hcz40_4 : w39.cell? ⟨gb143, 4, none⟩ = some (.string a0_4) := (blk_cell BK143.out 4).trans rfl; have hfz40_0 := blk_frozen BK143.out 0; have hfz40_1 := blk_frozen BK143.out 1; have hfz40_2 := blk_frozen BK143.out 2; have hfz40_3 := blk_frozen BK143.out 3; have hfz40_4 := blk_frozen BK143.out 4) | ((with_reducible refine gate_callee (f := 77) rfl ?_); refine goesL_ (some 64) rfl rfl Try.func77 (by kernel_rfl) rfl #[.int .i64 a0_1, .int .i64 0, .int .i64 1] rfl Z5 ?_; (with_reducible refine (spec_inRange.calls a0_1 0 1 false _ A35.out).mono ?_); rintro e w' ⟨rfl, ⟨nd, rfl⟩⟩; refine ⟨_, rfl, ?_⟩))
       go_ret
       exact ⟨Z7, Z2 GE143.out⟩
     ·rw [if_neg c34] at H
      have c34b0 : (a0_0 == 4) = false := beq_eq_false_iff_ne.mpr c34
      have c34b1 : (a0_0 != 4) = true := bne_iff_ne.mpr c34
      by_cases c41 : a0_0 = 5
      ·rw [if_pos c41] at H
       have c41b0 : (a0_0 == 5) = true := beq_iff_eq.mpr c41
       have c41b1 : (a0_0 != 5) = false := bne_eq_false_iff_eq.mpr c41
       clear c41
       replace H := Option.bind_eq_some_iff.mp H
       obtain ⟨t149, A420, H⟩ := H
       replace H : (if t149 = true then (some (a0_2 == 0 && (a0_3 == 0 && (a0_4.toList == ([] : List UInt8))))) else (some false)) = some r := H
       have A42 := A_ A420
       clear A420
       by_cases c43 : t149 = true
       ·subst c43
        have H1 : (some (a0_2 == 0 && (a0_3 == 0 && (a0_4.toList == ([] : List UInt8))))) = some r := by rw [if_pos rfl] at H; exact H
        clear H
        have H := H1
        clear H1
        obtain rfl := Option.some.inj H
        go_enter Try.func94, Try.ntmps94
        go_wp2_with (first | ((with_reducible refine gate_dst (N := 4) rfl ?_); refine box_event ?hg (N := 4) ?hd (cs := #[.int .i64 a0_0, .int .i64 a0_1, .int .i64 a0_2, .int .i64 a0_3, .string a0_4]) (t := 126) ?hr ?_; (case hd => rfl); (case hg => rfl); (case hr => exact Z16); intro gb143 hg w44 hbox hb; have n0_ := A_ (below_step Z1 hb); have n1_ := A_ (hbox); have n2_ := A_ ((by rw [hg]; exact (below_size Z1) : w.heap.size ≤ gb143)); have n3_ := A_ ((by rw [hg]; exact (below_size Z1) : w.heap.size ≤ gb143)); clear HB; have HB := n0_; have BK143 := n1_; have GW143 := n2_; have GE143 := n3_; clear n0_ n1_ n2_ n3_; clear hb hbox hg; have hcz45_0 : w44.cell? ⟨gb143, 0, none⟩ = some (.int .i64 a0_0) := (blk_cell BK143.out 0).trans rfl; have hcz45_1 : w44.cell? ⟨gb143, 1, none⟩ = some (.int .i64 a0_1) := (blk_cell BK143.out 1).trans rfl; have hcz45_2 : w44.cell? ⟨gb143, 2, none⟩ = some (.int .i64 a0_2) := (blk_cell BK143.out 2).trans rfl; have hcz45_3 : w44.cell? ⟨gb143, 3, none⟩ = some (.int .i64 a0_3) := (blk_cell BK143.out 3).trans rfl; have hcz45_4 : w44.cell? ⟨gb143, 4, none⟩ = some (.string a0_4) := (blk_cell BK143.out 4).trans rfl; have hfz45_0 := blk_frozen BK143.out 0; have hfz45_1 := blk_frozen BK143.out 1; have hfz45_2 := blk_frozen BK143.out 2; have hfz45_3 := blk_frozen BK143.out 3; have hfz45_4 := blk_frozen BK143.out 4) | ((with_reducible refine gate_callee (f := 77) rfl ?_); refine goesL_ (some 75) rfl rfl Try.func77 (by kernel_rfl) rfl #[.int .i64 a0_1, .int .i64 0, .int .i64 6] rfl Z5 ?_; (with_reducible refine (spec_inRange.calls a0_1 0 6 true _ A42.out).mono ?_); rintro e w' ⟨rfl, ⟨nd, rfl⟩⟩; refine ⟨_, rfl, ?_⟩))
        go_ret
        exact ⟨Z7, Z2 GE143.out⟩
       ·replace c43 := Bool.eq_false_iff.mpr c43
        subst c43
        have H1 : (some false) = some r := by rw [if_neg (show ¬ (false = true) by decide)] at H; exact H
        clear H
        have H := H1
        clear H1
        obtain rfl := Option.some.inj H
        go_enter Try.func94, Try.ntmps94
        go_wp2_with (first | ((with_reducible refine gate_dst (N := 4) rfl ?_); refine box_event ?hg (N := 4) ?hd (cs := #[.int .i64 a0_0, .int .i64 a0_1, .int .i64 a0_2, .int .i64 a0_3, .string a0_4]) (t := 126) ?hr ?_; (case hd => rfl); (case hg => rfl); (case hr => exact Z16); intro gb143 hg w46 hbox hb; have n0_ := A_ (below_step Z1 hb); have n1_ := A_ (hbox); have n2_ := A_ ((by rw [hg]; exact (below_size Z1) : w.heap.size ≤ gb143)); have n3_ := A_ ((by rw [hg]; exact (below_size Z1) : w.heap.size ≤ gb143)); clear HB; have HB := n0_; have BK143 := n1_; have GW143 := n2_; have GE143 := n3_; clear n0_ n1_ n2_ n3_; clear hb hbox hg; have hcz47_0 : w46.cell? ⟨gb143, 0, none⟩ = some (.int .i64 a0_0) := (blk_cell BK143.out 0).trans rfl; have hcz47_1 : w46.cell? ⟨gb143, 1, none⟩ = some (.int .i64 a0_1) := (blk_cell BK143.out 1).trans rfl; have hcz47_2 : w46.cell? ⟨gb143, 2, none⟩ = some (.int .i64 a0_2) := (blk_cell BK143.out 2).trans rfl; have hcz47_3 : w46.cell? ⟨gb143, 3, none⟩ = some (.int .i64 a0_3) := (blk_cell BK143.out 3).trans rfl; have hcz47_4 : w46.cell? ⟨gb143, 4, none⟩ = some (.string a0_4) := (blk_cell BK143.out 4).trans rfl; have hfz47_0 := blk_frozen BK143.out 0; have hfz47_1 := blk_frozen BK143.out 1; have hfz47_2 := blk_frozen BK143.out 2; have hfz47_3 := blk_frozen BK143.out 3; have hfz47_4 := blk_frozen BK143.out 4) | ((with_reducible refine gate_callee (f := 77) rfl ?_); refine goesL_ (some 75) rfl rfl Try.func77 (by kernel_rfl) rfl #[.int .i64 a0_1, .int .i64 0, .int .i64 6] rfl Z5 ?_; (with_reducible refine (spec_inRange.calls a0_1 0 6 false _ A42.out).mono ?_); rintro e w' ⟨rfl, ⟨nd, rfl⟩⟩; refine ⟨_, rfl, ?_⟩))
        go_ret
        exact ⟨Z7, Z2 GE143.out⟩
      ·rw [if_neg c41] at H
       have c41b0 : (a0_0 == 5) = false := beq_eq_false_iff_ne.mpr c41
       have c41b1 : (a0_0 != 5) = true := bne_iff_ne.mpr c41
       by_cases c48 : a0_0 = 6
       ·rw [if_pos c48] at H
        have c48b0 : (a0_0 == 6) = true := beq_iff_eq.mpr c48
        have c48b1 : (a0_0 != 6) = false := bne_eq_false_iff_eq.mpr c48
        clear c48
        by_cases c49 : a0_1 = 0
        ·rw [if_pos c49] at H
         have c49b0 : (a0_1 == 0) = true := beq_iff_eq.mpr c49
         have c49b1 : (a0_1 != 0) = false := bne_eq_false_iff_eq.mpr c49
         clear c49
         obtain rfl := Option.some.inj H
         go_enter Try.func94, Try.ntmps94
         go_wp2_with (first | ((with_reducible refine gate_dst (N := 4) rfl ?_); refine box_event ?hg (N := 4) ?hd (cs := #[.int .i64 a0_0, .int .i64 a0_1, .int .i64 a0_2, .int .i64 a0_3, .string a0_4]) (t := 126) ?hr ?_; (case hd => rfl); (case hg => rfl); (case hr => exact Z16); intro gb143 hg w50 hbox hb; have n0_ := A_ (below_step Z1 hb); have n1_ := A_ (hbox); have n2_ := A_ ((by rw [hg]; exact (below_size Z1) : w.heap.size ≤ gb143)); have n3_ := A_ ((by rw [hg]; exact (below_size Z1) : w.heap.size ≤ gb143)); clear HB; have HB := n0_; have BK143 := n1_; have GW143 := n2_; have GE143 := n3_; clear n0_ n1_ n2_ n3_; clear hb hbox hg; have hcz51_0 : w50.cell? ⟨gb143, 0, none⟩ = some (.int .i64 a0_0) := (blk_cell BK143.out 0).trans rfl; have hcz51_1 : w50.cell? ⟨gb143, 1, none⟩ = some (.int .i64 a0_1) := (blk_cell BK143.out 1).trans rfl; have hcz51_2 : w50.cell? ⟨gb143, 2, none⟩ = some (.int .i64 a0_2) := (blk_cell BK143.out 2).trans rfl; have hcz51_3 : w50.cell? ⟨gb143, 3, none⟩ = some (.int .i64 a0_3) := (blk_cell BK143.out 3).trans rfl; have hcz51_4 : w50.cell? ⟨gb143, 4, none⟩ = some (.string a0_4) := (blk_cell BK143.out 4).trans rfl; have hfz51_0 := blk_frozen BK143.out 0; have hfz51_1 := blk_frozen BK143.out 1; have hfz51_2 := blk_frozen BK143.out 2; have hfz51_3 := blk_frozen BK143.out 3; have hfz51_4 := blk_frozen BK143.out 4))
         go_ret
         exact ⟨Z7, Z2 GE143.out⟩
        ·rw [if_neg c49] at H
         have c49b0 : (a0_1 == 0) = false := beq_eq_false_iff_ne.mpr c49
         have c49b1 : (a0_1 != 0) = true := bne_iff_ne.mpr c49
         obtain rfl := Option.some.inj H
         go_enter Try.func94, Try.ntmps94
         go_wp2_with (first | ((with_reducible refine gate_dst (N := 4) rfl ?_); refine box_event ?hg (N := 4) ?hd (cs := #[.int .i64 a0_0, .int .i64 a0_1, .int .i64 a0_2, .int .i64 a0_3, .string a0_4]) (t := 126) ?hr ?_; (case hd => rfl); (case hg => rfl); (case hr => exact Z16); intro gb143 hg w52 hbox hb; have n0_ := A_ (below_step Z1 hb); have n1_ := A_ (hbox); have n2_ := A_ ((by rw [hg]; exact (below_size Z1) : w.heap.size ≤ gb143)); have n3_ := A_ ((by rw [hg]; exact (below_size Z1) : w.heap.size ≤ gb143)); clear HB; have HB := n0_; have BK143 := n1_; have GW143 := n2_; have GE143 := n3_; clear n0_ n1_ n2_ n3_; clear hb hbox hg; have hcz53_0 : w52.cell? ⟨gb143, 0, none⟩ = some (.int .i64 a0_0) := (blk_cell BK143.out 0).trans rfl; have hcz53_1 : w52.cell? ⟨gb143, 1, none⟩ = some (.int .i64 a0_1) := (blk_cell BK143.out 1).trans rfl; have hcz53_2 : w52.cell? ⟨gb143, 2, none⟩ = some (.int .i64 a0_2) := (blk_cell BK143.out 2).trans rfl; have hcz53_3 : w52.cell? ⟨gb143, 3, none⟩ = some (.int .i64 a0_3) := (blk_cell BK143.out 3).trans rfl; have hcz53_4 : w52.cell? ⟨gb143, 4, none⟩ = some (.string a0_4) := (blk_cell BK143.out 4).trans rfl; have hfz53_0 := blk_frozen BK143.out 0; have hfz53_1 := blk_frozen BK143.out 1; have hfz53_2 := blk_frozen BK143.out 2; have hfz53_3 := blk_frozen BK143.out 3; have hfz53_4 := blk_frozen BK143.out 4))
         go_ret
         exact ⟨Z7, Z2 GE143.out⟩
       ·rw [if_neg c48] at H
        have c48b0 : (a0_0 == 6) = false := beq_eq_false_iff_ne.mpr c48
        have c48b1 : (a0_0 != 6) = true := bne_iff_ne.mpr c48
        obtain rfl := Option.some.inj H
        go_enter Try.func94, Try.ntmps94
        go_wp2_with (first | ((with_reducible refine gate_dst (N := 4) rfl ?_); refine box_event ?hg (N := 4) ?hd (cs := #[.int .i64 a0_0, .int .i64 a0_1, .int .i64 a0_2, .int .i64 a0_3, .string a0_4]) (t := 126) ?hr ?_; (case hd => rfl); (case hg => rfl); (case hr => exact Z16); intro gb143 hg w54 hbox hb; have n0_ := A_ (below_step Z1 hb); have n1_ := A_ (hbox); have n2_ := A_ ((by rw [hg]; exact (below_size Z1) : w.heap.size ≤ gb143)); have n3_ := A_ ((by rw [hg]; exact (below_size Z1) : w.heap.size ≤ gb143)); clear HB; have HB := n0_; have BK143 := n1_; have GW143 := n2_; have GE143 := n3_; clear n0_ n1_ n2_ n3_; clear hb hbox hg; have hcz55_0 : w54.cell? ⟨gb143, 0, none⟩ = some (.int .i64 a0_0) := (blk_cell BK143.out 0).trans rfl; have hcz55_1 : w54.cell? ⟨gb143, 1, none⟩ = some (.int .i64 a0_1) := (blk_cell BK143.out 1).trans rfl; have hcz55_2 : w54.cell? ⟨gb143, 2, none⟩ = some (.int .i64 a0_2) := (blk_cell BK143.out 2).trans rfl; have hcz55_3 : w54.cell? ⟨gb143, 3, none⟩ = some (.int .i64 a0_3) := (blk_cell BK143.out 3).trans rfl; have hcz55_4 : w54.cell? ⟨gb143, 4, none⟩ = some (.string a0_4) := (blk_cell BK143.out 4).trans rfl; have hfz55_0 := blk_frozen BK143.out 0; have hfz55_1 := blk_frozen BK143.out 1; have hfz55_2 := blk_frozen BK143.out 2; have hfz55_3 := blk_frozen BK143.out 3; have hfz55_4 := blk_frozen BK143.out 4))
        go_ret
        exact ⟨Z7, Z2 GE143.out⟩
def spec_takes.f (a0_0 : Int) (a0_1 : Int) (a0_2 : Int) (a0_3 : Int) (a0_4 : ByteArray) : Option (Int) := if a0_0 = 5 then (some 2) else (if a0_0 = 6 then (some 3) else (some 0))
set_option maxHeartbeats 8000000 in
set_option maxRecDepth 100000 in
theorem spec_takes.calls (a0_0 : Int) (a0_1 : Int) (a0_2 : Int) (a0_3 : Int) (a0_4 : ByteArray) (r : Int) (w : World) (h : spec_takes.f a0_0 a0_1 a0_2 a0_3 a0_4 = some r) :
  Calls Try.prog 95 #[.agg #[.int .i64 a0_0, .int .i64 a0_1, .int .i64 a0_2, .int .i64 a0_3, .string a0_4]] w fun e w' => e = .returned (.int .i64 r) ∧ Below w.heap.size w w' := by
 have hu126 := Try.underlying126
 have HB := A_ (Below.refl w.heap.size w)
 have H : (if a0_0 = 5 then (some 2) else (if a0_0 = 6 then (some 3) else (some 0))) = some r := h
 clear h
 by_cases c2 : a0_0 = 5
 ·rw [if_pos c2] at H
  have c2b0 : (a0_0 == 5) = true := beq_iff_eq.mpr c2
  have c2b1 : (a0_0 != 5) = false := bne_eq_false_iff_eq.mpr c2
  clear c2
  obtain rfl := Option.some.inj H
  go_enter Try.func95, Try.ntmps95
  go_wp2_with (first | ((with_reducible refine gate_dst (N := 1) rfl ?_); refine box_event ?hg (N := 1) ?hd (cs := #[.int .i64 a0_0, .int .i64 a0_1, .int .i64 a0_2, .int .i64 a0_3, .string a0_4]) (t := 126) ?hr ?_; (case hd => rfl); (case hg => rfl); (case hr => exact Z16); intro gb150 hg w3 hbox hb; have n0_ := A_ (below_step Z1 hb); have n1_ := A_ (hbox); have n2_ := A_ ((by rw [hg]; exact (below_size Z1) : w.heap.size ≤ gb150)); have n3_ := A_ ((by rw [hg]; exact (below_size Z1) : w.heap.size ≤ gb150)); clear HB; have HB := n0_; have BK150 := n1_; have GW150 := n2_; have GE150 := n3_; clear n0_ n1_ n2_ n3_; clear hb hbox hg; have hcz4_0 : w3.cell? ⟨gb150, 0, none⟩ = some (.int .i64 a0_0) := (blk_cell BK150.out 0).trans rfl; have hcz4_1 : w3.cell? ⟨gb150, 1, none⟩ = some (.int .i64 a0_1) := (blk_cell BK150.out 1).trans rfl; have hcz4_2 : w3.cell? ⟨gb150, 2, none⟩ = some (.int .i64 a0_2) := (blk_cell BK150.out 2).trans rfl; have hcz4_3 : w3.cell? ⟨gb150, 3, none⟩ = some (.int .i64 a0_3) := (blk_cell BK150.out 3).trans rfl; have hcz4_4 : w3.cell? ⟨gb150, 4, none⟩ = some (.string a0_4) := (blk_cell BK150.out 4).trans rfl; have hfz4_0 := blk_frozen BK150.out 0; have hfz4_1 := blk_frozen BK150.out 1; have hfz4_2 := blk_frozen BK150.out 2; have hfz4_3 := blk_frozen BK150.out 3; have hfz4_4 := blk_frozen BK150.out 4))
  go_ret
  exact ⟨Z7, Z2 GE150.out⟩
 ·rw [if_neg c2] at H
  have c2b0 : (a0_0 == 5) = false := beq_eq_false_iff_ne.mpr c2
  have c2b1 : (a0_0 != 5) = true := bne_iff_ne.mpr c2
  by_cases c5 : a0_0 = 6
  ·rw [if_pos c5] at H
   have c5b0 : (a0_0 == 6) = true := beq_iff_eq.mpr c5
   have c5b1 : (a0_0 != 6) = false := bne_eq_false_iff_eq.mpr c5
   clear c5
   obtain rfl := Option.some.inj H
   go_enter Try.func95, Try.ntmps95
   go_wp2_with (first | ((with_reducible refine gate_dst (N := 1) rfl ?_); refine box_event ?hg (N := 1) ?hd (cs := #[.int .i64 a0_0, .int .i64 a0_1, .int .i64 a0_2, .int .i64 a0_3, .string a0_4]) (t := 126) ?hr ?_; (case hd => rfl); (case hg => rfl); (case hr => exact Z16); intro gb150 hg w6 hbox hb; have n0_ := A_ (below_step Z1 hb); have n1_ := A_ (hbox); have n2_ := A_ ((by rw [hg]; exact (below_size Z1) : w.heap.size ≤ gb150)); have n3_ := A_ ((by rw [hg]; exact (below_size Z1) : w.heap.size ≤ gb150)); clear HB; have HB := n0_; have BK150 := n1_; have GW150 := n2_; have GE150 := n3_; clear n0_ n1_ n2_ n3_; clear hb hbox hg; have hcz7_0 : w6.cell? ⟨gb150, 0, none⟩ = some (.int .i64 a0_0) := (blk_cell BK150.out 0).trans rfl; have hcz7_1 : w6.cell? ⟨gb150, 1, none⟩ = some (.int .i64 a0_1) := (blk_cell BK150.out 1).trans rfl; have hcz7_2 : w6.cell? ⟨gb150, 2, none⟩ = some (.int .i64 a0_2) := (blk_cell BK150.out 2).trans rfl; have hcz7_3 : w6.cell? ⟨gb150, 3, none⟩ = some (.int .i64 a0_3) := (blk_cell BK150.out 3).trans rfl; have hcz7_4 : w6.cell? ⟨gb150, 4, none⟩ = some (.string a0_4) := (blk_cell BK150.out 4).trans rfl; have hfz7_0 := blk_frozen BK150.out 0; have hfz7_1 := blk_frozen BK150.out 1; have hfz7_2 := blk_frozen BK150.out 2; have hfz7_3 := blk_frozen BK150.out 3; have hfz7_4 := blk_frozen BK150.out 4))
   go_ret
   exact ⟨Z7, Z2 GE150.out⟩
  ·rw [if_neg c5] at H
   have c5b0 : (a0_0 == 6) = false := beq_eq_false_iff_ne.mpr c5
   have c5b1 : (a0_0 != 6) = true := bne_iff_ne.mpr c5
   obtain rfl := Option.some.inj H
   go_enter Try.func95, Try.ntmps95
   go_wp2_with (first | ((with_reducible refine gate_dst (N := 1) rfl ?_); refine box_event ?hg (N := 1) ?hd (cs := #[.int .i64 a0_0, .int .i64 a0_1, .int .i64 a0_2, .int .i64 a0_3, .string a0_4]) (t := 126) ?hr ?_; (case hd => rfl); (case hg => rfl); (case hr => exact Z16); intro gb150 hg w8 hbox hb; have n0_ := A_ (below_step Z1 hb); have n1_ := A_ (hbox); have n2_ := A_ ((by rw [hg]; exact (below_size Z1) : w.heap.size ≤ gb150)); have n3_ := A_ ((by rw [hg]; exact (below_size Z1) : w.heap.size ≤ gb150)); clear HB; have HB := n0_; have BK150 := n1_; have GW150 := n2_; have GE150 := n3_; clear n0_ n1_ n2_ n3_; clear hb hbox hg; have hcz9_0 : w8.cell? ⟨gb150, 0, none⟩ = some (.int .i64 a0_0) := (blk_cell BK150.out 0).trans rfl; have hcz9_1 : w8.cell? ⟨gb150, 1, none⟩ = some (.int .i64 a0_1) := (blk_cell BK150.out 1).trans rfl; have hcz9_2 : w8.cell? ⟨gb150, 2, none⟩ = some (.int .i64 a0_2) := (blk_cell BK150.out 2).trans rfl; have hcz9_3 : w8.cell? ⟨gb150, 3, none⟩ = some (.int .i64 a0_3) := (blk_cell BK150.out 3).trans rfl; have hcz9_4 : w8.cell? ⟨gb150, 4, none⟩ = some (.string a0_4) := (blk_cell BK150.out 4).trans rfl; have hfz9_0 := blk_frozen BK150.out 0; have hfz9_1 := blk_frozen BK150.out 1; have hfz9_2 := blk_frozen BK150.out 2; have hfz9_3 := blk_frozen BK150.out 3; have hfz9_4 := blk_frozen BK150.out 4))
   go_ret
   exact ⟨Z7, Z2 GE150.out⟩
def spec_validForm.l0 : Nat → List (S126) → Int → Int → Int → Int → Int → Option (Bool)
 | 0, _, _, _, _, _, _ => none
 | k + 1, x0, x1, x2, x3, x9, x10 => if x10 < (x0.length : Int) then (if 0 ≤ x10 then ((spec_validStep.f k ((rd_T126 x0 x10).f0) ((rd_T126 x0 x10).f1) ((rd_T126 x0 x10).f2.f0) ((rd_T126 x0 x10).f2.f1) ((rd_T126 x0 x10).f2.f2) x1 x2 x3).bind fun t152 => (if t152 = true then ((spec_takes.f ((rd_T126 x0 x10).f0) ((rd_T126 x0 x10).f1) ((rd_T126 x0 x10).f2.f0) ((rd_T126 x0 x10).f2.f1) ((rd_T126 x0 x10).f2.f2)).bind fun t154 => (if x9 < t154 then (some false) else ((spec_takes.f ((rd_T126 x0 x10).f0) ((rd_T126 x0 x10).f1) ((rd_T126 x0 x10).f2.f0) ((rd_T126 x0 x10).f2.f1) ((rd_T126 x0 x10).f2.f2)).bind fun t156 => (spec_validForm.l0 k x0 x1 x2 x3 (wrap64 ((wrap64 (x9 - t156)) + 1)) (wrap64 (x10 + 1)))))) else (some false))) else (none)) else (some (x9 == 1))
def spec_validForm.f (k : Nat) (l0 : List (S126)) (a1 : Int) (a2 : Int) (a3 : Int) : Option (Bool) := if (l0.length : Int) > 9 then (some false) else (spec_validForm.l0 k l0 a1 a2 a3 0 0)
theorem spec_validForm.mono_l : ∀ k, (∀ y0 y1 y2 y3 y4 y5, LeO (spec_validForm.l0 k y0 y1 y2 y3 y4 y5) (spec_validForm.l0 (k + 1) y0 y1 y2 y3 y4 y5))
 | 0 => fun _ _ _ _ _ _ r h => by simp [spec_validForm.l0] at h
 | k + 1 => by
  have ih0 := spec_validForm.mono_l k
  ·intro y0 y1 y2 y3 y4 y5
   unfold spec_validForm.l0
   repeat' first
   | (with_reducible exact ih0 _ _ _ _ _ _)
   | (with_reducible exact spec_validStep.mono _ _ _ _ _ _ _ _ _)
   | (with_reducible exact LeO.refl _)
   | (with_reducible exact LeO.none _)
   | (with_reducible refine LeO.ite ?_ ?_)
   | (with_reducible refine LeO.bind ?_ (fun _ => ?_))
   | exact ih0 _ _ _ _ _ _
   | exact spec_validStep.mono _ _ _ _ _ _ _ _ _
   | exact LeO.none _
   | refine LeO.ite ?_ ?_
   | refine LeO.bind ?_ (fun _ => ?_)
theorem spec_validForm.mono : ∀ a0 a1 a2 a3 k, LeO (spec_validForm.f k a0 a1 a2 a3) (spec_validForm.f (k + 1) a0 a1 a2 a3) := by
 intro a0 a1 a2 a3 k
 have ih0 := spec_validForm.mono_l k
 unfold spec_validForm.f
 repeat' first
   | (with_reducible exact ih0 _ _ _ _ _ _)
   | (with_reducible exact spec_validStep.mono _ _ _ _ _ _ _ _ _)
   | (with_reducible exact LeO.refl _)
   | (with_reducible exact LeO.none _)
   | (with_reducible refine LeO.ite ?_ ?_)
   | (with_reducible refine LeO.bind ?_ (fun _ => ?_))
   | exact ih0 _ _ _ _ _ _
   | exact spec_validStep.mono _ _ _ _ _ _ _ _ _
   | exact LeO.none _
   | refine LeO.ite ?_ ?_
   | refine LeO.bind ?_ (fun _ => ?_)
set_option maxHeartbeats 8000000 in
set_option maxRecDepth 100000 in
theorem spec_validForm.calls (k : Nat) (A0 : Option Addr) (c0 : Nat) (l0 : List (S126)) (a1 : Int) (a2 : Int) (a3 : Int) (r : Bool) (w : World) (hr0 : Kd.C k126 w A0 l0.length l0) (hc0 : l0.length ≤ c0) (h : spec_validForm.f k l0 a1 a2 a3 = some r) :
  Calls Try.prog 78 #[.slice A0 l0.length c0, .int .i64 a1, .int .i64 a2, .int .i64 a3] w fun e w' => e = .returned (.bool r) ∧ Below w.heap.size w w' := by
 have hu126 := Try.underlying126
 have HR0 := A_ hr0
 have HC0 := A_ hc0
 clear hr0 hc0
 have HB := A_ (Below.refl w.heap.size w)
 have H : (if (l0.length : Int) > 9 then (some false) else (spec_validForm.l0 k l0 a1 a2 a3 0 0)) = some r := h
 clear h
 by_cases c5 : (l0.length : Int) > 9
 ·rw [if_pos c5] at H
  have c5b0 : decide (9 < (l0.length : Int)) = true := decide_eq_true c5
  have c5b1 : decide (9 < l0.length) = true := decide_eq_true (by omega)
  clear c5
  obtain rfl := Option.some.inj H
  go_enter Try.func78, Try.ntmps78
  go_wp2
  go_ret
  exact ⟨Z7, Z1⟩
 ·rw [if_neg c5] at H
  have c5b0 : decide (9 < (l0.length : Int)) = false := decide_eq_false c5
  have c5b1 : decide (9 < l0.length) = false := decide_eq_false (by omega)
  clear c5
  have H' := A_ H
  clear H
  go_enter Try.func78, Try.ntmps78
  go_wp2
  go_loopg [9, 10] k (fun kq v9 v10 w' => ∃ (x9_1 : Int) (x10_1 : Int), v9 = .int .i64 x9_1 ∧ v10 = .int .i64 x10_1 ∧ Aside0 (spec_validForm.l0 kq l0 a1 a2 a3 x9_1 x10_1 = some r) ∧ Aside0 (kq ≤ k) ∧ Aside0 (Below w.heap.size w w'))
  case atStart => exact ⟨(0), (0), Z17, Z17, H', ⟨Nat.le_refl _⟩, ⟨Z1⟩⟩
  case round =>
   clear H'
   try clear p2
   try clear c5
   try clear c5b0
   try clear c5b1
   obtain ⟨x9_1, x10_1, rfl, rfl, HA, HK1, HB⟩ := hrel
   cases gk with
   | zero => exact absurd HA.out (by simp [spec_validForm.l0])
   | succ k1 =>
    have H := HA.out
    clear HA
    simp only [spec_validForm.l0] at H
    by_cases c6 : x10_1 < (l0.length : Int)
    ·rw [if_pos c6] at H
     have c6b0 : decide (x10_1 < (l0.length : Int)) = true := decide_eq_true c6
     clear c6
     by_cases c7 : 0 ≤ x10_1
     ·rw [if_pos c7] at H
      have c7b0 : decide (0 ≤ x10_1) = true := decide_eq_true c7
      clear c7
      replace H := Option.bind_eq_some_iff.mp H
      obtain ⟨t152, A80, H⟩ := H
      replace H : (if t152 = true then ((spec_takes.f ((rd_T126 l0 x10_1).f0) ((rd_T126 l0 x10_1).f1) ((rd_T126 l0 x10_1).f2.f0) ((rd_T126 l0 x10_1).f2.f1) ((rd_T126 l0 x10_1).f2.f2)).bind fun t154 => (if x9_1 < t154 then (some false) else ((spec_takes.f ((rd_T126 l0 x10_1).f0) ((rd_T126 l0 x10_1).f1) ((rd_T126 l0 x10_1).f2.f0) ((rd_T126 l0 x10_1).f2.f1) ((rd_T126 l0 x10_1).f2.f2)).bind fun t156 => (spec_validForm.l0 k1 l0 a1 a2 a3 (wrap64 ((wrap64 (x9_1 - t156)) + 1)) (wrap64 (x10_1 + 1)))))) else (some false)) = some r := H
      have A8 := A_ A80
      clear A80
      by_cases c9 : t152 = true
      ·subst c9
       have H1 : ((spec_takes.f ((rd_T126 l0 x10_1).f0) ((rd_T126 l0 x10_1).f1) ((rd_T126 l0 x10_1).f2.f0) ((rd_T126 l0 x10_1).f2.f1) ((rd_T126 l0 x10_1).f2.f2)).bind fun t154 => (if x9_1 < t154 then (some false) else ((spec_takes.f ((rd_T126 l0 x10_1).f0) ((rd_T126 l0 x10_1).f1) ((rd_T126 l0 x10_1).f2.f0) ((rd_T126 l0 x10_1).f2.f1) ((rd_T126 l0 x10_1).f2.f2)).bind fun t156 => (spec_validForm.l0 k1 l0 a1 a2 a3 (wrap64 ((wrap64 (x9_1 - t156)) + 1)) (wrap64 (x10_1 + 1)))))) = some r := by rw [if_pos rfl] at H; exact H
       clear H
       have H := H1
       clear H1
       replace H := Option.bind_eq_some_iff.mp H
       obtain ⟨t154, A100, H⟩ := H
       replace H : (if x9_1 < t154 then (some false) else ((spec_takes.f ((rd_T126 l0 x10_1).f0) ((rd_T126 l0 x10_1).f1) ((rd_T126 l0 x10_1).f2.f0) ((rd_T126 l0 x10_1).f2.f1) ((rd_T126 l0 x10_1).f2.f2)).bind fun t156 => (spec_validForm.l0 k1 l0 a1 a2 a3 (wrap64 ((wrap64 (x9_1 - t156)) + 1)) (wrap64 (x10_1 + 1))))) = some r := H
       have A10 := A_ A100
       clear A100
       by_cases c11 : x9_1 < t154
       ·rw [if_pos c11] at H
        have c11b0 : decide (x9_1 < t154) = true := decide_eq_true c11
        clear c11
        obtain rfl := Option.some.inj H
        have p151 : 0 ≤ (x10_1 : Int) := of_decide_eq_true Z14
        have q151 : x10_1 < (l0.length : Int) := of_decide_eq_true Z14
        obtain ⟨ad151, e151, hx151_0, hx151_1, hx151_2, hx151_3, hx151_4⟩ := at_T126 HR0.out x10_1 p151 q151
        cases e151
        replace hx151_0 := ZC HB.out hx151_0
        replace hx151_1 := ZC HB.out hx151_1
        replace hx151_2 := ZC HB.out hx151_2
        replace hx151_3 := ZC HB.out hx151_3
        replace hx151_4 := ZC HB.out hx151_4
        replace p151 := eq_true p151
        replace q151 := eq_true q151
        go_wp2_with (first | ((with_reducible refine gate_callee (f := 94) rfl ?_); refine goesL_ (some 27) rfl rfl Try.func94 (by kernel_rfl) rfl #[.agg #[.int .i64 ((rd_T126 l0 x10_1).f0), .int .i64 ((rd_T126 l0 x10_1).f1), .int .i64 ((rd_T126 l0 x10_1).f2.f0), .int .i64 ((rd_T126 l0 x10_1).f2.f1), .string ((rd_T126 l0 x10_1).f2.f2)], .int .i64 a1, .int .i64 a2, .int .i64 a3] rfl Z5 ?_; (with_reducible refine (spec_validStep.calls k1 ((rd_T126 l0 x10_1).f0) ((rd_T126 l0 x10_1).f1) ((rd_T126 l0 x10_1).f2.f0) ((rd_T126 l0 x10_1).f2.f1) ((rd_T126 l0 x10_1).f2.f2) a1 a2 a3 true _ A8.out).mono ?_); rintro e w12 ⟨rfl, hb⟩; refine ⟨_, rfl, ?_⟩; have n0_ := A_ (below_step Z1 hb); clear HB; have HB := n0_; clear n0_; (try clear hb); (try clear hb2); (try clear hk); (try clear hi); have p153 : 0 ≤ (x10_1 : Int) := of_decide_eq_true Z14; have q153 : x10_1 < (l0.length : Int) := of_decide_eq_true Z14; obtain ⟨ad153, e153, hx153_0, hx153_1, hx153_2, hx153_3, hx153_4⟩ := at_T126 HR0.out x10_1 p153 q153; obtain rfl : ad151 = ad153 := (by injection e153); replace hx153_0 := ZC HB.out hx153_0; replace hx153_1 := ZC HB.out hx153_1; replace hx153_2 := ZC HB.out hx153_2; replace hx153_3 := ZC HB.out hx153_3; replace hx153_4 := ZC HB.out hx153_4; replace p153 := eq_true p153; replace q153 := eq_true q153) | (go_at_call 95; (with_reducible refine (spec_takes.calls ((rd_T126 l0 x10_1).f0) ((rd_T126 l0 x10_1).f1) ((rd_T126 l0 x10_1).f2.f0) ((rd_T126 l0 x10_1).f2.f1) ((rd_T126 l0 x10_1).f2.f2) t154 _ A10.out).mono ?_); rintro e w13 ⟨rfl, hb⟩; have n0_ := A_ (below_step Z1 hb); clear HB; have HB := n0_; clear n0_; (try clear hb); (try clear hb2); (try clear hk); (try clear hi)))
        go_ret
        exact ⟨Z7, Z1⟩
       ·rw [if_neg c11] at H
        have c11b0 : decide (x9_1 < t154) = false := decide_eq_false c11
        clear c11
        replace H := Option.bind_eq_some_iff.mp H
        obtain ⟨t156, A140, H⟩ := H
        replace H : (spec_validForm.l0 k1 l0 a1 a2 a3 (wrap64 ((wrap64 (x9_1 - t156)) + 1)) (wrap64 (x10_1 + 1))) = some r := H
        have A14 := A_ A140
        clear A140
        have H' := A_ H
        clear H
        have p151 : 0 ≤ (x10_1 : Int) := of_decide_eq_true Z14
        have q151 : x10_1 < (l0.length : Int) := of_decide_eq_true Z14
        obtain ⟨ad151, e151, hx151_0, hx151_1, hx151_2, hx151_3, hx151_4⟩ := at_T126 HR0.out x10_1 p151 q151
        cases e151
        replace hx151_0 := ZC HB.out hx151_0
        replace hx151_1 := ZC HB.out hx151_1
        replace hx151_2 := ZC HB.out hx151_2
        replace hx151_3 := ZC HB.out hx151_3
        replace hx151_4 := ZC HB.out hx151_4
        replace p151 := eq_true p151
        replace q151 := eq_true q151
        go_wp2_with (first | ((with_reducible refine gate_callee (f := 94) rfl ?_); refine goesL_ (some 27) rfl rfl Try.func94 (by kernel_rfl) rfl #[.agg #[.int .i64 ((rd_T126 l0 x10_1).f0), .int .i64 ((rd_T126 l0 x10_1).f1), .int .i64 ((rd_T126 l0 x10_1).f2.f0), .int .i64 ((rd_T126 l0 x10_1).f2.f1), .string ((rd_T126 l0 x10_1).f2.f2)], .int .i64 a1, .int .i64 a2, .int .i64 a3] rfl Z5 ?_; (with_reducible refine (spec_validStep.calls k1 ((rd_T126 l0 x10_1).f0) ((rd_T126 l0 x10_1).f1) ((rd_T126 l0 x10_1).f2.f0) ((rd_T126 l0 x10_1).f2.f1) ((rd_T126 l0 x10_1).f2.f2) a1 a2 a3 true _ A8.out).mono ?_); rintro e w15 ⟨rfl, hb⟩; refine ⟨_, rfl, ?_⟩; have n0_ := A_ (below_step Z1 hb); clear HB; have HB := n0_; clear n0_; (try clear hb); (try clear hb2); (try clear hk); (try clear hi); have p153 : 0 ≤ (x10_1 : Int) := of_decide_eq_true Z14; have q153 : x10_1 < (l0.length : Int) := of_decide_eq_true Z14; obtain ⟨ad153, e153, hx153_0, hx153_1, hx153_2, hx153_3, hx153_4⟩ := at_T126 HR0.out x10_1 p153 q153; obtain rfl : ad151 = ad153 := (by injection e153); replace hx153_0 := ZC HB.out hx153_0; replace hx153_1 := ZC HB.out hx153_1; replace hx153_2 := ZC HB.out hx153_2; replace hx153_3 := ZC HB.out hx153_3; replace hx153_4 := ZC HB.out hx153_4; replace p153 := eq_true p153; replace q153 := eq_true q153) | (go_at_call 95; (with_reducible refine (spec_takes.calls ((rd_T126 l0 x10_1).f0) ((rd_T126 l0 x10_1).f1) ((rd_T126 l0 x10_1).f2.f0) ((rd_T126 l0 x10_1).f2.f1) ((rd_T126 l0 x10_1).f2.f2) t154 _ A10.out).mono ?_); rintro e w16 ⟨rfl, hb⟩; have n0_ := A_ (below_step Z1 hb); clear HB; have HB := n0_; clear n0_; (try clear hb); (try clear hb2); (try clear hk); (try clear hi); have p155 : 0 ≤ (x10_1 : Int) := of_decide_eq_true Z14; have q155 : x10_1 < (l0.length : Int) := of_decide_eq_true Z14; obtain ⟨ad155, e155, hx155_0, hx155_1, hx155_2, hx155_3, hx155_4⟩ := at_T126 HR0.out x10_1 p155 q155; obtain rfl : ad151 = ad155 := (by injection e155); replace hx155_0 := ZC HB.out hx155_0; replace hx155_1 := ZC HB.out hx155_1; replace hx155_2 := ZC HB.out hx155_2; replace hx155_3 := ZC HB.out hx155_3; replace hx155_4 := ZC HB.out hx155_4; replace p155 := eq_true p155; replace q155 := eq_true q155) | ((with_reducible refine gate_callee (f := 95) rfl ?_); refine goesL_ (some 43) rfl rfl Try.func95 (by kernel_rfl) rfl #[.agg #[.int .i64 ((rd_T126 l0 x10_1).f0), .int .i64 ((rd_T126 l0 x10_1).f1), .int .i64 ((rd_T126 l0 x10_1).f2.f0), .int .i64 ((rd_T126 l0 x10_1).f2.f1), .string ((rd_T126 l0 x10_1).f2.f2)]] rfl Z5 ?_; (with_reducible refine (spec_takes.calls ((rd_T126 l0 x10_1).f0) ((rd_T126 l0 x10_1).f1) ((rd_T126 l0 x10_1).f2.f0) ((rd_T126 l0 x10_1).f2.f1) ((rd_T126 l0 x10_1).f2.f2) t156 _ A14.out).mono ?_); rintro e w17 ⟨rfl, hb⟩; refine ⟨_, rfl, ?_⟩; have n0_ := A_ (below_step Z1 hb); clear HB; have HB := n0_; clear n0_; (try clear hb); (try clear hb2); (try clear hk); (try clear hi)))
        go_roundg k1
        case measure => have := HK1.out; omega
        case rel => exact ⟨(wrap64 ((wrap64 (x9_1 - t156)) + 1)), (wrap64 (x10_1 + 1)), Z17, Z17, H', ⟨by have := HK1.out; omega⟩, ⟨Z1⟩⟩
      ·replace c9 := Bool.eq_false_iff.mpr c9
       subst c9
       have H1 : (some false) = some r := by rw [if_neg (show ¬ (false = true) by decide)] at H; exact H
       clear H
       have H := H1
       clear H1
       obtain rfl := Option.some.inj H
       have p151 : 0 ≤ (x10_1 : Int) := of_decide_eq_true Z14
       have q151 : x10_1 < (l0.length : Int) := of_decide_eq_true Z14
       obtain ⟨ad151, e151, hx151_0, hx151_1, hx151_2, hx151_3, hx151_4⟩ := at_T126 HR0.out x10_1 p151 q151
       cases e151
       replace hx151_0 := ZC HB.out hx151_0
       replace hx151_1 := ZC HB.out hx151_1
       replace hx151_2 := ZC HB.out hx151_2
       replace hx151_3 := ZC HB.out hx151_3
       replace hx151_4 := ZC HB.out hx151_4
       replace p151 := eq_true p151
       replace q151 := eq_true q151
       go_wp2_with (first | ((with_reducible refine gate_callee (f := 94) rfl ?_); refine goesL_ (some 27) rfl rfl Try.func94 (by kernel_rfl) rfl #[.agg #[.int .i64 ((rd_T126 l0 x10_1).f0), .int .i64 ((rd_T126 l0 x10_1).f1), .int .i64 ((rd_T126 l0 x10_1).f2.f0), .int .i64 ((rd_T126 l0 x10_1).f2.f1), .string ((rd_T126 l0 x10_1).f2.f2)], .int .i64 a1, .int .i64 a2, .int .i64 a3] rfl Z5 ?_; (with_reducible refine (spec_validStep.calls k1 ((rd_T126 l0 x10_1).f0) ((rd_T126 l0 x10_1).f1) ((rd_T126 l0 x10_1).f2.f0) ((rd_T126 l0 x10_1).f2.f1) ((rd_T126 l0 x10_1).f2.f2) a1 a2 a3 false _ A8.out).mono ?_); rintro e w18 ⟨rfl, hb⟩; refine ⟨_, rfl, ?_⟩; have n0_ := A_ (below_step Z1 hb); clear HB; have HB := n0_; clear n0_; (try clear hb); (try clear hb2); (try clear hk); (try clear hi)))
       go_ret
       exact ⟨Z7, Z1⟩
     ·rw [if_neg c7] at H
      exact absurd H (by simp)
    ·rw [if_neg c6] at H
     have c6b0 : decide (x10_1 < (l0.length : Int)) = false := decide_eq_false c6
     clear c6
     obtain rfl := Option.some.inj H
     go_wp2
     go_ret
     exact ⟨Z7, Z1⟩
def spec_validUpdate.f (k : Nat) (l0_0 : List (S121)) (a0_1 : Int) (l0_2 : List (S126)) (a0_3 : Int) : Option (Bool) := (spec_validPlace.f k l0_0).bind fun t158 => (if t158 = true then ((spec_inRange.f a0_1 0 2).bind fun t159 => (if t159 = true then ((spec_inRange.f a0_3 (-1) 2).bind fun t160 => (if t160 = true then ((spec_validForm.f k l0_2 0 3 0).bind fun t161 => (some t161)) else (some false))) else (some false))) else (some false))
theorem spec_validUpdate.mono : ∀ a0 a1 a2 a3 k, LeO (spec_validUpdate.f k a0 a1 a2 a3) (spec_validUpdate.f (k + 1) a0 a1 a2 a3) := by
 intro a0 a1 a2 a3 k
 unfold spec_validUpdate.f
 repeat' first
   | (with_reducible exact spec_validForm.mono _ _ _ _ _)
   | (with_reducible exact spec_validPlace.mono _ _)
   | (with_reducible exact LeO.refl _)
   | (with_reducible exact LeO.none _)
   | (with_reducible refine LeO.ite ?_ ?_)
   | (with_reducible refine LeO.bind ?_ (fun _ => ?_))
   | exact spec_validForm.mono _ _ _ _ _
   | exact spec_validPlace.mono _ _
   | exact LeO.none _
   | refine LeO.ite ?_ ?_
   | refine LeO.bind ?_ (fun _ => ?_)
set_option maxHeartbeats 8000000 in
set_option maxRecDepth 100000 in
theorem spec_validUpdate.calls (k : Nat) (A0_0 : Option Addr) (c0_0 : Nat) (l0_0 : List (S121)) (a0_1 : Int) (A0_2 : Option Addr) (c0_2 : Nat) (l0_2 : List (S126)) (a0_3 : Int) (r : Bool) (w : World) (hr0_0 : Kd.C k121 w A0_0 l0_0.length l0_0) (hc0_0 : l0_0.length ≤ c0_0) (hr0_2 : Kd.C k126 w A0_2 l0_2.length l0_2) (hc0_2 : l0_2.length ≤ c0_2) (h : spec_validUpdate.f k l0_0 a0_1 l0_2 a0_3 = some r) :
  Calls Try.prog 48 #[.agg #[.slice A0_0 l0_0.length c0_0, .int .i64 a0_1, .slice A0_2 l0_2.length c0_2, .int .i64 a0_3]] w fun e w' => e = .returned (.bool r) ∧ Below w.heap.size w w' := by
 have hu53 := Try.underlying53
 have HR0_0 := A_ hr0_0
 have HC0_0 := A_ hc0_0
 clear hr0_0 hc0_0
 have HR0_2 := A_ hr0_2
 have HC0_2 := A_ hc0_2
 clear hr0_2 hc0_2
 have HB := A_ (Below.refl w.heap.size w)
 have H : ((spec_validPlace.f k l0_0).bind fun t158 => (if t158 = true then ((spec_inRange.f a0_1 0 2).bind fun t159 => (if t159 = true then ((spec_inRange.f a0_3 (-1) 2).bind fun t160 => (if t160 = true then ((spec_validForm.f k l0_2 0 3 0).bind fun t161 => (some t161)) else (some false))) else (some false))) else (some false))) = some r := h
 clear h
 replace H := Option.bind_eq_some_iff.mp H
 obtain ⟨t158, A20, H⟩ := H
 replace H : (if t158 = true then ((spec_inRange.f a0_1 0 2).bind fun t159 => (if t159 = true then ((spec_inRange.f a0_3 (-1) 2).bind fun t160 => (if t160 = true then ((spec_validForm.f k l0_2 0 3 0).bind fun t161 => (some t161)) else (some false))) else (some false))) else (some false)) = some r := H
 have A2 := A_ A20
 clear A20
 by_cases c3 : t158 = true
 ·subst c3
  have H1 : ((spec_inRange.f a0_1 0 2).bind fun t159 => (if t159 = true then ((spec_inRange.f a0_3 (-1) 2).bind fun t160 => (if t160 = true then ((spec_validForm.f k l0_2 0 3 0).bind fun t161 => (some t161)) else (some false))) else (some false))) = some r := by rw [if_pos rfl] at H; exact H
  clear H
  have H := H1
  clear H1
  replace H := Option.bind_eq_some_iff.mp H
  obtain ⟨t159, A40, H⟩ := H
  replace H : (if t159 = true then ((spec_inRange.f a0_3 (-1) 2).bind fun t160 => (if t160 = true then ((spec_validForm.f k l0_2 0 3 0).bind fun t161 => (some t161)) else (some false))) else (some false)) = some r := H
  have A4 := A_ A40
  clear A40
  by_cases c5 : t159 = true
  ·subst c5
   have H1 : ((spec_inRange.f a0_3 (-1) 2).bind fun t160 => (if t160 = true then ((spec_validForm.f k l0_2 0 3 0).bind fun t161 => (some t161)) else (some false))) = some r := by rw [if_pos rfl] at H; exact H
   clear H
   have H := H1
   clear H1
   replace H := Option.bind_eq_some_iff.mp H
   obtain ⟨t160, A60, H⟩ := H
   replace H : (if t160 = true then ((spec_validForm.f k l0_2 0 3 0).bind fun t161 => (some t161)) else (some false)) = some r := H
   have A6 := A_ A60
   clear A60
   by_cases c7 : t160 = true
   ·subst c7
    have H1 : ((spec_validForm.f k l0_2 0 3 0).bind fun t161 => (some t161)) = some r := by rw [if_pos rfl] at H; exact H
    clear H
    have H := H1
    clear H1
    replace H := Option.bind_eq_some_iff.mp H
    obtain ⟨t161, A80, H⟩ := H
    replace H : (some t161) = some r := H
    have A8 := A_ A80
    clear A80
    obtain rfl := Option.some.inj H
    go_enter Try.func48, Try.ntmps48
    go_wp2_with (first | ((with_reducible refine gate_dst (N := 1) rfl ?_); refine box_event ?hg (N := 1) ?hd (cs := #[.slice A0_0 l0_0.length c0_0, .int .i64 a0_1, .slice A0_2 l0_2.length c0_2, .int .i64 a0_3]) (t := 53) ?hr ?_; (case hd => rfl); (case hg => rfl); (case hr => exact Z16); intro gb157 hg w9 hbox hb; have n0_ := A_ (below_step Z1 hb); have n1_ := A_ (hbox); have n2_ := A_ ((by rw [hg]; exact (below_size Z1) : w.heap.size ≤ gb157)); have n3_ := A_ ((by rw [hg]; exact (below_size Z1) : w.heap.size ≤ gb157)); clear HB; have HB := n0_; have BK157 := n1_; have GW157 := n2_; have GE157 := n3_; clear n0_ n1_ n2_ n3_; clear hb hbox hg; have hcz10_0 : w9.cell? ⟨gb157, 0, none⟩ = some (.slice A0_0 l0_0.length c0_0) := (blk_cell BK157.out 0).trans rfl; have hcz10_1 : w9.cell? ⟨gb157, 1, none⟩ = some (.int .i64 a0_1) := (blk_cell BK157.out 1).trans rfl; have hcz10_2 : w9.cell? ⟨gb157, 2, none⟩ = some (.slice A0_2 l0_2.length c0_2) := (blk_cell BK157.out 2).trans rfl; have hcz10_3 : w9.cell? ⟨gb157, 3, none⟩ = some (.int .i64 a0_3) := (blk_cell BK157.out 3).trans rfl; have hfz10_0 := blk_frozen BK157.out 0; have hfz10_1 := blk_frozen BK157.out 1; have hfz10_2 := blk_frozen BK157.out 2; have hfz10_3 := blk_frozen BK157.out 3) | ((with_reducible refine gate_callee (f := 74) rfl ?_); refine goesL_ (some 5) rfl rfl Try.func74 (by kernel_rfl) rfl #[.slice A0_0 l0_0.length c0_0] rfl Z5 ?_; (with_reducible refine (spec_validPlace.calls k _ _ l0_0 true _ ?side1 ?side2 A2.out).mono ?_); (case side1 => exact Z4 HR0_0.out); (case side2 => exact HC0_0.out); rintro e w11 ⟨rfl, hb⟩; refine ⟨_, rfl, ?_⟩; have n0_ := A_ (blk_below (g := gb157) (o := .cells #[.slice A0_0 l0_0.length c0_0, .int .i64 a0_1, .slice A0_2 l0_2.length c0_2, .int .i64 a0_3] 53 (0, 0)) (Z3 BK157.out) hb); have n1_ := A_ (below_step (Z2 GE157.out) hb); clear BK157; clear HB; have BK157 := n0_; have HB := n1_; clear n0_ n1_; (try clear hb); (try clear hb2); (try clear hk); (try clear hi); have hcz12_0 : w11.cell? ⟨gb157, 0, none⟩ = some (.slice A0_0 l0_0.length c0_0) := (blk_cell BK157.out 0).trans rfl; have hcz12_1 : w11.cell? ⟨gb157, 1, none⟩ = some (.int .i64 a0_1) := (blk_cell BK157.out 1).trans rfl; have hcz12_2 : w11.cell? ⟨gb157, 2, none⟩ = some (.slice A0_2 l0_2.length c0_2) := (blk_cell BK157.out 2).trans rfl; have hcz12_3 : w11.cell? ⟨gb157, 3, none⟩ = some (.int .i64 a0_3) := (blk_cell BK157.out 3).trans rfl; have hfz12_0 := blk_frozen BK157.out 0; have hfz12_1 := blk_frozen BK157.out 1; have hfz12_2 := blk_frozen BK157.out 2; have hfz12_3 := blk_frozen BK157.out 3) | (go_at_call 77; (with_reducible refine (spec_inRange.calls a0_1 0 2 true _ A4.out).mono ?_); rintro e w' ⟨rfl, ⟨nd, rfl⟩⟩) | (go_at_call 77; (with_reducible refine (spec_inRange.calls a0_3 (-1) 2 true _ A6.out).mono ?_); rintro e w' ⟨rfl, ⟨nd, rfl⟩⟩) | (go_at_call 78; (with_reducible refine (spec_validForm.calls k _ _ l0_2 0 3 0 t161 _ ?side1 ?side2 A8.out).mono ?_); (case side1 => exact Z37 HR0_2.out GE157.out); (case side2 => exact HC0_2.out); rintro e w13 ⟨rfl, hb⟩; have n0_ := A_ (blk_below (g := gb157) (o := .cells #[.slice A0_0 l0_0.length c0_0, .int .i64 a0_1, .slice A0_2 l0_2.length c0_2, .int .i64 a0_3] 53 (0, 0)) (Z3 BK157.out) hb); have n1_ := A_ (below_step (Z2 GE157.out) hb); clear BK157; clear HB; have BK157 := n0_; have HB := n1_; clear n0_ n1_; (try clear hb); (try clear hb2); (try clear hk); (try clear hi)))
    go_ret
    exact ⟨Z7, Z2 GE157.out⟩
   ·replace c7 := Bool.eq_false_iff.mpr c7
    subst c7
    have H1 : (some false) = some r := by rw [if_neg (show ¬ (false = true) by decide)] at H; exact H
    clear H
    have H := H1
    clear H1
    obtain rfl := Option.some.inj H
    go_enter Try.func48, Try.ntmps48
    go_wp2_with (first | ((with_reducible refine gate_dst (N := 1) rfl ?_); refine box_event ?hg (N := 1) ?hd (cs := #[.slice A0_0 l0_0.length c0_0, .int .i64 a0_1, .slice A0_2 l0_2.length c0_2, .int .i64 a0_3]) (t := 53) ?hr ?_; (case hd => rfl); (case hg => rfl); (case hr => exact Z16); intro gb157 hg w14 hbox hb; have n0_ := A_ (below_step Z1 hb); have n1_ := A_ (hbox); have n2_ := A_ ((by rw [hg]; exact (below_size Z1) : w.heap.size ≤ gb157)); have n3_ := A_ ((by rw [hg]; exact (below_size Z1) : w.heap.size ≤ gb157)); clear HB; have HB := n0_; have BK157 := n1_; have GW157 := n2_; have GE157 := n3_; clear n0_ n1_ n2_ n3_; clear hb hbox hg; have hcz15_0 : w14.cell? ⟨gb157, 0, none⟩ = some (.slice A0_0 l0_0.length c0_0) := (blk_cell BK157.out 0).trans rfl; have hcz15_1 : w14.cell? ⟨gb157, 1, none⟩ = some (.int .i64 a0_1) := (blk_cell BK157.out 1).trans rfl; have hcz15_2 : w14.cell? ⟨gb157, 2, none⟩ = some (.slice A0_2 l0_2.length c0_2) := (blk_cell BK157.out 2).trans rfl; have hcz15_3 : w14.cell? ⟨gb157, 3, none⟩ = some (.int .i64 a0_3) := (blk_cell BK157.out 3).trans rfl; have hfz15_0 := blk_frozen BK157.out 0; have hfz15_1 := blk_frozen BK157.out 1; have hfz15_2 := blk_frozen BK157.out 2; have hfz15_3 := blk_frozen BK157.out 3) | ((with_reducible refine gate_callee (f := 74) rfl ?_); refine goesL_ (some 5) rfl rfl Try.func74 (by kernel_rfl) rfl #[.slice A0_0 l0_0.length c0_0] rfl Z5 ?_; (with_reducible refine (spec_validPlace.calls k _ _ l0_0 true _ ?side1 ?side2 A2.out).mono ?_); (case side1 => exact Z4 HR0_0.out); (case side2 => exact HC0_0.out); rintro e w16 ⟨rfl, hb⟩; refine ⟨_, rfl, ?_⟩; have n0_ := A_ (blk_below (g := gb157) (o := .cells #[.slice A0_0 l0_0.length c0_0, .int .i64 a0_1, .slice A0_2 l0_2.length c0_2, .int .i64 a0_3] 53 (0, 0)) (Z3 BK157.out) hb); have n1_ := A_ (below_step (Z2 GE157.out) hb); clear BK157; clear HB; have BK157 := n0_; have HB := n1_; clear n0_ n1_; (try clear hb); (try clear hb2); (try clear hk); (try clear hi); have hcz17_0 : w16.cell? ⟨gb157, 0, none⟩ = some (.slice A0_0 l0_0.length c0_0) := (blk_cell BK157.out 0).trans rfl; have hcz17_1 : w16.cell? ⟨gb157, 1, none⟩ = some (.int .i64 a0_1) := (blk_cell BK157.out 1).trans rfl; have hcz17_2 : w16.cell? ⟨gb157, 2, none⟩ = some (.slice A0_2 l0_2.length c0_2) := (blk_cell BK157.out 2).trans rfl; have hcz17_3 : w16.cell? ⟨gb157, 3, none⟩ = some (.int .i64 a0_3) := (blk_cell BK157.out 3).trans rfl; have hfz17_0 := blk_frozen BK157.out 0; have hfz17_1 := blk_frozen BK157.out 1; have hfz17_2 := blk_frozen BK157.out 2; have hfz17_3 := blk_frozen BK157.out 3) | (go_at_call 77; (with_reducible refine (spec_inRange.calls a0_1 0 2 true _ A4.out).mono ?_); rintro e w' ⟨rfl, ⟨nd, rfl⟩⟩) | (go_at_call 77; (with_reducible refine (spec_inRange.calls a0_3 (-1) 2 false _ A6.out).mono ?_); rintro e w' ⟨rfl, ⟨nd, rfl⟩⟩))
    go_ret
    exact ⟨Z7, Z2 GE157.out⟩
  ·replace c5 := Bool.eq_false_iff.mpr c5
   subst c5
   have H1 : (some false) = some r := by rw [if_neg (show ¬ (false = true) by decide)] at H; exact H
   clear H
   have H := H1
   clear H1
   obtain rfl := Option.some.inj H
   go_enter Try.func48, Try.ntmps48
   go_wp2_with (first | ((with_reducible refine gate_dst (N := 1) rfl ?_); refine box_event ?hg (N := 1) ?hd (cs := #[.slice A0_0 l0_0.length c0_0, .int .i64 a0_1, .slice A0_2 l0_2.length c0_2, .int .i64 a0_3]) (t := 53) ?hr ?_; (case hd => rfl); (case hg => rfl); (case hr => exact Z16); intro gb157 hg w18 hbox hb; have n0_ := A_ (below_step Z1 hb); have n1_ := A_ (hbox); have n2_ := A_ ((by rw [hg]; exact (below_size Z1) : w.heap.size ≤ gb157)); have n3_ := A_ ((by rw [hg]; exact (below_size Z1) : w.heap.size ≤ gb157)); clear HB; have HB := n0_; have BK157 := n1_; have GW157 := n2_; have GE157 := n3_; clear n0_ n1_ n2_ n3_; clear hb hbox hg; have hcz19_0 : w18.cell? ⟨gb157, 0, none⟩ = some (.slice A0_0 l0_0.length c0_0) := (blk_cell BK157.out 0).trans rfl; have hcz19_1 : w18.cell? ⟨gb157, 1, none⟩ = some (.int .i64 a0_1) := (blk_cell BK157.out 1).trans rfl; have hcz19_2 : w18.cell? ⟨gb157, 2, none⟩ = some (.slice A0_2 l0_2.length c0_2) := (blk_cell BK157.out 2).trans rfl; have hcz19_3 : w18.cell? ⟨gb157, 3, none⟩ = some (.int .i64 a0_3) := (blk_cell BK157.out 3).trans rfl; have hfz19_0 := blk_frozen BK157.out 0; have hfz19_1 := blk_frozen BK157.out 1; have hfz19_2 := blk_frozen BK157.out 2; have hfz19_3 := blk_frozen BK157.out 3) | ((with_reducible refine gate_callee (f := 74) rfl ?_); refine goesL_ (some 5) rfl rfl Try.func74 (by kernel_rfl) rfl #[.slice A0_0 l0_0.length c0_0] rfl Z5 ?_; (with_reducible refine (spec_validPlace.calls k _ _ l0_0 true _ ?side1 ?side2 A2.out).mono ?_); (case side1 => exact Z4 HR0_0.out); (case side2 => exact HC0_0.out); rintro e w20 ⟨rfl, hb⟩; refine ⟨_, rfl, ?_⟩; have n0_ := A_ (blk_below (g := gb157) (o := .cells #[.slice A0_0 l0_0.length c0_0, .int .i64 a0_1, .slice A0_2 l0_2.length c0_2, .int .i64 a0_3] 53 (0, 0)) (Z3 BK157.out) hb); have n1_ := A_ (below_step (Z2 GE157.out) hb); clear BK157; clear HB; have BK157 := n0_; have HB := n1_; clear n0_ n1_; (try clear hb); (try clear hb2); (try clear hk); (try clear hi); have hcz21_0 : w20.cell? ⟨gb157, 0, none⟩ = some (.slice A0_0 l0_0.length c0_0) := (blk_cell BK157.out 0).trans rfl; have hcz21_1 : w20.cell? ⟨gb157, 1, none⟩ = some (.int .i64 a0_1) := (blk_cell BK157.out 1).trans rfl; have hcz21_2 : w20.cell? ⟨gb157, 2, none⟩ = some (.slice A0_2 l0_2.length c0_2) := (blk_cell BK157.out 2).trans rfl; have hcz21_3 : w20.cell? ⟨gb157, 3, none⟩ = some (.int .i64 a0_3) := (blk_cell BK157.out 3).trans rfl; have hfz21_0 := blk_frozen BK157.out 0; have hfz21_1 := blk_frozen BK157.out 1; have hfz21_2 := blk_frozen BK157.out 2; have hfz21_3 := blk_frozen BK157.out 3) | (go_at_call 77; (with_reducible refine (spec_inRange.calls a0_1 0 2 false _ A4.out).mono ?_); rintro e w' ⟨rfl, ⟨nd, rfl⟩⟩))
   go_ret
   exact ⟨Z7, Z2 GE157.out⟩
 ·replace c3 := Bool.eq_false_iff.mpr c3
  subst c3
  have H1 : (some false) = some r := by rw [if_neg (show ¬ (false = true) by decide)] at H; exact H
  clear H
  have H := H1
  clear H1
  obtain rfl := Option.some.inj H
  go_enter Try.func48, Try.ntmps48
  go_wp2_with (first | ((with_reducible refine gate_dst (N := 1) rfl ?_); refine box_event ?hg (N := 1) ?hd (cs := #[.slice A0_0 l0_0.length c0_0, .int .i64 a0_1, .slice A0_2 l0_2.length c0_2, .int .i64 a0_3]) (t := 53) ?hr ?_; (case hd => rfl); (case hg => rfl); (case hr => exact Z16); intro gb157 hg w22 hbox hb; have n0_ := A_ (below_step Z1 hb); have n1_ := A_ (hbox); have n2_ := A_ ((by rw [hg]; exact (below_size Z1) : w.heap.size ≤ gb157)); have n3_ := A_ ((by rw [hg]; exact (below_size Z1) : w.heap.size ≤ gb157)); clear HB; have HB := n0_; have BK157 := n1_; have GW157 := n2_; have GE157 := n3_; clear n0_ n1_ n2_ n3_; clear hb hbox hg; have hcz23_0 : w22.cell? ⟨gb157, 0, none⟩ = some (.slice A0_0 l0_0.length c0_0) := (blk_cell BK157.out 0).trans rfl; have hcz23_1 : w22.cell? ⟨gb157, 1, none⟩ = some (.int .i64 a0_1) := (blk_cell BK157.out 1).trans rfl; have hcz23_2 : w22.cell? ⟨gb157, 2, none⟩ = some (.slice A0_2 l0_2.length c0_2) := (blk_cell BK157.out 2).trans rfl; have hcz23_3 : w22.cell? ⟨gb157, 3, none⟩ = some (.int .i64 a0_3) := (blk_cell BK157.out 3).trans rfl; have hfz23_0 := blk_frozen BK157.out 0; have hfz23_1 := blk_frozen BK157.out 1; have hfz23_2 := blk_frozen BK157.out 2; have hfz23_3 := blk_frozen BK157.out 3) | ((with_reducible refine gate_callee (f := 74) rfl ?_); refine goesL_ (some 5) rfl rfl Try.func74 (by kernel_rfl) rfl #[.slice A0_0 l0_0.length c0_0] rfl Z5 ?_; (with_reducible refine (spec_validPlace.calls k _ _ l0_0 false _ ?side1 ?side2 A2.out).mono ?_); (case side1 => exact Z4 HR0_0.out); (case side2 => exact HC0_0.out); rintro e w24 ⟨rfl, hb⟩; refine ⟨_, rfl, ?_⟩; have n0_ := A_ (blk_below (g := gb157) (o := .cells #[.slice A0_0 l0_0.length c0_0, .int .i64 a0_1, .slice A0_2 l0_2.length c0_2, .int .i64 a0_3] 53 (0, 0)) (Z3 BK157.out) hb); have n1_ := A_ (below_step (Z2 GE157.out) hb); clear BK157; clear HB; have BK157 := n0_; have HB := n1_; clear n0_ n1_; (try clear hb); (try clear hb2); (try clear hk); (try clear hi)))
  go_ret
  exact ⟨Z7, Z2 GE157.out⟩
def spec_cellAt.l0 : Nat → List (S95) → List (S121) → Int → Option (Int × Bool)
 | 0, _, _, _ => none
 | k + 1, x0, x1, x6 => if x6 < (x0.length : Int) then (if 0 ≤ x6 then ((spec_comparePlaces.f k ((rd_T95 x0 x6).f0) x1).bind fun t163 => (if t163 < 0 then (spec_cellAt.l0 k x0 x1 (wrap64 (x6 + 1))) else ((spec_comparePlaces.f k ((rd_T95 x0 x6).f0) x1).bind fun t165 => (some (x6, (t165 == 0)))))) else (none)) else (some (x6, false))
def spec_cellAt.f (k : Nat) (l0 : List (S95)) (l1 : List (S121)) : Option (Int × Bool) := spec_cellAt.l0 k l0 l1 0
theorem spec_cellAt.mono_l : ∀ k, (∀ y0 y1 y2, LeO (spec_cellAt.l0 k y0 y1 y2) (spec_cellAt.l0 (k + 1) y0 y1 y2))
 | 0 => fun _ _ _ r h => by simp [spec_cellAt.l0] at h
 | k + 1 => by
  have ih0 := spec_cellAt.mono_l k
  ·intro y0 y1 y2
   unfold spec_cellAt.l0
   repeat' first
   | (with_reducible exact ih0 _ _ _)
   | (with_reducible exact spec_comparePlaces.mono _ _ _)
   | (with_reducible exact LeO.refl _)
   | (with_reducible exact LeO.none _)
   | (with_reducible refine LeO.ite ?_ ?_)
   | (with_reducible refine LeO.bind ?_ (fun _ => ?_))
   | exact ih0 _ _ _
   | exact spec_comparePlaces.mono _ _ _
   | exact LeO.none _
   | refine LeO.ite ?_ ?_
   | refine LeO.bind ?_ (fun _ => ?_)
theorem spec_cellAt.mono : ∀ a0 a1 k, LeO (spec_cellAt.f k a0 a1) (spec_cellAt.f (k + 1) a0 a1) := by
 intro a0 a1 k
 have ih0 := spec_cellAt.mono_l k
 unfold spec_cellAt.f
 repeat' first
   | (with_reducible exact ih0 _ _ _)
   | (with_reducible exact spec_comparePlaces.mono _ _ _)
   | (with_reducible exact LeO.refl _)
   | (with_reducible exact LeO.none _)
   | (with_reducible refine LeO.ite ?_ ?_)
   | (with_reducible refine LeO.bind ?_ (fun _ => ?_))
   | exact ih0 _ _ _
   | exact spec_comparePlaces.mono _ _ _
   | exact LeO.none _
   | refine LeO.ite ?_ ?_
   | refine LeO.bind ?_ (fun _ => ?_)
set_option maxHeartbeats 8000000 in
set_option maxRecDepth 100000 in
theorem spec_cellAt.calls (k : Nat) (A0 : Option Addr) (c0 : Nat) (l0 : List (S95)) (A1 : Option Addr) (c1 : Nat) (l1 : List (S121)) (r1 : Int) (r2 : Bool) (w : World) (hr0 : Kd.C k95 w A0 l0.length l0) (hc0 : l0.length ≤ c0) (hr1 : Kd.C k121 w A1 l1.length l1) (hc1 : l1.length ≤ c1) (h : spec_cellAt.f k l0 l1 = some (r1, r2)) :
  Calls Try.prog 49 #[.slice A0 l0.length c0, .slice A1 l1.length c1] w fun e w' => e = .returned (.tuple #[.int .i64 r1, .bool r2]) ∧ Drawn0 w w' := by
 have HR0 := A_ hr0
 have HC0 := A_ hc0
 clear hr0 hc0
 have HR1 := A_ hr1
 have HC1 := A_ hc1
 clear hr1 hc1
 have H : (spec_cellAt.l0 k l0 l1 0) = some (r1, r2) := h
 clear h
 have H' := A_ H
 clear H
 go_enter Try.func49, Try.ntmps49
 go_wp2
 go_loopg [6] k (fun kq v6 w' => ∃ (x6_1 : Int), v6 = .int .i64 x6_1 ∧ Aside0 (spec_cellAt.l0 kq l0 l1 x6_1 = some (r1, r2)) ∧ Aside0 (kq ≤ k) ∧ Drawn0 w w')
 case atStart => exact ⟨(0), Z17, H', ⟨Nat.le_refl _⟩, Z24⟩
 case round =>
  clear H'
  try clear c1
  try clear p2
  obtain ⟨x6_1, rfl, HA, HK1, ⟨m1, rfl⟩⟩ := hrel
  cases gk with
  | zero => exact absurd HA.out (by simp [spec_cellAt.l0])
  | succ k1 =>
   have H := HA.out
   clear HA
   simp only [spec_cellAt.l0] at H
   by_cases c3 : x6_1 < (l0.length : Int)
   ·rw [if_pos c3] at H
    have c3b0 : decide (x6_1 < (l0.length : Int)) = true := decide_eq_true c3
    clear c3
    by_cases c4 : 0 ≤ x6_1
    ·rw [if_pos c4] at H
     have c4b0 : decide (0 ≤ x6_1) = true := decide_eq_true c4
     clear c4
     replace H := Option.bind_eq_some_iff.mp H
     obtain ⟨t163, A50, H⟩ := H
     replace H : (if t163 < 0 then (spec_cellAt.l0 k1 l0 l1 (wrap64 (x6_1 + 1))) else ((spec_comparePlaces.f k1 ((rd_T95 l0 x6_1).f0) l1).bind fun t165 => (some (x6_1, (t165 == 0))))) = some (r1, r2) := H
     have A5 := A_ A50
     clear A50
     by_cases c6 : t163 < 0
     ·rw [if_pos c6] at H
      have c6b0 : decide (t163 < 0) = true := decide_eq_true c6
      clear c6
      have H' := A_ H
      clear H
      have p162 : 0 ≤ (x6_1 : Int) := of_decide_eq_true Z14
      have q162 : x6_1 < (l0.length : Int) := of_decide_eq_true Z14
      obtain ⟨ad162, A162_0, c162_0, A162_1, c162_1, e162, hx162_0, hx162_1, hl162_0, hi162_0, hl162_1, hi162_1⟩ := at_T95 HR0.out x6_1 p162 q162
      cases e162
      have HR162_0 := A_ hi162_0
      have HC162_0 := A_ hl162_0
      clear hi162_0 hl162_0
      have HR162_1 := A_ hi162_1
      have HC162_1 := A_ hl162_1
      clear hi162_1 hl162_1
      replace p162 := eq_true p162
      replace q162 := eq_true q162
      go_wp2_with (first | (go_at_call 76; (with_reducible refine (spec_comparePlaces.calls k1 _ _ ((rd_T95 l0 x6_1).f0) _ _ l1 t163 _ ?side1 ?side2 ?side3 ?side4 A5.out).mono ?_); (case side1 => exact Z36 HR162_0.out); (case side2 => exact HC162_0.out); (case side3 => exact Z36 HR1.out); (case side4 => exact HC1.out); rintro e w' ⟨rfl, ⟨nd, rfl⟩⟩))
      go_roundg k1
      case measure => have := HK1.out; omega
      case rel => exact ⟨(wrap64 (x6_1 + 1)), Z17, H', ⟨by have := HK1.out; omega⟩, Z24⟩
     ·rw [if_neg c6] at H
      have c6b0 : decide (t163 < 0) = false := decide_eq_false c6
      clear c6
      replace H := Option.bind_eq_some_iff.mp H
      obtain ⟨t165, A70, H⟩ := H
      replace H : (some (x6_1, (t165 == 0))) = some (r1, r2) := H
      have A7 := A_ A70
      clear A70
      simp only [Option.some.injEq, Prod.mk.injEq] at H
      obtain ⟨rfl, rfl⟩ := H
      have p162 : 0 ≤ (x6_1 : Int) := of_decide_eq_true Z14
      have q162 : x6_1 < (l0.length : Int) := of_decide_eq_true Z14
      obtain ⟨ad162, A162_0, c162_0, A162_1, c162_1, e162, hx162_0, hx162_1, hl162_0, hi162_0, hl162_1, hi162_1⟩ := at_T95 HR0.out x6_1 p162 q162
      cases e162
      have HR162_0 := A_ hi162_0
      have HC162_0 := A_ hl162_0
      clear hi162_0 hl162_0
      have HR162_1 := A_ hi162_1
      have HC162_1 := A_ hl162_1
      clear hi162_1 hl162_1
      replace p162 := eq_true p162
      replace q162 := eq_true q162
      go_wp2_with (first | (go_at_call 76; (with_reducible refine (spec_comparePlaces.calls k1 _ _ ((rd_T95 l0 x6_1).f0) _ _ l1 t163 _ ?side1 ?side2 ?side3 ?side4 A5.out).mono ?_); (case side1 => exact Z36 HR162_0.out); (case side2 => exact HC162_0.out); (case side3 => exact Z36 HR1.out); (case side4 => exact HC1.out); rintro e w' ⟨rfl, ⟨nd, rfl⟩⟩; have p164 : 0 ≤ (x6_1 : Int) := of_decide_eq_true Z14; have q164 : x6_1 < (l0.length : Int) := of_decide_eq_true Z14; obtain ⟨ad164, A164_0, c164_0, A164_1, c164_1, e164, hx164_0, hx164_1, hl164_0, hi164_0, hl164_1, hi164_1⟩ := at_T95 HR0.out x6_1 p164 q164; obtain rfl : ad162 = ad164 := (by injection e164); have HR164_0 := A_ hi164_0; have HC164_0 := A_ hl164_0; clear hi164_0 hl164_0; have HR164_1 := A_ hi164_1; have HC164_1 := A_ hl164_1; clear hi164_1 hl164_1; replace p164 := eq_true p164; replace q164 := eq_true q164; have ea_ := Option.some.inj (hx162_0.symm.trans hx164_0); injection ea_ with ea_ en_ ec_; subst ea_; subst ec_; clear en_; have ea_ := Option.some.inj (hx162_1.symm.trans hx164_1); injection ea_ with ea_ en_ ec_; subst ea_; subst ec_; clear en_) | (go_at_call 76; (with_reducible refine (spec_comparePlaces.calls k1 _ _ ((rd_T95 l0 x6_1).f0) _ _ l1 t165 _ ?side1 ?side2 ?side3 ?side4 A7.out).mono ?_); (case side1 => exact Z36 HR164_0.out); (case side2 => exact HC164_0.out); (case side3 => exact Z36 HR1.out); (case side4 => exact HC1.out); rintro e w' ⟨rfl, ⟨nd, rfl⟩⟩))
      go_ret2
      (try (have et_ := Option.some.inj (A5.out.symm.trans A7.out); subst et_))
      exact ⟨Z17, Z24⟩
    ·rw [if_neg c4] at H
     exact absurd H (by simp)
   ·rw [if_neg c3] at H
    have c3b0 : decide (x6_1 < (l0.length : Int)) = false := decide_eq_false c3
    clear c3
    simp only [Option.some.injEq, Prod.mk.injEq] at H
    obtain ⟨rfl, rfl⟩ := H
    go_wp2
    go_ret2
    (try (have et_ := Option.some.inj (A5.out.symm.trans A7.out); subst et_))
    exact ⟨Z17, Z24⟩
def spec_applies.f (k : Nat) (l0 : List (S124)) (l1_0 : List (S121)) (a1_1 : Int) (l1_2 : List (S126)) (a1_3 : Int) : Option (Bool) := if a1_1 < (l0.length : Int) then ((spec_validForm.f k l1_2 0 (l0.length : Int) 0).bind fun t167 => (some t167)) else (some false)
theorem spec_applies.mono : ∀ a0 a1 a2 a3 a4 k, LeO (spec_applies.f k a0 a1 a2 a3 a4) (spec_applies.f (k + 1) a0 a1 a2 a3 a4) := by
 intro a0 a1 a2 a3 a4 k
 unfold spec_applies.f
 repeat' first
   | (with_reducible exact spec_validForm.mono _ _ _ _ _)
   | (with_reducible exact LeO.refl _)
   | (with_reducible exact LeO.none _)
   | (with_reducible refine LeO.ite ?_ ?_)
   | (with_reducible refine LeO.bind ?_ (fun _ => ?_))
   | exact spec_validForm.mono _ _ _ _ _
   | exact LeO.none _
   | refine LeO.ite ?_ ?_
   | refine LeO.bind ?_ (fun _ => ?_)
set_option maxHeartbeats 8000000 in
set_option maxRecDepth 100000 in
theorem spec_applies.calls (k : Nat) (A0 : Option Addr) (c0 : Nat) (l0 : List (S124)) (A1_0 : Option Addr) (c1_0 : Nat) (l1_0 : List (S121)) (a1_1 : Int) (A1_2 : Option Addr) (c1_2 : Nat) (l1_2 : List (S126)) (a1_3 : Int) (r : Bool) (w : World) (hr0 : Kd.C k124 w A0 l0.length l0) (hc0 : l0.length ≤ c0) (hr1_0 : Kd.C k121 w A1_0 l1_0.length l1_0) (hc1_0 : l1_0.length ≤ c1_0) (hr1_2 : Kd.C k126 w A1_2 l1_2.length l1_2) (hc1_2 : l1_2.length ≤ c1_2) (h : spec_applies.f k l0 l1_0 a1_1 l1_2 a1_3 = some r) :
  Calls Try.prog 50 #[.slice A0 l0.length c0, .agg #[.slice A1_0 l1_0.length c1_0, .int .i64 a1_1, .slice A1_2 l1_2.length c1_2, .int .i64 a1_3]] w fun e w' => e = .returned (.bool r) ∧ Below w.heap.size w w' := by
 have hu53 := Try.underlying53
 have HR0 := A_ hr0
 have HC0 := A_ hc0
 clear hr0 hc0
 have HR1_0 := A_ hr1_0
 have HC1_0 := A_ hc1_0
 clear hr1_0 hc1_0
 have HR1_2 := A_ hr1_2
 have HC1_2 := A_ hc1_2
 clear hr1_2 hc1_2
 have HB := A_ (Below.refl w.heap.size w)
 have H : (if a1_1 < (l0.length : Int) then ((spec_validForm.f k l1_2 0 (l0.length : Int) 0).bind fun t167 => (some t167)) else (some false)) = some r := h
 clear h
 by_cases c3 : a1_1 < (l0.length : Int)
 ·rw [if_pos c3] at H
  have c3b0 : decide (a1_1 < (l0.length : Int)) = true := decide_eq_true c3
  clear c3
  replace H := Option.bind_eq_some_iff.mp H
  obtain ⟨t167, A40, H⟩ := H
  replace H : (some t167) = some r := H
  have A4 := A_ A40
  clear A40
  obtain rfl := Option.some.inj H
  go_enter Try.func50, Try.ntmps50
  go_wp2_with (first | ((with_reducible refine gate_dst (N := 3) rfl ?_); (try (refine gate_guard (by rfl) ?_; dsimp only)); refine box_event ?hg (N := 3) ?hd (cs := #[.slice A1_0 l1_0.length c1_0, .int .i64 a1_1, .slice A1_2 l1_2.length c1_2, .int .i64 a1_3]) (t := 53) ?hr ?_; (case hd => rfl); (case hg => rfl); (case hr => exact Z16); intro gb166 hg w5 hbox hb; have n0_ := A_ (below_step Z1 hb); have n1_ := A_ (hbox); have n2_ := A_ ((by rw [hg]; exact (below_size Z1) : w.heap.size ≤ gb166)); have n3_ := A_ ((by rw [hg]; exact (below_size Z1) : w.heap.size ≤ gb166)); clear HB; have HB := n0_; have BK166 := n1_; have GW166 := n2_; have GE166 := n3_; clear n0_ n1_ n2_ n3_; clear hb hbox hg; have hcz6_0 : w5.cell? ⟨gb166, 0, none⟩ = some (.slice A1_0 l1_0.length c1_0) := (blk_cell BK166.out 0).trans rfl; have hcz6_1 : w5.cell? ⟨gb166, 1, none⟩ = some (.int .i64 a1_1) := (blk_cell BK166.out 1).trans rfl; have hcz6_2 : w5.cell? ⟨gb166, 2, none⟩ = some (.slice A1_2 l1_2.length c1_2) := (blk_cell BK166.out 2).trans rfl; have hcz6_3 : w5.cell? ⟨gb166, 3, none⟩ = some (.int .i64 a1_3) := (blk_cell BK166.out 3).trans rfl; have hfz6_0 := blk_frozen BK166.out 0; have hfz6_1 := blk_frozen BK166.out 1; have hfz6_2 := blk_frozen BK166.out 2; have hfz6_3 := blk_frozen BK166.out 3) | (go_at_call 78; (with_reducible refine (spec_validForm.calls k _ _ l1_2 0 (l0.length : Int) 0 t167 _ ?side1 ?side2 A4.out).mono ?_); (case side1 => exact Z4 HR1_2.out); (case side2 => exact HC1_2.out); rintro e w7 ⟨rfl, hb⟩; have n0_ := A_ (blk_below (g := gb166) (o := .cells #[.slice A1_0 l1_0.length c1_0, .int .i64 a1_1, .slice A1_2 l1_2.length c1_2, .int .i64 a1_3] 53 (0, 0)) (Z3 BK166.out) hb); have n1_ := A_ (below_step (Z2 GE166.out) hb); clear BK166; clear HB; have BK166 := n0_; have HB := n1_; clear n0_ n1_; (try clear hb); (try clear hb2); (try clear hk); (try clear hi)))
  go_ret
  exact ⟨Z7, Z2 GE166.out⟩
 ·rw [if_neg c3] at H
  have c3b0 : decide (a1_1 < (l0.length : Int)) = false := decide_eq_false c3
  clear c3
  obtain rfl := Option.some.inj H
  go_enter Try.func50, Try.ntmps50
  go_wp2_with (first | ((with_reducible refine gate_dst (N := 3) rfl ?_); (try (refine gate_guard (by rfl) ?_; dsimp only)); refine box_event ?hg (N := 3) ?hd (cs := #[.slice A1_0 l1_0.length c1_0, .int .i64 a1_1, .slice A1_2 l1_2.length c1_2, .int .i64 a1_3]) (t := 53) ?hr ?_; (case hd => rfl); (case hg => rfl); (case hr => exact Z16); intro gb166 hg w8 hbox hb; have n0_ := A_ (below_step Z1 hb); have n1_ := A_ (hbox); have n2_ := A_ ((by rw [hg]; exact (below_size Z1) : w.heap.size ≤ gb166)); have n3_ := A_ ((by rw [hg]; exact (below_size Z1) : w.heap.size ≤ gb166)); clear HB; have HB := n0_; have BK166 := n1_; have GW166 := n2_; have GE166 := n3_; clear n0_ n1_ n2_ n3_; clear hb hbox hg; have hcz9_0 : w8.cell? ⟨gb166, 0, none⟩ = some (.slice A1_0 l1_0.length c1_0) := (blk_cell BK166.out 0).trans rfl; have hcz9_1 : w8.cell? ⟨gb166, 1, none⟩ = some (.int .i64 a1_1) := (blk_cell BK166.out 1).trans rfl; have hcz9_2 : w8.cell? ⟨gb166, 2, none⟩ = some (.slice A1_2 l1_2.length c1_2) := (blk_cell BK166.out 2).trans rfl; have hcz9_3 : w8.cell? ⟨gb166, 3, none⟩ = some (.int .i64 a1_3) := (blk_cell BK166.out 3).trans rfl; have hfz9_0 := blk_frozen BK166.out 0; have hfz9_1 := blk_frozen BK166.out 1; have hfz9_2 := blk_frozen BK166.out 2; have hfz9_3 := blk_frozen BK166.out 3))
  go_ret
  exact ⟨Z7, Z2 GE166.out⟩
end Go.Proofs.Ytmphggpibaolcaa.PFnExactUpdateHas
