/- Walks of the functions that the law 'FnExactLineWants' reaches, part 11: for each a Lean function and the proof that Go's comes to just its answer (lines of the print, under own names; no condition). -/
import Derived.Test.YtmphggpibaolcaaZFnExactLineWantsQFnExactLineWantsx0
import Derived.Test.YtmphggpibaolcaaZFnExactLineWantsQFnExactLineWantsx2
import Derived.Test.YtmphggpibaolcaaZFnExactLineWantsQFnExactLineWantsx8
import Derived.Test.YtmphggpibaolcaaZFnExactLineWantsQFnExactLineWantsx9
import Derived.Test.YtmphggpibaolcaaZFnExactLineWantsQFnExactLineWantsx10
namespace Go.Proofs.Ytmphggpibaolcaa.PFnExactLineWants
open Go.RowKit Go.Proofs.YtmphggpibaolcaaW.PrintWords Go.Proofs.YtmphggpibaolcaaW.PrintLast Go.Proofs.YtmphggpibaolcaaW.PrintMore
attribute [local go_sem] max2_int min2_int max_two min_two max_three min_three max_four min_four
set_option linter.unusedVariables false
set_option linter.unusedSimpArgs false
attribute [local go_sem high] eqA124
def spec_validStep.f (k : Nat) (a0_0 : Int) (a0_1 : Int) (a0_2 : Int) (a0_3 : Int) (a0_4 : ByteArray) (a1 : Int) (a2 : Int) (a3 : Int) : Option (Bool) := if a0_0 = 0 then (if a0_1 = 0 then ((spec_validValue.f k a0_2 a0_3 a0_4).bind fun t271 => (some t271)) else (some false)) else (if a0_0 = 1 then ((spec_inRange.f a0_1 0 (wrap64 (a1 - 1))).bind fun t272 => (if t272 = true then (some (a0_2 == 0 && (a0_3 == 0 && (a0_4.toList == ([] : List UInt8))))) else (some false))) else (if a0_0 = 2 then ((spec_inRange.f a0_1 0 (wrap64 (a2 - 1))).bind fun t273 => (if t273 = true then (some (a0_2 == 0 && (a0_3 == 0 && (a0_4.toList == ([] : List UInt8))))) else (some false))) else (if a0_0 = 3 then ((spec_inRange.f a0_1 0 (wrap64 (a3 - 1))).bind fun t274 => (if t274 = true then (some (a0_2 == 0 && (a0_3 == 0 && (a0_4.toList == ([] : List UInt8))))) else (some false))) else (if a0_0 = 4 then ((spec_inRange.f a0_1 0 1).bind fun t275 => (if t275 = true then (some (a0_2 == 0 && (a0_3 == 0 && (a0_4.toList == ([] : List UInt8))))) else (some false))) else (if a0_0 = 5 then ((spec_inRange.f a0_1 0 6).bind fun t276 => (if t276 = true then (some (a0_2 == 0 && (a0_3 == 0 && (a0_4.toList == ([] : List UInt8))))) else (some false))) else (if a0_0 = 6 then (if a0_1 = 0 then (some (a0_2 == 0 && (a0_3 == 0 && (a0_4.toList == ([] : List UInt8))))) else (some false)) else (some false)))))))
theorem spec_validStep.mono : ∀ a0 a1 a2 a3 a4 a5 a6 a7 k, LeO (spec_validStep.f k a0 a1 a2 a3 a4 a5 a6 a7) (spec_validStep.f (k + 1) a0 a1 a2 a3 a4 a5 a6 a7) := by
 intro a0 a1 a2 a3 a4 a5 a6 a7 k
 unfold spec_validStep.f
 repeat' first
   | (with_reducible exact spec_validValue.mono _ _ _ _)
   | (with_reducible exact LeO.refl _)
   | (with_reducible exact LeO.none _)
   | (with_reducible refine LeO.ite ?_ ?_)
   | (with_reducible refine LeO.bind ?_ (fun _ => ?_))
   | exact spec_validValue.mono _ _ _ _
   | exact LeO.none _
   | refine LeO.ite ?_ ?_
   | refine LeO.bind ?_ (fun _ => ?_)
set_option maxHeartbeats 8000000 in
set_option maxRecDepth 100000 in
theorem spec_validStep.calls (k : Nat) (a0_0 : Int) (a0_1 : Int) (a0_2 : Int) (a0_3 : Int) (a0_4 : ByteArray) (a1 : Int) (a2 : Int) (a3 : Int) (r : Bool) (w : World) (h : spec_validStep.f k a0_0 a0_1 a0_2 a0_3 a0_4 a1 a2 a3 = some r) :
  Calls Try.prog 94 #[.agg #[.int .i64 a0_0, .int .i64 a0_1, .int .i64 a0_2, .int .i64 a0_3, .string a0_4], .int .i64 a1, .int .i64 a2, .int .i64 a3] w fun e w' => e = .returned (.bool r) ∧ Below w.heap.size w w' := by
 have hu126 := Try.underlying126
 have hu124 := Try.underlying124
 have HB := A_ (Below.refl w.heap.size w)
 have H : (if a0_0 = 0 then (if a0_1 = 0 then ((spec_validValue.f k a0_2 a0_3 a0_4).bind fun t271 => (some t271)) else (some false)) else (if a0_0 = 1 then ((spec_inRange.f a0_1 0 (wrap64 (a1 - 1))).bind fun t272 => (if t272 = true then (some (a0_2 == 0 && (a0_3 == 0 && (a0_4.toList == ([] : List UInt8))))) else (some false))) else (if a0_0 = 2 then ((spec_inRange.f a0_1 0 (wrap64 (a2 - 1))).bind fun t273 => (if t273 = true then (some (a0_2 == 0 && (a0_3 == 0 && (a0_4.toList == ([] : List UInt8))))) else (some false))) else (if a0_0 = 3 then ((spec_inRange.f a0_1 0 (wrap64 (a3 - 1))).bind fun t274 => (if t274 = true then (some (a0_2 == 0 && (a0_3 == 0 && (a0_4.toList == ([] : List UInt8))))) else (some false))) else (if a0_0 = 4 then ((spec_inRange.f a0_1 0 1).bind fun t275 => (if t275 = true then (some (a0_2 == 0 && (a0_3 == 0 && (a0_4.toList == ([] : List UInt8))))) else (some false))) else (if a0_0 = 5 then ((spec_inRange.f a0_1 0 6).bind fun t276 => (if t276 = true then (some (a0_2 == 0 && (a0_3 == 0 && (a0_4.toList == ([] : List UInt8))))) else (some false))) else (if a0_0 = 6 then (if a0_1 = 0 then (some (a0_2 == 0 && (a0_3 == 0 && (a0_4.toList == ([] : List UInt8))))) else (some false)) else (some false)))))))) = some r := h
 clear h
 by_cases c5 : a0_0 = 0
 ·rw [if_pos c5] at H
  have c5b0 : (a0_0 == 0) = true := beq_iff_eq.mpr c5
  have c5b1 : (a0_0 != 0) = false := bne_eq_false_iff_eq.mpr c5
  clear c5
  by_cases c6 : a0_1 = 0
  ·rw [if_pos c6] at H
   have c6b0 : (a0_1 == 0) = true := beq_iff_eq.mpr c6
   have c6b1 : (a0_1 != 0) = false := bne_eq_false_iff_eq.mpr c6
   clear c6
   replace H := Option.bind_eq_some_iff.mp H
   obtain ⟨t271, A70, H⟩ := H
   replace H : (some t271) = some r := H
   have A7 := A_ A70
   clear A70
   obtain rfl := Option.some.inj H
   go_enter Try.func94, Try.ntmps94
   go_wp2_with (first | ((with_reducible refine gate_dst (N := 4) rfl ?_); refine box_event ?hg (N := 4) ?hd (cs := #[.int .i64 a0_0, .int .i64 a0_1, .int .i64 a0_2, .int .i64 a0_3, .string a0_4]) (t := 126) ?hr ?_; (case hd => rfl); (case hg => rfl); (case hr => exact Z15); intro gb270 hg w8 hbox hb; have n0_ := A_ (below_step Z0 hb); have n1_ := A_ (hbox); have n2_ := A_ ((by rw [hg]; exact (below_size Z0) : w.heap.size ≤ gb270)); have n3_ := A_ ((by rw [hg]; exact (below_size Z0) : w.heap.size ≤ gb270)); clear HB; have HB := n0_; have BK270 := n1_; have GW270 := n2_; have GE270 := n3_; clear n0_ n1_ n2_ n3_; clear hb hbox hg; have hcz9_0 : w8.cell? ⟨gb270, 0, none⟩ = some (.int .i64 a0_0) := (blk_cell BK270.out 0).trans rfl; have hcz9_1 : w8.cell? ⟨gb270, 1, none⟩ = some (.int .i64 a0_1) := (blk_cell BK270.out 1).trans rfl; have hcz9_2 : w8.cell? ⟨gb270, 2, none⟩ = some (.int .i64 a0_2) := (blk_cell BK270.out 2).trans rfl; have hcz9_3 : w8.cell? ⟨gb270, 3, none⟩ = some (.int .i64 a0_3) := (blk_cell BK270.out 3).trans rfl; have hcz9_4 : w8.cell? ⟨gb270, 4, none⟩ = some (.string a0_4) := (blk_cell BK270.out 4).trans rfl; have hfz9_0 := blk_frozen BK270.out 0; have hfz9_1 := blk_frozen BK270.out 1; have hfz9_2 := blk_frozen BK270.out 2; have hfz9_3 := blk_frozen BK270.out 3; have hfz9_4 := blk_frozen BK270.out 4) | (go_at_call 93; (with_reducible refine (spec_validValue.calls k a0_2 a0_3 a0_4 t271 _ A7.out).mono ?_); rintro e w10 ⟨rfl, hb⟩; have n0_ := A_ (blk_below (g := gb270) (o := .cells #[.int .i64 a0_0, .int .i64 a0_1, .int .i64 a0_2, .int .i64 a0_3, .string a0_4] 126 (0, 0)) (Z3 BK270.out) hb); have n1_ := A_ (below_step (Z2 GE270.out) hb); clear BK270; clear HB; have BK270 := n0_; have HB := n1_; clear n0_ n1_; (try clear hb); (try clear hb2); (try clear hk); (try clear hi)))
   go_ret
   exact ⟨Z7, Z2 GE270.out⟩
  ·rw [if_neg c6] at H
   have c6b0 : (a0_1 == 0) = false := beq_eq_false_iff_ne.mpr c6
   have c6b1 : (a0_1 != 0) = true := bne_iff_ne.mpr c6
   obtain rfl := Option.some.inj H
   go_enter Try.func94, Try.ntmps94
   go_wp2_with (first | ((with_reducible refine gate_dst (N := 4) rfl ?_); refine box_event ?hg (N := 4) ?hd (cs := #[.int .i64 a0_0, .int .i64 a0_1, .int .i64 a0_2, .int .i64 a0_3, .string a0_4]) (t := 126) ?hr ?_; (case hd => rfl); (case hg => rfl); (case hr => exact Z15); intro gb270 hg w11 hbox hb; have n0_ := A_ (below_step Z0 hb); have n1_ := A_ (hbox); have n2_ := A_ ((by rw [hg]; exact (below_size Z0) : w.heap.size ≤ gb270)); have n3_ := A_ ((by rw [hg]; exact (below_size Z0) : w.heap.size ≤ gb270)); clear HB; have HB := n0_; have BK270 := n1_; have GW270 := n2_; have GE270 := n3_; clear n0_ n1_ n2_ n3_; clear hb hbox hg; have hcz12_0 : w11.cell? ⟨gb270, 0, none⟩ = some (.int .i64 a0_0) := (blk_cell BK270.out 0).trans rfl; have hcz12_1 : w11.cell? ⟨gb270, 1, none⟩ = some (.int .i64 a0_1) := (blk_cell BK270.out 1).trans rfl; have hcz12_2 : w11.cell? ⟨gb270, 2, none⟩ = some (.int .i64 a0_2) := (blk_cell BK270.out 2).trans rfl; have hcz12_3 : w11.cell? ⟨gb270, 3, none⟩ = some (.int .i64 a0_3) := (blk_cell BK270.out 3).trans rfl; have hcz12_4 : w11.cell? ⟨gb270, 4, none⟩ = some (.string a0_4) := (blk_cell BK270.out 4).trans rfl; have hfz12_0 := blk_frozen BK270.out 0; have hfz12_1 := blk_frozen BK270.out 1; have hfz12_2 := blk_frozen BK270.out 2; have hfz12_3 := blk_frozen BK270.out 3; have hfz12_4 := blk_frozen BK270.out 4))
   go_ret
   exact ⟨Z7, Z2 GE270.out⟩
 ·rw [if_neg c5] at H
  have c5b0 : (a0_0 == 0) = false := beq_eq_false_iff_ne.mpr c5
  have c5b1 : (a0_0 != 0) = true := bne_iff_ne.mpr c5
  by_cases c13 : a0_0 = 1
  ·rw [if_pos c13] at H
   have c13b0 : (a0_0 == 1) = true := beq_iff_eq.mpr c13
   have c13b1 : (a0_0 != 1) = false := bne_eq_false_iff_eq.mpr c13
   clear c13
   replace H := Option.bind_eq_some_iff.mp H
   obtain ⟨t272, A140, H⟩ := H
   replace H : (if t272 = true then (some (a0_2 == 0 && (a0_3 == 0 && (a0_4.toList == ([] : List UInt8))))) else (some false)) = some r := H
   have A14 := A_ A140
   clear A140
   by_cases c15 : t272 = true
   ·subst c15
    have H1 : (some (a0_2 == 0 && (a0_3 == 0 && (a0_4.toList == ([] : List UInt8))))) = some r := by rw [if_pos rfl] at H; exact H
    clear H
    have H := H1
    clear H1
    obtain rfl := Option.some.inj H
    go_enter Try.func94, Try.ntmps94
    go_wp2_with (first | ((with_reducible refine gate_dst (N := 4) rfl ?_); refine box_event ?hg (N := 4) ?hd (cs := #[.int .i64 a0_0, .int .i64 a0_1, .int .i64 a0_2, .int .i64 a0_3, .string a0_4]) (t := 126) ?hr ?_; (case hd => rfl); (case hg => rfl); (case hr => exact Z15); intro gb270 hg w16 hbox hb; have n0_ := A_ (below_step Z0 hb); have n1_ := A_ (hbox); have n2_ := A_ ((by rw [hg]; exact (below_size Z0) : w.heap.size ≤ gb270)); have n3_ := A_ ((by rw [hg]; exact (below_size Z0) : w.heap.size ≤ gb270)); clear HB; have HB := n0_; have BK270 := n1_; have GW270 := n2_; have GE270 := n3_; clear n0_ n1_ n2_ n3_; clear hb hbox hg; have hcz17_0 : w16.cell? ⟨gb270, 0, none⟩ = some (.int .i64 a0_0) := (blk_cell BK270.out 0).trans rfl; have hcz17_1 : w16.cell? ⟨gb270, 1, none⟩ = some (.int .i64 a0_1) := (blk_cell BK270.out 1).trans rfl; have hcz17_2 : w16.cell? ⟨gb270, 2, none⟩ = some (.int .i64 a0_2) := (blk_cell BK270.out 2).trans rfl; have hcz17_3 : w16.cell? ⟨gb270, 3, none⟩ = some (.int .i64 a0_3) := (blk_cell BK270.out 3).trans rfl; have hcz17_4 : w16.cell? ⟨gb270, 4, none⟩ = some (.string a0_4) := (blk_cell BK270.out 4).trans rfl; have hfz17_0 := blk_frozen BK270.out 0; have hfz17_1 := blk_frozen BK270.out 1; have hfz17_2 := blk_frozen BK270.out 2; have hfz17_3 := blk_frozen BK270.out 3; have hfz17_4 := blk_frozen BK270.out 4) | ((with_reducible refine gate_callee (f := 77) rfl ?_); refine goesL_ (some 27) rfl rfl Try.func77 (by kernel_rfl) rfl #[.int .i64 a0_1, .int .i64 0, .int .i64 (wrap64 (a1 - 1))] rfl Z5 ?_; (with_reducible refine (spec_inRange.calls a0_1 0 (wrap64 (a1 - 1)) true _ A14.out).mono ?_); rintro e w' ⟨rfl, ⟨nd, rfl⟩⟩; refine ⟨_, rfl, ?_⟩))
    go_ret
    exact ⟨Z7, Z2 GE270.out⟩
   ·replace c15 := Bool.eq_false_iff.mpr c15
    subst c15
    have H1 : (some false) = some r := by rw [if_neg (show ¬ (false = true) by decide)] at H; exact H
    clear H
    have H := H1
    clear H1
    obtain rfl := Option.some.inj H
    go_enter Try.func94, Try.ntmps94
    go_wp2_with (first | ((with_reducible refine gate_dst (N := 4) rfl ?_); refine box_event ?hg (N := 4) ?hd (cs := #[.int .i64 a0_0, .int .i64 a0_1, .int .i64 a0_2, .int .i64 a0_3, .string a0_4]) (t := 126) ?hr ?_; (case hd => rfl); (case hg => rfl); (case hr => exact Z15); intro gb270 hg w18 hbox hb; have n0_ := A_ (below_step Z0 hb); have n1_ := A_ (hbox); have n2_ := A_ ((by rw [hg]; exact (below_size Z0) : w.heap.size ≤ gb270)); have n3_ := A_ ((by rw [hg]; exact (below_size Z0) : w.heap.size ≤ gb270)); clear HB; have HB := n0_; have BK270 := n1_; have GW270 := n2_; have GE270 := n3_; clear n0_ n1_ n2_ n3_; clear hb hbox hg; have hcz19_0 : w18.cell? ⟨gb270, 0, none⟩ = some (.int .i64 a0_0) := (blk_cell BK270.out 0).trans rfl; have hcz19_1 : w18.cell? ⟨gb270, 1, none⟩ = some (.int .i64 a0_1) := (blk_cell BK270.out 1).trans rfl; have hcz19_2 : w18.cell? ⟨gb270, 2, none⟩ = some (.int .i64 a0_2) := (blk_cell BK270.out 2).trans rfl; have hcz19_3 : w18.cell? ⟨gb270, 3, none⟩ = some (.int .i64 a0_3) := (blk_cell BK270.out 3).trans rfl; have hcz19_4 : w18.cell? ⟨gb270, 4, none⟩ = some (.string a0_4) := (blk_cell BK270.out 4).trans rfl; have hfz19_0 := blk_frozen BK270.out 0; have hfz19_1 := blk_frozen BK270.out 1; have hfz19_2 := blk_frozen BK270.out 2; have hfz19_3 := blk_frozen BK270.out 3; have hfz19_4 := blk_frozen BK270.out 4) | ((with_reducible refine gate_callee (f := 77) rfl ?_); refine goesL_ (some 27) rfl rfl Try.func77 (by kernel_rfl) rfl #[.int .i64 a0_1, .int .i64 0, .int .i64 (wrap64 (a1 - 1))] rfl Z5 ?_; (with_reducible refine (spec_inRange.calls a0_1 0 (wrap64 (a1 - 1)) false _ A14.out).mono ?_); rintro e w' ⟨rfl, ⟨nd, rfl⟩⟩; refine ⟨_, rfl, ?_⟩))
    go_ret
    exact ⟨Z7, Z2 GE270.out⟩
  ·rw [if_neg c13] at H
   have c13b0 : (a0_0 == 1) = false := beq_eq_false_iff_ne.mpr c13
   have c13b1 : (a0_0 != 1) = true := bne_iff_ne.mpr c13
   by_cases c20 : a0_0 = 2
   ·rw [if_pos c20] at H
    have c20b0 : (a0_0 == 2) = true := beq_iff_eq.mpr c20
    have c20b1 : (a0_0 != 2) = false := bne_eq_false_iff_eq.mpr c20
    clear c20
    replace H := Option.bind_eq_some_iff.mp H
    obtain ⟨t273, A210, H⟩ := H
    replace H : (if t273 = true then (some (a0_2 == 0 && (a0_3 == 0 && (a0_4.toList == ([] : List UInt8))))) else (some false)) = some r := H
    have A21 := A_ A210
    clear A210
    by_cases c22 : t273 = true
    ·subst c22
     have H1 : (some (a0_2 == 0 && (a0_3 == 0 && (a0_4.toList == ([] : List UInt8))))) = some r := by rw [if_pos rfl] at H; exact H
     clear H
     have H := H1
     clear H1
     obtain rfl := Option.some.inj H
     go_enter Try.func94, Try.ntmps94
     go_wp2_with (first | ((with_reducible refine gate_dst (N := 4) rfl ?_); refine box_event ?hg (N := 4) ?hd (cs := #[.int .i64 a0_0, .int .i64 a0_1, .int .i64 a0_2, .int .i64 a0_3, .string a0_4]) (t := 126) ?hr ?_; (case hd => rfl); (case hg => rfl); (case hr => exact Z15); intro gb270 hg w23 hbox hb; have n0_ := A_ (below_step Z0 hb); have n1_ := A_ (hbox); have n2_ := A_ ((by rw [hg]; exact (below_size Z0) : w.heap.size ≤ gb270)); have n3_ := A_ ((by rw [hg]; exact (below_size Z0) : w.heap.size ≤ gb270)); clear HB; have HB := n0_; have BK270 := n1_; have GW270 := n2_; have GE270 := n3_; clear n0_ n1_ n2_ n3_; clear hb hbox hg; have hcz24_0 : w23.cell? ⟨gb270, 0, none⟩ = some (.int .i64 a0_0) := (blk_cell BK270.out 0).trans rfl; have hcz24_1 : w23.cell? ⟨gb270, 1, none⟩ = some (.int .i64 a0_1) := (blk_cell BK270.out 1).trans rfl; have hcz24_2 : w23.cell? ⟨gb270, 2, none⟩ = some (.int .i64 a0_2) := (blk_cell BK270.out 2).trans rfl; have hcz24_3 : w23.cell? ⟨gb270, 3, none⟩ = some (.int .i64 a0_3) := (blk_cell BK270.out 3).trans rfl; have hcz24_4 : w23.cell? ⟨gb270, 4, none⟩ = some (.string a0_4) := (blk_cell BK270.out 4).trans rfl; have hfz24_0 := blk_frozen BK270.out 0; have hfz24_1 := blk_frozen BK270.out 1; have hfz24_2 := blk_frozen BK270.out 2; have hfz24_3 := blk_frozen BK270.out 3; have hfz24_4 := blk_frozen BK270.out 4) | ((with_reducible refine gate_callee (f := 77) rfl ?_); refine goesL_ (some 40) rfl rfl Try.func77 (by kernel_rfl) rfl #[.int .i64 a0_1, .int .i64 0, .int .i64 (wrap64 (a2 - 1))] rfl Z5 ?_; (with_reducible refine (spec_inRange.calls a0_1 0 (wrap64 (a2 - 1)) true _ A21.out).mono ?_); rintro e w' ⟨rfl, ⟨nd, rfl⟩⟩; refine ⟨_, rfl, ?_⟩))
     go_ret
     exact ⟨Z7, Z2 GE270.out⟩
    ·replace c22 := Bool.eq_false_iff.mpr c22
     subst c22
     have H1 : (some false) = some r := by rw [if_neg (show ¬ (false = true) by decide)] at H; exact H
     clear H
     have H := H1
     clear H1
     obtain rfl := Option.some.inj H
     go_enter Try.func94, Try.ntmps94
     go_wp2_with (first | ((with_reducible refine gate_dst (N := 4) rfl ?_); refine box_event ?hg (N := 4) ?hd (cs := #[.int .i64 a0_0, .int .i64 a0_1, .int .i64 a0_2, .int .i64 a0_3, .string a0_4]) (t := 126) ?hr ?_; (case hd => rfl); (case hg => rfl); (case hr => exact Z15); intro gb270 hg w25 hbox hb; have n0_ := A_ (below_step Z0 hb); have n1_ := A_ (hbox); have n2_ := A_ ((by rw [hg]; exact (below_size Z0) : w.heap.size ≤ gb270)); have n3_ := A_ ((by rw [hg]; exact (below_size Z0) : w.heap.size ≤ gb270)); clear HB; have HB := n0_; have BK270 := n1_; have GW270 := n2_; have GE270 := n3_; clear n0_ n1_ n2_ n3_; clear hb hbox hg; have hcz26_0 : w25.cell? ⟨gb270, 0, none⟩ = some (.int .i64 a0_0) := (blk_cell BK270.out 0).trans rfl; have hcz26_1 : w25.cell? ⟨gb270, 1, none⟩ = some (.int .i64 a0_1) := (blk_cell BK270.out 1).trans rfl; have hcz26_2 : w25.cell? ⟨gb270, 2, none⟩ = some (.int .i64 a0_2) := (blk_cell BK270.out 2).trans rfl; have hcz26_3 : w25.cell? ⟨gb270, 3, none⟩ = some (.int .i64 a0_3) := (blk_cell BK270.out 3).trans rfl; have hcz26_4 : w25.cell? ⟨gb270, 4, none⟩ = some (.string a0_4) := (blk_cell BK270.out 4).trans rfl; have hfz26_0 := blk_frozen BK270.out 0; have hfz26_1 := blk_frozen BK270.out 1; have hfz26_2 := blk_frozen BK270.out 2; have hfz26_3 := blk_frozen BK270.out 3; have hfz26_4 := blk_frozen BK270.out 4) | ((with_reducible refine gate_callee (f := 77) rfl ?_); refine goesL_ (some 40) rfl rfl Try.func77 (by kernel_rfl) rfl #[.int .i64 a0_1, .int .i64 0, .int .i64 (wrap64 (a2 - 1))] rfl Z5 ?_; (with_reducible refine (spec_inRange.calls a0_1 0 (wrap64 (a2 - 1)) false _ A21.out).mono ?_); rintro e w' ⟨rfl, ⟨nd, rfl⟩⟩; refine ⟨_, rfl, ?_⟩))
     go_ret
     exact ⟨Z7, Z2 GE270.out⟩
   ·rw [if_neg c20] at H
    have c20b0 : (a0_0 == 2) = false := beq_eq_false_iff_ne.mpr c20
    have c20b1 : (a0_0 != 2) = true := bne_iff_ne.mpr c20
    by_cases c27 : a0_0 = 3
    ·rw [if_pos c27] at H
     have c27b0 : (a0_0 == 3) = true := beq_iff_eq.mpr c27
     have c27b1 : (a0_0 != 3) = false := bne_eq_false_iff_eq.mpr c27
     clear c27
     replace H := Option.bind_eq_some_iff.mp H
     obtain ⟨t274, A280, H⟩ := H
     replace H : (if t274 = true then (some (a0_2 == 0 && (a0_3 == 0 && (a0_4.toList == ([] : List UInt8))))) else (some false)) = some r := H
     have A28 := A_ A280
     clear A280
     by_cases c29 : t274 = true
     ·subst c29
      have H1 : (some (a0_2 == 0 && (a0_3 == 0 && (a0_4.toList == ([] : List UInt8))))) = some r := by rw [if_pos rfl] at H; exact H
      clear H
      have H := H1
      clear H1
      obtain rfl := Option.some.inj H
      go_enter Try.func94, Try.ntmps94
      go_wp2_with (first | ((with_reducible refine gate_dst (N := 4) rfl ?_); refine box_event ?hg (N := 4) ?hd (cs := #[.int .i64 a0_0, .int .i64 a0_1, .int .i64 a0_2, .int .i64 a0_3, .string a0_4]) (t := 126) ?hr ?_; (case hd => rfl); (case hg => rfl); (case hr => exact Z15); intro gb270 hg w30 hbox hb; have n0_ := A_ (below_step Z0 hb); have n1_ := A_ (hbox); have n2_ := A_ ((by rw [hg]; exact (below_size Z0) : w.heap.size ≤ gb270)); have n3_ := A_ ((by rw [hg]; exact (below_size Z0) : w.heap.size ≤ gb270)); clear HB; have HB := n0_; have BK270 := n1_; have GW270 := n2_; have GE270 := n3_; clear n0_ n1_ n2_ n3_; clear hb hbox hg; have hcz31_0 : w30.cell? ⟨gb270, 0, none⟩ = some (.int .i64 a0_0) := (blk_cell BK270.out 0).trans rfl; have hcz31_1 : w30.cell? ⟨gb270, 1, none⟩ = some (.int .i64 a0_1) := (blk_cell BK270.out 1).trans rfl; have hcz31_2 : w30.cell? ⟨gb270, 2, none⟩ = some (.int .i64 a0_2) := (blk_cell BK270.out 2).trans rfl; have hcz31_3 : w30.cell? ⟨gb270, 3, none⟩ = some (.int .i64 a0_3) := (blk_cell BK270.out 3).trans rfl; have hcz31_4 : w30.cell? ⟨gb270, 4, none⟩ = some (.string a0_4) := (blk_cell BK270.out 4).trans rfl; have hfz31_0 := blk_frozen BK270.out 0; have hfz31_1 := blk_frozen BK270.out 1; have hfz31_2 := blk_frozen BK270.out 2; have hfz31_3 := blk_frozen BK270.out 3; have hfz31_4 := blk_frozen BK270.out 4) | ((with_reducible refine gate_callee (f := 77) rfl ?_); refine goesL_ (some 53) rfl rfl Try.func77 (by kernel_rfl) rfl #[.int .i64 a0_1, .int .i64 0, .int .i64 (wrap64 (a3 - 1))] rfl Z5 ?_; (with_reducible refine (spec_inRange.calls a0_1 0 (wrap64 (a3 - 1)) true _ A28.out).mono ?_); rintro e w' ⟨rfl, ⟨nd, rfl⟩⟩; refine ⟨_, rfl, ?_⟩))
      go_ret
      exact ⟨Z7, Z2 GE270.out⟩
     ·replace c29 := Bool.eq_false_iff.mpr c29
      subst c29
      have H1 : (some false) = some r := by rw [if_neg (show ¬ (false = true) by decide)] at H; exact H
      clear H
      have H := H1
      clear H1
      obtain rfl := Option.some.inj H
      go_enter Try.func94, Try.ntmps94
      go_wp2_with (first | ((with_reducible refine gate_dst (N := 4) rfl ?_); refine box_event ?hg (N := 4) ?hd (cs := #[.int .i64 a0_0, .int .i64 a0_1, .int .i64 a0_2, .int .i64 a0_3, .string a0_4]) (t := 126) ?hr ?_; (case hd => rfl); (case hg => rfl); (case hr => exact Z15); intro gb270 hg w32 hbox hb; have n0_ := A_ (below_step Z0 hb); have n1_ := A_ (hbox); have n2_ := A_ ((by rw [hg]; exact (below_size Z0) : w.heap.size ≤ gb270)); have n3_ := A_ ((by rw [hg]; exact (below_size Z0) : w.heap.size ≤ gb270)); clear HB; have HB := n0_; have BK270 := n1_; have GW270 := n2_; have GE270 := n3_; clear n0_ n1_ n2_ n3_; clear hb hbox hg; have hcz33_0 : w32.cell? ⟨gb270, 0, none⟩ = some (.int .i64 a0_0) := (blk_cell BK270.out 0).trans rfl; have hcz33_1 : w32.cell? ⟨gb270, 1, none⟩ = some (.int .i64 a0_1) := (blk_cell BK270.out 1).trans rfl; have hcz33_2 : w32.cell? ⟨gb270, 2, none⟩ = some (.int .i64 a0_2) := (blk_cell BK270.out 2).trans rfl; have hcz33_3 : w32.cell? ⟨gb270, 3, none⟩ = some (.int .i64 a0_3) := (blk_cell BK270.out 3).trans rfl; have hcz33_4 : w32.cell? ⟨gb270, 4, none⟩ = some (.string a0_4) := (blk_cell BK270.out 4).trans rfl; have hfz33_0 := blk_frozen BK270.out 0; have hfz33_1 := blk_frozen BK270.out 1; have hfz33_2 := blk_frozen BK270.out 2; have hfz33_3 := blk_frozen BK270.out 3; have hfz33_4 := blk_frozen BK270.out 4) | ((with_reducible refine gate_callee (f := 77) rfl ?_); refine goesL_ (some 53) rfl rfl Try.func77 (by kernel_rfl) rfl #[.int .i64 a0_1, .int .i64 0, .int .i64 (wrap64 (a3 - 1))] rfl Z5 ?_; (with_reducible refine (spec_inRange.calls a0_1 0 (wrap64 (a3 - 1)) false _ A28.out).mono ?_); rintro e w' ⟨rfl, ⟨nd, rfl⟩⟩; refine ⟨_, rfl, ?_⟩))
      go_ret
      exact ⟨Z7, Z2 GE270.out⟩
    ·rw [if_neg c27] at H
     have c27b0 : (a0_0 == 3) = false := beq_eq_false_iff_ne.mpr c27
     have c27b1 : (a0_0 != 3) = true := bne_iff_ne.mpr c27
     by_cases c34 : a0_0 = 4
     ·rw [if_pos c34] at H
      have c34b0 : (a0_0 == 4) = true := beq_iff_eq.mpr c34
      have c34b1 : (a0_0 != 4) = false := bne_eq_false_iff_eq.mpr c34
      clear c34
      replace H := Option.bind_eq_some_iff.mp H
      obtain ⟨t275, A350, H⟩ := H
      replace H : (if t275 = true then (some (a0_2 == 0 && (a0_3 == 0 && (a0_4.toList == ([] : List UInt8))))) else (some false)) = some r := H
      have A35 := A_ A350
      clear A350
      by_cases c36 : t275 = true
      ·subst c36
       have H1 : (some (a0_2 == 0 && (a0_3 == 0 && (a0_4.toList == ([] : List UInt8))))) = some r := by rw [if_pos rfl] at H; exact H
       clear H
       have H := H1
       clear H1
       obtain rfl := Option.some.inj H
       go_enter Try.func94, Try.ntmps94
       go_wp2_with (first | ((with_reducible refine gate_dst (N := 4) rfl ?_); refine box_event ?hg (N := 4) ?hd (cs := #[.int .i64 a0_0, .int .i64 a0_1, .int .i64 a0_2, .int .i64 a0_3, .string a0_4]) (t := 126) ?hr ?_; (case hd => rfl); (case hg => rfl); (case hr => exact Z15); intro gb270 hg w37 hbox hb; have n0_ := A_ (below_step Z0 hb); have n1_ := A_ (hbox); have n2_ := A_ ((by rw [hg]; exact (below_size Z0) : w.heap.size ≤ gb270)); have n3_ := A_ ((by rw [hg]; exact (below_size Z0) : w.heap.size ≤ gb270)); clear HB; have HB := n0_; have BK270 := n1_; have GW270 := n2_; have GE270 := n3_; clear n0_ n1_ n2_ n3_; clear hb hbox hg; have hcz38_0 : w37.cell? ⟨gb270, 0, none⟩ = some (.int .i64 a0_0) := (blk_cell BK270.out 0).trans rfl; have hcz38_1 : w37.cell? ⟨gb270, 1, none⟩ = some (.int .i64 a0_1) := (blk_cell BK270.out 1).trans rfl; have hcz38_2 : w37.cell? ⟨gb270, 2, none⟩ = some (.int .i64 a0_2) := (blk_cell BK270.out 2).trans rfl; have hcz38_3 : w37.cell? ⟨gb270, 3, none⟩ = some (.int .i64 a0_3) := (blk_cell BK270.out 3).trans rfl; have hcz38_4 : w37.cell? ⟨gb270, 4, none⟩ = some (.string a0_4) := (blk_cell BK270.out 4).trans rfl; have hfz38_0 := blk_frozen BK270.out 0; have hfz38_1 := blk_frozen BK270.out 1; have hfz38_2 := blk_frozen BK270.out 2; have hfz38_3 := blk_frozen BK270.out 3; have hfz38_4 := blk_frozen BK270.out 4) | ((with_reducible refine gate_callee (f := 77) rfl ?_); refine goesL_ (some 64) rfl rfl Try.func77 (by kernel_rfl) rfl #[.int .i64 a0_1, .int .i64 0, .int .i64 1] rfl Z5 ?_; (with_reducible refine (spec_inRange.calls a0_1 0 1 true _ A35.out).mono ?_); rintro e w' ⟨rfl, ⟨nd, rfl⟩⟩; refine ⟨_, rfl, ?_⟩))
       go_ret
       exact ⟨Z7, Z2 GE270.out⟩
      ·replace c36 := Bool.eq_false_iff.mpr c36
       subst c36
       have H1 : (some false) = some r := by rw [if_neg (show ¬ (false = true) by decide)] at H; exact H
       clear H
       have H := H1
       clear H1
       obtain rfl := Option.some.inj H
       go_enter Try.func94, Try.ntmps94
       go_wp2_with (first | ((with_reducible refine gate_dst (N := 4) rfl ?_); refine box_event ?hg (N := 4) ?hd (cs := #[.int .i64 a0_0, .int .i64 a0_1, .int .i64 a0_2, .int .i64 a0_3, .string a0_4]) (t := 126) ?hr ?_; (case hd => rfl); (case hg => rfl); (case hr => exact Z15); intro gb270 hg w39 hbox hb; have n0_ := A_ (below_step Z0 hb); have n1_ := A_ (hbox); have n2_ := A_ ((by rw [hg]; exact (below_size Z0) : w.heap.size ≤ gb270)); have n3_ := A_ ((by rw [hg]; exact (below_size Z0) : w.heap.size ≤ gb270)); clear HB; have HB := n0_; have BK270 := n1_; have GW270 := n2_; have GE270 := n3_; clear n0_ n1_ n2_ n3_; clear hb hbox hg; have hcz40_0 : w39.cell? ⟨gb270, 0, none⟩ = some (.int .i64 a0_0) := (blk_cell BK270.out 0).trans rfl; have hcz40_1 : w39.cell? ⟨gb270, 1, none⟩ = some (.int .i64 a0_1) := (blk_cell BK270.out 1).trans rfl; have hcz40_2 : w39.cell? ⟨gb270, 2, none⟩ = some (.int .i64 a0_2) := (blk_cell BK270.out 2).trans rfl; have hcz40_3 : w39.cell? ⟨gb270, 3, none⟩ = some (.int .i64 a0_3) := (blk_cell BK270.out 3).trans rfl; have hcz40_4 : w39.cell? ⟨gb270, 4, none⟩ = some (.string a0_4) := (blk_cell BK270.out 4).trans rfl; have hfz40_0 := blk_frozen BK270.out 0; have hfz40_1 := blk_frozen BK270.out 1; have hfz40_2 := blk_frozen BK270.out 2; have hfz40_3 := blk_frozen BK270.out 3; have hfz40_4 := blk_frozen BK270.out 4) | ((with_reducible refine gate_callee (f := 77) rfl ?_); refine goesL_ (some 64) rfl rfl Try.func77 (by kernel_rfl) rfl #[.int .i64 a0_1, .int .i64 0, .int .i64 1] rfl Z5 ?_; (with_reducible refine (spec_inRange.calls a0_1 0 1 false _ A35.out).mono ?_); rintro e w' ⟨rfl, ⟨nd, rfl⟩⟩; refine ⟨_, rfl, ?_⟩))
       go_ret
       exact ⟨Z7, Z2 GE270.out⟩
     ·rw [if_neg c34] at H
      have c34b0 : (a0_0 == 4) = false := beq_eq_false_iff_ne.mpr c34
      have c34b1 : (a0_0 != 4) = true := bne_iff_ne.mpr c34
      by_cases c41 : a0_0 = 5
      ·rw [if_pos c41] at H
       have c41b0 : (a0_0 == 5) = true := beq_iff_eq.mpr c41
       have c41b1 : (a0_0 != 5) = false := bne_eq_false_iff_eq.mpr c41
       clear c41
       replace H := Option.bind_eq_some_iff.mp H
       obtain ⟨t276, A420, H⟩ := H
       replace H : (if t276 = true then (some (a0_2 == 0 && (a0_3 == 0 && (a0_4.toList == ([] : List UInt8))))) else (some false)) = some r := H
       have A42 := A_ A420
       clear A420
       by_cases c43 : t276 = true
       ·subst c43
        have H1 : (some (a0_2 == 0 && (a0_3 == 0 && (a0_4.toList == ([] : List UInt8))))) = some r := by rw [if_pos rfl] at H; exact H
        clear H
        have H := H1
        clear H1
        obtain rfl := Option.some.inj H
        go_enter Try.func94, Try.ntmps94
        go_wp2_with (first | ((with_reducible refine gate_dst (N := 4) rfl ?_); refine box_event ?hg (N := 4) ?hd (cs := #[.int .i64 a0_0, .int .i64 a0_1, .int .i64 a0_2, .int .i64 a0_3, .string a0_4]) (t := 126) ?hr ?_; (case hd => rfl); (case hg => rfl); (case hr => exact Z15); intro gb270 hg w44 hbox hb; have n0_ := A_ (below_step Z0 hb); have n1_ := A_ (hbox); have n2_ := A_ ((by rw [hg]; exact (below_size Z0) : w.heap.size ≤ gb270)); have n3_ := A_ ((by rw [hg]; exact (below_size Z0) : w.heap.size ≤ gb270)); clear HB; have HB := n0_; have BK270 := n1_; have GW270 := n2_; have GE270 := n3_; clear n0_ n1_ n2_ n3_; clear hb hbox hg; have hcz45_0 : w44.cell? ⟨gb270, 0, none⟩ = some (.int .i64 a0_0) := (blk_cell BK270.out 0).trans rfl; have hcz45_1 : w44.cell? ⟨gb270, 1, none⟩ = some (.int .i64 a0_1) := (blk_cell BK270.out 1).trans rfl; have hcz45_2 : w44.cell? ⟨gb270, 2, none⟩ = some (.int .i64 a0_2) := (blk_cell BK270.out 2).trans rfl; have hcz45_3 : w44.cell? ⟨gb270, 3, none⟩ = some (.int .i64 a0_3) := (blk_cell BK270.out 3).trans rfl; have hcz45_4 : w44.cell? ⟨gb270, 4, none⟩ = some (.string a0_4) := (blk_cell BK270.out 4).trans rfl; have hfz45_0 := blk_frozen BK270.out 0; have hfz45_1 := blk_frozen BK270.out 1; have hfz45_2 := blk_frozen BK270.out 2; have hfz45_3 := blk_frozen BK270.out 3; have hfz45_4 := blk_frozen BK270.out 4) | ((with_reducible refine gate_callee (f := 77) rfl ?_); refine goesL_ (some 75) rfl rfl Try.func77 (by kernel_rfl) rfl #[.int .i64 a0_1, .int .i64 0, .int .i64 6] rfl Z5 ?_; (with_reducible refine (spec_inRange.calls a0_1 0 6 true _ A42.out).mono ?_); rintro e w' ⟨rfl, ⟨nd, rfl⟩⟩; refine ⟨_, rfl, ?_⟩))
        go_ret
        exact ⟨Z7, Z2 GE270.out⟩
       ·replace c43 := Bool.eq_false_iff.mpr c43
        subst c43
        have H1 : (some false) = some r := by rw [if_neg (show ¬ (false = true) by decide)] at H; exact H
        clear H
        have H := H1
        clear H1
        obtain rfl := Option.some.inj H
        go_enter Try.func94, Try.ntmps94
        go_wp2_with (first | ((with_reducible refine gate_dst (N := 4) rfl ?_); refine box_event ?hg (N := 4) ?hd (cs := #[.int .i64 a0_0, .int .i64 a0_1, .int .i64 a0_2, .int .i64 a0_3, .string a0_4]) (t := 126) ?hr ?_; (case hd => rfl); (case hg => rfl); (case hr => exact Z15); intro gb270 hg w46 hbox hb; have n0_ := A_ (below_step Z0 hb); have n1_ := A_ (hbox); have n2_ := A_ ((by rw [hg]; exact (below_size Z0) : w.heap.size ≤ gb270)); have n3_ := A_ ((by rw [hg]; exact (below_size Z0) : w.heap.size ≤ gb270)); clear HB; have HB := n0_; have BK270 := n1_; have GW270 := n2_; have GE270 := n3_; clear n0_ n1_ n2_ n3_; clear hb hbox hg; have hcz47_0 : w46.cell? ⟨gb270, 0, none⟩ = some (.int .i64 a0_0) := (blk_cell BK270.out 0).trans rfl; have hcz47_1 : w46.cell? ⟨gb270, 1, none⟩ = some (.int .i64 a0_1) := (blk_cell BK270.out 1).trans rfl; have hcz47_2 : w46.cell? ⟨gb270, 2, none⟩ = some (.int .i64 a0_2) := (blk_cell BK270.out 2).trans rfl; have hcz47_3 : w46.cell? ⟨gb270, 3, none⟩ = some (.int .i64 a0_3) := (blk_cell BK270.out 3).trans rfl; have hcz47_4 : w46.cell? ⟨gb270, 4, none⟩ = some (.string a0_4) := (blk_cell BK270.out 4).trans rfl; have hfz47_0 := blk_frozen BK270.out 0; have hfz47_1 := blk_frozen BK270.out 1; have hfz47_2 := blk_frozen BK270.out 2; have hfz47_3 := blk_frozen BK270.out 3; have hfz47_4 := blk_frozen BK270.out 4) | ((with_reducible refine gate_callee (f := 77) rfl ?_); refine goesL_ (some 75) rfl rfl Try.func77 (by kernel_rfl) rfl #[.int .i64 a0_1, .int .i64 0, .int .i64 6] rfl Z5 ?_; (with_reducible refine (spec_inRange.calls a0_1 0 6 false _ A42.out).mono ?_); rintro e w' ⟨rfl, ⟨nd, rfl⟩⟩; refine ⟨_, rfl, ?_⟩))
        go_ret
        exact ⟨Z7, Z2 GE270.out⟩
      ·rw [if_neg c41] at H
       have c41b0 : (a0_0 == 5) = false := beq_eq_false_iff_ne.mpr c41
       have c41b1 : (a0_0 != 5) = true := bne_iff_ne.mpr c41
       by_cases c48 : a0_0 = 6
       ·rw [if_pos c48] at H
        have c48b0 : (a0_0 == 6) = true := beq_iff_eq.mpr c48
        have c48b1 : (a0_0 != 6) = false := bne_eq_false_iff_eq.mpr c48
        clear c48
        by_cases c49 : a0_1 = 0
        ·rw [if_pos c49] at H
         have c49b0 : (a0_1 == 0) = true := beq_iff_eq.mpr c49
         have c49b1 : (a0_1 != 0) = false := bne_eq_false_iff_eq.mpr c49
         clear c49
         obtain rfl := Option.some.inj H
         go_enter Try.func94, Try.ntmps94
         go_wp2_with (first | ((with_reducible refine gate_dst (N := 4) rfl ?_); refine box_event ?hg (N := 4) ?hd (cs := #[.int .i64 a0_0, .int .i64 a0_1, .int .i64 a0_2, .int .i64 a0_3, .string a0_4]) (t := 126) ?hr ?_; (case hd => rfl); (case hg => rfl); (case hr => exact Z15); intro gb270 hg w50 hbox hb; have n0_ := A_ (below_step Z0 hb); have n1_ := A_ (hbox); have n2_ := A_ ((by rw [hg]; exact (below_size Z0) : w.heap.size ≤ gb270)); have n3_ := A_ ((by rw [hg]; exact (below_size Z0) : w.heap.size ≤ gb270)); clear HB; have HB := n0_; have BK270 := n1_; have GW270 := n2_; have GE270 := n3_; clear n0_ n1_ n2_ n3_; clear hb hbox hg; have hcz51_0 : w50.cell? ⟨gb270, 0, none⟩ = some (.int .i64 a0_0) := (blk_cell BK270.out 0).trans rfl; have hcz51_1 : w50.cell? ⟨gb270, 1, none⟩ = some (.int .i64 a0_1) := (blk_cell BK270.out 1).trans rfl; have hcz51_2 : w50.cell? ⟨gb270, 2, none⟩ = some (.int .i64 a0_2) := (blk_cell BK270.out 2).trans rfl; have hcz51_3 : w50.cell? ⟨gb270, 3, none⟩ = some (.int .i64 a0_3) := (blk_cell BK270.out 3).trans rfl; have hcz51_4 : w50.cell? ⟨gb270, 4, none⟩ = some (.string a0_4) := (blk_cell BK270.out 4).trans rfl; have hfz51_0 := blk_frozen BK270.out 0; have hfz51_1 := blk_frozen BK270.out 1; have hfz51_2 := blk_frozen BK270.out 2; have hfz51_3 := blk_frozen BK270.out 3; have hfz51_4 := blk_frozen BK270.out 4))
         go_ret
         exact ⟨Z7, Z2 GE270.out⟩
        ·rw [if_neg c49] at H
         have c49b0 : (a0_1 == 0) = false := beq_eq_false_iff_ne.mpr c49
         have c49b1 : (a0_1 != 0) = true := bne_iff_ne.mpr c49
         obtain rfl := Option.some.inj H
         go_enter Try.func94, Try.ntmps94
         go_wp2_with (first | ((with_reducible refine gate_dst (N := 4) rfl ?_); refine box_event ?hg (N := 4) ?hd (cs := #[.int .i64 a0_0, .int .i64 a0_1, .int .i64 a0_2, .int .i64 a0_3, .string a0_4]) (t := 126) ?hr ?_; (case hd => rfl); (case hg => rfl); (case hr => exact Z15); intro gb270 hg w52 hbox hb; have n0_ := A_ (below_step Z0 hb); have n1_ := A_ (hbox); have n2_ := A_ ((by rw [hg]; exact (below_size Z0) : w.heap.size ≤ gb270)); have n3_ := A_ ((by rw [hg]; exact (below_size Z0) : w.heap.size ≤ gb270)); clear HB; have HB := n0_; have BK270 := n1_; have GW270 := n2_; have GE270 := n3_; clear n0_ n1_ n2_ n3_; clear hb hbox hg; have hcz53_0 : w52.cell? ⟨gb270, 0, none⟩ = some (.int .i64 a0_0) := (blk_cell BK270.out 0).trans rfl; have hcz53_1 : w52.cell? ⟨gb270, 1, none⟩ = some (.int .i64 a0_1) := (blk_cell BK270.out 1).trans rfl; have hcz53_2 : w52.cell? ⟨gb270, 2, none⟩ = some (.int .i64 a0_2) := (blk_cell BK270.out 2).trans rfl; have hcz53_3 : w52.cell? ⟨gb270, 3, none⟩ = some (.int .i64 a0_3) := (blk_cell BK270.out 3).trans rfl; have hcz53_4 : w52.cell? ⟨gb270, 4, none⟩ = some (.string a0_4) := (blk_cell BK270.out 4).trans rfl; have hfz53_0 := blk_frozen BK270.out 0; have hfz53_1 := blk_frozen BK270.out 1; have hfz53_2 := blk_frozen BK270.out 2; have hfz53_3 := blk_frozen BK270.out 3; have hfz53_4 := blk_frozen BK270.out 4))
         go_ret
         exact ⟨Z7, Z2 GE270.out⟩
       ·rw [if_neg c48] at H
        have c48b0 : (a0_0 == 6) = false := beq_eq_false_iff_ne.mpr c48
        have c48b1 : (a0_0 != 6) = true := bne_iff_ne.mpr c48
        obtain rfl := Option.some.inj H
        go_enter Try.func94, Try.ntmps94
        go_wp2_with (first | ((with_reducible refine gate_dst (N := 4) rfl ?_); refine box_event ?hg (N := 4) ?hd (cs := #[.int .i64 a0_0, .int .i64 a0_1, .int .i64 a0_2, .int .i64 a0_3, .string a0_4]) (t := 126) ?hr ?_; (case hd => rfl); (case hg => rfl); (case hr => exact Z15); intro gb270 hg w54 hbox hb; have n0_ := A_ (below_step Z0 hb); have n1_ := A_ (hbox); have n2_ := A_ ((by rw [hg]; exact (below_size Z0) : w.heap.size ≤ gb270)); have n3_ := A_ ((by rw [hg]; exact (below_size Z0) : w.heap.size ≤ gb270)); clear HB; have HB := n0_; have BK270 := n1_; have GW270 := n2_; have GE270 := n3_; clear n0_ n1_ n2_ n3_; clear hb hbox hg; have hcz55_0 : w54.cell? ⟨gb270, 0, none⟩ = some (.int .i64 a0_0) := (blk_cell BK270.out 0).trans rfl; have hcz55_1 : w54.cell? ⟨gb270, 1, none⟩ = some (.int .i64 a0_1) := (blk_cell BK270.out 1).trans rfl; have hcz55_2 : w54.cell? ⟨gb270, 2, none⟩ = some (.int .i64 a0_2) := (blk_cell BK270.out 2).trans rfl; have hcz55_3 : w54.cell? ⟨gb270, 3, none⟩ = some (.int .i64 a0_3) := (blk_cell BK270.out 3).trans rfl; have hcz55_4 : w54.cell? ⟨gb270, 4, none⟩ = some (.string a0_4) := (blk_cell BK270.out 4).trans rfl; have hfz55_0 := blk_frozen BK270.out 0; have hfz55_1 := blk_frozen BK270.out 1; have hfz55_2 := blk_frozen BK270.out 2; have hfz55_3 := blk_frozen BK270.out 3; have hfz55_4 := blk_frozen BK270.out 4))
        go_ret
        exact ⟨Z7, Z2 GE270.out⟩
def spec_takes.f (a0_0 : Int) (a0_1 : Int) (a0_2 : Int) (a0_3 : Int) (a0_4 : ByteArray) : Option (Int) := if a0_0 = 5 then (some 2) else (if a0_0 = 6 then (some 3) else (some 0))
set_option maxHeartbeats 8000000 in
set_option maxRecDepth 100000 in
theorem spec_takes.calls (a0_0 : Int) (a0_1 : Int) (a0_2 : Int) (a0_3 : Int) (a0_4 : ByteArray) (r : Int) (w : World) (h : spec_takes.f a0_0 a0_1 a0_2 a0_3 a0_4 = some r) :
  Calls Try.prog 95 #[.agg #[.int .i64 a0_0, .int .i64 a0_1, .int .i64 a0_2, .int .i64 a0_3, .string a0_4]] w fun e w' => e = .returned (.int .i64 r) ∧ Below w.heap.size w w' := by
 have hu126 := Try.underlying126
 have HB := A_ (Below.refl w.heap.size w)
 have H : (if a0_0 = 5 then (some 2) else (if a0_0 = 6 then (some 3) else (some 0))) = some r := h
 clear h
 by_cases c2 : a0_0 = 5
 ·rw [if_pos c2] at H
  have c2b0 : (a0_0 == 5) = true := beq_iff_eq.mpr c2
  have c2b1 : (a0_0 != 5) = false := bne_eq_false_iff_eq.mpr c2
  clear c2
  obtain rfl := Option.some.inj H
  go_enter Try.func95, Try.ntmps95
  go_wp2_with (first | ((with_reducible refine gate_dst (N := 1) rfl ?_); refine box_event ?hg (N := 1) ?hd (cs := #[.int .i64 a0_0, .int .i64 a0_1, .int .i64 a0_2, .int .i64 a0_3, .string a0_4]) (t := 126) ?hr ?_; (case hd => rfl); (case hg => rfl); (case hr => exact Z15); intro gb277 hg w3 hbox hb; have n0_ := A_ (below_step Z0 hb); have n1_ := A_ (hbox); have n2_ := A_ ((by rw [hg]; exact (below_size Z0) : w.heap.size ≤ gb277)); have n3_ := A_ ((by rw [hg]; exact (below_size Z0) : w.heap.size ≤ gb277)); clear HB; have HB := n0_; have BK277 := n1_; have GW277 := n2_; have GE277 := n3_; clear n0_ n1_ n2_ n3_; clear hb hbox hg; have hcz4_0 : w3.cell? ⟨gb277, 0, none⟩ = some (.int .i64 a0_0) := (blk_cell BK277.out 0).trans rfl; have hcz4_1 : w3.cell? ⟨gb277, 1, none⟩ = some (.int .i64 a0_1) := (blk_cell BK277.out 1).trans rfl; have hcz4_2 : w3.cell? ⟨gb277, 2, none⟩ = some (.int .i64 a0_2) := (blk_cell BK277.out 2).trans rfl; have hcz4_3 : w3.cell? ⟨gb277, 3, none⟩ = some (.int .i64 a0_3) := (blk_cell BK277.out 3).trans rfl; have hcz4_4 : w3.cell? ⟨gb277, 4, none⟩ = some (.string a0_4) := (blk_cell BK277.out 4).trans rfl; have hfz4_0 := blk_frozen BK277.out 0; have hfz4_1 := blk_frozen BK277.out 1; have hfz4_2 := blk_frozen BK277.out 2; have hfz4_3 := blk_frozen BK277.out 3; have hfz4_4 := blk_frozen BK277.out 4))
  go_ret
  exact ⟨Z7, Z2 GE277.out⟩
 ·rw [if_neg c2] at H
  have c2b0 : (a0_0 == 5) = false := beq_eq_false_iff_ne.mpr c2
  have c2b1 : (a0_0 != 5) = true := bne_iff_ne.mpr c2
  by_cases c5 : a0_0 = 6
  ·rw [if_pos c5] at H
   have c5b0 : (a0_0 == 6) = true := beq_iff_eq.mpr c5
   have c5b1 : (a0_0 != 6) = false := bne_eq_false_iff_eq.mpr c5
   clear c5
   obtain rfl := Option.some.inj H
   go_enter Try.func95, Try.ntmps95
   go_wp2_with (first | ((with_reducible refine gate_dst (N := 1) rfl ?_); refine box_event ?hg (N := 1) ?hd (cs := #[.int .i64 a0_0, .int .i64 a0_1, .int .i64 a0_2, .int .i64 a0_3, .string a0_4]) (t := 126) ?hr ?_; (case hd => rfl); (case hg => rfl); (case hr => exact Z15); intro gb277 hg w6 hbox hb; have n0_ := A_ (below_step Z0 hb); have n1_ := A_ (hbox); have n2_ := A_ ((by rw [hg]; exact (below_size Z0) : w.heap.size ≤ gb277)); have n3_ := A_ ((by rw [hg]; exact (below_size Z0) : w.heap.size ≤ gb277)); clear HB; have HB := n0_; have BK277 := n1_; have GW277 := n2_; have GE277 := n3_; clear n0_ n1_ n2_ n3_; clear hb hbox hg; have hcz7_0 : w6.cell? ⟨gb277, 0, none⟩ = some (.int .i64 a0_0) := (blk_cell BK277.out 0).trans rfl; have hcz7_1 : w6.cell? ⟨gb277, 1, none⟩ = some (.int .i64 a0_1) := (blk_cell BK277.out 1).trans rfl; have hcz7_2 : w6.cell? ⟨gb277, 2, none⟩ = some (.int .i64 a0_2) := (blk_cell BK277.out 2).trans rfl; have hcz7_3 : w6.cell? ⟨gb277, 3, none⟩ = some (.int .i64 a0_3) := (blk_cell BK277.out 3).trans rfl; have hcz7_4 : w6.cell? ⟨gb277, 4, none⟩ = some (.string a0_4) := (blk_cell BK277.out 4).trans rfl; have hfz7_0 := blk_frozen BK277.out 0; have hfz7_1 := blk_frozen BK277.out 1; have hfz7_2 := blk_frozen BK277.out 2; have hfz7_3 := blk_frozen BK277.out 3; have hfz7_4 := blk_frozen BK277.out 4))
   go_ret
   exact ⟨Z7, Z2 GE277.out⟩
  ·rw [if_neg c5] at H
   have c5b0 : (a0_0 == 6) = false := beq_eq_false_iff_ne.mpr c5
   have c5b1 : (a0_0 != 6) = true := bne_iff_ne.mpr c5
   obtain rfl := Option.some.inj H
   go_enter Try.func95, Try.ntmps95
   go_wp2_with (first | ((with_reducible refine gate_dst (N := 1) rfl ?_); refine box_event ?hg (N := 1) ?hd (cs := #[.int .i64 a0_0, .int .i64 a0_1, .int .i64 a0_2, .int .i64 a0_3, .string a0_4]) (t := 126) ?hr ?_; (case hd => rfl); (case hg => rfl); (case hr => exact Z15); intro gb277 hg w8 hbox hb; have n0_ := A_ (below_step Z0 hb); have n1_ := A_ (hbox); have n2_ := A_ ((by rw [hg]; exact (below_size Z0) : w.heap.size ≤ gb277)); have n3_ := A_ ((by rw [hg]; exact (below_size Z0) : w.heap.size ≤ gb277)); clear HB; have HB := n0_; have BK277 := n1_; have GW277 := n2_; have GE277 := n3_; clear n0_ n1_ n2_ n3_; clear hb hbox hg; have hcz9_0 : w8.cell? ⟨gb277, 0, none⟩ = some (.int .i64 a0_0) := (blk_cell BK277.out 0).trans rfl; have hcz9_1 : w8.cell? ⟨gb277, 1, none⟩ = some (.int .i64 a0_1) := (blk_cell BK277.out 1).trans rfl; have hcz9_2 : w8.cell? ⟨gb277, 2, none⟩ = some (.int .i64 a0_2) := (blk_cell BK277.out 2).trans rfl; have hcz9_3 : w8.cell? ⟨gb277, 3, none⟩ = some (.int .i64 a0_3) := (blk_cell BK277.out 3).trans rfl; have hcz9_4 : w8.cell? ⟨gb277, 4, none⟩ = some (.string a0_4) := (blk_cell BK277.out 4).trans rfl; have hfz9_0 := blk_frozen BK277.out 0; have hfz9_1 := blk_frozen BK277.out 1; have hfz9_2 := blk_frozen BK277.out 2; have hfz9_3 := blk_frozen BK277.out 3; have hfz9_4 := blk_frozen BK277.out 4))
   go_ret
   exact ⟨Z7, Z2 GE277.out⟩
def spec_validForm.l0 : Nat → List (S126) → Int → Int → Int → Int → Int → Option (Bool)
 | 0, _, _, _, _, _, _ => none
 | k + 1, x0, x1, x2, x3, x9, x10 => if x10 < (x0.length : Int) then (if 0 ≤ x10 then ((spec_validStep.f k ((rd_T126 x0 x10).f0) ((rd_T126 x0 x10).f1) ((rd_T126 x0 x10).f2.f0) ((rd_T126 x0 x10).f2.f1) ((rd_T126 x0 x10).f2.f2) x1 x2 x3).bind fun t279 => (if t279 = true then ((spec_takes.f ((rd_T126 x0 x10).f0) ((rd_T126 x0 x10).f1) ((rd_T126 x0 x10).f2.f0) ((rd_T126 x0 x10).f2.f1) ((rd_T126 x0 x10).f2.f2)).bind fun t281 => (if x9 < t281 then (some false) else ((spec_takes.f ((rd_T126 x0 x10).f0) ((rd_T126 x0 x10).f1) ((rd_T126 x0 x10).f2.f0) ((rd_T126 x0 x10).f2.f1) ((rd_T126 x0 x10).f2.f2)).bind fun t283 => (spec_validForm.l0 k x0 x1 x2 x3 (wrap64 ((wrap64 (x9 - t283)) + 1)) (wrap64 (x10 + 1)))))) else (some false))) else (none)) else (some (x9 == 1))
def spec_validForm.f (k : Nat) (l0 : List (S126)) (a1 : Int) (a2 : Int) (a3 : Int) : Option (Bool) := if (l0.length : Int) > 9 then (some false) else (spec_validForm.l0 k l0 a1 a2 a3 0 0)
theorem spec_validForm.mono_l : ∀ k, (∀ y0 y1 y2 y3 y4 y5, LeO (spec_validForm.l0 k y0 y1 y2 y3 y4 y5) (spec_validForm.l0 (k + 1) y0 y1 y2 y3 y4 y5))
 | 0 => fun _ _ _ _ _ _ r h => by simp [spec_validForm.l0] at h
 | k + 1 => by
  have ih0 := spec_validForm.mono_l k
  ·intro y0 y1 y2 y3 y4 y5
   unfold spec_validForm.l0
   repeat' first
   | (with_reducible exact ih0 _ _ _ _ _ _)
   | (with_reducible exact spec_validStep.mono _ _ _ _ _ _ _ _ _)
   | (with_reducible exact LeO.refl _)
   | (with_reducible exact LeO.none _)
   | (with_reducible refine LeO.ite ?_ ?_)
   | (with_reducible refine LeO.bind ?_ (fun _ => ?_))
   | exact ih0 _ _ _ _ _ _
   | exact spec_validStep.mono _ _ _ _ _ _ _ _ _
   | exact LeO.none _
   | refine LeO.ite ?_ ?_
   | refine LeO.bind ?_ (fun _ => ?_)
theorem spec_validForm.mono : ∀ a0 a1 a2 a3 k, LeO (spec_validForm.f k a0 a1 a2 a3) (spec_validForm.f (k + 1) a0 a1 a2 a3) := by
 intro a0 a1 a2 a3 k
 have ih0 := spec_validForm.mono_l k
 unfold spec_validForm.f
 repeat' first
   | (with_reducible exact ih0 _ _ _ _ _ _)
   | (with_reducible exact spec_validStep.mono _ _ _ _ _ _ _ _ _)
   | (with_reducible exact LeO.refl _)
   | (with_reducible exact LeO.none _)
   | (with_reducible refine LeO.ite ?_ ?_)
   | (with_reducible refine LeO.bind ?_ (fun _ => ?_))
   | exact ih0 _ _ _ _ _ _
   | exact spec_validStep.mono _ _ _ _ _ _ _ _ _
   | exact LeO.none _
   | refine LeO.ite ?_ ?_
   | refine LeO.bind ?_ (fun _ => ?_)
set_option maxHeartbeats 8000000 in
set_option maxRecDepth 100000 in
theorem spec_validForm.calls (k : Nat) (A0 : Option Addr) (c0 : Nat) (l0 : List (S126)) (a1 : Int) (a2 : Int) (a3 : Int) (r : Bool) (w : World) (hr0 : Kd.C k126 w A0 l0.length l0) (hc0 : l0.length ≤ c0) (h : spec_validForm.f k l0 a1 a2 a3 = some r) :
  Calls Try.prog 78 #[.slice A0 l0.length c0, .int .i64 a1, .int .i64 a2, .int .i64 a3] w fun e w' => e = .returned (.bool r) ∧ Below w.heap.size w w' := by
 have hu126 := Try.underlying126
 have HR0 := A_ hr0
 have HC0 := A_ hc0
 clear hr0 hc0
 have HB := A_ (Below.refl w.heap.size w)
 have H : (if (l0.length : Int) > 9 then (some false) else (spec_validForm.l0 k l0 a1 a2 a3 0 0)) = some r := h
 clear h
 by_cases c5 : (l0.length : Int) > 9
 ·rw [if_pos c5] at H
  have c5b0 : decide (9 < (l0.length : Int)) = true := decide_eq_true c5
  have c5b1 : decide (9 < l0.length) = true := decide_eq_true (by omega)
  clear c5
  obtain rfl := Option.some.inj H
  go_enter Try.func78, Try.ntmps78
  go_wp2
  go_ret
  exact ⟨Z7, Z0⟩
 ·rw [if_neg c5] at H
  have c5b0 : decide (9 < (l0.length : Int)) = false := decide_eq_false c5
  have c5b1 : decide (9 < l0.length) = false := decide_eq_false (by omega)
  clear c5
  have H' := A_ H
  clear H
  go_enter Try.func78, Try.ntmps78
  go_wp2
  go_loopg [9, 10] k (fun kq v9 v10 w' => ∃ (x9_1 : Int) (x10_1 : Int), v9 = .int .i64 x9_1 ∧ v10 = .int .i64 x10_1 ∧ Aside0 (spec_validForm.l0 kq l0 a1 a2 a3 x9_1 x10_1 = some r) ∧ Aside0 (kq ≤ k) ∧ Aside0 (Below w.heap.size w w'))
  case atStart => exact ⟨(0), (0), Z16, Z16, H', ⟨Nat.le_refl _⟩, ⟨Z0⟩⟩
  case round =>
   clear H'
   try clear p2
   try clear c5
   try clear c5b0
   try clear c5b1
   obtain ⟨x9_1, x10_1, rfl, rfl, HA, HK1, HB⟩ := hrel
   cases gk with
   | zero => exact absurd HA.out (by simp [spec_validForm.l0])
   | succ k1 =>
    have H := HA.out
    clear HA
    simp only [spec_validForm.l0] at H
    by_cases c6 : x10_1 < (l0.length : Int)
    ·rw [if_pos c6] at H
     have c6b0 : decide (x10_1 < (l0.length : Int)) = true := decide_eq_true c6
     clear c6
     by_cases c7 : 0 ≤ x10_1
     ·rw [if_pos c7] at H
      have c7b0 : decide (0 ≤ x10_1) = true := decide_eq_true c7
      clear c7
      replace H := Option.bind_eq_some_iff.mp H
      obtain ⟨t279, A80, H⟩ := H
      replace H : (if t279 = true then ((spec_takes.f ((rd_T126 l0 x10_1).f0) ((rd_T126 l0 x10_1).f1) ((rd_T126 l0 x10_1).f2.f0) ((rd_T126 l0 x10_1).f2.f1) ((rd_T126 l0 x10_1).f2.f2)).bind fun t281 => (if x9_1 < t281 then (some false) else ((spec_takes.f ((rd_T126 l0 x10_1).f0) ((rd_T126 l0 x10_1).f1) ((rd_T126 l0 x10_1).f2.f0) ((rd_T126 l0 x10_1).f2.f1) ((rd_T126 l0 x10_1).f2.f2)).bind fun t283 => (spec_validForm.l0 k1 l0 a1 a2 a3 (wrap64 ((wrap64 (x9_1 - t283)) + 1)) (wrap64 (x10_1 + 1)))))) else (some false)) = some r := H
      have A8 := A_ A80
      clear A80
      by_cases c9 : t279 = true
      ·subst c9
       have H1 : ((spec_takes.f ((rd_T126 l0 x10_1).f0) ((rd_T126 l0 x10_1).f1) ((rd_T126 l0 x10_1).f2.f0) ((rd_T126 l0 x10_1).f2.f1) ((rd_T126 l0 x10_1).f2.f2)).bind fun t281 => (if x9_1 < t281 then (some false) else ((spec_takes.f ((rd_T126 l0 x10_1).f0) ((rd_T126 l0 x10_1).f1) ((rd_T126 l0 x10_1).f2.f0) ((rd_T126 l0 x10_1).f2.f1) ((rd_T126 l0 x10_1).f2.f2)).bind fun t283 => (spec_validForm.l0 k1 l0 a1 a2 a3 (wrap64 ((wrap64 (x9_1 - t283)) + 1)) (wrap64 (x10_1 + 1)))))) = some r := by rw [if_pos rfl] at H; exact H
       clear H
       have H := H1
       clear H1
       replace H := Option.bind_eq_some_iff.mp H
       obtain ⟨t281, A100, H⟩ := H
       replace H : (if x9_1 < t281 then (some false) else ((spec_takes.f ((rd_T126 l0 x10_1).f0) ((rd_T126 l0 x10_1).f1) ((rd_T126 l0 x10_1).f2.f0) ((rd_T126 l0 x10_1).f2.f1) ((rd_T126 l0 x10_1).f2.f2)).bind fun t283 => (spec_validForm.l0 k1 l0 a1 a2 a3 (wrap64 ((wrap64 (x9_1 - t283)) + 1)) (wrap64 (x10_1 + 1))))) = some r := H
       have A10 := A_ A100
       clear A100
       by_cases c11 : x9_1 < t281
       ·rw [if_pos c11] at H
        have c11b0 : decide (x9_1 < t281) = true := decide_eq_true c11
        clear c11
        obtain rfl := Option.some.inj H
        have p278 : 0 ≤ (x10_1 : Int) := of_decide_eq_true Z12
        have q278 : x10_1 < (l0.length : Int) := of_decide_eq_true Z12
        obtain ⟨ad278, e278, hx278_0, hx278_1, hx278_2, hx278_3, hx278_4⟩ := at_T126 HR0.out x10_1 p278 q278
        cases e278
        replace hx278_0 := ZC HB.out hx278_0
        replace hx278_1 := ZC HB.out hx278_1
        replace hx278_2 := ZC HB.out hx278_2
        replace hx278_3 := ZC HB.out hx278_3
        replace hx278_4 := ZC HB.out hx278_4
        replace p278 := eq_true p278
        replace q278 := eq_true q278
        go_wp2_with (first | ((with_reducible refine gate_callee (f := 94) rfl ?_); refine goesL_ (some 27) rfl rfl Try.func94 (by kernel_rfl) rfl #[.agg #[.int .i64 ((rd_T126 l0 x10_1).f0), .int .i64 ((rd_T126 l0 x10_1).f1), .int .i64 ((rd_T126 l0 x10_1).f2.f0), .int .i64 ((rd_T126 l0 x10_1).f2.f1), .string ((rd_T126 l0 x10_1).f2.f2)], .int .i64 a1, .int .i64 a2, .int .i64 a3] rfl Z5 ?_; (with_reducible refine (spec_validStep.calls k1 ((rd_T126 l0 x10_1).f0) ((rd_T126 l0 x10_1).f1) ((rd_T126 l0 x10_1).f2.f0) ((rd_T126 l0 x10_1).f2.f1) ((rd_T126 l0 x10_1).f2.f2) a1 a2 a3 true _ A8.out).mono ?_); rintro e w12 ⟨rfl, hb⟩; refine ⟨_, rfl, ?_⟩; have n0_ := A_ (below_step Z0 hb); clear HB; have HB := n0_; clear n0_; (try clear hb); (try clear hb2); (try clear hk); (try clear hi); have p280 : 0 ≤ (x10_1 : Int) := of_decide_eq_true Z12; have q280 : x10_1 < (l0.length : Int) := of_decide_eq_true Z12; obtain ⟨ad280, e280, hx280_0, hx280_1, hx280_2, hx280_3, hx280_4⟩ := at_T126 HR0.out x10_1 p280 q280; obtain rfl : ad278 = ad280 := (by injection e280); replace hx280_0 := ZC HB.out hx280_0; replace hx280_1 := ZC HB.out hx280_1; replace hx280_2 := ZC HB.out hx280_2; replace hx280_3 := ZC HB.out hx280_3; replace hx280_4 := ZC HB.out hx280_4; replace p280 := eq_true p280; replace q280 := eq_true q280) | (go_at_call 95; (with_reducible refine (spec_takes.calls ((rd_T126 l0 x10_1).f0) ((rd_T126 l0 x10_1).f1) ((rd_T126 l0 x10_1).f2.f0) ((rd_T126 l0 x10_1).f2.f1) ((rd_T126 l0 x10_1).f2.f2) t281 _ A10.out).mono ?_); rintro e w13 ⟨rfl, hb⟩; have n0_ := A_ (below_step Z0 hb); clear HB; have HB := n0_; clear n0_; (try clear hb); (try clear hb2); (try clear hk); (try clear hi)))
        go_ret
        exact ⟨Z7, Z0⟩
       ·rw [if_neg c11] at H
        have c11b0 : decide (x9_1 < t281) = false := decide_eq_false c11
        clear c11
        replace H := Option.bind_eq_some_iff.mp H
        obtain ⟨t283, A140, H⟩ := H
        replace H : (spec_validForm.l0 k1 l0 a1 a2 a3 (wrap64 ((wrap64 (x9_1 - t283)) + 1)) (wrap64 (x10_1 + 1))) = some r := H
        have A14 := A_ A140
        clear A140
        have H' := A_ H
        clear H
        have p278 : 0 ≤ (x10_1 : Int) := of_decide_eq_true Z12
        have q278 : x10_1 < (l0.length : Int) := of_decide_eq_true Z12
        obtain ⟨ad278, e278, hx278_0, hx278_1, hx278_2, hx278_3, hx278_4⟩ := at_T126 HR0.out x10_1 p278 q278
        cases e278
        replace hx278_0 := ZC HB.out hx278_0
        replace hx278_1 := ZC HB.out hx278_1
        replace hx278_2 := ZC HB.out hx278_2
        replace hx278_3 := ZC HB.out hx278_3
        replace hx278_4 := ZC HB.out hx278_4
        replace p278 := eq_true p278
        replace q278 := eq_true q278
        go_wp2_with (first | ((with_reducible refine gate_callee (f := 94) rfl ?_); refine goesL_ (some 27) rfl rfl Try.func94 (by kernel_rfl) rfl #[.agg #[.int .i64 ((rd_T126 l0 x10_1).f0), .int .i64 ((rd_T126 l0 x10_1).f1), .int .i64 ((rd_T126 l0 x10_1).f2.f0), .int .i64 ((rd_T126 l0 x10_1).f2.f1), .string ((rd_T126 l0 x10_1).f2.f2)], .int .i64 a1, .int .i64 a2, .int .i64 a3] rfl Z5 ?_; (with_reducible refine (spec_validStep.calls k1 ((rd_T126 l0 x10_1).f0) ((rd_T126 l0 x10_1).f1) ((rd_T126 l0 x10_1).f2.f0) ((rd_T126 l0 x10_1).f2.f1) ((rd_T126 l0 x10_1).f2.f2) a1 a2 a3 true _ A8.out).mono ?_); rintro e w15 ⟨rfl, hb⟩; refine ⟨_, rfl, ?_⟩; have n0_ := A_ (below_step Z0 hb); clear HB; have HB := n0_; clear n0_; (try clear hb); (try clear hb2); (try clear hk); (try clear hi); have p280 : 0 ≤ (x10_1 : Int) := of_decide_eq_true Z12; have q280 : x10_1 < (l0.length : Int) := of_decide_eq_true Z12; obtain ⟨ad280, e280, hx280_0, hx280_1, hx280_2, hx280_3, hx280_4⟩ := at_T126 HR0.out x10_1 p280 q280; obtain rfl : ad278 = ad280 := (by injection e280); replace hx280_0 := ZC HB.out hx280_0; replace hx280_1 := ZC HB.out hx280_1; replace hx280_2 := ZC HB.out hx280_2; replace hx280_3 := ZC HB.out hx280_3; replace hx280_4 := ZC HB.out hx280_4; replace p280 := eq_true p280; replace q280 := eq_true q280) | (go_at_call 95; (with_reducible refine (spec_takes.calls ((rd_T126 l0 x10_1).f0) ((rd_T126 l0 x10_1).f1) ((rd_T126 l0 x10_1).f2.f0) ((rd_T126 l0 x10_1).f2.f1) ((rd_T126 l0 x10_1).f2.f2) t281 _ A10.out).mono ?_); rintro e w16 ⟨rfl, hb⟩; have n0_ := A_ (below_step Z0 hb); clear HB; have HB := n0_; clear n0_; (try clear hb); (try clear hb2); (try clear hk); (try clear hi); have p282 : 0 ≤ (x10_1 : Int) := of_decide_eq_true Z12; have q282 : x10_1 < (l0.length : Int) := of_decide_eq_true Z12; obtain ⟨ad282, e282, hx282_0, hx282_1, hx282_2, hx282_3, hx282_4⟩ := at_T126 HR0.out x10_1 p282 q282; obtain rfl : ad278 = ad282 := (by injection e282); replace hx282_0 := ZC HB.out hx282_0; replace hx282_1 := ZC HB.out hx282_1; replace hx282_2 := ZC HB.out hx282_2; replace hx282_3 := ZC HB.out hx282_3; replace hx282_4 := ZC HB.out hx282_4; replace p282 := eq_true p282; replace q282 := eq_true q282) | ((with_reducible refine gate_callee (f := 95) rfl ?_); refine goesL_ (some 43) rfl rfl Try.func95 (by kernel_rfl) rfl #[.agg #[.int .i64 ((rd_T126 l0 x10_1).f0), .int .i64 ((rd_T126 l0 x10_1).f1), .int .i64 ((rd_T126 l0 x10_1).f2.f0), .int .i64 ((rd_T126 l0 x10_1).f2.f1), .string ((rd_T126 l0 x10_1).f2.f2)]] rfl Z5 ?_; (with_reducible refine (spec_takes.calls ((rd_T126 l0 x10_1).f0) ((rd_T126 l0 x10_1).f1) ((rd_T126 l0 x10_1).f2.f0) ((rd_T126 l0 x10_1).f2.f1) ((rd_T126 l0 x10_1).f2.f2) t283 _ A14.out).mono ?_); rintro e w17 ⟨rfl, hb⟩; refine ⟨_, rfl, ?_⟩; have n0_ := A_ (below_step Z0 hb); clear HB; have HB := n0_; clear n0_; (try clear hb); (try clear hb2); (try clear hk); (try clear hi)))
        go_roundg k1
        case measure => have := HK1.out; omega
        case rel => exact ⟨(wrap64 ((wrap64 (x9_1 - t283)) + 1)), (wrap64 (x10_1 + 1)), Z16, Z16, H', ⟨by have := HK1.out; omega⟩, ⟨Z0⟩⟩
      ·replace c9 := Bool.eq_false_iff.mpr c9
       subst c9
       have H1 : (some false) = some r := by rw [if_neg (show ¬ (false = true) by decide)] at H; exact H
       clear H
       have H := H1
       clear H1
       obtain rfl := Option.some.inj H
       have p278 : 0 ≤ (x10_1 : Int) := of_decide_eq_true Z12
       have q278 : x10_1 < (l0.length : Int) := of_decide_eq_true Z12
       obtain ⟨ad278, e278, hx278_0, hx278_1, hx278_2, hx278_3, hx278_4⟩ := at_T126 HR0.out x10_1 p278 q278
       cases e278
       replace hx278_0 := ZC HB.out hx278_0
       replace hx278_1 := ZC HB.out hx278_1
       replace hx278_2 := ZC HB.out hx278_2
       replace hx278_3 := ZC HB.out hx278_3
       replace hx278_4 := ZC HB.out hx278_4
       replace p278 := eq_true p278
       replace q278 := eq_true q278
       go_wp2_with (first | ((with_reducible refine gate_callee (f := 94) rfl ?_); refine goesL_ (some 27) rfl rfl Try.func94 (by kernel_rfl) rfl #[.agg #[.int .i64 ((rd_T126 l0 x10_1).f0), .int .i64 ((rd_T126 l0 x10_1).f1), .int .i64 ((rd_T126 l0 x10_1).f2.f0), .int .i64 ((rd_T126 l0 x10_1).f2.f1), .string ((rd_T126 l0 x10_1).f2.f2)], .int .i64 a1, .int .i64 a2, .int .i64 a3] rfl Z5 ?_; (with_reducible refine (spec_validStep.calls k1 ((rd_T126 l0 x10_1).f0) ((rd_T126 l0 x10_1).f1) ((rd_T126 l0 x10_1).f2.f0) ((rd_T126 l0 x10_1).f2.f1) ((rd_T126 l0 x10_1).f2.f2) a1 a2 a3 false _ A8.out).mono ?_); rintro e w18 ⟨rfl, hb⟩; refine ⟨_, rfl, ?_⟩; have n0_ := A_ (below_step Z0 hb); clear HB; have HB := n0_; clear n0_; (try clear hb); (try clear hb2); (try clear hk); (try clear hi)))
       go_ret
       exact ⟨Z7, Z0⟩
     ·rw [if_neg c7] at H
      exact absurd H (by simp)
    ·rw [if_neg c6] at H
     have c6b0 : decide (x10_1 < (l0.length : Int)) = false := decide_eq_false c6
     clear c6
     obtain rfl := Option.some.inj H
     go_wp2
     go_ret
     exact ⟨Z7, Z0⟩
def spec_validUpdate.f (k : Nat) (l0_0 : List (S121)) (a0_1 : Int) (l0_2 : List (S126)) (a0_3 : Int) : Option (Bool) := (spec_validPlace.f k l0_0).bind fun t285 => (if t285 = true then ((spec_inRange.f a0_1 0 2).bind fun t286 => (if t286 = true then ((spec_inRange.f a0_3 (-1) 2).bind fun t287 => (if t287 = true then ((spec_validForm.f k l0_2 0 3 0).bind fun t288 => (some t288)) else (some false))) else (some false))) else (some false))
theorem spec_validUpdate.mono : ∀ a0 a1 a2 a3 k, LeO (spec_validUpdate.f k a0 a1 a2 a3) (spec_validUpdate.f (k + 1) a0 a1 a2 a3) := by
 intro a0 a1 a2 a3 k
 unfold spec_validUpdate.f
 repeat' first
   | (with_reducible exact spec_validForm.mono _ _ _ _ _)
   | (with_reducible exact spec_validPlace.mono _ _)
   | (with_reducible exact LeO.refl _)
   | (with_reducible exact LeO.none _)
   | (with_reducible refine LeO.ite ?_ ?_)
   | (with_reducible refine LeO.bind ?_ (fun _ => ?_))
   | exact spec_validForm.mono _ _ _ _ _
   | exact spec_validPlace.mono _ _
   | exact LeO.none _
   | refine LeO.ite ?_ ?_
   | refine LeO.bind ?_ (fun _ => ?_)
set_option maxHeartbeats 8000000 in
set_option maxRecDepth 100000 in
theorem spec_validUpdate.calls (k : Nat) (A0_0 : Option Addr) (c0_0 : Nat) (l0_0 : List (S121)) (a0_1 : Int) (A0_2 : Option Addr) (c0_2 : Nat) (l0_2 : List (S126)) (a0_3 : Int) (r : Bool) (w : World) (hr0_0 : Kd.C k121 w A0_0 l0_0.length l0_0) (hc0_0 : l0_0.length ≤ c0_0) (hr0_2 : Kd.C k126 w A0_2 l0_2.length l0_2) (hc0_2 : l0_2.length ≤ c0_2) (h : spec_validUpdate.f k l0_0 a0_1 l0_2 a0_3 = some r) :
  Calls Try.prog 48 #[.agg #[.slice A0_0 l0_0.length c0_0, .int .i64 a0_1, .slice A0_2 l0_2.length c0_2, .int .i64 a0_3]] w fun e w' => e = .returned (.bool r) ∧ Below w.heap.size w w' := by
 have hu53 := Try.underlying53
 have HR0_0 := A_ hr0_0
 have HC0_0 := A_ hc0_0
 clear hr0_0 hc0_0
 have HR0_2 := A_ hr0_2
 have HC0_2 := A_ hc0_2
 clear hr0_2 hc0_2
 have HB := A_ (Below.refl w.heap.size w)
 have H : ((spec_validPlace.f k l0_0).bind fun t285 => (if t285 = true then ((spec_inRange.f a0_1 0 2).bind fun t286 => (if t286 = true then ((spec_inRange.f a0_3 (-1) 2).bind fun t287 => (if t287 = true then ((spec_validForm.f k l0_2 0 3 0).bind fun t288 => (some t288)) else (some false))) else (some false))) else (some false))) = some r := h
 clear h
 replace H := Option.bind_eq_some_iff.mp H
 obtain ⟨t285, A20, H⟩ := H
 replace H : (if t285 = true then ((spec_inRange.f a0_1 0 2).bind fun t286 => (if t286 = true then ((spec_inRange.f a0_3 (-1) 2).bind fun t287 => (if t287 = true then ((spec_validForm.f k l0_2 0 3 0).bind fun t288 => (some t288)) else (some false))) else (some false))) else (some false)) = some r := H
 have A2 := A_ A20
 clear A20
 by_cases c3 : t285 = true
 ·subst c3
  have H1 : ((spec_inRange.f a0_1 0 2).bind fun t286 => (if t286 = true then ((spec_inRange.f a0_3 (-1) 2).bind fun t287 => (if t287 = true then ((spec_validForm.f k l0_2 0 3 0).bind fun t288 => (some t288)) else (some false))) else (some false))) = some r := by rw [if_pos rfl] at H; exact H
  clear H
  have H := H1
  clear H1
  replace H := Option.bind_eq_some_iff.mp H
  obtain ⟨t286, A40, H⟩ := H
  replace H : (if t286 = true then ((spec_inRange.f a0_3 (-1) 2).bind fun t287 => (if t287 = true then ((spec_validForm.f k l0_2 0 3 0).bind fun t288 => (some t288)) else (some false))) else (some false)) = some r := H
  have A4 := A_ A40
  clear A40
  by_cases c5 : t286 = true
  ·subst c5
   have H1 : ((spec_inRange.f a0_3 (-1) 2).bind fun t287 => (if t287 = true then ((spec_validForm.f k l0_2 0 3 0).bind fun t288 => (some t288)) else (some false))) = some r := by rw [if_pos rfl] at H; exact H
   clear H
   have H := H1
   clear H1
   replace H := Option.bind_eq_some_iff.mp H
   obtain ⟨t287, A60, H⟩ := H
   replace H : (if t287 = true then ((spec_validForm.f k l0_2 0 3 0).bind fun t288 => (some t288)) else (some false)) = some r := H
   have A6 := A_ A60
   clear A60
   by_cases c7 : t287 = true
   ·subst c7
    have H1 : ((spec_validForm.f k l0_2 0 3 0).bind fun t288 => (some t288)) = some r := by rw [if_pos rfl] at H; exact H
    clear H
    have H := H1
    clear H1
    replace H := Option.bind_eq_some_iff.mp H
    obtain ⟨t288, A80, H⟩ := H
    replace H : (some t288) = some r := H
    have A8 := A_ A80
    clear A80
    obtain rfl := Option.some.inj H
    go_enter Try.func48, Try.ntmps48
    go_wp2_with (first | ((with_reducible refine gate_dst (N := 1) rfl ?_); refine box_event ?hg (N := 1) ?hd (cs := #[.slice A0_0 l0_0.length c0_0, .int .i64 a0_1, .slice A0_2 l0_2.length c0_2, .int .i64 a0_3]) (t := 53) ?hr ?_; (case hd => rfl); (case hg => rfl); (case hr => exact Z15); intro gb284 hg w9 hbox hb; have n0_ := A_ (below_step Z0 hb); have n1_ := A_ (hbox); have n2_ := A_ ((by rw [hg]; exact (below_size Z0) : w.heap.size ≤ gb284)); have n3_ := A_ ((by rw [hg]; exact (below_size Z0) : w.heap.size ≤ gb284)); clear HB; have HB := n0_; have BK284 := n1_; have GW284 := n2_; have GE284 := n3_; clear n0_ n1_ n2_ n3_; clear hb hbox hg; have hcz10_0 : w9.cell? ⟨gb284, 0, none⟩ = some (.slice A0_0 l0_0.length c0_0) := (blk_cell BK284.out 0).trans rfl; have hcz10_1 : w9.cell? ⟨gb284, 1, none⟩ = some (.int .i64 a0_1) := (blk_cell BK284.out 1).trans rfl; have hcz10_2 : w9.cell? ⟨gb284, 2, none⟩ = some (.slice A0_2 l0_2.length c0_2) := (blk_cell BK284.out 2).trans rfl; have hcz10_3 : w9.cell? ⟨gb284, 3, none⟩ = some (.int .i64 a0_3) := (blk_cell BK284.out 3).trans rfl; have hfz10_0 := blk_frozen BK284.out 0; have hfz10_1 := blk_frozen BK284.out 1; have hfz10_2 := blk_frozen BK284.out 2; have hfz10_3 := blk_frozen BK284.out 3) | ((with_reducible refine gate_callee (f := 74) rfl ?_); refine goesL_ (some 5) rfl rfl Try.func74 (by kernel_rfl) rfl #[.slice A0_0 l0_0.length c0_0] rfl Z5 ?_; (with_reducible refine (spec_validPlace.calls k _ _ l0_0 true _ ?side1 ?side2 A2.out).mono ?_); (case side1 => exact Z4 HR0_0.out); (case side2 => exact HC0_0.out); rintro e w11 ⟨rfl, hb⟩; refine ⟨_, rfl, ?_⟩; have n0_ := A_ (blk_below (g := gb284) (o := .cells #[.slice A0_0 l0_0.length c0_0, .int .i64 a0_1, .slice A0_2 l0_2.length c0_2, .int .i64 a0_3] 53 (0, 0)) (Z3 BK284.out) hb); have n1_ := A_ (below_step (Z2 GE284.out) hb); clear BK284; clear HB; have BK284 := n0_; have HB := n1_; clear n0_ n1_; (try clear hb); (try clear hb2); (try clear hk); (try clear hi); have hcz12_0 : w11.cell? ⟨gb284, 0, none⟩ = some (.slice A0_0 l0_0.length c0_0) := (blk_cell BK284.out 0).trans rfl; have hcz12_1 : w11.cell? ⟨gb284, 1, none⟩ = some (.int .i64 a0_1) := (blk_cell BK284.out 1).trans rfl; have hcz12_2 : w11.cell? ⟨gb284, 2, none⟩ = some (.slice A0_2 l0_2.length c0_2) := (blk_cell BK284.out 2).trans rfl; have hcz12_3 : w11.cell? ⟨gb284, 3, none⟩ = some (.int .i64 a0_3) := (blk_cell BK284.out 3).trans rfl; have hfz12_0 := blk_frozen BK284.out 0; have hfz12_1 := blk_frozen BK284.out 1; have hfz12_2 := blk_frozen BK284.out 2; have hfz12_3 := blk_frozen BK284.out 3) | (go_at_call 77; (with_reducible refine (spec_inRange.calls a0_1 0 2 true _ A4.out).mono ?_); rintro e w' ⟨rfl, ⟨nd, rfl⟩⟩) | (go_at_call 77; (with_reducible refine (spec_inRange.calls a0_3 (-1) 2 true _ A6.out).mono ?_); rintro e w' ⟨rfl, ⟨nd, rfl⟩⟩) | (go_at_call 78; (with_reducible refine (spec_validForm.calls k _ _ l0_2 0 3 0 t288 _ ?side1 ?side2 A8.out).mono ?_); (case side1 => exact Z34 HR0_2.out GE284.out); (case side2 => exact HC0_2.out); rintro e w13 ⟨rfl, hb⟩; have n0_ := A_ (blk_below (g := gb284) (o := .cells #[.slice A0_0 l0_0.length c0_0, .int .i64 a0_1, .slice A0_2 l0_2.length c0_2, .int .i64 a0_3] 53 (0, 0)) (Z3 BK284.out) hb); have n1_ := A_ (below_step (Z2 GE284.out) hb); clear BK284; clear HB; have BK284 := n0_; have HB := n1_; clear n0_ n1_; (try clear hb); (try clear hb2); (try clear hk); (try clear hi)))
    go_ret
    exact ⟨Z7, Z2 GE284.out⟩
   ·replace c7 := Bool.eq_false_iff.mpr c7
    subst c7
    have H1 : (some false) = some r := by rw [if_neg (show ¬ (false = true) by decide)] at H; exact H
    clear H
    have H := H1
    clear H1
    obtain rfl := Option.some.inj H
    go_enter Try.func48, Try.ntmps48
    go_wp2_with (first | ((with_reducible refine gate_dst (N := 1) rfl ?_); refine box_event ?hg (N := 1) ?hd (cs := #[.slice A0_0 l0_0.length c0_0, .int .i64 a0_1, .slice A0_2 l0_2.length c0_2, .int .i64 a0_3]) (t := 53) ?hr ?_; (case hd => rfl); (case hg => rfl); (case hr => exact Z15); intro gb284 hg w14 hbox hb; have n0_ := A_ (below_step Z0 hb); have n1_ := A_ (hbox); have n2_ := A_ ((by rw [hg]; exact (below_size Z0) : w.heap.size ≤ gb284)); have n3_ := A_ ((by rw [hg]; exact (below_size Z0) : w.heap.size ≤ gb284)); clear HB; have HB := n0_; have BK284 := n1_; have GW284 := n2_; have GE284 := n3_; clear n0_ n1_ n2_ n3_; clear hb hbox hg; have hcz15_0 : w14.cell? ⟨gb284, 0, none⟩ = some (.slice A0_0 l0_0.length c0_0) := (blk_cell BK284.out 0).trans rfl; have hcz15_1 : w14.cell? ⟨gb284, 1, none⟩ = some (.int .i64 a0_1) := (blk_cell BK284.out 1).trans rfl; have hcz15_2 : w14.cell? ⟨gb284, 2, none⟩ = some (.slice A0_2 l0_2.length c0_2) := (blk_cell BK284.out 2).trans rfl; have hcz15_3 : w14.cell? ⟨gb284, 3, none⟩ = some (.int .i64 a0_3) := (blk_cell BK284.out 3).trans rfl; have hfz15_0 := blk_frozen BK284.out 0; have hfz15_1 := blk_frozen BK284.out 1; have hfz15_2 := blk_frozen BK284.out 2; have hfz15_3 := blk_frozen BK284.out 3) | ((with_reducible refine gate_callee (f := 74) rfl ?_); refine goesL_ (some 5) rfl rfl Try.func74 (by kernel_rfl) rfl #[.slice A0_0 l0_0.length c0_0] rfl Z5 ?_; (with_reducible refine (spec_validPlace.calls k _ _ l0_0 true _ ?side1 ?side2 A2.out).mono ?_); (case side1 => exact Z4 HR0_0.out); (case side2 => exact HC0_0.out); rintro e w16 ⟨rfl, hb⟩; refine ⟨_, rfl, ?_⟩; have n0_ := A_ (blk_below (g := gb284) (o := .cells #[.slice A0_0 l0_0.length c0_0, .int .i64 a0_1, .slice A0_2 l0_2.length c0_2, .int .i64 a0_3] 53 (0, 0)) (Z3 BK284.out) hb); have n1_ := A_ (below_step (Z2 GE284.out) hb); clear BK284; clear HB; have BK284 := n0_; have HB := n1_; clear n0_ n1_; (try clear hb); (try clear hb2); (try clear hk); (try clear hi); have hcz17_0 : w16.cell? ⟨gb284, 0, none⟩ = some (.slice A0_0 l0_0.length c0_0) := (blk_cell BK284.out 0).trans rfl; have hcz17_1 : w16.cell? ⟨gb284, 1, none⟩ = some (.int .i64 a0_1) := (blk_cell BK284.out 1).trans rfl; have hcz17_2 : w16.cell? ⟨gb284, 2, none⟩ = some (.slice A0_2 l0_2.length c0_2) := (blk_cell BK284.out 2).trans rfl; have hcz17_3 : w16.cell? ⟨gb284, 3, none⟩ = some (.int .i64 a0_3) := (blk_cell BK284.out 3).trans rfl; have hfz17_0 := blk_frozen BK284.out 0; have hfz17_1 := blk_frozen BK284.out 1; have hfz17_2 := blk_frozen BK284.out 2; have hfz17_3 := blk_frozen BK284.out 3) | (go_at_call 77; (with_reducible refine (spec_inRange.calls a0_1 0 2 true _ A4.out).mono ?_); rintro e w' ⟨rfl, ⟨nd, rfl⟩⟩) | (go_at_call 77; (with_reducible refine (spec_inRange.calls a0_3 (-1) 2 false _ A6.out).mono ?_); rintro e w' ⟨rfl, ⟨nd, rfl⟩⟩))
    go_ret
    exact ⟨Z7, Z2 GE284.out⟩
  ·replace c5 := Bool.eq_false_iff.mpr c5
   subst c5
   have H1 : (some false) = some r := by rw [if_neg (show ¬ (false = true) by decide)] at H; exact H
   clear H
   have H := H1
   clear H1
   obtain rfl := Option.some.inj H
   go_enter Try.func48, Try.ntmps48
   go_wp2_with (first | ((with_reducible refine gate_dst (N := 1) rfl ?_); refine box_event ?hg (N := 1) ?hd (cs := #[.slice A0_0 l0_0.length c0_0, .int .i64 a0_1, .slice A0_2 l0_2.length c0_2, .int .i64 a0_3]) (t := 53) ?hr ?_; (case hd => rfl); (case hg => rfl); (case hr => exact Z15); intro gb284 hg w18 hbox hb; have n0_ := A_ (below_step Z0 hb); have n1_ := A_ (hbox); have n2_ := A_ ((by rw [hg]; exact (below_size Z0) : w.heap.size ≤ gb284)); have n3_ := A_ ((by rw [hg]; exact (below_size Z0) : w.heap.size ≤ gb284)); clear HB; have HB := n0_; have BK284 := n1_; have GW284 := n2_; have GE284 := n3_; clear n0_ n1_ n2_ n3_; clear hb hbox hg; have hcz19_0 : w18.cell? ⟨gb284, 0, none⟩ = some (.slice A0_0 l0_0.length c0_0) := (blk_cell BK284.out 0).trans rfl; have hcz19_1 : w18.cell? ⟨gb284, 1, none⟩ = some (.int .i64 a0_1) := (blk_cell BK284.out 1).trans rfl; have hcz19_2 : w18.cell? ⟨gb284, 2, none⟩ = some (.slice A0_2 l0_2.length c0_2) := (blk_cell BK284.out 2).trans rfl; have hcz19_3 : w18.cell? ⟨gb284, 3, none⟩ = some (.int .i64 a0_3) := (blk_cell BK284.out 3).trans rfl; have hfz19_0 := blk_frozen BK284.out 0; have hfz19_1 := blk_frozen BK284.out 1; have hfz19_2 := blk_frozen BK284.out 2; have hfz19_3 := blk_frozen BK284.out 3) | ((with_reducible refine gate_callee (f := 74) rfl ?_); refine goesL_ (some 5) rfl rfl Try.func74 (by kernel_rfl) rfl #[.slice A0_0 l0_0.length c0_0] rfl Z5 ?_; (with_reducible refine (spec_validPlace.calls k _ _ l0_0 true _ ?side1 ?side2 A2.out).mono ?_); (case side1 => exact Z4 HR0_0.out); (case side2 => exact HC0_0.out); rintro e w20 ⟨rfl, hb⟩; refine ⟨_, rfl, ?_⟩; have n0_ := A_ (blk_below (g := gb284) (o := .cells #[.slice A0_0 l0_0.length c0_0, .int .i64 a0_1, .slice A0_2 l0_2.length c0_2, .int .i64 a0_3] 53 (0, 0)) (Z3 BK284.out) hb); have n1_ := A_ (below_step (Z2 GE284.out) hb); clear BK284; clear HB; have BK284 := n0_; have HB := n1_; clear n0_ n1_; (try clear hb); (try clear hb2); (try clear hk); (try clear hi); have hcz21_0 : w20.cell? ⟨gb284, 0, none⟩ = some (.slice A0_0 l0_0.length c0_0) := (blk_cell BK284.out 0).trans rfl; have hcz21_1 : w20.cell? ⟨gb284, 1, none⟩ = some (.int .i64 a0_1) := (blk_cell BK284.out 1).trans rfl; have hcz21_2 : w20.cell? ⟨gb284, 2, none⟩ = some (.slice A0_2 l0_2.length c0_2) := (blk_cell BK284.out 2).trans rfl; have hcz21_3 : w20.cell? ⟨gb284, 3, none⟩ = some (.int .i64 a0_3) := (blk_cell BK284.out 3).trans rfl; have hfz21_0 := blk_frozen BK284.out 0; have hfz21_1 := blk_frozen BK284.out 1; have hfz21_2 := blk_frozen BK284.out 2; have hfz21_3 := blk_frozen BK284.out 3) | (go_at_call 77; (with_reducible refine (spec_inRange.calls a0_1 0 2 false _ A4.out).mono ?_); rintro e w' ⟨rfl, ⟨nd, rfl⟩⟩))
   go_ret
   exact ⟨Z7, Z2 GE284.out⟩
 ·replace c3 := Bool.eq_false_iff.mpr c3
  subst c3
  have H1 : (some false) = some r := by rw [if_neg (show ¬ (false = true) by decide)] at H; exact H
  clear H
  have H := H1
  clear H1
  obtain rfl := Option.some.inj H
  go_enter Try.func48, Try.ntmps48
  go_wp2_with (first | ((with_reducible refine gate_dst (N := 1) rfl ?_); refine box_event ?hg (N := 1) ?hd (cs := #[.slice A0_0 l0_0.length c0_0, .int .i64 a0_1, .slice A0_2 l0_2.length c0_2, .int .i64 a0_3]) (t := 53) ?hr ?_; (case hd => rfl); (case hg => rfl); (case hr => exact Z15); intro gb284 hg w22 hbox hb; have n0_ := A_ (below_step Z0 hb); have n1_ := A_ (hbox); have n2_ := A_ ((by rw [hg]; exact (below_size Z0) : w.heap.size ≤ gb284)); have n3_ := A_ ((by rw [hg]; exact (below_size Z0) : w.heap.size ≤ gb284)); clear HB; have HB := n0_; have BK284 := n1_; have GW284 := n2_; have GE284 := n3_; clear n0_ n1_ n2_ n3_; clear hb hbox hg; have hcz23_0 : w22.cell? ⟨gb284, 0, none⟩ = some (.slice A0_0 l0_0.length c0_0) := (blk_cell BK284.out 0).trans rfl; have hcz23_1 : w22.cell? ⟨gb284, 1, none⟩ = some (.int .i64 a0_1) := (blk_cell BK284.out 1).trans rfl; have hcz23_2 : w22.cell? ⟨gb284, 2, none⟩ = some (.slice A0_2 l0_2.length c0_2) := (blk_cell BK284.out 2).trans rfl; have hcz23_3 : w22.cell? ⟨gb284, 3, none⟩ = some (.int .i64 a0_3) := (blk_cell BK284.out 3).trans rfl; have hfz23_0 := blk_frozen BK284.out 0; have hfz23_1 := blk_frozen BK284.out 1; have hfz23_2 := blk_frozen BK284.out 2; have hfz23_3 := blk_frozen BK284.out 3) | ((with_reducible refine gate_callee (f := 74) rfl ?_); refine goesL_ (some 5) rfl rfl Try.func74 (by kernel_rfl) rfl #[.slice A0_0 l0_0.length c0_0] rfl Z5 ?_; (with_reducible refine (spec_validPlace.calls k _ _ l0_0 false _ ?side1 ?side2 A2.out).mono ?_); (case side1 => exact Z4 HR0_0.out); (case side2 => exact HC0_0.out); rintro e w24 ⟨rfl, hb⟩; refine ⟨_, rfl, ?_⟩; have n0_ := A_ (blk_below (g := gb284) (o := .cells #[.slice A0_0 l0_0.length c0_0, .int .i64 a0_1, .slice A0_2 l0_2.length c0_2, .int .i64 a0_3] 53 (0, 0)) (Z3 BK284.out) hb); have n1_ := A_ (below_step (Z2 GE284.out) hb); clear BK284; clear HB; have BK284 := n0_; have HB := n1_; clear n0_ n1_; (try clear hb); (try clear hb2); (try clear hk); (try clear hi)))
  go_ret
  exact ⟨Z7, Z2 GE284.out⟩
def spec_validUpdates.l0 : Nat → List (S53) → Int → Option (Bool)
 | 0, _, _ => none
 | k + 1, x0, x3 => if x3 < (x0.length : Int) then (if 0 ≤ x3 then ((spec_validUpdate.f k ((rd_T53 x0 x3).f0) ((rd_T53 x0 x3).f1) ((rd_T53 x0 x3).f2) ((rd_T53 x0 x3).f3)).bind fun t290 => (if t290 = true then (spec_validUpdates.l0 k x0 (wrap64 (x3 + 1))) else (some false))) else (none)) else (some true)
def spec_validUpdates.f (k : Nat) (l0 : List (S53)) : Option (Bool) := if (l0.length : Int) > 40 then (some false) else (spec_validUpdates.l0 k l0 0)
theorem spec_validUpdates.mono_l : ∀ k, (∀ y0 y1, LeO (spec_validUpdates.l0 k y0 y1) (spec_validUpdates.l0 (k + 1) y0 y1))
 | 0 => fun _ _ r h => by simp [spec_validUpdates.l0] at h
 | k + 1 => by
  have ih0 := spec_validUpdates.mono_l k
  ·intro y0 y1
   unfold spec_validUpdates.l0
   repeat' first
   | (with_reducible exact ih0 _ _)
   | (with_reducible exact spec_validUpdate.mono _ _ _ _ _)
   | (with_reducible exact LeO.refl _)
   | (with_reducible exact LeO.none _)
   | (with_reducible refine LeO.ite ?_ ?_)
   | (with_reducible refine LeO.bind ?_ (fun _ => ?_))
   | exact ih0 _ _
   | exact spec_validUpdate.mono _ _ _ _ _
   | exact LeO.none _
   | refine LeO.ite ?_ ?_
   | refine LeO.bind ?_ (fun _ => ?_)
theorem spec_validUpdates.mono : ∀ a0 k, LeO (spec_validUpdates.f k a0) (spec_validUpdates.f (k + 1) a0) := by
 intro a0 k
 have ih0 := spec_validUpdates.mono_l k
 unfold spec_validUpdates.f
 repeat' first
   | (with_reducible exact ih0 _ _)
   | (with_reducible exact spec_validUpdate.mono _ _ _ _ _)
   | (with_reducible exact LeO.refl _)
   | (with_reducible exact LeO.none _)
   | (with_reducible refine LeO.ite ?_ ?_)
   | (with_reducible refine LeO.bind ?_ (fun _ => ?_))
   | exact ih0 _ _
   | exact spec_validUpdate.mono _ _ _ _ _
   | exact LeO.none _
   | refine LeO.ite ?_ ?_
   | refine LeO.bind ?_ (fun _ => ?_)
set_option maxHeartbeats 8000000 in
set_option maxRecDepth 100000 in
theorem spec_validUpdates.calls (k : Nat) (A0 : Option Addr) (c0 : Nat) (l0 : List (S53)) (r : Bool) (w : World) (hr0 : Kd.C k53 w A0 l0.length l0) (hc0 : l0.length ≤ c0) (h : spec_validUpdates.f k l0 = some r) :
  Calls Try.prog 88 #[.slice A0 l0.length c0] w fun e w' => e = .returned (.bool r) ∧ Below w.heap.size w w' := by
 have hu53 := Try.underlying53
 have HR0 := A_ hr0
 have HC0 := A_ hc0
 clear hr0 hc0
 have HB := A_ (Below.refl w.heap.size w)
 have H : (if (l0.length : Int) > 40 then (some false) else (spec_validUpdates.l0 k l0 0)) = some r := h
 clear h
 by_cases c2 : (l0.length : Int) > 40
 ·rw [if_pos c2] at H
  have c2b0 : decide (40 < (l0.length : Int)) = true := decide_eq_true c2
  have c2b1 : decide (40 < l0.length) = true := decide_eq_true (by omega)
  clear c2
  obtain rfl := Option.some.inj H
  go_enter Try.func88, Try.ntmps88
  go_wp2
  go_ret
  exact ⟨Z7, Z0⟩
 ·rw [if_neg c2] at H
  have c2b0 : decide (40 < (l0.length : Int)) = false := decide_eq_false c2
  have c2b1 : decide (40 < l0.length) = false := decide_eq_false (by omega)
  clear c2
  have H' := A_ H
  clear H
  go_enter Try.func88, Try.ntmps88
  go_wp2
  go_loopg [3] k (fun kq v3 w' => ∃ (x3_1 : Int), v3 = .int .i64 x3_1 ∧ Aside0 (spec_validUpdates.l0 kq l0 x3_1 = some r) ∧ Aside0 (kq ≤ k) ∧ Aside0 (Below w.heap.size w w'))
  case atStart => exact ⟨(0), Z16, H', ⟨Nat.le_refl _⟩, ⟨Z0⟩⟩
  case round =>
   clear H'
   try clear c2
   try clear c2b0
   try clear c2b1
   try clear p2
   obtain ⟨x3_1, rfl, HA, HK1, HB⟩ := hrel
   cases gk with
   | zero => exact absurd HA.out (by simp [spec_validUpdates.l0])
   | succ k1 =>
    have H := HA.out
    clear HA
    simp only [spec_validUpdates.l0] at H
    by_cases c3 : x3_1 < (l0.length : Int)
    ·rw [if_pos c3] at H
     have c3b0 : decide (x3_1 < (l0.length : Int)) = true := decide_eq_true c3
     clear c3
     by_cases c4 : 0 ≤ x3_1
     ·rw [if_pos c4] at H
      have c4b0 : decide (0 ≤ x3_1) = true := decide_eq_true c4
      clear c4
      replace H := Option.bind_eq_some_iff.mp H
      obtain ⟨t290, A50, H⟩ := H
      replace H : (if t290 = true then (spec_validUpdates.l0 k1 l0 (wrap64 (x3_1 + 1))) else (some false)) = some r := H
      have A5 := A_ A50
      clear A50
      by_cases c6 : t290 = true
      ·subst c6
       have H1 : (spec_validUpdates.l0 k1 l0 (wrap64 (x3_1 + 1))) = some r := by rw [if_pos rfl] at H; exact H
       clear H
       have H := H1
       clear H1
       have H' := A_ H
       clear H
       have p289 : 0 ≤ (x3_1 : Int) := of_decide_eq_true Z12
       have q289 : x3_1 < (l0.length : Int) := of_decide_eq_true Z12
       obtain ⟨ad289, A289_0, c289_0, A289_2, c289_2, e289, hx289_0, hx289_1, hx289_2, hx289_3, hl289_0, hi289_0, hl289_2, hi289_2⟩ := at_T53 HR0.out x3_1 p289 q289
       cases e289
       replace hx289_0 := ZC HB.out hx289_0
       replace hx289_1 := ZC HB.out hx289_1
       replace hx289_2 := ZC HB.out hx289_2
       replace hx289_3 := ZC HB.out hx289_3
       have HR289_0 := A_ hi289_0
       have HC289_0 := A_ hl289_0
       clear hi289_0 hl289_0
       have HR289_2 := A_ hi289_2
       have HC289_2 := A_ hl289_2
       clear hi289_2 hl289_2
       replace p289 := eq_true p289
       replace q289 := eq_true q289
       go_wp2_with (first | ((with_reducible refine gate_callee (f := 48) rfl ?_); refine goesL_ (some 17) rfl rfl Try.func48 (by kernel_rfl) rfl #[.agg #[.slice A289_0 ((rd_T53 l0 x3_1).f0).length c289_0, .int .i64 ((rd_T53 l0 x3_1).f1), .slice A289_2 ((rd_T53 l0 x3_1).f2).length c289_2, .int .i64 ((rd_T53 l0 x3_1).f3)]] rfl Z5 ?_; (with_reducible refine (spec_validUpdate.calls k1 _ _ ((rd_T53 l0 x3_1).f0) ((rd_T53 l0 x3_1).f1) _ _ ((rd_T53 l0 x3_1).f2) ((rd_T53 l0 x3_1).f3) true _ ?side1 ?side2 ?side3 ?side4 A5.out).mono ?_); (case side1 => exact Z4 HR289_0.out); (case side2 => exact HC289_0.out); (case side3 => exact Z4 HR289_2.out); (case side4 => exact HC289_2.out); rintro e w7 ⟨rfl, hb⟩; refine ⟨_, rfl, ?_⟩; have n0_ := A_ (below_step Z0 hb); clear HB; have HB := n0_; clear n0_; (try clear hb); (try clear hb2); (try clear hk); (try clear hi)))
       go_roundg k1
       case measure => have := HK1.out; omega
       case rel => exact ⟨(wrap64 (x3_1 + 1)), Z16, H', ⟨by have := HK1.out; omega⟩, ⟨Z0⟩⟩
      ·replace c6 := Bool.eq_false_iff.mpr c6
       subst c6
       have H1 : (some false) = some r := by rw [if_neg (show ¬ (false = true) by decide)] at H; exact H
       clear H
       have H := H1
       clear H1
       obtain rfl := Option.some.inj H
       have p289 : 0 ≤ (x3_1 : Int) := of_decide_eq_true Z12
       have q289 : x3_1 < (l0.length : Int) := of_decide_eq_true Z12
       obtain ⟨ad289, A289_0, c289_0, A289_2, c289_2, e289, hx289_0, hx289_1, hx289_2, hx289_3, hl289_0, hi289_0, hl289_2, hi289_2⟩ := at_T53 HR0.out x3_1 p289 q289
       cases e289
       replace hx289_0 := ZC HB.out hx289_0
       replace hx289_1 := ZC HB.out hx289_1
       replace hx289_2 := ZC HB.out hx289_2
       replace hx289_3 := ZC HB.out hx289_3
       have HR289_0 := A_ hi289_0
       have HC289_0 := A_ hl289_0
       clear hi289_0 hl289_0
       have HR289_2 := A_ hi289_2
       have HC289_2 := A_ hl289_2
       clear hi289_2 hl289_2
       replace p289 := eq_true p289
       replace q289 := eq_true q289
       go_wp2_with (first | ((with_reducible refine gate_callee (f := 48) rfl ?_); refine goesL_ (some 17) rfl rfl Try.func48 (by kernel_rfl) rfl #[.agg #[.slice A289_0 ((rd_T53 l0 x3_1).f0).length c289_0, .int .i64 ((rd_T53 l0 x3_1).f1), .slice A289_2 ((rd_T53 l0 x3_1).f2).length c289_2, .int .i64 ((rd_T53 l0 x3_1).f3)]] rfl Z5 ?_; (with_reducible refine (spec_validUpdate.calls k1 _ _ ((rd_T53 l0 x3_1).f0) ((rd_T53 l0 x3_1).f1) _ _ ((rd_T53 l0 x3_1).f2) ((rd_T53 l0 x3_1).f3) false _ ?side1 ?side2 ?side3 ?side4 A5.out).mono ?_); (case side1 => exact Z4 HR289_0.out); (case side2 => exact HC289_0.out); (case side3 => exact Z4 HR289_2.out); (case side4 => exact HC289_2.out); rintro e w8 ⟨rfl, hb⟩; refine ⟨_, rfl, ?_⟩; have n0_ := A_ (below_step Z0 hb); clear HB; have HB := n0_; clear n0_; (try clear hb); (try clear hb2); (try clear hk); (try clear hi)))
       go_ret
       exact ⟨Z7, Z0⟩
     ·rw [if_neg c4] at H
      exact absurd H (by simp)
    ·rw [if_neg c3] at H
     have c3b0 : decide (x3_1 < (l0.length : Int)) = false := decide_eq_false c3
     clear c3
     obtain rfl := Option.some.inj H
     go_wp2
     go_ret
     exact ⟨Z7, Z0⟩
def spec_validLine.f (k : Nat) (l0_0 : List (S95)) (l0_1 : List (S53)) : Option (Bool) := (spec_validStore.f k l0_0).bind fun t292 => (if t292 = true then ((spec_validUpdates.f k l0_1).bind fun t293 => (some t293)) else (some false))
theorem spec_validLine.mono : ∀ a0 a1 k, LeO (spec_validLine.f k a0 a1) (spec_validLine.f (k + 1) a0 a1) := by
 intro a0 a1 k
 unfold spec_validLine.f
 repeat' first
   | (with_reducible exact spec_validStore.mono _ _)
   | (with_reducible exact spec_validUpdates.mono _ _)
   | (with_reducible exact LeO.refl _)
   | (with_reducible exact LeO.none _)
   | (with_reducible refine LeO.ite ?_ ?_)
   | (with_reducible refine LeO.bind ?_ (fun _ => ?_))
   | exact spec_validStore.mono _ _
   | exact spec_validUpdates.mono _ _
   | exact LeO.none _
   | refine LeO.ite ?_ ?_
   | refine LeO.bind ?_ (fun _ => ?_)
set_option maxHeartbeats 8000000 in
set_option maxRecDepth 100000 in
theorem spec_validLine.calls (k : Nat) (A0_0 : Option Addr) (c0_0 : Nat) (l0_0 : List (S95)) (A0_1 : Option Addr) (c0_1 : Nat) (l0_1 : List (S53)) (r : Bool) (w : World) (hr0_0 : Kd.C k95 w A0_0 l0_0.length l0_0) (hc0_0 : l0_0.length ≤ c0_0) (hr0_1 : Kd.C k53 w A0_1 l0_1.length l0_1) (hc0_1 : l0_1.length ≤ c0_1) (h : spec_validLine.f k l0_0 l0_1 = some r) :
  Calls Try.prog 60 #[.agg #[.slice A0_0 l0_0.length c0_0, .slice A0_1 l0_1.length c0_1]] w fun e w' => e = .returned (.bool r) ∧ Below w.heap.size w w' := by
 have hu65 := Try.underlying65
 have HR0_0 := A_ hr0_0
 have HC0_0 := A_ hc0_0
 clear hr0_0 hc0_0
 have HR0_1 := A_ hr0_1
 have HC0_1 := A_ hc0_1
 clear hr0_1 hc0_1
 have HB := A_ (Below.refl w.heap.size w)
 have H : ((spec_validStore.f k l0_0).bind fun t292 => (if t292 = true then ((spec_validUpdates.f k l0_1).bind fun t293 => (some t293)) else (some false))) = some r := h
 clear h
 replace H := Option.bind_eq_some_iff.mp H
 obtain ⟨t292, A20, H⟩ := H
 replace H : (if t292 = true then ((spec_validUpdates.f k l0_1).bind fun t293 => (some t293)) else (some false)) = some r := H
 have A2 := A_ A20
 clear A20
 by_cases c3 : t292 = true
 ·subst c3
  have H1 : ((spec_validUpdates.f k l0_1).bind fun t293 => (some t293)) = some r := by rw [if_pos rfl] at H; exact H
  clear H
  have H := H1
  clear H1
  replace H := Option.bind_eq_some_iff.mp H
  obtain ⟨t293, A40, H⟩ := H
  replace H : (some t293) = some r := H
  have A4 := A_ A40
  clear A40
  obtain rfl := Option.some.inj H
  go_enter Try.func60, Try.ntmps60
  go_wp2_with (first | ((with_reducible refine gate_dst (N := 1) rfl ?_); refine box_event ?hg (N := 1) ?hd (cs := #[.slice A0_0 l0_0.length c0_0, .slice A0_1 l0_1.length c0_1]) (t := 65) ?hr ?_; (case hd => rfl); (case hg => rfl); (case hr => exact Z15); intro gb291 hg w5 hbox hb; have n0_ := A_ (below_step Z0 hb); have n1_ := A_ (hbox); have n2_ := A_ ((by rw [hg]; exact (below_size Z0) : w.heap.size ≤ gb291)); have n3_ := A_ ((by rw [hg]; exact (below_size Z0) : w.heap.size ≤ gb291)); clear HB; have HB := n0_; have BK291 := n1_; have GW291 := n2_; have GE291 := n3_; clear n0_ n1_ n2_ n3_; clear hb hbox hg; have hcz6_0 : w5.cell? ⟨gb291, 0, none⟩ = some (.slice A0_0 l0_0.length c0_0) := (blk_cell BK291.out 0).trans rfl; have hcz6_1 : w5.cell? ⟨gb291, 1, none⟩ = some (.slice A0_1 l0_1.length c0_1) := (blk_cell BK291.out 1).trans rfl; have hfz6_0 := blk_frozen BK291.out 0; have hfz6_1 := blk_frozen BK291.out 1) | ((with_reducible refine gate_callee (f := 47) rfl ?_); refine goesL_ (some 5) rfl rfl Try.func47 (by kernel_rfl) rfl #[.slice A0_0 l0_0.length c0_0] rfl Z5 ?_; (with_reducible refine (spec_validStore.calls k _ _ l0_0 true _ ?side1 ?side2 A2.out).mono ?_); (case side1 => exact Z4 HR0_0.out); (case side2 => exact HC0_0.out); rintro e w7 ⟨rfl, hb⟩; refine ⟨_, rfl, ?_⟩; have n0_ := A_ (blk_below (g := gb291) (o := .cells #[.slice A0_0 l0_0.length c0_0, .slice A0_1 l0_1.length c0_1] 65 (0, 0)) (Z3 BK291.out) hb); have n1_ := A_ (below_step (Z2 GE291.out) hb); clear BK291; clear HB; have BK291 := n0_; have HB := n1_; clear n0_ n1_; (try clear hb); (try clear hb2); (try clear hk); (try clear hi); have hcz8_0 : w7.cell? ⟨gb291, 0, none⟩ = some (.slice A0_0 l0_0.length c0_0) := (blk_cell BK291.out 0).trans rfl; have hcz8_1 : w7.cell? ⟨gb291, 1, none⟩ = some (.slice A0_1 l0_1.length c0_1) := (blk_cell BK291.out 1).trans rfl; have hfz8_0 := blk_frozen BK291.out 0; have hfz8_1 := blk_frozen BK291.out 1) | (go_at_call 88; (with_reducible refine (spec_validUpdates.calls k _ _ l0_1 t293 _ ?side1 ?side2 A4.out).mono ?_); (case side1 => exact Z4 HR0_1.out); (case side2 => exact HC0_1.out); rintro e w9 ⟨rfl, hb⟩; have n0_ := A_ (blk_below (g := gb291) (o := .cells #[.slice A0_0 l0_0.length c0_0, .slice A0_1 l0_1.length c0_1] 65 (0, 0)) (Z3 BK291.out) hb); have n1_ := A_ (below_step (Z2 GE291.out) hb); clear BK291; clear HB; have BK291 := n0_; have HB := n1_; clear n0_ n1_; (try clear hb); (try clear hb2); (try clear hk); (try clear hi)))
  go_ret
  exact ⟨Z7, Z2 GE291.out⟩
 ·replace c3 := Bool.eq_false_iff.mpr c3
  subst c3
  have H1 : (some false) = some r := by rw [if_neg (show ¬ (false = true) by decide)] at H; exact H
  clear H
  have H := H1
  clear H1
  obtain rfl := Option.some.inj H
  go_enter Try.func60, Try.ntmps60
  go_wp2_with (first | ((with_reducible refine gate_dst (N := 1) rfl ?_); refine box_event ?hg (N := 1) ?hd (cs := #[.slice A0_0 l0_0.length c0_0, .slice A0_1 l0_1.length c0_1]) (t := 65) ?hr ?_; (case hd => rfl); (case hg => rfl); (case hr => exact Z15); intro gb291 hg w10 hbox hb; have n0_ := A_ (below_step Z0 hb); have n1_ := A_ (hbox); have n2_ := A_ ((by rw [hg]; exact (below_size Z0) : w.heap.size ≤ gb291)); have n3_ := A_ ((by rw [hg]; exact (below_size Z0) : w.heap.size ≤ gb291)); clear HB; have HB := n0_; have BK291 := n1_; have GW291 := n2_; have GE291 := n3_; clear n0_ n1_ n2_ n3_; clear hb hbox hg; have hcz11_0 : w10.cell? ⟨gb291, 0, none⟩ = some (.slice A0_0 l0_0.length c0_0) := (blk_cell BK291.out 0).trans rfl; have hcz11_1 : w10.cell? ⟨gb291, 1, none⟩ = some (.slice A0_1 l0_1.length c0_1) := (blk_cell BK291.out 1).trans rfl; have hfz11_0 := blk_frozen BK291.out 0; have hfz11_1 := blk_frozen BK291.out 1) | ((with_reducible refine gate_callee (f := 47) rfl ?_); refine goesL_ (some 5) rfl rfl Try.func47 (by kernel_rfl) rfl #[.slice A0_0 l0_0.length c0_0] rfl Z5 ?_; (with_reducible refine (spec_validStore.calls k _ _ l0_0 false _ ?side1 ?side2 A2.out).mono ?_); (case side1 => exact Z4 HR0_0.out); (case side2 => exact HC0_0.out); rintro e w12 ⟨rfl, hb⟩; refine ⟨_, rfl, ?_⟩; have n0_ := A_ (blk_below (g := gb291) (o := .cells #[.slice A0_0 l0_0.length c0_0, .slice A0_1 l0_1.length c0_1] 65 (0, 0)) (Z3 BK291.out) hb); have n1_ := A_ (below_step (Z2 GE291.out) hb); clear BK291; clear HB; have BK291 := n0_; have HB := n1_; clear n0_ n1_; (try clear hb); (try clear hb2); (try clear hk); (try clear hi)))
  go_ret
  exact ⟨Z7, Z2 GE291.out⟩
def spec_inLanes.f (a0 : Int) (a1 : Int) : Option (Bool) := if a1 = (-1) then (some true) else (if 0 ≤ a1 then (if (shl .i64 1 a1) = 0 then (none) else (some ((Int.tmod (wrap64 (Int.tdiv a0 (shl .i64 1 a1))) 2) == 1))) else (none))
set_option maxHeartbeats 8000000 in
set_option maxRecDepth 100000 in
theorem spec_inLanes.calls (a0 : Int) (a1 : Int) (r : Bool) (w : World) (h : spec_inLanes.f a0 a1 = some r) :
  Calls Try.prog 89 #[.int .i64 a0, .int .i64 a1] w fun e w' => e = .returned (.bool r) ∧ Drawn0 w w' := by
 have H : (if a1 = (-1) then (some true) else (if 0 ≤ a1 then (if (shl .i64 1 a1) = 0 then (none) else (some ((Int.tmod (wrap64 (Int.tdiv a0 (shl .i64 1 a1))) 2) == 1))) else (none))) = some r := h
 clear h
 by_cases c3 : a1 = (-1)
 ·rw [if_pos c3] at H
  have c3b0 : (a1 == (-1)) = true := beq_iff_eq.mpr c3
  have c3b1 : (a1 != (-1)) = false := bne_eq_false_iff_eq.mpr c3
  clear c3
  obtain rfl := Option.some.inj H
  go_enter Try.func89, Try.ntmps89
  go_wp2
  go_ret
  exact ⟨Z16, Z18⟩
 ·rw [if_neg c3] at H
  have c3b0 : (a1 == (-1)) = false := beq_eq_false_iff_ne.mpr c3
  have c3b1 : (a1 != (-1)) = true := bne_iff_ne.mpr c3
  by_cases c4 : 0 ≤ a1
  ·rw [if_pos c4] at H
   have c4b0 := eq_true c4
   have c4b1 : decide (0 ≤ a1) = true := decide_eq_true c4
   clear c4
   obtain ⟨ji5, hji5⟩ : ∃ j_ : Int, (shl .i64 1 a1) = j_ := ⟨_, rfl⟩
   replace H : (if (ji5) = 0 then (none) else (some ((Int.tmod (wrap64 (Int.tdiv a0 (ji5))) 2) == 1))) = some r := by first | (rw [hji5] at H; exact H) | (simp only [hji5] at H ⊢; exact H)
   have hji5_ : (IntKind.i64.wrap (1 * 2 ^ min a1.toNat 64)) = ji5 := hji5
   have hji5z : a1 ≤ 64 → (IntKind.i64.wrap (1 * 2 ^ a1.toNat)) = ji5 := shl_small hji5
   have hji5u : (IntKind.i64.wrap (2 ^ min a1.toNat 64)) = ji5 := by have h_ := hji5_; rw [Int.one_mul] at h_; exact h_
   have hji5v : a1 ≤ 64 → (IntKind.i64.wrap (2 ^ a1.toNat)) = ji5 := fun hle_ => by have h_ := hji5z hle_; rw [Int.one_mul] at h_; exact h_
   have hji5y : (wrap64 (1 * 2 ^ min a1.toNat 64)) = ji5 := (i64_w _).symm.trans hji5_
   have hji5x : a1 ≤ 64 → (wrap64 (1 * 2 ^ a1.toNat)) = ji5 := fun h_ => (i64_w _).symm.trans (hji5z h_)
   by_cases c6 : (ji5) = 0
   ·rw [if_pos c6] at H
    exact absurd H (by simp)
   ·rw [if_neg c6] at H
    have c6b0 : ((ji5) == 0) = false := beq_eq_false_iff_ne.mpr c6
    have c6b1 : ((ji5) != 0) = true := bne_iff_ne.mpr c6
    obtain rfl := Option.some.inj H
    go_enter Try.func89, Try.ntmps89
    go_wp2
    go_ret
    exact ⟨by first | rfl | (simp; done) | (simp only [← hji5] <;> (first | rfl | simp)) | (simp [*]; done), Z18⟩
  ·rw [if_neg c4] at H
   exact absurd H (by simp)
end Go.Proofs.Ytmphggpibaolcaa.PFnExactLineWants
