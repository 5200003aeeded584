/- Walks of the functions that the law 'FnExactUpdateHas' reaches, part 16: for each a Lean function and the proof that Go's comes to just its answer (lines of the print, under own names; no condition). -/
import Derived.Test.YtmphggpibaolcaaZFnExactUpdateHasQFnExactUpdateHasx0
import Derived.Test.YtmphggpibaolcaaZFnExactUpdateHasQFnExactUpdateHasx12
import Derived.Test.YtmphggpibaolcaaZFnExactUpdateHasQFnExactUpdateHasx14
import Derived.Test.YtmphggpibaolcaaZFnExactUpdateHasQFnExactUpdateHasx15
namespace Go.Proofs.Ytmphggpibaolcaa.PFnExactUpdateHas
open Go.RowKit Go.Proofs.YtmphggpibaolcaaW.PrintWords Go.Proofs.YtmphggpibaolcaaW.PrintLast Go.Proofs.YtmphggpibaolcaaW.PrintMore
attribute [local go_sem] max2_int min2_int max_two min_two max_three min_three max_four min_four
set_option linter.unusedVariables false
set_option linter.unusedSimpArgs false
def impl_UpdateHas.f (k : Nat) (l0 : List (S95)) (l1_0 : List (S121)) (a1_1 : Int) (l1_2 : List (S126)) (a1_3 : Int) : Option (Bool) := (impl_StoreOk.f k l0).bind fun t287 => (if t287 = true then ((impl_UpdateOk.f k l1_0 a1_1 l1_2 a1_3).bind fun t288 => (if t288 = true then ((impl_updateAt.f k l0 l1_0 a1_1 l1_2 a1_3).bind fun t289 => (some (decide (t289 ≥ 0)))) else (some false))) else (some false))
theorem impl_UpdateHas.mono : ∀ a0 a1 a2 a3 a4 k, LeO (impl_UpdateHas.f k a0 a1 a2 a3 a4) (impl_UpdateHas.f (k + 1) a0 a1 a2 a3 a4) := by
 intro a0 a1 a2 a3 a4 k
 unfold impl_UpdateHas.f
 repeat' first
   | (with_reducible exact impl_StoreOk.mono _ _)
   | (with_reducible exact impl_UpdateOk.mono _ _ _ _ _)
   | (with_reducible exact impl_updateAt.mono _ _ _ _ _ _)
   | (with_reducible exact LeO.refl _)
   | (with_reducible exact LeO.none _)
   | (with_reducible refine LeO.ite ?_ ?_)
   | (with_reducible refine LeO.bind ?_ (fun _ => ?_))
   | exact impl_StoreOk.mono _ _
   | exact impl_UpdateOk.mono _ _ _ _ _
   | exact impl_updateAt.mono _ _ _ _ _ _
   | exact LeO.none _
   | refine LeO.ite ?_ ?_
   | refine LeO.bind ?_ (fun _ => ?_)
set_option maxHeartbeats 8000000 in
set_option maxRecDepth 100000 in
theorem impl_UpdateHas.calls (k : Nat) (A0 : Option Addr) (c0 : Nat) (l0 : List (S95)) (A1_0 : Option Addr) (c1_0 : Nat) (l1_0 : List (S121)) (a1_1 : Int) (A1_2 : Option Addr) (c1_2 : Nat) (l1_2 : List (S126)) (a1_3 : Int) (r : Bool) (w : World) (hr0 : Kd.C k95 w A0 l0.length l0) (hc0 : l0.length ≤ c0) (hr1_0 : Kd.C k121 w A1_0 l1_0.length l1_0) (hc1_0 : l1_0.length ≤ c1_0) (hr1_2 : Kd.C k126 w A1_2 l1_2.length l1_2) (hc1_2 : l1_2.length ≤ c1_2) (h : impl_UpdateHas.f k l0 l1_0 a1_1 l1_2 a1_3 = some r) :
  Calls Try.prog 23 #[.slice A0 l0.length c0, .agg #[.slice A1_0 l1_0.length c1_0, .int .i64 a1_1, .slice A1_2 l1_2.length c1_2, .int .i64 a1_3]] w fun e w' => e = .returned (.bool r) ∧ Below w.heap.size w w' := by
 have hu53 := Try.underlying53
 have HR0 := A_ hr0
 have HC0 := A_ hc0
 clear hr0 hc0
 have HR1_0 := A_ hr1_0
 have HC1_0 := A_ hc1_0
 clear hr1_0 hc1_0
 have HR1_2 := A_ hr1_2
 have HC1_2 := A_ hc1_2
 clear hr1_2 hc1_2
 have HB := A_ (Below.refl w.heap.size w)
 have H : ((impl_StoreOk.f k l0).bind fun t287 => (if t287 = true then ((impl_UpdateOk.f k l1_0 a1_1 l1_2 a1_3).bind fun t288 => (if t288 = true then ((impl_updateAt.f k l0 l1_0 a1_1 l1_2 a1_3).bind fun t289 => (some (decide (t289 ≥ 0)))) else (some false))) else (some false))) = some r := h
 clear h
 replace H := Option.bind_eq_some_iff.mp H
 obtain ⟨t287, A30, H⟩ := H
 replace H : (if t287 = true then ((impl_UpdateOk.f k l1_0 a1_1 l1_2 a1_3).bind fun t288 => (if t288 = true then ((impl_updateAt.f k l0 l1_0 a1_1 l1_2 a1_3).bind fun t289 => (some (decide (t289 ≥ 0)))) else (some false))) else (some false)) = some r := H
 have A3 := A_ A30
 clear A30
 by_cases c4 : t287 = true
 ·subst c4
  have H1 : ((impl_UpdateOk.f k l1_0 a1_1 l1_2 a1_3).bind fun t288 => (if t288 = true then ((impl_updateAt.f k l0 l1_0 a1_1 l1_2 a1_3).bind fun t289 => (some (decide (t289 ≥ 0)))) else (some false))) = some r := by rw [if_pos rfl] at H; exact H
  clear H
  have H := H1
  clear H1
  replace H := Option.bind_eq_some_iff.mp H
  obtain ⟨t288, A50, H⟩ := H
  replace H : (if t288 = true then ((impl_updateAt.f k l0 l1_0 a1_1 l1_2 a1_3).bind fun t289 => (some (decide (t289 ≥ 0)))) else (some false)) = some r := H
  have A5 := A_ A50
  clear A50
  by_cases c6 : t288 = true
  ·subst c6
   have H1 : ((impl_updateAt.f k l0 l1_0 a1_1 l1_2 a1_3).bind fun t289 => (some (decide (t289 ≥ 0)))) = some r := by rw [if_pos rfl] at H; exact H
   clear H
   have H := H1
   clear H1
   replace H := Option.bind_eq_some_iff.mp H
   obtain ⟨t289, A70, H⟩ := H
   replace H : (some (decide (t289 ≥ 0))) = some r := H
   have A7 := A_ A70
   clear A70
   obtain rfl := Option.some.inj H
   go_enter Try.func23, Try.ntmps23
   go_wp2_with (first | ((with_reducible refine gate_dst (N := 3) rfl ?_); refine box_event ?hg (N := 3) ?hd (cs := #[.slice A1_0 l1_0.length c1_0, .int .i64 a1_1, .slice A1_2 l1_2.length c1_2, .int .i64 a1_3]) (t := 53) ?hr ?_; (case hd => rfl); (case hg => rfl); (case hr => exact Z16); intro gb286 hg w8 hbox hb; have n0_ := A_ (below_step Z1 hb); have n1_ := A_ (hbox); have n2_ := A_ ((by rw [hg]; exact (below_size Z1) : w.heap.size ≤ gb286)); have n3_ := A_ ((by rw [hg]; exact (below_size Z1) : w.heap.size ≤ gb286)); clear HB; have HB := n0_; have BK286 := n1_; have GW286 := n2_; have GE286 := n3_; clear n0_ n1_ n2_ n3_; clear hb hbox hg) | ((with_reducible refine gate_callee (f := 36) rfl ?_); refine goesL_ (some 6) rfl rfl Try.func36 (by kernel_rfl) rfl #[.slice A0 l0.length c0] rfl Z5 ?_; (with_reducible refine (impl_StoreOk.calls k _ _ l0 true _ ?side1 ?side2 A3.out).mono ?_); (case side1 => exact Z4 HR0.out); (case side2 => exact HC0.out); rintro e w9 ⟨rfl, hb⟩; refine ⟨_, rfl, ?_⟩; have n0_ := A_ (blk_below (g := gb286) (o := .cells #[.slice A1_0 l1_0.length c1_0, .int .i64 a1_1, .slice A1_2 l1_2.length c1_2, .int .i64 a1_3] 53 (0, 0)) (Z3 BK286.out) hb); have n1_ := A_ (below_step (Z2 GE286.out) hb); clear BK286; clear HB; have BK286 := n0_; have HB := n1_; clear n0_ n1_; (try clear hb); (try clear hb2); (try clear hk); (try clear hi); have hcz10_0 : w9.cell? ⟨gb286, 0, none⟩ = some (.slice A1_0 l1_0.length c1_0) := (blk_cell BK286.out 0).trans rfl; have hcz10_1 : w9.cell? ⟨gb286, 1, none⟩ = some (.int .i64 a1_1) := (blk_cell BK286.out 1).trans rfl; have hcz10_2 : w9.cell? ⟨gb286, 2, none⟩ = some (.slice A1_2 l1_2.length c1_2) := (blk_cell BK286.out 2).trans rfl; have hcz10_3 : w9.cell? ⟨gb286, 3, none⟩ = some (.int .i64 a1_3) := (blk_cell BK286.out 3).trans rfl; have hfz10_0 := blk_frozen BK286.out 0; have hfz10_1 := blk_frozen BK286.out 1; have hfz10_2 := blk_frozen BK286.out 2; have hfz10_3 := blk_frozen BK286.out 3) | (go_at_call 54; (with_reducible refine (impl_UpdateOk.calls k _ _ l1_0 a1_1 _ _ l1_2 a1_3 true _ ?side1 ?side2 ?side3 ?side4 A5.out).mono ?_); (case side1 => exact Z4 HR1_0.out); (case side2 => exact HC1_0.out); (case side3 => exact Z4 HR1_2.out); (case side4 => exact HC1_2.out); rintro e w11 ⟨rfl, hb⟩; have n0_ := A_ (blk_below (g := gb286) (o := .cells #[.slice A1_0 l1_0.length c1_0, .int .i64 a1_1, .slice A1_2 l1_2.length c1_2, .int .i64 a1_3] 53 (0, 0)) (Z3 BK286.out) hb); have n1_ := A_ (below_step (Z2 GE286.out) hb); clear BK286; clear HB; have BK286 := n0_; have HB := n1_; clear n0_ n1_; (try clear hb); (try clear hb2); (try clear hk); (try clear hi); have hcz12_0 : w11.cell? ⟨gb286, 0, none⟩ = some (.slice A1_0 l1_0.length c1_0) := (blk_cell BK286.out 0).trans rfl; have hcz12_1 : w11.cell? ⟨gb286, 1, none⟩ = some (.int .i64 a1_1) := (blk_cell BK286.out 1).trans rfl; have hcz12_2 : w11.cell? ⟨gb286, 2, none⟩ = some (.slice A1_2 l1_2.length c1_2) := (blk_cell BK286.out 2).trans rfl; have hcz12_3 : w11.cell? ⟨gb286, 3, none⟩ = some (.int .i64 a1_3) := (blk_cell BK286.out 3).trans rfl; have hfz12_0 := blk_frozen BK286.out 0; have hfz12_1 := blk_frozen BK286.out 1; have hfz12_2 := blk_frozen BK286.out 2; have hfz12_3 := blk_frozen BK286.out 3) | (go_at_call 55; (with_reducible refine (impl_updateAt.calls k _ _ l0 _ _ l1_0 a1_1 _ _ l1_2 a1_3 t289 _ ?side1 ?side2 ?side3 ?side4 ?side5 ?side6 A7.out).mono ?_); (case side1 => exact Z4 HR0.out); (case side2 => exact HC0.out); (case side3 => exact Z4 HR1_0.out); (case side4 => exact HC1_0.out); (case side5 => exact Z4 HR1_2.out); (case side6 => exact HC1_2.out); rintro e w13 ⟨rfl, hb⟩; have n0_ := A_ (blk_below (g := gb286) (o := .cells #[.slice A1_0 l1_0.length c1_0, .int .i64 a1_1, .slice A1_2 l1_2.length c1_2, .int .i64 a1_3] 53 (0, 0)) (Z3 BK286.out) hb); have n1_ := A_ (below_step (Z2 GE286.out) hb); clear BK286; clear HB; have BK286 := n0_; have HB := n1_; clear n0_ n1_; (try clear hb); (try clear hb2); (try clear hk); (try clear hi)))
   go_ret
   exact ⟨Z7, Z2 GE286.out⟩
  ·replace c6 := Bool.eq_false_iff.mpr c6
   subst c6
   have H1 : (some false) = some r := by rw [if_neg (show ¬ (false = true) by decide)] at H; exact H
   clear H
   have H := H1
   clear H1
   obtain rfl := Option.some.inj H
   go_enter Try.func23, Try.ntmps23
   go_wp2_with (first | ((with_reducible refine gate_dst (N := 3) rfl ?_); refine box_event ?hg (N := 3) ?hd (cs := #[.slice A1_0 l1_0.length c1_0, .int .i64 a1_1, .slice A1_2 l1_2.length c1_2, .int .i64 a1_3]) (t := 53) ?hr ?_; (case hd => rfl); (case hg => rfl); (case hr => exact Z16); intro gb286 hg w14 hbox hb; have n0_ := A_ (below_step Z1 hb); have n1_ := A_ (hbox); have n2_ := A_ ((by rw [hg]; exact (below_size Z1) : w.heap.size ≤ gb286)); have n3_ := A_ ((by rw [hg]; exact (below_size Z1) : w.heap.size ≤ gb286)); clear HB; have HB := n0_; have BK286 := n1_; have GW286 := n2_; have GE286 := n3_; clear n0_ n1_ n2_ n3_; clear hb hbox hg) | ((with_reducible refine gate_callee (f := 36) rfl ?_); refine goesL_ (some 6) rfl rfl Try.func36 (by kernel_rfl) rfl #[.slice A0 l0.length c0] rfl Z5 ?_; (with_reducible refine (impl_StoreOk.calls k _ _ l0 true _ ?side1 ?side2 A3.out).mono ?_); (case side1 => exact Z4 HR0.out); (case side2 => exact HC0.out); rintro e w15 ⟨rfl, hb⟩; refine ⟨_, rfl, ?_⟩; have n0_ := A_ (blk_below (g := gb286) (o := .cells #[.slice A1_0 l1_0.length c1_0, .int .i64 a1_1, .slice A1_2 l1_2.length c1_2, .int .i64 a1_3] 53 (0, 0)) (Z3 BK286.out) hb); have n1_ := A_ (below_step (Z2 GE286.out) hb); clear BK286; clear HB; have BK286 := n0_; have HB := n1_; clear n0_ n1_; (try clear hb); (try clear hb2); (try clear hk); (try clear hi); have hcz16_0 : w15.cell? ⟨gb286, 0, none⟩ = some (.slice A1_0 l1_0.length c1_0) := (blk_cell BK286.out 0).trans rfl; have hcz16_1 : w15.cell? ⟨gb286, 1, none⟩ = some (.int .i64 a1_1) := (blk_cell BK286.out 1).trans rfl; have hcz16_2 : w15.cell? ⟨gb286, 2, none⟩ = some (.slice A1_2 l1_2.length c1_2) := (blk_cell BK286.out 2).trans rfl; have hcz16_3 : w15.cell? ⟨gb286, 3, none⟩ = some (.int .i64 a1_3) := (blk_cell BK286.out 3).trans rfl; have hfz16_0 := blk_frozen BK286.out 0; have hfz16_1 := blk_frozen BK286.out 1; have hfz16_2 := blk_frozen BK286.out 2; have hfz16_3 := blk_frozen BK286.out 3) | (go_at_call 54; (with_reducible refine (impl_UpdateOk.calls k _ _ l1_0 a1_1 _ _ l1_2 a1_3 false _ ?side1 ?side2 ?side3 ?side4 A5.out).mono ?_); (case side1 => exact Z4 HR1_0.out); (case side2 => exact HC1_0.out); (case side3 => exact Z4 HR1_2.out); (case side4 => exact HC1_2.out); rintro e w17 ⟨rfl, hb⟩; have n0_ := A_ (blk_below (g := gb286) (o := .cells #[.slice A1_0 l1_0.length c1_0, .int .i64 a1_1, .slice A1_2 l1_2.length c1_2, .int .i64 a1_3] 53 (0, 0)) (Z3 BK286.out) hb); have n1_ := A_ (below_step (Z2 GE286.out) hb); clear BK286; clear HB; have BK286 := n0_; have HB := n1_; clear n0_ n1_; (try clear hb); (try clear hb2); (try clear hk); (try clear hi)))
   go_ret
   exact ⟨Z7, Z2 GE286.out⟩
 ·replace c4 := Bool.eq_false_iff.mpr c4
  subst c4
  have H1 : (some false) = some r := by rw [if_neg (show ¬ (false = true) by decide)] at H; exact H
  clear H
  have H := H1
  clear H1
  obtain rfl := Option.some.inj H
  go_enter Try.func23, Try.ntmps23
  go_wp2_with (first | ((with_reducible refine gate_dst (N := 3) rfl ?_); refine box_event ?hg (N := 3) ?hd (cs := #[.slice A1_0 l1_0.length c1_0, .int .i64 a1_1, .slice A1_2 l1_2.length c1_2, .int .i64 a1_3]) (t := 53) ?hr ?_; (case hd => rfl); (case hg => rfl); (case hr => exact Z16); intro gb286 hg w18 hbox hb; have n0_ := A_ (below_step Z1 hb); have n1_ := A_ (hbox); have n2_ := A_ ((by rw [hg]; exact (below_size Z1) : w.heap.size ≤ gb286)); have n3_ := A_ ((by rw [hg]; exact (below_size Z1) : w.heap.size ≤ gb286)); clear HB; have HB := n0_; have BK286 := n1_; have GW286 := n2_; have GE286 := n3_; clear n0_ n1_ n2_ n3_; clear hb hbox hg) | ((with_reducible refine gate_callee (f := 36) rfl ?_); refine goesL_ (some 6) rfl rfl Try.func36 (by kernel_rfl) rfl #[.slice A0 l0.length c0] rfl Z5 ?_; (with_reducible refine (impl_StoreOk.calls k _ _ l0 false _ ?side1 ?side2 A3.out).mono ?_); (case side1 => exact Z4 HR0.out); (case side2 => exact HC0.out); rintro e w19 ⟨rfl, hb⟩; refine ⟨_, rfl, ?_⟩; have n0_ := A_ (blk_below (g := gb286) (o := .cells #[.slice A1_0 l1_0.length c1_0, .int .i64 a1_1, .slice A1_2 l1_2.length c1_2, .int .i64 a1_3] 53 (0, 0)) (Z3 BK286.out) hb); have n1_ := A_ (below_step (Z2 GE286.out) hb); clear BK286; clear HB; have BK286 := n0_; have HB := n1_; clear n0_ n1_; (try clear hb); (try clear hb2); (try clear hk); (try clear hi)))
  go_ret
  exact ⟨Z7, Z2 GE286.out⟩
def laws_eqSlot.f (a0_0 : Int) (a0_1 : Int) (a1_0 : Int) (a1_1 : Int) : Option (Bool) := if a0_0 = a1_0 then (if a0_1 = a1_1 then (some true) else (some false)) else (some false)
set_option maxHeartbeats 8000000 in
set_option maxRecDepth 100000 in
theorem laws_eqSlot.calls (a0_0 : Int) (a0_1 : Int) (a1_0 : Int) (a1_1 : Int) (r : Bool) (w : World) (h : laws_eqSlot.f a0_0 a0_1 a1_0 a1_1 = some r) :
  Calls Try.prog 86 #[.agg #[.int .i64 a0_0, .int .i64 a0_1], .agg #[.int .i64 a1_0, .int .i64 a1_1]] w fun e w' => e = .returned (.bool r) ∧ Below w.heap.size w w' := by
 have hu121 := Try.underlying121
 have HB := A_ (Below.refl w.heap.size w)
 have H : (if a0_0 = a1_0 then (if a0_1 = a1_1 then (some true) else (some false)) else (some false)) = some r := h
 clear h
 by_cases c3 : a0_0 = a1_0
 ·rw [if_pos c3] at H
  have c3b0 : (a0_0 == a1_0) = true := beq_iff_eq.mpr c3
  have c3b1 : (a0_0 != a1_0) = false := bne_eq_false_iff_eq.mpr c3
  clear c3
  by_cases c4 : a0_1 = a1_1
  ·rw [if_pos c4] at H
   have c4b0 : (a0_1 == a1_1) = true := beq_iff_eq.mpr c4
   have c4b1 : (a0_1 != a1_1) = false := bne_eq_false_iff_eq.mpr c4
   clear c4
   obtain rfl := Option.some.inj H
   go_enter Try.func86, Try.ntmps86
   go_wp2_with (first | ((with_reducible refine gate_dst (N := 2) rfl ?_); refine box_event ?hg (N := 2) ?hd (cs := #[.int .i64 a0_0, .int .i64 a0_1]) (t := 121) ?hr ?_; (case hd => rfl); (case hg => rfl); (case hr => exact Z16); intro gb290 hg w5 hbox hb; have n0_ := A_ (below_step Z1 hb); have n1_ := A_ (hbox); have n2_ := A_ ((by rw [hg]; exact (below_size Z1) : w.heap.size ≤ gb290)); have n3_ := A_ ((by rw [hg]; exact (below_size Z1) : w.heap.size ≤ gb290)); clear HB; have HB := n0_; have BK290 := n1_; have GW290 := n2_; have GE290 := n3_; clear n0_ n1_ n2_ n3_; clear hb hbox hg) | ((with_reducible refine gate_dst (N := 3) rfl ?_); refine box_event ?hg (N := 3) ?hd (cs := #[.int .i64 a1_0, .int .i64 a1_1]) (t := 121) ?hr ?_; (case hd => rfl); (case hg => rfl); (case hr => exact Z16); intro gb291 hg w6 hbox hb; have n0_ := A_ (blk_below (g := gb290) (o := .cells #[.int .i64 a0_0, .int .i64 a0_1] 121 (0, 0)) (Z3 BK290.out) hb); have n1_ := A_ (below_step (Z2 GE290.out) hb); have n2_ := A_ (hbox); have n3_ := A_ ((by rw [hg]; exact (below_size (Z2 GE290.out)) : w.heap.size ≤ gb291)); have n4_ := A_ ((by rw [hg]; exact (below_size (Z2 GE290.out)) : w.heap.size ≤ gb291)); have n5_ := A_ ((by rw [hg]; exact Nat.ne_of_lt (blk_lt (g := gb290) (o := .cells #[.int .i64 a0_0, .int .i64 a0_1] 121 (0, 0)) (Z3 BK290.out)) : gb290 ≠ gb291)); have n6_ := A_ ((by rw [hg]; exact Nat.ne_of_gt (blk_lt (g := gb290) (o := .cells #[.int .i64 a0_0, .int .i64 a0_1] 121 (0, 0)) (Z3 BK290.out)) : gb291 ≠ gb290)); clear BK290; clear HB; have BK290 := n0_; have HB := n1_; have BK291 := n2_; have GW291 := n3_; have GE291 := n4_; have NB290_291 := n5_; have NB291_290 := n6_; clear n0_ n1_ n2_ n3_ n4_ n5_ n6_; clear hb hbox hg; have hnb7 := NB290_291.out; have hnc7 := NB291_290.out; have hcz8_0 : w6.cell? ⟨gb290, 0, none⟩ = some (.int .i64 a0_0) := (blk_cell BK290.out 0).trans rfl; have hcz8_1 : w6.cell? ⟨gb290, 1, none⟩ = some (.int .i64 a0_1) := (blk_cell BK290.out 1).trans rfl; have hfz8_0 := blk_frozen BK290.out 0; have hfz8_1 := blk_frozen BK290.out 1; have hcz9_0 : w6.cell? ⟨gb291, 0, none⟩ = some (.int .i64 a1_0) := (blk_cell BK291.out 0).trans rfl; have hcz9_1 : w6.cell? ⟨gb291, 1, none⟩ = some (.int .i64 a1_1) := (blk_cell BK291.out 1).trans rfl; have hfz9_0 := blk_frozen BK291.out 0; have hfz9_1 := blk_frozen BK291.out 1))
   go_ret
   exact ⟨Z7, Z6 GE290.out GE291.out⟩
  ·rw [if_neg c4] at H
   have c4b0 : (a0_1 == a1_1) = false := beq_eq_false_iff_ne.mpr c4
   have c4b1 : (a0_1 != a1_1) = true := bne_iff_ne.mpr c4
   obtain rfl := Option.some.inj H
   go_enter Try.func86, Try.ntmps86
   go_wp2_with (first | ((with_reducible refine gate_dst (N := 2) rfl ?_); refine box_event ?hg (N := 2) ?hd (cs := #[.int .i64 a0_0, .int .i64 a0_1]) (t := 121) ?hr ?_; (case hd => rfl); (case hg => rfl); (case hr => exact Z16); intro gb290 hg w10 hbox hb; have n0_ := A_ (below_step Z1 hb); have n1_ := A_ (hbox); have n2_ := A_ ((by rw [hg]; exact (below_size Z1) : w.heap.size ≤ gb290)); have n3_ := A_ ((by rw [hg]; exact (below_size Z1) : w.heap.size ≤ gb290)); clear HB; have HB := n0_; have BK290 := n1_; have GW290 := n2_; have GE290 := n3_; clear n0_ n1_ n2_ n3_; clear hb hbox hg) | ((with_reducible refine gate_dst (N := 3) rfl ?_); refine box_event ?hg (N := 3) ?hd (cs := #[.int .i64 a1_0, .int .i64 a1_1]) (t := 121) ?hr ?_; (case hd => rfl); (case hg => rfl); (case hr => exact Z16); intro gb291 hg w11 hbox hb; have n0_ := A_ (blk_below (g := gb290) (o := .cells #[.int .i64 a0_0, .int .i64 a0_1] 121 (0, 0)) (Z3 BK290.out) hb); have n1_ := A_ (below_step (Z2 GE290.out) hb); have n2_ := A_ (hbox); have n3_ := A_ ((by rw [hg]; exact (below_size (Z2 GE290.out)) : w.heap.size ≤ gb291)); have n4_ := A_ ((by rw [hg]; exact (below_size (Z2 GE290.out)) : w.heap.size ≤ gb291)); have n5_ := A_ ((by rw [hg]; exact Nat.ne_of_lt (blk_lt (g := gb290) (o := .cells #[.int .i64 a0_0, .int .i64 a0_1] 121 (0, 0)) (Z3 BK290.out)) : gb290 ≠ gb291)); have n6_ := A_ ((by rw [hg]; exact Nat.ne_of_gt (blk_lt (g := gb290) (o := .cells #[.int .i64 a0_0, .int .i64 a0_1] 121 (0, 0)) (Z3 BK290.out)) : gb291 ≠ gb290)); clear BK290; clear HB; have BK290 := n0_; have HB := n1_; have BK291 := n2_; have GW291 := n3_; have GE291 := n4_; have NB290_291 := n5_; have NB291_290 := n6_; clear n0_ n1_ n2_ n3_ n4_ n5_ n6_; clear hb hbox hg; have hnb12 := NB290_291.out; have hnc12 := NB291_290.out; have hcz13_0 : w11.cell? ⟨gb290, 0, none⟩ = some (.int .i64 a0_0) := (blk_cell BK290.out 0).trans rfl; have hcz13_1 : w11.cell? ⟨gb290, 1, none⟩ = some (.int .i64 a0_1) := (blk_cell BK290.out 1).trans rfl; have hfz13_0 := blk_frozen BK290.out 0; have hfz13_1 := blk_frozen BK290.out 1; have hcz14_0 : w11.cell? ⟨gb291, 0, none⟩ = some (.int .i64 a1_0) := (blk_cell BK291.out 0).trans rfl; have hcz14_1 : w11.cell? ⟨gb291, 1, none⟩ = some (.int .i64 a1_1) := (blk_cell BK291.out 1).trans rfl; have hfz14_0 := blk_frozen BK291.out 0; have hfz14_1 := blk_frozen BK291.out 1))
   go_ret
   exact ⟨Z7, Z6 GE290.out GE291.out⟩
 ·rw [if_neg c3] at H
  have c3b0 : (a0_0 == a1_0) = false := beq_eq_false_iff_ne.mpr c3
  have c3b1 : (a0_0 != a1_0) = true := bne_iff_ne.mpr c3
  obtain rfl := Option.some.inj H
  go_enter Try.func86, Try.ntmps86
  go_wp2_with (first | ((with_reducible refine gate_dst (N := 2) rfl ?_); refine box_event ?hg (N := 2) ?hd (cs := #[.int .i64 a0_0, .int .i64 a0_1]) (t := 121) ?hr ?_; (case hd => rfl); (case hg => rfl); (case hr => exact Z16); intro gb290 hg w15 hbox hb; have n0_ := A_ (below_step Z1 hb); have n1_ := A_ (hbox); have n2_ := A_ ((by rw [hg]; exact (below_size Z1) : w.heap.size ≤ gb290)); have n3_ := A_ ((by rw [hg]; exact (below_size Z1) : w.heap.size ≤ gb290)); clear HB; have HB := n0_; have BK290 := n1_; have GW290 := n2_; have GE290 := n3_; clear n0_ n1_ n2_ n3_; clear hb hbox hg) | ((with_reducible refine gate_dst (N := 3) rfl ?_); refine box_event ?hg (N := 3) ?hd (cs := #[.int .i64 a1_0, .int .i64 a1_1]) (t := 121) ?hr ?_; (case hd => rfl); (case hg => rfl); (case hr => exact Z16); intro gb291 hg w16 hbox hb; have n0_ := A_ (blk_below (g := gb290) (o := .cells #[.int .i64 a0_0, .int .i64 a0_1] 121 (0, 0)) (Z3 BK290.out) hb); have n1_ := A_ (below_step (Z2 GE290.out) hb); have n2_ := A_ (hbox); have n3_ := A_ ((by rw [hg]; exact (below_size (Z2 GE290.out)) : w.heap.size ≤ gb291)); have n4_ := A_ ((by rw [hg]; exact (below_size (Z2 GE290.out)) : w.heap.size ≤ gb291)); have n5_ := A_ ((by rw [hg]; exact Nat.ne_of_lt (blk_lt (g := gb290) (o := .cells #[.int .i64 a0_0, .int .i64 a0_1] 121 (0, 0)) (Z3 BK290.out)) : gb290 ≠ gb291)); have n6_ := A_ ((by rw [hg]; exact Nat.ne_of_gt (blk_lt (g := gb290) (o := .cells #[.int .i64 a0_0, .int .i64 a0_1] 121 (0, 0)) (Z3 BK290.out)) : gb291 ≠ gb290)); clear BK290; clear HB; have BK290 := n0_; have HB := n1_; have BK291 := n2_; have GW291 := n3_; have GE291 := n4_; have NB290_291 := n5_; have NB291_290 := n6_; clear n0_ n1_ n2_ n3_ n4_ n5_ n6_; clear hb hbox hg; have hnb17 := NB290_291.out; have hnc17 := NB291_290.out; have hcz18_0 : w16.cell? ⟨gb290, 0, none⟩ = some (.int .i64 a0_0) := (blk_cell BK290.out 0).trans rfl; have hcz18_1 : w16.cell? ⟨gb290, 1, none⟩ = some (.int .i64 a0_1) := (blk_cell BK290.out 1).trans rfl; have hfz18_0 := blk_frozen BK290.out 0; have hfz18_1 := blk_frozen BK290.out 1; have hcz19_0 : w16.cell? ⟨gb291, 0, none⟩ = some (.int .i64 a1_0) := (blk_cell BK291.out 0).trans rfl; have hcz19_1 : w16.cell? ⟨gb291, 1, none⟩ = some (.int .i64 a1_1) := (blk_cell BK291.out 1).trans rfl; have hfz19_0 := blk_frozen BK291.out 0; have hfz19_1 := blk_frozen BK291.out 1))
  go_ret
  exact ⟨Z7, Z6 GE290.out GE291.out⟩
def laws_eqSlotS.l0 : Nat → List (S121) → List (S121) → Int → Option (Bool)
 | 0, _, _, _ => none
 | k + 1, x0, x1, x5 => if x5 < (x0.length : Int) then (if 0 ≤ x5 then (if x5 < (x1.length : Int) then ((laws_eqSlot.f ((rd_T121 x0 x5).f0) ((rd_T121 x0 x5).f1) ((rd_T121 x1 x5).f0) ((rd_T121 x1 x5).f1)).bind fun t294 => (if t294 = true then (laws_eqSlotS.l0 k x0 x1 (wrap64 (x5 + 1))) else (some false))) else (none)) else (none)) else (some true)
def laws_eqSlotS.f (k : Nat) (l0 : List (S121)) (l1 : List (S121)) : Option (Bool) := if (l0.length : Int) = (l1.length : Int) then (laws_eqSlotS.l0 k l0 l1 0) else (some false)
theorem laws_eqSlotS.mono_l : ∀ k, (∀ y0 y1 y2, LeO (laws_eqSlotS.l0 k y0 y1 y2) (laws_eqSlotS.l0 (k + 1) y0 y1 y2))
 | 0 => fun _ _ _ r h => by simp [laws_eqSlotS.l0] at h
 | k + 1 => by
  have ih0 := laws_eqSlotS.mono_l k
  ·intro y0 y1 y2
   unfold laws_eqSlotS.l0
   repeat' first
   | (with_reducible exact ih0 _ _ _)
   | (with_reducible exact LeO.refl _)
   | (with_reducible exact LeO.none _)
   | (with_reducible refine LeO.ite ?_ ?_)
   | (with_reducible refine LeO.bind ?_ (fun _ => ?_))
   | exact ih0 _ _ _
   | exact LeO.none _
   | refine LeO.ite ?_ ?_
   | refine LeO.bind ?_ (fun _ => ?_)
theorem laws_eqSlotS.mono : ∀ a0 a1 k, LeO (laws_eqSlotS.f k a0 a1) (laws_eqSlotS.f (k + 1) a0 a1) := by
 intro a0 a1 k
 have ih0 := laws_eqSlotS.mono_l k
 unfold laws_eqSlotS.f
 repeat' first
   | (with_reducible exact ih0 _ _ _)
   | (with_reducible exact LeO.refl _)
   | (with_reducible exact LeO.none _)
   | (with_reducible refine LeO.ite ?_ ?_)
   | (with_reducible refine LeO.bind ?_ (fun _ => ?_))
   | exact ih0 _ _ _
   | exact LeO.none _
   | refine LeO.ite ?_ ?_
   | refine LeO.bind ?_ (fun _ => ?_)
def laws_eqSlotS.T6 : Bool × List (List Nat × List Nat) := (true, [([], []), ([], []), ([0, 1], [0, 1]), ([2], [2]), ([], []), ([], []), ([4, 5], [4, 5]), ([6], [6]), ([3, 7], [3, 7]), ([8], [8])])
def laws_eqSlotS.B6 : List Nat := [0, 0, 3, 7, 0, 0, 48, 112, 255, 511]
theorem laws_eqSlotS.tab6 : rtab .any (opsOf Try.f57 6) = laws_eqSlotS.T6 := by kernel_rfl
theorem laws_eqSlotS.bits6 : waitsOk laws_eqSlotS.T6.2 laws_eqSlotS.B6 = true := by kernel_rfl
set_option maxHeartbeats 8000000 in
set_option maxRecDepth 100000 in
theorem laws_eqSlotS.calls (k : Nat) (A0 : Option Addr) (c0 : Nat) (l0 : List (S121)) (A1 : Option Addr) (c1 : Nat) (l1 : List (S121)) (r : Bool) (w : World) (hr0 : Kd.C k121 w A0 l0.length l0) (hc0 : l0.length ≤ c0) (hr1 : Kd.C k121 w A1 l1.length l1) (hc1 : l1.length ≤ c1) (h : laws_eqSlotS.f k l0 l1 = some r) :
  Calls Try.prog 57 #[.slice A0 l0.length c0, .slice A1 l1.length c1] w fun e w' => e = .returned (.bool r) ∧ Below w.heap.size w w' := by
 have hu121 := Try.underlying121
 have HR0 := A_ hr0
 have HC0 := A_ hc0
 clear hr0 hc0
 have HR1 := A_ hr1
 have HC1 := A_ hc1
 clear hr1 hc1
 have HB := A_ (Below.refl w.heap.size w)
 have H : (if (l0.length : Int) = (l1.length : Int) then (laws_eqSlotS.l0 k l0 l1 0) else (some false)) = some r := h
 clear h
 by_cases c3 : (l0.length : Int) = (l1.length : Int)
 ·rw [if_pos c3] at H
  have c3b0 : ((l0.length : Int) == (l1.length : Int)) = true := beq_iff_eq.mpr c3
  have c3b1 : ((l0.length : Int) != (l1.length : Int)) = false := bne_eq_false_iff_eq.mpr c3
  have c3b2 : (l0.length == l1.length) = true := by first | simpa using c3 | (simp at c3 ⊢; omega)
  clear c3
  have H' := A_ H
  clear H
  go_enter Try.func57, Try.ntmps57
  go_wp2
  go_loopg [5] k (fun kq v5 w' => ∃ (x5_1 : Int), v5 = .int .i64 x5_1 ∧ Aside0 (laws_eqSlotS.l0 kq l0 l1 x5_1 = some r) ∧ Aside0 (kq ≤ k) ∧ Aside0 (Below w.heap.size w w'))
  case atStart => exact ⟨(0), Z17, H', ⟨Nat.le_refl _⟩, ⟨Z1⟩⟩
  case round =>
   clear H'
   try clear c1
   try clear p2
   try clear c3
   try clear c3b0
   try clear c3b1
   try clear c3b2
   obtain ⟨x5_1, rfl, HA, HK1, HB⟩ := hrel
   cases gk with
   | zero => exact absurd HA.out (by simp [laws_eqSlotS.l0])
   | succ k1 =>
    have H := HA.out
    clear HA
    simp only [laws_eqSlotS.l0] at H
    by_cases c4 : x5_1 < (l0.length : Int)
    ·rw [if_pos c4] at H
     have c4b0 : decide (x5_1 < (l0.length : Int)) = true := decide_eq_true c4
     clear c4
     by_cases c5 : 0 ≤ x5_1
     ·rw [if_pos c5] at H
      have c5b0 : decide (0 ≤ x5_1) = true := decide_eq_true c5
      clear c5
      by_cases c6 : x5_1 < (l1.length : Int)
      ·rw [if_pos c6] at H
       have c6b0 : decide (x5_1 < (l1.length : Int)) = true := decide_eq_true c6
       clear c6
       replace H := Option.bind_eq_some_iff.mp H
       obtain ⟨t294, A70, H⟩ := H
       replace H : (if t294 = true then (laws_eqSlotS.l0 k1 l0 l1 (wrap64 (x5_1 + 1))) else (some false)) = some r := H
       have A7 := A_ A70
       clear A70
       by_cases c8 : t294 = true
       ·subst c8
        have H1 : (laws_eqSlotS.l0 k1 l0 l1 (wrap64 (x5_1 + 1))) = some r := by rw [if_pos rfl] at H; exact H
        clear H
        have H := H1
        clear H1
        have H' := A_ H
        clear H
        try go_wp2
        have n0_ := A_ (below_drew1 HB.out)
        clear HB
        have HB := n0_
        clear n0_
        have p292 : 0 ≤ (x5_1 : Int) := of_decide_eq_true Z14
        have q292 : x5_1 < (l0.length : Int) := of_decide_eq_true Z14
        obtain ⟨ad292, e292, hx292_0, hx292_1⟩ := at_T121 HR0.out x5_1 p292 q292
        have hw292_1 := hx292_1
        have hw292_0 := hx292_0
        cases e292
        replace hx292_0 := ZC HB.out hx292_0
        replace hx292_1 := ZC HB.out hx292_1
        replace p292 := eq_true p292
        replace q292 := eq_true q292
        have p293 : 0 ≤ (x5_1 : Int) := of_decide_eq_true Z14
        have q293 : x5_1 < (l1.length : Int) := of_decide_eq_true Z14
        obtain ⟨ad293, e293, hx293_0, hx293_1⟩ := at_T121 HR1.out x5_1 p293 q293
        have hw293_1 := hx293_1
        have hw293_0 := hx293_0
        cases e293
        replace hx293_0 := ZC HB.out hx293_0
        replace hx293_1 := ZC HB.out hx293_1
        replace p293 := eq_true p293
        replace q293 := eq_true q293
        refine start_ (n := 10) (S := fun w' => w'.cell? (ad292.add ((x5_1).toNat * 2)) = some (.int .i64 ((rd_T121 l0 x5_1).f0)) ∧ w'.cell? ⟨(ad292.add ((x5_1).toNat * 2)).block, (ad292.add ((x5_1).toNat * 2)).off + 1, none⟩ = some (.int .i64 ((rd_T121 l0 x5_1).f1)) ∧ w'.cell? (ad293.add ((x5_1).toNat * 2)) = some (.int .i64 ((rd_T121 l1 x5_1).f0)) ∧ w'.cell? ⟨(ad293.add ((x5_1).toNat * 2)).block, (ad293.add ((x5_1).toNat * 2)).off + 1, none⟩ = some (.int .i64 ((rd_T121 l1 x5_1).f1))) (ds := []) #[F,F,F,F,F,F,F,F,F,F] (by kernel_rfl) rfl rfl ⟨(ZC HB.out hw292_0 :), (ZC HB.out hw292_1 :), (ZC HB.out hw293_0 :), (ZC HB.out hw293_1 :)⟩ (fun hHeld => ?_); refine with_tabW laws_eqSlotS.tab6 laws_eqSlotS.bits6 (fun HT_ HW_ => ?_)
        generalize wr.drew = w9 at HB hx292_0 hx292_1 hx293_0 hx293_1 hHeld ⊢
        refine pure_ (i := 0) (N := some 17) (v := ?_) (a' := ?_) #[T,F,F,F,F,F,F,F,F,F] rfl rfl ZA ZF (Or.inl ⟨by rfl, ?_⟩) ?_ ?_
        rotate_left
        ·exact Z13
        rotate_left
        ·exact Z0
        refine pure_ (i := 1) (N := some 18) (v := ?_) (a' := ?_) #[T,T,F,F,F,F,F,F,F,F] rfl rfl ZA ZF (Or.inl ⟨by rfl, ?_⟩) ?_ ?_
        rotate_left
        ·exact Z13
        rotate_left
        ·exact Z0
        refine pure_ (i := 2) (N := some 19) (v := ?_) (a' := ?_) #[T,T,T,F,F,F,F,F,F,F] rfl rfl ZA ZF (Or.inl ⟨by rfl, ?_⟩) ?_ ?_
        rotate_left
        ·exact Z13
        rotate_left
        ·exact Z0
        refine pure_ (i := 4) (N := some 21) (v := ?_) (a' := ?_) #[T,T,T,F,T,F,F,F,F,F] rfl rfl ZA ZF (Or.inl ⟨by rfl, ?_⟩) ?_ ?_
        rotate_left
        ·exact Z13
        rotate_left
        ·exact Z0
        refine pure_ (i := 5) (N := some 22) (v := ?_) (a' := ?_) #[T,T,T,F,T,T,F,F,F,F] rfl rfl ZA ZF (Or.inl ⟨by rfl, ?_⟩) ?_ ?_
        rotate_left
        ·exact Z13
        rotate_left
        ·exact Z0
        refine pure_ (i := 6) (N := some 23) (v := ?_) (a' := ?_) #[T,T,T,F,T,T,T,F,F,F] rfl rfl ZA ZF (Or.inl ⟨by rfl, ?_⟩) ?_ ?_
        rotate_left
        ·exact Z13
        rotate_left
        ·exact Z0
        refine take_ (i := 3) (N := some 20) (v := ?_) (a' := ?_) #[T,T,T,T,T,T,T,F,F,F] rfl rfl (take_ofW HT_.out HW_.out (by kernel_rfl)) ZF (Or.inl ⟨by rfl, ?_⟩) hHeld ?_ ?_
        rotate_left
        ·exact Z28
        rotate_left
        ·exact Z0
        refine take_ (i := 7) (N := some 24) (v := ?_) (a' := ?_) #[T,T,T,T,T,T,T,T,F,F] rfl rfl (take_ofW HT_.out HW_.out (by kernel_rfl)) ZF (Or.inl ⟨by rfl, ?_⟩) hHeld ?_ ?_
        rotate_left
        ·exact Z28
        rotate_left
        ·exact Z0
        refine one_ (i := 8) (N := some 25) #[T,T,T,T,T,T,T,T,T,F] rfl rfl (one_of HT_.out (by kernel_rfl)) (by decide) (fun K hK => ?_)
        refine goes_ Try.func86 (by kernel_rfl) rfl #[.agg #[.int .i64 ((rd_T121 l0 x5_1).f0), .int .i64 ((rd_T121 l0 x5_1).f1)], .agg #[.int .i64 ((rd_T121 l1 x5_1).f0), .int .i64 ((rd_T121 l1 x5_1).f1)]] (by rfl) rfl rfl Z5 ?_
        with_reducible refine (laws_eqSlot.calls ((rd_T121 l0 x5_1).f0) ((rd_T121 l0 x5_1).f1) ((rd_T121 l1 x5_1).f0) ((rd_T121 l1 x5_1).f1) true _ A7.out).mono ?_
        rintro e w10 ⟨rfl, hb⟩
        refine ⟨_, rfl, ?_⟩
        have n0_ := A_ (below_step Z1 hb)
        clear HB
        have HB := n0_
        clear n0_
        (try clear hb)
        (try clear hb2)
        (try clear hk)
        (try clear hi)
        refine hK.out _ _ ⟨(ZC HB.out hw292_0 :), (ZC HB.out hw292_1 :), (ZC HB.out hw293_0 :), (ZC HB.out hw293_1 :)⟩ (fun hHeld => ?_)
        clear hK K
        refine norm_ (a' := ?_) ?_ ?_
        rotate_left
        ·exact Z27
        refine pure_ (i := 9) (N := some 26) (v := ?_) (a' := ?_) #[T,T,T,T,T,T,T,T,T,T] rfl rfl ZA ZF (Or.inl ⟨by rfl, ?_⟩) ?_ ?_
        rotate_left
        ·exact Z13
        rotate_left
        ·exact Z0
        refine done_ (done_of HT_.out (by kernel_rfl)) ?_
        try go_wp2
        go_roundg k1
        case measure => have := HK1.out; omega
        case rel => exact ⟨(wrap64 (x5_1 + 1)), Z17, H', ⟨by have := HK1.out; omega⟩, ⟨Z1⟩⟩
       ·replace c8 := Bool.eq_false_iff.mpr c8
        subst c8
        have H1 : (some false) = some r := by rw [if_neg (show ¬ (false = true) by decide)] at H; exact H
        clear H
        have H := H1
        clear H1
        obtain rfl := Option.some.inj H
        try go_wp2
        have n0_ := A_ (below_drew1 HB.out)
        clear HB
        have HB := n0_
        clear n0_
        have p292 : 0 ≤ (x5_1 : Int) := of_decide_eq_true Z14
        have q292 : x5_1 < (l0.length : Int) := of_decide_eq_true Z14
        obtain ⟨ad292, e292, hx292_0, hx292_1⟩ := at_T121 HR0.out x5_1 p292 q292
        have hw292_1 := hx292_1
        have hw292_0 := hx292_0
        cases e292
        replace hx292_0 := ZC HB.out hx292_0
        replace hx292_1 := ZC HB.out hx292_1
        replace p292 := eq_true p292
        replace q292 := eq_true q292
        have p293 : 0 ≤ (x5_1 : Int) := of_decide_eq_true Z14
        have q293 : x5_1 < (l1.length : Int) := of_decide_eq_true Z14
        obtain ⟨ad293, e293, hx293_0, hx293_1⟩ := at_T121 HR1.out x5_1 p293 q293
        have hw293_1 := hx293_1
        have hw293_0 := hx293_0
        cases e293
        replace hx293_0 := ZC HB.out hx293_0
        replace hx293_1 := ZC HB.out hx293_1
        replace p293 := eq_true p293
        replace q293 := eq_true q293
        refine start_ (n := 10) (S := fun w' => w'.cell? (ad292.add ((x5_1).toNat * 2)) = some (.int .i64 ((rd_T121 l0 x5_1).f0)) ∧ w'.cell? ⟨(ad292.add ((x5_1).toNat * 2)).block, (ad292.add ((x5_1).toNat * 2)).off + 1, none⟩ = some (.int .i64 ((rd_T121 l0 x5_1).f1)) ∧ w'.cell? (ad293.add ((x5_1).toNat * 2)) = some (.int .i64 ((rd_T121 l1 x5_1).f0)) ∧ w'.cell? ⟨(ad293.add ((x5_1).toNat * 2)).block, (ad293.add ((x5_1).toNat * 2)).off + 1, none⟩ = some (.int .i64 ((rd_T121 l1 x5_1).f1))) (ds := []) #[F,F,F,F,F,F,F,F,F,F] (by kernel_rfl) rfl rfl ⟨(ZC HB.out hw292_0 :), (ZC HB.out hw292_1 :), (ZC HB.out hw293_0 :), (ZC HB.out hw293_1 :)⟩ (fun hHeld => ?_); refine with_tabW laws_eqSlotS.tab6 laws_eqSlotS.bits6 (fun HT_ HW_ => ?_)
        generalize wr.drew = w11 at HB hx292_0 hx292_1 hx293_0 hx293_1 hHeld ⊢
        refine pure_ (i := 0) (N := some 17) (v := ?_) (a' := ?_) #[T,F,F,F,F,F,F,F,F,F] rfl rfl ZA ZF (Or.inl ⟨by rfl, ?_⟩) ?_ ?_
        rotate_left
        ·exact Z13
        rotate_left
        ·exact Z0
        refine pure_ (i := 1) (N := some 18) (v := ?_) (a' := ?_) #[T,T,F,F,F,F,F,F,F,F] rfl rfl ZA ZF (Or.inl ⟨by rfl, ?_⟩) ?_ ?_
        rotate_left
        ·exact Z13
        rotate_left
        ·exact Z0
        refine pure_ (i := 2) (N := some 19) (v := ?_) (a' := ?_) #[T,T,T,F,F,F,F,F,F,F] rfl rfl ZA ZF (Or.inl ⟨by rfl, ?_⟩) ?_ ?_
        rotate_left
        ·exact Z13
        rotate_left
        ·exact Z0
        refine pure_ (i := 4) (N := some 21) (v := ?_) (a' := ?_) #[T,T,T,F,T,F,F,F,F,F] rfl rfl ZA ZF (Or.inl ⟨by rfl, ?_⟩) ?_ ?_
        rotate_left
        ·exact Z13
        rotate_left
        ·exact Z0
        refine pure_ (i := 5) (N := some 22) (v := ?_) (a' := ?_) #[T,T,T,F,T,T,F,F,F,F] rfl rfl ZA ZF (Or.inl ⟨by rfl, ?_⟩) ?_ ?_
        rotate_left
        ·exact Z13
        rotate_left
        ·exact Z0
        refine pure_ (i := 6) (N := some 23) (v := ?_) (a' := ?_) #[T,T,T,F,T,T,T,F,F,F] rfl rfl ZA ZF (Or.inl ⟨by rfl, ?_⟩) ?_ ?_
        rotate_left
        ·exact Z13
        rotate_left
        ·exact Z0
        refine take_ (i := 3) (N := some 20) (v := ?_) (a' := ?_) #[T,T,T,T,T,T,T,F,F,F] rfl rfl (take_ofW HT_.out HW_.out (by kernel_rfl)) ZF (Or.inl ⟨by rfl, ?_⟩) hHeld ?_ ?_
        rotate_left
        ·exact Z28
        rotate_left
        ·exact Z0
        refine take_ (i := 7) (N := some 24) (v := ?_) (a' := ?_) #[T,T,T,T,T,T,T,T,F,F] rfl rfl (take_ofW HT_.out HW_.out (by kernel_rfl)) ZF (Or.inl ⟨by rfl, ?_⟩) hHeld ?_ ?_
        rotate_left
        ·exact Z28
        rotate_left
        ·exact Z0
        refine one_ (i := 8) (N := some 25) #[T,T,T,T,T,T,T,T,T,F] rfl rfl (one_of HT_.out (by kernel_rfl)) (by decide) (fun K hK => ?_)
        refine goes_ Try.func86 (by kernel_rfl) rfl #[.agg #[.int .i64 ((rd_T121 l0 x5_1).f0), .int .i64 ((rd_T121 l0 x5_1).f1)], .agg #[.int .i64 ((rd_T121 l1 x5_1).f0), .int .i64 ((rd_T121 l1 x5_1).f1)]] (by rfl) rfl rfl Z5 ?_
        with_reducible refine (laws_eqSlot.calls ((rd_T121 l0 x5_1).f0) ((rd_T121 l0 x5_1).f1) ((rd_T121 l1 x5_1).f0) ((rd_T121 l1 x5_1).f1) false _ A7.out).mono ?_
        rintro e w12 ⟨rfl, hb⟩
        refine ⟨_, rfl, ?_⟩
        have n0_ := A_ (below_step Z1 hb)
        clear HB
        have HB := n0_
        clear n0_
        (try clear hb)
        (try clear hb2)
        (try clear hk)
        (try clear hi)
        refine hK.out _ _ ⟨(ZC HB.out hw292_0 :), (ZC HB.out hw292_1 :), (ZC HB.out hw293_0 :), (ZC HB.out hw293_1 :)⟩ (fun hHeld => ?_)
        clear hK K
        refine norm_ (a' := ?_) ?_ ?_
        rotate_left
        ·exact Z27
        refine pure_ (i := 9) (N := some 26) (v := ?_) (a' := ?_) #[T,T,T,T,T,T,T,T,T,T] rfl rfl ZA ZF (Or.inl ⟨by rfl, ?_⟩) ?_ ?_
        rotate_left
        ·exact Z13
        rotate_left
        ·exact Z0
        refine done_ (done_of HT_.out (by kernel_rfl)) ?_
        try go_wp2
        go_ret
        exact ⟨Z7, Z1⟩
      ·rw [if_neg c6] at H
       exact absurd H (by simp)
     ·rw [if_neg c5] at H
      exact absurd H (by simp)
    ·rw [if_neg c4] at H
     have c4b0 : decide (x5_1 < (l0.length : Int)) = false := decide_eq_false c4
     clear c4
     obtain rfl := Option.some.inj H
     go_wp2
     go_ret
     exact ⟨Z7, Z1⟩
 ·rw [if_neg c3] at H
  have c3b0 : ((l0.length : Int) == (l1.length : Int)) = false := beq_eq_false_iff_ne.mpr c3
  have c3b1 : ((l0.length : Int) != (l1.length : Int)) = true := bne_iff_ne.mpr c3
  have c3b2 : (l0.length == l1.length) = false := by first | simpa using c3 | (simp at c3 ⊢; omega)
  obtain rfl := Option.some.inj H
  go_enter Try.func57, Try.ntmps57
  go_wp2
  go_ret
  exact ⟨Z7, Z1⟩
def laws_eqValue.f (a0_0 : Int) (a0_1 : Int) (a0_2 : ByteArray) (a1_0 : Int) (a1_1 : Int) (a1_2 : ByteArray) : Option (Bool) := if a0_0 = a1_0 then (if a0_1 = a1_1 then (if a0_2.toList = a1_2.toList then (some true) else (some false)) else (some false)) else (some false)
set_option maxHeartbeats 8000000 in
set_option maxRecDepth 100000 in
theorem laws_eqValue.calls (a0_0 : Int) (a0_1 : Int) (a0_2 : ByteArray) (a1_0 : Int) (a1_1 : Int) (a1_2 : ByteArray) (r : Bool) (w : World) (h : laws_eqValue.f a0_0 a0_1 a0_2 a1_0 a1_1 a1_2 = some r) :
  Calls Try.prog 97 #[.agg #[.int .i64 a0_0, .int .i64 a0_1, .string a0_2], .agg #[.int .i64 a1_0, .int .i64 a1_1, .string a1_2]] w fun e w' => e = .returned (.bool r) ∧ Below w.heap.size w w' := by
 have hu124 := Try.underlying124
 have HB := A_ (Below.refl w.heap.size w)
 have H : (if a0_0 = a1_0 then (if a0_1 = a1_1 then (if a0_2.toList = a1_2.toList then (some true) else (some false)) else (some false)) else (some false)) = some r := h
 clear h
 by_cases c3 : a0_0 = a1_0
 ·rw [if_pos c3] at H
  have c3b0 : (a0_0 == a1_0) = true := beq_iff_eq.mpr c3
  have c3b1 : (a0_0 != a1_0) = false := bne_eq_false_iff_eq.mpr c3
  clear c3
  by_cases c4 : a0_1 = a1_1
  ·rw [if_pos c4] at H
   have c4b0 : (a0_1 == a1_1) = true := beq_iff_eq.mpr c4
   have c4b1 : (a0_1 != a1_1) = false := bne_eq_false_iff_eq.mpr c4
   clear c4
   by_cases c5 : a0_2.toList = a1_2.toList
   ·rw [if_pos c5] at H
    have c5b0 : (a0_2.toList == a1_2.toList) = true := beq_iff_eq.mpr c5
    have c5b1 : (a0_2.toList != a1_2.toList) = false := bne_eq_false_iff_eq.mpr c5
    clear c5
    obtain rfl := Option.some.inj H
    go_enter Try.func97, Try.ntmps97
    go_wp2_with (first | ((with_reducible refine gate_dst (N := 2) rfl ?_); refine box_event ?hg (N := 2) ?hd (cs := #[.int .i64 a0_0, .int .i64 a0_1, .string a0_2]) (t := 124) ?hr ?_; (case hd => rfl); (case hg => rfl); (case hr => exact Z16); intro gb295 hg w6 hbox hb; have n0_ := A_ (below_step Z1 hb); have n1_ := A_ (hbox); have n2_ := A_ ((by rw [hg]; exact (below_size Z1) : w.heap.size ≤ gb295)); have n3_ := A_ ((by rw [hg]; exact (below_size Z1) : w.heap.size ≤ gb295)); clear HB; have HB := n0_; have BK295 := n1_; have GW295 := n2_; have GE295 := n3_; clear n0_ n1_ n2_ n3_; clear hb hbox hg) | ((with_reducible refine gate_dst (N := 3) rfl ?_); refine box_event ?hg (N := 3) ?hd (cs := #[.int .i64 a1_0, .int .i64 a1_1, .string a1_2]) (t := 124) ?hr ?_; (case hd => rfl); (case hg => rfl); (case hr => exact Z16); intro gb296 hg w7 hbox hb; have n0_ := A_ (blk_below (g := gb295) (o := .cells #[.int .i64 a0_0, .int .i64 a0_1, .string a0_2] 124 (0, 0)) (Z3 BK295.out) hb); have n1_ := A_ (below_step (Z2 GE295.out) hb); have n2_ := A_ (hbox); have n3_ := A_ ((by rw [hg]; exact (below_size (Z2 GE295.out)) : w.heap.size ≤ gb296)); have n4_ := A_ ((by rw [hg]; exact (below_size (Z2 GE295.out)) : w.heap.size ≤ gb296)); have n5_ := A_ ((by rw [hg]; exact Nat.ne_of_lt (blk_lt (g := gb295) (o := .cells #[.int .i64 a0_0, .int .i64 a0_1, .string a0_2] 124 (0, 0)) (Z3 BK295.out)) : gb295 ≠ gb296)); have n6_ := A_ ((by rw [hg]; exact Nat.ne_of_gt (blk_lt (g := gb295) (o := .cells #[.int .i64 a0_0, .int .i64 a0_1, .string a0_2] 124 (0, 0)) (Z3 BK295.out)) : gb296 ≠ gb295)); clear BK295; clear HB; have BK295 := n0_; have HB := n1_; have BK296 := n2_; have GW296 := n3_; have GE296 := n4_; have NB295_296 := n5_; have NB296_295 := n6_; clear n0_ n1_ n2_ n3_ n4_ n5_ n6_; clear hb hbox hg; have hnb8 := NB295_296.out; have hnc8 := NB296_295.out; have hcz9_0 : w7.cell? ⟨gb295, 0, none⟩ = some (.int .i64 a0_0) := (blk_cell BK295.out 0).trans rfl; have hcz9_1 : w7.cell? ⟨gb295, 1, none⟩ = some (.int .i64 a0_1) := (blk_cell BK295.out 1).trans rfl; have hcz9_2 : w7.cell? ⟨gb295, 2, none⟩ = some (.string a0_2) := (blk_cell BK295.out 2).trans rfl; have hfz9_0 := blk_frozen BK295.out 0; have hfz9_1 := blk_frozen BK295.out 1; have hfz9_2 := blk_frozen BK295.out 2; have hcz10_0 : w7.cell? ⟨gb296, 0, none⟩ = some (.int .i64 a1_0) := (blk_cell BK296.out 0).trans rfl; have hcz10_1 : w7.cell? ⟨gb296, 1, none⟩ = some (.int .i64 a1_1) := (blk_cell BK296.out 1).trans rfl; have hcz10_2 : w7.cell? ⟨gb296, 2, none⟩ = some (.string a1_2) := (blk_cell BK296.out 2).trans rfl; have hfz10_0 := blk_frozen BK296.out 0; have hfz10_1 := blk_frozen BK296.out 1; have hfz10_2 := blk_frozen BK296.out 2))
    go_ret
    exact ⟨Z7, Z6 GE295.out GE296.out⟩
   ·rw [if_neg c5] at H
    have c5b0 : (a0_2.toList == a1_2.toList) = false := beq_eq_false_iff_ne.mpr c5
    have c5b1 : (a0_2.toList != a1_2.toList) = true := bne_iff_ne.mpr c5
    obtain rfl := Option.some.inj H
    go_enter Try.func97, Try.ntmps97
    go_wp2_with (first | ((with_reducible refine gate_dst (N := 2) rfl ?_); refine box_event ?hg (N := 2) ?hd (cs := #[.int .i64 a0_0, .int .i64 a0_1, .string a0_2]) (t := 124) ?hr ?_; (case hd => rfl); (case hg => rfl); (case hr => exact Z16); intro gb295 hg w11 hbox hb; have n0_ := A_ (below_step Z1 hb); have n1_ := A_ (hbox); have n2_ := A_ ((by rw [hg]; exact (below_size Z1) : w.heap.size ≤ gb295)); have n3_ := A_ ((by rw [hg]; exact (below_size Z1) : w.heap.size ≤ gb295)); clear HB; have HB := n0_; have BK295 := n1_; have GW295 := n2_; have GE295 := n3_; clear n0_ n1_ n2_ n3_; clear hb hbox hg) | ((with_reducible refine gate_dst (N := 3) rfl ?_); refine box_event ?hg (N := 3) ?hd (cs := #[.int .i64 a1_0, .int .i64 a1_1, .string a1_2]) (t := 124) ?hr ?_; (case hd => rfl); (case hg => rfl); (case hr => exact Z16); intro gb296 hg w12 hbox hb; have n0_ := A_ (blk_below (g := gb295) (o := .cells #[.int .i64 a0_0, .int .i64 a0_1, .string a0_2] 124 (0, 0)) (Z3 BK295.out) hb); have n1_ := A_ (below_step (Z2 GE295.out) hb); have n2_ := A_ (hbox); have n3_ := A_ ((by rw [hg]; exact (below_size (Z2 GE295.out)) : w.heap.size ≤ gb296)); have n4_ := A_ ((by rw [hg]; exact (below_size (Z2 GE295.out)) : w.heap.size ≤ gb296)); have n5_ := A_ ((by rw [hg]; exact Nat.ne_of_lt (blk_lt (g := gb295) (o := .cells #[.int .i64 a0_0, .int .i64 a0_1, .string a0_2] 124 (0, 0)) (Z3 BK295.out)) : gb295 ≠ gb296)); have n6_ := A_ ((by rw [hg]; exact Nat.ne_of_gt (blk_lt (g := gb295) (o := .cells #[.int .i64 a0_0, .int .i64 a0_1, .string a0_2] 124 (0, 0)) (Z3 BK295.out)) : gb296 ≠ gb295)); clear BK295; clear HB; have BK295 := n0_; have HB := n1_; have BK296 := n2_; have GW296 := n3_; have GE296 := n4_; have NB295_296 := n5_; have NB296_295 := n6_; clear n0_ n1_ n2_ n3_ n4_ n5_ n6_; clear hb hbox hg; have hnb13 := NB295_296.out; have hnc13 := NB296_295.out; have hcz14_0 : w12.cell? ⟨gb295, 0, none⟩ = some (.int .i64 a0_0) := (blk_cell BK295.out 0).trans rfl; have hcz14_1 : w12.cell? ⟨gb295, 1, none⟩ = some (.int .i64 a0_1) := (blk_cell BK295.out 1).trans rfl; have hcz14_2 : w12.cell? ⟨gb295, 2, none⟩ = some (.string a0_2) := (blk_cell BK295.out 2).trans rfl; have hfz14_0 := blk_frozen BK295.out 0; have hfz14_1 := blk_frozen BK295.out 1; have hfz14_2 := blk_frozen BK295.out 2; have hcz15_0 : w12.cell? ⟨gb296, 0, none⟩ = some (.int .i64 a1_0) := (blk_cell BK296.out 0).trans rfl; have hcz15_1 : w12.cell? ⟨gb296, 1, none⟩ = some (.int .i64 a1_1) := (blk_cell BK296.out 1).trans rfl; have hcz15_2 : w12.cell? ⟨gb296, 2, none⟩ = some (.string a1_2) := (blk_cell BK296.out 2).trans rfl; have hfz15_0 := blk_frozen BK296.out 0; have hfz15_1 := blk_frozen BK296.out 1; have hfz15_2 := blk_frozen BK296.out 2))
    go_ret
    exact ⟨Z7, Z6 GE295.out GE296.out⟩
  ·rw [if_neg c4] at H
   have c4b0 : (a0_1 == a1_1) = false := beq_eq_false_iff_ne.mpr c4
   have c4b1 : (a0_1 != a1_1) = true := bne_iff_ne.mpr c4
   obtain rfl := Option.some.inj H
   go_enter Try.func97, Try.ntmps97
   go_wp2_with (first | ((with_reducible refine gate_dst (N := 2) rfl ?_); refine box_event ?hg (N := 2) ?hd (cs := #[.int .i64 a0_0, .int .i64 a0_1, .string a0_2]) (t := 124) ?hr ?_; (case hd => rfl); (case hg => rfl); (case hr => exact Z16); intro gb295 hg w16 hbox hb; have n0_ := A_ (below_step Z1 hb); have n1_ := A_ (hbox); have n2_ := A_ ((by rw [hg]; exact (below_size Z1) : w.heap.size ≤ gb295)); have n3_ := A_ ((by rw [hg]; exact (below_size Z1) : w.heap.size ≤ gb295)); clear HB; have HB := n0_; have BK295 := n1_; have GW295 := n2_; have GE295 := n3_; clear n0_ n1_ n2_ n3_; clear hb hbox hg) | ((with_reducible refine gate_dst (N := 3) rfl ?_); refine box_event ?hg (N := 3) ?hd (cs := #[.int .i64 a1_0, .int .i64 a1_1, .string a1_2]) (t := 124) ?hr ?_; (case hd => rfl); (case hg => rfl); (case hr => exact Z16); intro gb296 hg w17 hbox hb; have n0_ := A_ (blk_below (g := gb295) (o := .cells #[.int .i64 a0_0, .int .i64 a0_1, .string a0_2] 124 (0, 0)) (Z3 BK295.out) hb); have n1_ := A_ (below_step (Z2 GE295.out) hb); have n2_ := A_ (hbox); have n3_ := A_ ((by rw [hg]; exact (below_size (Z2 GE295.out)) : w.heap.size ≤ gb296)); have n4_ := A_ ((by rw [hg]; exact (below_size (Z2 GE295.out)) : w.heap.size ≤ gb296)); have n5_ := A_ ((by rw [hg]; exact Nat.ne_of_lt (blk_lt (g := gb295) (o := .cells #[.int .i64 a0_0, .int .i64 a0_1, .string a0_2] 124 (0, 0)) (Z3 BK295.out)) : gb295 ≠ gb296)); have n6_ := A_ ((by rw [hg]; exact Nat.ne_of_gt (blk_lt (g := gb295) (o := .cells #[.int .i64 a0_0, .int .i64 a0_1, .string a0_2] 124 (0, 0)) (Z3 BK295.out)) : gb296 ≠ gb295)); clear BK295; clear HB; have BK295 := n0_; have HB := n1_; have BK296 := n2_; have GW296 := n3_; have GE296 := n4_; have NB295_296 := n5_; have NB296_295 := n6_; clear n0_ n1_ n2_ n3_ n4_ n5_ n6_; clear hb hbox hg; have hnb18 := NB295_296.out; have hnc18 := NB296_295.out; have hcz19_0 : w17.cell? ⟨gb295, 0, none⟩ = some (.int .i64 a0_0) := (blk_cell BK295.out 0).trans rfl; have hcz19_1 : w17.cell? ⟨gb295, 1, none⟩ = some (.int .i64 a0_1) := (blk_cell BK295.out 1).trans rfl; have hcz19_2 : w17.cell? ⟨gb295, 2, none⟩ = some (.string a0_2) := (blk_cell BK295.out 2).trans rfl; have hfz19_0 := blk_frozen BK295.out 0; have hfz19_1 := blk_frozen BK295.out 1; have hfz19_2 := blk_frozen BK295.out 2; have hcz20_0 : w17.cell? ⟨gb296, 0, none⟩ = some (.int .i64 a1_0) := (blk_cell BK296.out 0).trans rfl; have hcz20_1 : w17.cell? ⟨gb296, 1, none⟩ = some (.int .i64 a1_1) := (blk_cell BK296.out 1).trans rfl; have hcz20_2 : w17.cell? ⟨gb296, 2, none⟩ = some (.string a1_2) := (blk_cell BK296.out 2).trans rfl; have hfz20_0 := blk_frozen BK296.out 0; have hfz20_1 := blk_frozen BK296.out 1; have hfz20_2 := blk_frozen BK296.out 2))
   go_ret
   exact ⟨Z7, Z6 GE295.out GE296.out⟩
 ·rw [if_neg c3] at H
  have c3b0 : (a0_0 == a1_0) = false := beq_eq_false_iff_ne.mpr c3
  have c3b1 : (a0_0 != a1_0) = true := bne_iff_ne.mpr c3
  obtain rfl := Option.some.inj H
  go_enter Try.func97, Try.ntmps97
  go_wp2_with (first | ((with_reducible refine gate_dst (N := 2) rfl ?_); refine box_event ?hg (N := 2) ?hd (cs := #[.int .i64 a0_0, .int .i64 a0_1, .string a0_2]) (t := 124) ?hr ?_; (case hd => rfl); (case hg => rfl); (case hr => exact Z16); intro gb295 hg w21 hbox hb; have n0_ := A_ (below_step Z1 hb); have n1_ := A_ (hbox); have n2_ := A_ ((by rw [hg]; exact (below_size Z1) : w.heap.size ≤ gb295)); have n3_ := A_ ((by rw [hg]; exact (below_size Z1) : w.heap.size ≤ gb295)); clear HB; have HB := n0_; have BK295 := n1_; have GW295 := n2_; have GE295 := n3_; clear n0_ n1_ n2_ n3_; clear hb hbox hg) | ((with_reducible refine gate_dst (N := 3) rfl ?_); refine box_event ?hg (N := 3) ?hd (cs := #[.int .i64 a1_0, .int .i64 a1_1, .string a1_2]) (t := 124) ?hr ?_; (case hd => rfl); (case hg => rfl); (case hr => exact Z16); intro gb296 hg w22 hbox hb; have n0_ := A_ (blk_below (g := gb295) (o := .cells #[.int .i64 a0_0, .int .i64 a0_1, .string a0_2] 124 (0, 0)) (Z3 BK295.out) hb); have n1_ := A_ (below_step (Z2 GE295.out) hb); have n2_ := A_ (hbox); have n3_ := A_ ((by rw [hg]; exact (below_size (Z2 GE295.out)) : w.heap.size ≤ gb296)); have n4_ := A_ ((by rw [hg]; exact (below_size (Z2 GE295.out)) : w.heap.size ≤ gb296)); have n5_ := A_ ((by rw [hg]; exact Nat.ne_of_lt (blk_lt (g := gb295) (o := .cells #[.int .i64 a0_0, .int .i64 a0_1, .string a0_2] 124 (0, 0)) (Z3 BK295.out)) : gb295 ≠ gb296)); have n6_ := A_ ((by rw [hg]; exact Nat.ne_of_gt (blk_lt (g := gb295) (o := .cells #[.int .i64 a0_0, .int .i64 a0_1, .string a0_2] 124 (0, 0)) (Z3 BK295.out)) : gb296 ≠ gb295)); clear BK295; clear HB; have BK295 := n0_; have HB := n1_; have BK296 := n2_; have GW296 := n3_; have GE296 := n4_; have NB295_296 := n5_; have NB296_295 := n6_; clear n0_ n1_ n2_ n3_ n4_ n5_ n6_; clear hb hbox hg; have hnb23 := NB295_296.out; have hnc23 := NB296_295.out; have hcz24_0 : w22.cell? ⟨gb295, 0, none⟩ = some (.int .i64 a0_0) := (blk_cell BK295.out 0).trans rfl; have hcz24_1 : w22.cell? ⟨gb295, 1, none⟩ = some (.int .i64 a0_1) := (blk_cell BK295.out 1).trans rfl; have hcz24_2 : w22.cell? ⟨gb295, 2, none⟩ = some (.string a0_2) := (blk_cell BK295.out 2).trans rfl; have hfz24_0 := blk_frozen BK295.out 0; have hfz24_1 := blk_frozen BK295.out 1; have hfz24_2 := blk_frozen BK295.out 2; have hcz25_0 : w22.cell? ⟨gb296, 0, none⟩ = some (.int .i64 a1_0) := (blk_cell BK296.out 0).trans rfl; have hcz25_1 : w22.cell? ⟨gb296, 1, none⟩ = some (.int .i64 a1_1) := (blk_cell BK296.out 1).trans rfl; have hcz25_2 : w22.cell? ⟨gb296, 2, none⟩ = some (.string a1_2) := (blk_cell BK296.out 2).trans rfl; have hfz25_0 := blk_frozen BK296.out 0; have hfz25_1 := blk_frozen BK296.out 1; have hfz25_2 := blk_frozen BK296.out 2))
  go_ret
  exact ⟨Z7, Z6 GE295.out GE296.out⟩
end Go.Proofs.Ytmphggpibaolcaa.PFnExactUpdateHas
