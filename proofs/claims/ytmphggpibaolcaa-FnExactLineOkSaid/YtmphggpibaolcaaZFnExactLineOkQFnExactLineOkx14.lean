/- Walks of the functions that the law 'FnExactLineOk' reaches, part 14: for each a Lean function and the proof that Go's comes to just its answer (lines of the print, under own names; no condition). -/
import Derived.Test.YtmphggpibaolcaaZFnExactLineOkQFnExactLineOkx0
import Derived.Test.YtmphggpibaolcaaZFnExactLineOkQFnExactLineOkx13
namespace Go.Proofs.Ytmphggpibaolcaa.PFnExactLineOk
open Go.RowKit Go.Proofs.YtmphggpibaolcaaW.PrintWords Go.Proofs.YtmphggpibaolcaaW.PrintLast Go.Proofs.YtmphggpibaolcaaW.PrintMore
attribute [local go_sem] max2_int min2_int max_two min_two max_three min_three max_four min_four
set_option linter.unusedVariables false
set_option linter.unusedSimpArgs false
def laws_eqValue.f (a0_0 : Int) (a0_1 : Int) (a0_2 : ByteArray) (a1_0 : Int) (a1_1 : Int) (a1_2 : ByteArray) : Option (Bool) := if a0_0 = a1_0 then (if a0_1 = a1_1 then (if a0_2.toList = a1_2.toList then (some true) else (some false)) else (some false)) else (some false)
set_option maxHeartbeats 8000000 in
set_option maxRecDepth 100000 in
theorem laws_eqValue.calls (a0_0 : Int) (a0_1 : Int) (a0_2 : ByteArray) (a1_0 : Int) (a1_1 : Int) (a1_2 : ByteArray) (r : Bool) (w : World) (h : laws_eqValue.f a0_0 a0_1 a0_2 a1_0 a1_1 a1_2 = some r) :
  Calls Try.prog 97 #[.agg #[.int .i64 a0_0, .int .i64 a0_1, .string a0_2], .agg #[.int .i64 a1_0, .int .i64 a1_1, .string a1_2]] w fun e w' => e = .returned (.bool r) ∧ Below w.heap.size w w' := by
 have hu124 := Try.underlying124
 have HB := A_ (Below.refl w.heap.size w)
 have H : (if a0_0 = a1_0 then (if a0_1 = a1_1 then (if a0_2.toList = a1_2.toList then (some true) else (some false)) else (some false)) else (some false)) = some r := h
 clear h
 by_cases c3 : a0_0 = a1_0
 ·rw [if_pos c3] at H
  have c3b0 : (a0_0 == a1_0) = true := beq_iff_eq.mpr c3
  have c3b1 : (a0_0 != a1_0) = false := bne_eq_false_iff_eq.mpr c3
  clear c3
  by_cases c4 : a0_1 = a1_1
  ·rw [if_pos c4] at H
   have c4b0 : (a0_1 == a1_1) = true := beq_iff_eq.mpr c4
   have c4b1 : (a0_1 != a1_1) = false := bne_eq_false_iff_eq.mpr c4
   clear c4
   by_cases c5 : a0_2.toList = a1_2.toList
   ·rw [if_pos c5] at H
    have c5b0 : (a0_2.toList == a1_2.toList) = true := beq_iff_eq.mpr c5
    have c5b1 : (a0_2.toList != a1_2.toList) = false := bne_eq_false_iff_eq.mpr c5
    clear c5
    obtain rfl := Option.some.inj H
    go_enter Try.func97, Try.ntmps97
    go_wp2_with (first | ((with_reducible refine gate_dst (N := 2) rfl ?_); refine box_event ?hg (N := 2) ?hd (cs := #[.int .i64 a0_0, .int .i64 a0_1, .string a0_2]) (t := 124) ?hr ?_; (case hd => rfl); (case hg => rfl); (case hr => exact Z15); intro gb310 hg w6 hbox hb; have n0_ := A_ (below_step Z0 hb); have n1_ := A_ (hbox); have n2_ := A_ ((by rw [hg]; exact (below_size Z0) : w.heap.size ≤ gb310)); have n3_ := A_ ((by rw [hg]; exact (below_size Z0) : w.heap.size ≤ gb310)); clear HB; have HB := n0_; have BK310 := n1_; have GW310 := n2_; have GE310 := n3_; clear n0_ n1_ n2_ n3_; clear hb hbox hg) | ((with_reducible refine gate_dst (N := 3) rfl ?_); refine box_event ?hg (N := 3) ?hd (cs := #[.int .i64 a1_0, .int .i64 a1_1, .string a1_2]) (t := 124) ?hr ?_; (case hd => rfl); (case hg => rfl); (case hr => exact Z15); intro gb311 hg w7 hbox hb; have n0_ := A_ (blk_below (g := gb310) (o := .cells #[.int .i64 a0_0, .int .i64 a0_1, .string a0_2] 124 (0, 0)) (Z3 BK310.out) hb); have n1_ := A_ (below_step (Z2 GE310.out) hb); have n2_ := A_ (hbox); have n3_ := A_ ((by rw [hg]; exact (below_size (Z2 GE310.out)) : w.heap.size ≤ gb311)); have n4_ := A_ ((by rw [hg]; exact (below_size (Z2 GE310.out)) : w.heap.size ≤ gb311)); have n5_ := A_ ((by rw [hg]; exact Nat.ne_of_lt (blk_lt (g := gb310) (o := .cells #[.int .i64 a0_0, .int .i64 a0_1, .string a0_2] 124 (0, 0)) (Z3 BK310.out)) : gb310 ≠ gb311)); have n6_ := A_ ((by rw [hg]; exact Nat.ne_of_gt (blk_lt (g := gb310) (o := .cells #[.int .i64 a0_0, .int .i64 a0_1, .string a0_2] 124 (0, 0)) (Z3 BK310.out)) : gb311 ≠ gb310)); clear BK310; clear HB; have BK310 := n0_; have HB := n1_; have BK311 := n2_; have GW311 := n3_; have GE311 := n4_; have NB310_311 := n5_; have NB311_310 := n6_; clear n0_ n1_ n2_ n3_ n4_ n5_ n6_; clear hb hbox hg; have hnb8 := NB310_311.out; have hnc8 := NB311_310.out; have hcz9_0 : w7.cell? ⟨gb310, 0, none⟩ = some (.int .i64 a0_0) := (blk_cell BK310.out 0).trans rfl; have hcz9_1 : w7.cell? ⟨gb310, 1, none⟩ = some (.int .i64 a0_1) := (blk_cell BK310.out 1).trans rfl; have hcz9_2 : w7.cell? ⟨gb310, 2, none⟩ = some (.string a0_2) := (blk_cell BK310.out 2).trans rfl; have hfz9_0 := blk_frozen BK310.out 0; have hfz9_1 := blk_frozen BK310.out 1; have hfz9_2 := blk_frozen BK310.out 2; have hcz10_0 : w7.cell? ⟨gb311, 0, none⟩ = some (.int .i64 a1_0) := (blk_cell BK311.out 0).trans rfl; have hcz10_1 : w7.cell? ⟨gb311, 1, none⟩ = some (.int .i64 a1_1) := (blk_cell BK311.out 1).trans rfl; have hcz10_2 : w7.cell? ⟨gb311, 2, none⟩ = some (.string a1_2) := (blk_cell BK311.out 2).trans rfl; have hfz10_0 := blk_frozen BK311.out 0; have hfz10_1 := blk_frozen BK311.out 1; have hfz10_2 := blk_frozen BK311.out 2))
    go_ret
    exact ⟨Z7, Z6 GE310.out GE311.out⟩
   ·rw [if_neg c5] at H
    have c5b0 : (a0_2.toList == a1_2.toList) = false := beq_eq_false_iff_ne.mpr c5
    have c5b1 : (a0_2.toList != a1_2.toList) = true := bne_iff_ne.mpr c5
    obtain rfl := Option.some.inj H
    go_enter Try.func97, Try.ntmps97
    go_wp2_with (first | ((with_reducible refine gate_dst (N := 2) rfl ?_); refine box_event ?hg (N := 2) ?hd (cs := #[.int .i64 a0_0, .int .i64 a0_1, .string a0_2]) (t := 124) ?hr ?_; (case hd => rfl); (case hg => rfl); (case hr => exact Z15); intro gb310 hg w11 hbox hb; have n0_ := A_ (below_step Z0 hb); have n1_ := A_ (hbox); have n2_ := A_ ((by rw [hg]; exact (below_size Z0) : w.heap.size ≤ gb310)); have n3_ := A_ ((by rw [hg]; exact (below_size Z0) : w.heap.size ≤ gb310)); clear HB; have HB := n0_; have BK310 := n1_; have GW310 := n2_; have GE310 := n3_; clear n0_ n1_ n2_ n3_; clear hb hbox hg) | ((with_reducible refine gate_dst (N := 3) rfl ?_); refine box_event ?hg (N := 3) ?hd (cs := #[.int .i64 a1_0, .int .i64 a1_1, .string a1_2]) (t := 124) ?hr ?_; (case hd => rfl); (case hg => rfl); (case hr => exact Z15); intro gb311 hg w12 hbox hb; have n0_ := A_ (blk_below (g := gb310) (o := .cells #[.int .i64 a0_0, .int .i64 a0_1, .string a0_2] 124 (0, 0)) (Z3 BK310.out) hb); have n1_ := A_ (below_step (Z2 GE310.out) hb); have n2_ := A_ (hbox); have n3_ := A_ ((by rw [hg]; exact (below_size (Z2 GE310.out)) : w.heap.size ≤ gb311)); have n4_ := A_ ((by rw [hg]; exact (below_size (Z2 GE310.out)) : w.heap.size ≤ gb311)); have n5_ := A_ ((by rw [hg]; exact Nat.ne_of_lt (blk_lt (g := gb310) (o := .cells #[.int .i64 a0_0, .int .i64 a0_1, .string a0_2] 124 (0, 0)) (Z3 BK310.out)) : gb310 ≠ gb311)); have n6_ := A_ ((by rw [hg]; exact Nat.ne_of_gt (blk_lt (g := gb310) (o := .cells #[.int .i64 a0_0, .int .i64 a0_1, .string a0_2] 124 (0, 0)) (Z3 BK310.out)) : gb311 ≠ gb310)); clear BK310; clear HB; have BK310 := n0_; have HB := n1_; have BK311 := n2_; have GW311 := n3_; have GE311 := n4_; have NB310_311 := n5_; have NB311_310 := n6_; clear n0_ n1_ n2_ n3_ n4_ n5_ n6_; clear hb hbox hg; have hnb13 := NB310_311.out; have hnc13 := NB311_310.out; have hcz14_0 : w12.cell? ⟨gb310, 0, none⟩ = some (.int .i64 a0_0) := (blk_cell BK310.out 0).trans rfl; have hcz14_1 : w12.cell? ⟨gb310, 1, none⟩ = some (.int .i64 a0_1) := (blk_cell BK310.out 1).trans rfl; have hcz14_2 : w12.cell? ⟨gb310, 2, none⟩ = some (.string a0_2) := (blk_cell BK310.out 2).trans rfl; have hfz14_0 := blk_frozen BK310.out 0; have hfz14_1 := blk_frozen BK310.out 1; have hfz14_2 := blk_frozen BK310.out 2; have hcz15_0 : w12.cell? ⟨gb311, 0, none⟩ = some (.int .i64 a1_0) := (blk_cell BK311.out 0).trans rfl; have hcz15_1 : w12.cell? ⟨gb311, 1, none⟩ = some (.int .i64 a1_1) := (blk_cell BK311.out 1).trans rfl; have hcz15_2 : w12.cell? ⟨gb311, 2, none⟩ = some (.string a1_2) := (blk_cell BK311.out 2).trans rfl; have hfz15_0 := blk_frozen BK311.out 0; have hfz15_1 := blk_frozen BK311.out 1; have hfz15_2 := blk_frozen BK311.out 2))
    go_ret
    exact ⟨Z7, Z6 GE310.out GE311.out⟩
  ·rw [if_neg c4] at H
   have c4b0 : (a0_1 == a1_1) = false := beq_eq_false_iff_ne.mpr c4
   have c4b1 : (a0_1 != a1_1) = true := bne_iff_ne.mpr c4
   obtain rfl := Option.some.inj H
   go_enter Try.func97, Try.ntmps97
   go_wp2_with (first | ((with_reducible refine gate_dst (N := 2) rfl ?_); refine box_event ?hg (N := 2) ?hd (cs := #[.int .i64 a0_0, .int .i64 a0_1, .string a0_2]) (t := 124) ?hr ?_; (case hd => rfl); (case hg => rfl); (case hr => exact Z15); intro gb310 hg w16 hbox hb; have n0_ := A_ (below_step Z0 hb); have n1_ := A_ (hbox); have n2_ := A_ ((by rw [hg]; exact (below_size Z0) : w.heap.size ≤ gb310)); have n3_ := A_ ((by rw [hg]; exact (below_size Z0) : w.heap.size ≤ gb310)); clear HB; have HB := n0_; have BK310 := n1_; have GW310 := n2_; have GE310 := n3_; clear n0_ n1_ n2_ n3_; clear hb hbox hg) | ((with_reducible refine gate_dst (N := 3) rfl ?_); refine box_event ?hg (N := 3) ?hd (cs := #[.int .i64 a1_0, .int .i64 a1_1, .string a1_2]) (t := 124) ?hr ?_; (case hd => rfl); (case hg => rfl); (case hr => exact Z15); intro gb311 hg w17 hbox hb; have n0_ := A_ (blk_below (g := gb310) (o := .cells #[.int .i64 a0_0, .int .i64 a0_1, .string a0_2] 124 (0, 0)) (Z3 BK310.out) hb); have n1_ := A_ (below_step (Z2 GE310.out) hb); have n2_ := A_ (hbox); have n3_ := A_ ((by rw [hg]; exact (below_size (Z2 GE310.out)) : w.heap.size ≤ gb311)); have n4_ := A_ ((by rw [hg]; exact (below_size (Z2 GE310.out)) : w.heap.size ≤ gb311)); have n5_ := A_ ((by rw [hg]; exact Nat.ne_of_lt (blk_lt (g := gb310) (o := .cells #[.int .i64 a0_0, .int .i64 a0_1, .string a0_2] 124 (0, 0)) (Z3 BK310.out)) : gb310 ≠ gb311)); have n6_ := A_ ((by rw [hg]; exact Nat.ne_of_gt (blk_lt (g := gb310) (o := .cells #[.int .i64 a0_0, .int .i64 a0_1, .string a0_2] 124 (0, 0)) (Z3 BK310.out)) : gb311 ≠ gb310)); clear BK310; clear HB; have BK310 := n0_; have HB := n1_; have BK311 := n2_; have GW311 := n3_; have GE311 := n4_; have NB310_311 := n5_; have NB311_310 := n6_; clear n0_ n1_ n2_ n3_ n4_ n5_ n6_; clear hb hbox hg; have hnb18 := NB310_311.out; have hnc18 := NB311_310.out; have hcz19_0 : w17.cell? ⟨gb310, 0, none⟩ = some (.int .i64 a0_0) := (blk_cell BK310.out 0).trans rfl; have hcz19_1 : w17.cell? ⟨gb310, 1, none⟩ = some (.int .i64 a0_1) := (blk_cell BK310.out 1).trans rfl; have hcz19_2 : w17.cell? ⟨gb310, 2, none⟩ = some (.string a0_2) := (blk_cell BK310.out 2).trans rfl; have hfz19_0 := blk_frozen BK310.out 0; have hfz19_1 := blk_frozen BK310.out 1; have hfz19_2 := blk_frozen BK310.out 2; have hcz20_0 : w17.cell? ⟨gb311, 0, none⟩ = some (.int .i64 a1_0) := (blk_cell BK311.out 0).trans rfl; have hcz20_1 : w17.cell? ⟨gb311, 1, none⟩ = some (.int .i64 a1_1) := (blk_cell BK311.out 1).trans rfl; have hcz20_2 : w17.cell? ⟨gb311, 2, none⟩ = some (.string a1_2) := (blk_cell BK311.out 2).trans rfl; have hfz20_0 := blk_frozen BK311.out 0; have hfz20_1 := blk_frozen BK311.out 1; have hfz20_2 := blk_frozen BK311.out 2))
   go_ret
   exact ⟨Z7, Z6 GE310.out GE311.out⟩
 ·rw [if_neg c3] at H
  have c3b0 : (a0_0 == a1_0) = false := beq_eq_false_iff_ne.mpr c3
  have c3b1 : (a0_0 != a1_0) = true := bne_iff_ne.mpr c3
  obtain rfl := Option.some.inj H
  go_enter Try.func97, Try.ntmps97
  go_wp2_with (first | ((with_reducible refine gate_dst (N := 2) rfl ?_); refine box_event ?hg (N := 2) ?hd (cs := #[.int .i64 a0_0, .int .i64 a0_1, .string a0_2]) (t := 124) ?hr ?_; (case hd => rfl); (case hg => rfl); (case hr => exact Z15); intro gb310 hg w21 hbox hb; have n0_ := A_ (below_step Z0 hb); have n1_ := A_ (hbox); have n2_ := A_ ((by rw [hg]; exact (below_size Z0) : w.heap.size ≤ gb310)); have n3_ := A_ ((by rw [hg]; exact (below_size Z0) : w.heap.size ≤ gb310)); clear HB; have HB := n0_; have BK310 := n1_; have GW310 := n2_; have GE310 := n3_; clear n0_ n1_ n2_ n3_; clear hb hbox hg) | ((with_reducible refine gate_dst (N := 3) rfl ?_); refine box_event ?hg (N := 3) ?hd (cs := #[.int .i64 a1_0, .int .i64 a1_1, .string a1_2]) (t := 124) ?hr ?_; (case hd => rfl); (case hg => rfl); (case hr => exact Z15); intro gb311 hg w22 hbox hb; have n0_ := A_ (blk_below (g := gb310) (o := .cells #[.int .i64 a0_0, .int .i64 a0_1, .string a0_2] 124 (0, 0)) (Z3 BK310.out) hb); have n1_ := A_ (below_step (Z2 GE310.out) hb); have n2_ := A_ (hbox); have n3_ := A_ ((by rw [hg]; exact (below_size (Z2 GE310.out)) : w.heap.size ≤ gb311)); have n4_ := A_ ((by rw [hg]; exact (below_size (Z2 GE310.out)) : w.heap.size ≤ gb311)); have n5_ := A_ ((by rw [hg]; exact Nat.ne_of_lt (blk_lt (g := gb310) (o := .cells #[.int .i64 a0_0, .int .i64 a0_1, .string a0_2] 124 (0, 0)) (Z3 BK310.out)) : gb310 ≠ gb311)); have n6_ := A_ ((by rw [hg]; exact Nat.ne_of_gt (blk_lt (g := gb310) (o := .cells #[.int .i64 a0_0, .int .i64 a0_1, .string a0_2] 124 (0, 0)) (Z3 BK310.out)) : gb311 ≠ gb310)); clear BK310; clear HB; have BK310 := n0_; have HB := n1_; have BK311 := n2_; have GW311 := n3_; have GE311 := n4_; have NB310_311 := n5_; have NB311_310 := n6_; clear n0_ n1_ n2_ n3_ n4_ n5_ n6_; clear hb hbox hg; have hnb23 := NB310_311.out; have hnc23 := NB311_310.out; have hcz24_0 : w22.cell? ⟨gb310, 0, none⟩ = some (.int .i64 a0_0) := (blk_cell BK310.out 0).trans rfl; have hcz24_1 : w22.cell? ⟨gb310, 1, none⟩ = some (.int .i64 a0_1) := (blk_cell BK310.out 1).trans rfl; have hcz24_2 : w22.cell? ⟨gb310, 2, none⟩ = some (.string a0_2) := (blk_cell BK310.out 2).trans rfl; have hfz24_0 := blk_frozen BK310.out 0; have hfz24_1 := blk_frozen BK310.out 1; have hfz24_2 := blk_frozen BK310.out 2; have hcz25_0 : w22.cell? ⟨gb311, 0, none⟩ = some (.int .i64 a1_0) := (blk_cell BK311.out 0).trans rfl; have hcz25_1 : w22.cell? ⟨gb311, 1, none⟩ = some (.int .i64 a1_1) := (blk_cell BK311.out 1).trans rfl; have hcz25_2 : w22.cell? ⟨gb311, 2, none⟩ = some (.string a1_2) := (blk_cell BK311.out 2).trans rfl; have hfz25_0 := blk_frozen BK311.out 0; have hfz25_1 := blk_frozen BK311.out 1; have hfz25_2 := blk_frozen BK311.out 2))
  go_ret
  exact ⟨Z7, Z6 GE310.out GE311.out⟩
def laws_eqValueS.l0 : Nat → List (S124) → List (S124) → Int → Option (Bool)
 | 0, _, _, _ => none
 | k + 1, x0, x1, x5 => if x5 < (x0.length : Int) then (if 0 ≤ x5 then (if x5 < (x1.length : Int) then ((laws_eqValue.f ((rd_T124 x0 x5).f0) ((rd_T124 x0 x5).f1) ((rd_T124 x0 x5).f2) ((rd_T124 x1 x5).f0) ((rd_T124 x1 x5).f1) ((rd_T124 x1 x5).f2)).bind fun t314 => (if t314 = true then (laws_eqValueS.l0 k x0 x1 (wrap64 (x5 + 1))) else (some false))) else (none)) else (none)) else (some true)
def laws_eqValueS.f (k : Nat) (l0 : List (S124)) (l1 : List (S124)) : Option (Bool) := if (l0.length : Int) = (l1.length : Int) then (laws_eqValueS.l0 k l0 l1 0) else (some false)
theorem laws_eqValueS.mono_l : ∀ k, (∀ y0 y1 y2, LeO (laws_eqValueS.l0 k y0 y1 y2) (laws_eqValueS.l0 (k + 1) y0 y1 y2))
 | 0 => fun _ _ _ r h => by simp [laws_eqValueS.l0] at h
 | k + 1 => by
  have ih0 := laws_eqValueS.mono_l k
  ·intro y0 y1 y2
   unfold laws_eqValueS.l0
   repeat' first
   | (with_reducible exact ih0 _ _ _)
   | (with_reducible exact LeO.refl _)
   | (with_reducible exact LeO.none _)
   | (with_reducible refine LeO.ite ?_ ?_)
   | (with_reducible refine LeO.bind ?_ (fun _ => ?_))
   | exact ih0 _ _ _
   | exact LeO.none _
   | refine LeO.ite ?_ ?_
   | refine LeO.bind ?_ (fun _ => ?_)
theorem laws_eqValueS.mono : ∀ a0 a1 k, LeO (laws_eqValueS.f k a0 a1) (laws_eqValueS.f (k + 1) a0 a1) := by
 intro a0 a1 k
 have ih0 := laws_eqValueS.mono_l k
 unfold laws_eqValueS.f
 repeat' first
   | (with_reducible exact ih0 _ _ _)
   | (with_reducible exact LeO.refl _)
   | (with_reducible exact LeO.none _)
   | (with_reducible refine LeO.ite ?_ ?_)
   | (with_reducible refine LeO.bind ?_ (fun _ => ?_))
   | exact ih0 _ _ _
   | exact LeO.none _
   | refine LeO.ite ?_ ?_
   | refine LeO.bind ?_ (fun _ => ?_)
def laws_eqValueS.T6 : Bool × List (List Nat × List Nat) := (true, [([], []), ([], []), ([0, 1], [0, 1]), ([2], [2]), ([], []), ([], []), ([4, 5], [4, 5]), ([6], [6]), ([3, 7], [3, 7]), ([8], [8])])
def laws_eqValueS.B6 : List Nat := [0, 0, 3, 7, 0, 0, 48, 112, 255, 511]
theorem laws_eqValueS.tab6 : rtab .any (opsOf Try.f85 6) = laws_eqValueS.T6 := by kernel_rfl
theorem laws_eqValueS.bits6 : waitsOk laws_eqValueS.T6.2 laws_eqValueS.B6 = true := by kernel_rfl
set_option maxHeartbeats 8000000 in
set_option maxRecDepth 100000 in
theorem laws_eqValueS.calls (k : Nat) (A0 : Option Addr) (c0 : Nat) (l0 : List (S124)) (A1 : Option Addr) (c1 : Nat) (l1 : List (S124)) (r : Bool) (w : World) (hr0 : Kd.C k124 w A0 l0.length l0) (hc0 : l0.length ≤ c0) (hr1 : Kd.C k124 w A1 l1.length l1) (hc1 : l1.length ≤ c1) (h : laws_eqValueS.f k l0 l1 = some r) :
  Calls Try.prog 85 #[.slice A0 l0.length c0, .slice A1 l1.length c1] w fun e w' => e = .returned (.bool r) ∧ Below w.heap.size w w' := by
 have hu124 := Try.underlying124
 have HR0 := A_ hr0
 have HC0 := A_ hc0
 clear hr0 hc0
 have HR1 := A_ hr1
 have HC1 := A_ hc1
 clear hr1 hc1
 have HB := A_ (Below.refl w.heap.size w)
 have H : (if (l0.length : Int) = (l1.length : Int) then (laws_eqValueS.l0 k l0 l1 0) else (some false)) = some r := h
 clear h
 by_cases c3 : (l0.length : Int) = (l1.length : Int)
 ·rw [if_pos c3] at H
  have c3b0 : ((l0.length : Int) == (l1.length : Int)) = true := beq_iff_eq.mpr c3
  have c3b1 : ((l0.length : Int) != (l1.length : Int)) = false := bne_eq_false_iff_eq.mpr c3
  have c3b2 : (l0.length == l1.length) = true := by first | simpa using c3 | (simp at c3 ⊢; omega)
  clear c3
  have H' := A_ H
  clear H
  go_enter Try.func85, Try.ntmps85
  go_wp2
  go_loopg [5] k (fun kq v5 w' => ∃ (x5_1 : Int), v5 = .int .i64 x5_1 ∧ Aside0 (laws_eqValueS.l0 kq l0 l1 x5_1 = some r) ∧ Aside0 (kq ≤ k) ∧ Aside0 (Below w.heap.size w w'))
  case atStart => exact ⟨(0), Z16, H', ⟨Nat.le_refl _⟩, ⟨Z0⟩⟩
  case round =>
   clear H'
   try clear c1
   try clear p2
   try clear c3
   try clear c3b0
   try clear c3b1
   try clear c3b2
   obtain ⟨x5_1, rfl, HA, HK1, HB⟩ := hrel
   cases gk with
   | zero => exact absurd HA.out (by simp [laws_eqValueS.l0])
   | succ k1 =>
    have H := HA.out
    clear HA
    simp only [laws_eqValueS.l0] at H
    by_cases c4 : x5_1 < (l0.length : Int)
    ·rw [if_pos c4] at H
     have c4b0 : decide (x5_1 < (l0.length : Int)) = true := decide_eq_true c4
     clear c4
     by_cases c5 : 0 ≤ x5_1
     ·rw [if_pos c5] at H
      have c5b0 : decide (0 ≤ x5_1) = true := decide_eq_true c5
      clear c5
      by_cases c6 : x5_1 < (l1.length : Int)
      ·rw [if_pos c6] at H
       have c6b0 : decide (x5_1 < (l1.length : Int)) = true := decide_eq_true c6
       clear c6
       replace H := Option.bind_eq_some_iff.mp H
       obtain ⟨t314, A70, H⟩ := H
       replace H : (if t314 = true then (laws_eqValueS.l0 k1 l0 l1 (wrap64 (x5_1 + 1))) else (some false)) = some r := H
       have A7 := A_ A70
       clear A70
       by_cases c8 : t314 = true
       ·subst c8
        have H1 : (laws_eqValueS.l0 k1 l0 l1 (wrap64 (x5_1 + 1))) = some r := by rw [if_pos rfl] at H; exact H
        clear H
        have H := H1
        clear H1
        have H' := A_ H
        clear H
        try go_wp2
        have n0_ := A_ (below_drew1 HB.out)
        clear HB
        have HB := n0_
        clear n0_
        have p312 : 0 ≤ (x5_1 : Int) := of_decide_eq_true Z12
        have q312 : x5_1 < (l0.length : Int) := of_decide_eq_true Z12
        obtain ⟨ad312, e312, hx312_0, hx312_1, hx312_2⟩ := at_T124 HR0.out x5_1 p312 q312
        have hw312_2 := hx312_2
        have hw312_1 := hx312_1
        have hw312_0 := hx312_0
        cases e312
        replace hx312_0 := ZC HB.out hx312_0
        replace hx312_1 := ZC HB.out hx312_1
        replace hx312_2 := ZC HB.out hx312_2
        replace p312 := eq_true p312
        replace q312 := eq_true q312
        have p313 : 0 ≤ (x5_1 : Int) := of_decide_eq_true Z12
        have q313 : x5_1 < (l1.length : Int) := of_decide_eq_true Z12
        obtain ⟨ad313, e313, hx313_0, hx313_1, hx313_2⟩ := at_T124 HR1.out x5_1 p313 q313
        have hw313_2 := hx313_2
        have hw313_1 := hx313_1
        have hw313_0 := hx313_0
        cases e313
        replace hx313_0 := ZC HB.out hx313_0
        replace hx313_1 := ZC HB.out hx313_1
        replace hx313_2 := ZC HB.out hx313_2
        replace p313 := eq_true p313
        replace q313 := eq_true q313
        refine start_ (n := 10) (S := fun w' => w'.cell? (ad312.add ((x5_1).toNat * 3)) = some (.int .i64 ((rd_T124 l0 x5_1).f0)) ∧ w'.cell? ⟨(ad312.add ((x5_1).toNat * 3)).block, (ad312.add ((x5_1).toNat * 3)).off + 1, none⟩ = some (.int .i64 ((rd_T124 l0 x5_1).f1)) ∧ w'.cell? ⟨(ad312.add ((x5_1).toNat * 3)).block, (ad312.add ((x5_1).toNat * 3)).off + 2, none⟩ = some (.string ((rd_T124 l0 x5_1).f2)) ∧ w'.cell? (ad313.add ((x5_1).toNat * 3)) = some (.int .i64 ((rd_T124 l1 x5_1).f0)) ∧ w'.cell? ⟨(ad313.add ((x5_1).toNat * 3)).block, (ad313.add ((x5_1).toNat * 3)).off + 1, none⟩ = some (.int .i64 ((rd_T124 l1 x5_1).f1)) ∧ w'.cell? ⟨(ad313.add ((x5_1).toNat * 3)).block, (ad313.add ((x5_1).toNat * 3)).off + 2, none⟩ = some (.string ((rd_T124 l1 x5_1).f2))) (ds := []) #[F,F,F,F,F,F,F,F,F,F] (by kernel_rfl) rfl rfl ⟨(ZC HB.out hw312_0 :), (ZC HB.out hw312_1 :), (ZC HB.out hw312_2 :), (ZC HB.out hw313_0 :), (ZC HB.out hw313_1 :), (ZC HB.out hw313_2 :)⟩ (fun hHeld => ?_); refine with_tabW laws_eqValueS.tab6 laws_eqValueS.bits6 (fun HT_ HW_ => ?_)
        generalize wr.drew = w9 at HB hx312_0 hx312_1 hx312_2 hx313_0 hx313_1 hx313_2 hHeld ⊢
        refine pure_ (i := 0) (N := some 17) (v := ?_) (a' := ?_) #[T,F,F,F,F,F,F,F,F,F] rfl rfl ZA ZF (Or.inl ⟨by rfl, ?_⟩) ?_ ?_
        rotate_left
        ·exact Z13
        rotate_left
        ·exact Z1
        refine pure_ (i := 1) (N := some 18) (v := ?_) (a' := ?_) #[T,T,F,F,F,F,F,F,F,F] rfl rfl ZA ZF (Or.inl ⟨by rfl, ?_⟩) ?_ ?_
        rotate_left
        ·exact Z13
        rotate_left
        ·exact Z1
        refine pure_ (i := 2) (N := some 19) (v := ?_) (a' := ?_) #[T,T,T,F,F,F,F,F,F,F] rfl rfl ZA ZF (Or.inl ⟨by rfl, ?_⟩) ?_ ?_
        rotate_left
        ·exact Z13
        rotate_left
        ·exact Z1
        refine pure_ (i := 4) (N := some 21) (v := ?_) (a' := ?_) #[T,T,T,F,T,F,F,F,F,F] rfl rfl ZA ZF (Or.inl ⟨by rfl, ?_⟩) ?_ ?_
        rotate_left
        ·exact Z13
        rotate_left
        ·exact Z1
        refine pure_ (i := 5) (N := some 22) (v := ?_) (a' := ?_) #[T,T,T,F,T,T,F,F,F,F] rfl rfl ZA ZF (Or.inl ⟨by rfl, ?_⟩) ?_ ?_
        rotate_left
        ·exact Z13
        rotate_left
        ·exact Z1
        refine pure_ (i := 6) (N := some 23) (v := ?_) (a' := ?_) #[T,T,T,F,T,T,T,F,F,F] rfl rfl ZA ZF (Or.inl ⟨by rfl, ?_⟩) ?_ ?_
        rotate_left
        ·exact Z13
        rotate_left
        ·exact Z1
        refine take_ (i := 3) (N := some 20) (v := ?_) (a' := ?_) #[T,T,T,T,T,T,T,F,F,F] rfl rfl (take_ofW HT_.out HW_.out (by kernel_rfl)) ZF (Or.inl ⟨by rfl, ?_⟩) hHeld ?_ ?_
        rotate_left
        ·exact Z39
        rotate_left
        ·exact Z1
        refine take_ (i := 7) (N := some 24) (v := ?_) (a' := ?_) #[T,T,T,T,T,T,T,T,F,F] rfl rfl (take_ofW HT_.out HW_.out (by kernel_rfl)) ZF (Or.inl ⟨by rfl, ?_⟩) hHeld ?_ ?_
        rotate_left
        ·exact Z39
        rotate_left
        ·exact Z1
        refine one_ (i := 8) (N := some 25) #[T,T,T,T,T,T,T,T,T,F] rfl rfl (one_of HT_.out (by kernel_rfl)) (by decide) (fun K hK => ?_)
        refine goes_ Try.func97 (by kernel_rfl) rfl #[.agg #[.int .i64 ((rd_T124 l0 x5_1).f0), .int .i64 ((rd_T124 l0 x5_1).f1), .string ((rd_T124 l0 x5_1).f2)], .agg #[.int .i64 ((rd_T124 l1 x5_1).f0), .int .i64 ((rd_T124 l1 x5_1).f1), .string ((rd_T124 l1 x5_1).f2)]] (by rfl) rfl rfl Z5 ?_
        with_reducible refine (laws_eqValue.calls ((rd_T124 l0 x5_1).f0) ((rd_T124 l0 x5_1).f1) ((rd_T124 l0 x5_1).f2) ((rd_T124 l1 x5_1).f0) ((rd_T124 l1 x5_1).f1) ((rd_T124 l1 x5_1).f2) true _ A7.out).mono ?_
        rintro e w10 ⟨rfl, hb⟩
        refine ⟨_, rfl, ?_⟩
        have n0_ := A_ (below_step Z0 hb)
        clear HB
        have HB := n0_
        clear n0_
        (try clear hb)
        (try clear hb2)
        (try clear hk)
        (try clear hi)
        refine hK.out _ _ ⟨(ZC HB.out hw312_0 :), (ZC HB.out hw312_1 :), (ZC HB.out hw312_2 :), (ZC HB.out hw313_0 :), (ZC HB.out hw313_1 :), (ZC HB.out hw313_2 :)⟩ (fun hHeld => ?_)
        clear hK K
        refine norm_ (a' := ?_) ?_ ?_
        rotate_left
        ·exact Z20
        refine pure_ (i := 9) (N := some 26) (v := ?_) (a' := ?_) #[T,T,T,T,T,T,T,T,T,T] rfl rfl ZA ZF (Or.inl ⟨by rfl, ?_⟩) ?_ ?_
        rotate_left
        ·exact Z13
        rotate_left
        ·exact Z1
        refine done_ (done_of HT_.out (by kernel_rfl)) ?_
        try go_wp2
        go_roundg k1
        case measure => have := HK1.out; omega
        case rel => exact ⟨(wrap64 (x5_1 + 1)), Z16, H', ⟨by have := HK1.out; omega⟩, ⟨Z0⟩⟩
       ·replace c8 := Bool.eq_false_iff.mpr c8
        subst c8
        have H1 : (some false) = some r := by rw [if_neg (show ¬ (false = true) by decide)] at H; exact H
        clear H
        have H := H1
        clear H1
        obtain rfl := Option.some.inj H
        try go_wp2
        have n0_ := A_ (below_drew1 HB.out)
        clear HB
        have HB := n0_
        clear n0_
        have p312 : 0 ≤ (x5_1 : Int) := of_decide_eq_true Z12
        have q312 : x5_1 < (l0.length : Int) := of_decide_eq_true Z12
        obtain ⟨ad312, e312, hx312_0, hx312_1, hx312_2⟩ := at_T124 HR0.out x5_1 p312 q312
        have hw312_2 := hx312_2
        have hw312_1 := hx312_1
        have hw312_0 := hx312_0
        cases e312
        replace hx312_0 := ZC HB.out hx312_0
        replace hx312_1 := ZC HB.out hx312_1
        replace hx312_2 := ZC HB.out hx312_2
        replace p312 := eq_true p312
        replace q312 := eq_true q312
        have p313 : 0 ≤ (x5_1 : Int) := of_decide_eq_true Z12
        have q313 : x5_1 < (l1.length : Int) := of_decide_eq_true Z12
        obtain ⟨ad313, e313, hx313_0, hx313_1, hx313_2⟩ := at_T124 HR1.out x5_1 p313 q313
        have hw313_2 := hx313_2
        have hw313_1 := hx313_1
        have hw313_0 := hx313_0
        cases e313
        replace hx313_0 := ZC HB.out hx313_0
        replace hx313_1 := ZC HB.out hx313_1
        replace hx313_2 := ZC HB.out hx313_2
        replace p313 := eq_true p313
        replace q313 := eq_true q313
        refine start_ (n := 10) (S := fun w' => w'.cell? (ad312.add ((x5_1).toNat * 3)) = some (.int .i64 ((rd_T124 l0 x5_1).f0)) ∧ w'.cell? ⟨(ad312.add ((x5_1).toNat * 3)).block, (ad312.add ((x5_1).toNat * 3)).off + 1, none⟩ = some (.int .i64 ((rd_T124 l0 x5_1).f1)) ∧ w'.cell? ⟨(ad312.add ((x5_1).toNat * 3)).block, (ad312.add ((x5_1).toNat * 3)).off + 2, none⟩ = some (.string ((rd_T124 l0 x5_1).f2)) ∧ w'.cell? (ad313.add ((x5_1).toNat * 3)) = some (.int .i64 ((rd_T124 l1 x5_1).f0)) ∧ w'.cell? ⟨(ad313.add ((x5_1).toNat * 3)).block, (ad313.add ((x5_1).toNat * 3)).off + 1, none⟩ = some (.int .i64 ((rd_T124 l1 x5_1).f1)) ∧ w'.cell? ⟨(ad313.add ((x5_1).toNat * 3)).block, (ad313.add ((x5_1).toNat * 3)).off + 2, none⟩ = some (.string ((rd_T124 l1 x5_1).f2))) (ds := []) #[F,F,F,F,F,F,F,F,F,F] (by kernel_rfl) rfl rfl ⟨(ZC HB.out hw312_0 :), (ZC HB.out hw312_1 :), (ZC HB.out hw312_2 :), (ZC HB.out hw313_0 :), (ZC HB.out hw313_1 :), (ZC HB.out hw313_2 :)⟩ (fun hHeld => ?_); refine with_tabW laws_eqValueS.tab6 laws_eqValueS.bits6 (fun HT_ HW_ => ?_)
        generalize wr.drew = w11 at HB hx312_0 hx312_1 hx312_2 hx313_0 hx313_1 hx313_2 hHeld ⊢
        refine pure_ (i := 0) (N := some 17) (v := ?_) (a' := ?_) #[T,F,F,F,F,F,F,F,F,F] rfl rfl ZA ZF (Or.inl ⟨by rfl, ?_⟩) ?_ ?_
        rotate_left
        ·exact Z13
        rotate_left
        ·exact Z1
        refine pure_ (i := 1) (N := some 18) (v := ?_) (a' := ?_) #[T,T,F,F,F,F,F,F,F,F] rfl rfl ZA ZF (Or.inl ⟨by rfl, ?_⟩) ?_ ?_
        rotate_left
        ·exact Z13
        rotate_left
        ·exact Z1
        refine pure_ (i := 2) (N := some 19) (v := ?_) (a' := ?_) #[T,T,T,F,F,F,F,F,F,F] rfl rfl ZA ZF (Or.inl ⟨by rfl, ?_⟩) ?_ ?_
        rotate_left
        ·exact Z13
        rotate_left
        ·exact Z1
        refine pure_ (i := 4) (N := some 21) (v := ?_) (a' := ?_) #[T,T,T,F,T,F,F,F,F,F] rfl rfl ZA ZF (Or.inl ⟨by rfl, ?_⟩) ?_ ?_
        rotate_left
        ·exact Z13
        rotate_left
        ·exact Z1
        refine pure_ (i := 5) (N := some 22) (v := ?_) (a' := ?_) #[T,T,T,F,T,T,F,F,F,F] rfl rfl ZA ZF (Or.inl ⟨by rfl, ?_⟩) ?_ ?_
        rotate_left
        ·exact Z13
        rotate_left
        ·exact Z1
        refine pure_ (i := 6) (N := some 23) (v := ?_) (a' := ?_) #[T,T,T,F,T,T,T,F,F,F] rfl rfl ZA ZF (Or.inl ⟨by rfl, ?_⟩) ?_ ?_
        rotate_left
        ·exact Z13
        rotate_left
        ·exact Z1
        refine take_ (i := 3) (N := some 20) (v := ?_) (a' := ?_) #[T,T,T,T,T,T,T,F,F,F] rfl rfl (take_ofW HT_.out HW_.out (by kernel_rfl)) ZF (Or.inl ⟨by rfl, ?_⟩) hHeld ?_ ?_
        rotate_left
        ·exact Z39
        rotate_left
        ·exact Z1
        refine take_ (i := 7) (N := some 24) (v := ?_) (a' := ?_) #[T,T,T,T,T,T,T,T,F,F] rfl rfl (take_ofW HT_.out HW_.out (by kernel_rfl)) ZF (Or.inl ⟨by rfl, ?_⟩) hHeld ?_ ?_
        rotate_left
        ·exact Z39
        rotate_left
        ·exact Z1
        refine one_ (i := 8) (N := some 25) #[T,T,T,T,T,T,T,T,T,F] rfl rfl (one_of HT_.out (by kernel_rfl)) (by decide) (fun K hK => ?_)
        refine goes_ Try.func97 (by kernel_rfl) rfl #[.agg #[.int .i64 ((rd_T124 l0 x5_1).f0), .int .i64 ((rd_T124 l0 x5_1).f1), .string ((rd_T124 l0 x5_1).f2)], .agg #[.int .i64 ((rd_T124 l1 x5_1).f0), .int .i64 ((rd_T124 l1 x5_1).f1), .string ((rd_T124 l1 x5_1).f2)]] (by rfl) rfl rfl Z5 ?_
        with_reducible refine (laws_eqValue.calls ((rd_T124 l0 x5_1).f0) ((rd_T124 l0 x5_1).f1) ((rd_T124 l0 x5_1).f2) ((rd_T124 l1 x5_1).f0) ((rd_T124 l1 x5_1).f1) ((rd_T124 l1 x5_1).f2) false _ A7.out).mono ?_
        rintro e w12 ⟨rfl, hb⟩
        refine ⟨_, rfl, ?_⟩
        have n0_ := A_ (below_step Z0 hb)
        clear HB
        have HB := n0_
        clear n0_
        (try clear hb)
        (try clear hb2)
        (try clear hk)
        (try clear hi)
        refine hK.out _ _ ⟨(ZC HB.out hw312_0 :), (ZC HB.out hw312_1 :), (ZC HB.out hw312_2 :), (ZC HB.out hw313_0 :), (ZC HB.out hw313_1 :), (ZC HB.out hw313_2 :)⟩ (fun hHeld => ?_)
        clear hK K
        refine norm_ (a' := ?_) ?_ ?_
        rotate_left
        ·exact Z20
        refine pure_ (i := 9) (N := some 26) (v := ?_) (a' := ?_) #[T,T,T,T,T,T,T,T,T,T] rfl rfl ZA ZF (Or.inl ⟨by rfl, ?_⟩) ?_ ?_
        rotate_left
        ·exact Z13
        rotate_left
        ·exact Z1
        refine done_ (done_of HT_.out (by kernel_rfl)) ?_
        try go_wp2
        go_ret
        exact ⟨Z7, Z0⟩
      ·rw [if_neg c6] at H
       exact absurd H (by simp)
     ·rw [if_neg c5] at H
      exact absurd H (by simp)
    ·rw [if_neg c4] at H
     have c4b0 : decide (x5_1 < (l0.length : Int)) = false := decide_eq_false c4
     clear c4
     obtain rfl := Option.some.inj H
     go_wp2
     go_ret
     exact ⟨Z7, Z0⟩
 ·rw [if_neg c3] at H
  have c3b0 : ((l0.length : Int) == (l1.length : Int)) = false := beq_eq_false_iff_ne.mpr c3
  have c3b1 : ((l0.length : Int) != (l1.length : Int)) = true := bne_iff_ne.mpr c3
  have c3b2 : (l0.length == l1.length) = false := by first | simpa using c3 | (simp at c3 ⊢; omega)
  obtain rfl := Option.some.inj H
  go_enter Try.func85, Try.ntmps85
  go_wp2
  go_ret
  exact ⟨Z7, Z0⟩
def laws_eqCell.f (k : Nat) (l0_0 : List (S121)) (l0_1 : List (S124)) (l1_0 : List (S121)) (l1_1 : List (S124)) : Option (Bool) := (laws_eqSlotS.f k l0_0 l1_0).bind fun t317 => (if t317 = true then ((laws_eqValueS.f k l0_1 l1_1).bind fun t318 => (if t318 = true then (some true) else (some false))) else (some false))
theorem laws_eqCell.mono : ∀ a0 a1 a2 a3 k, LeO (laws_eqCell.f k a0 a1 a2 a3) (laws_eqCell.f (k + 1) a0 a1 a2 a3) := by
 intro a0 a1 a2 a3 k
 unfold laws_eqCell.f
 repeat' first
   | (with_reducible exact laws_eqSlotS.mono _ _ _)
   | (with_reducible exact laws_eqValueS.mono _ _ _)
   | (with_reducible exact LeO.refl _)
   | (with_reducible exact LeO.none _)
   | (with_reducible refine LeO.ite ?_ ?_)
   | (with_reducible refine LeO.bind ?_ (fun _ => ?_))
   | exact laws_eqSlotS.mono _ _ _
   | exact laws_eqValueS.mono _ _ _
   | exact LeO.none _
   | refine LeO.ite ?_ ?_
   | refine LeO.bind ?_ (fun _ => ?_)
set_option maxHeartbeats 8000000 in
set_option maxRecDepth 100000 in
theorem laws_eqCell.calls (k : Nat) (A0_0 : Option Addr) (c0_0 : Nat) (l0_0 : List (S121)) (A0_1 : Option Addr) (c0_1 : Nat) (l0_1 : List (S124)) (A1_0 : Option Addr) (c1_0 : Nat) (l1_0 : List (S121)) (A1_1 : Option Addr) (c1_1 : Nat) (l1_1 : List (S124)) (r : Bool) (w : World) (hr0_0 : Kd.C k121 w A0_0 l0_0.length l0_0) (hc0_0 : l0_0.length ≤ c0_0) (hr0_1 : Kd.C k124 w A0_1 l0_1.length l0_1) (hc0_1 : l0_1.length ≤ c0_1) (hr1_0 : Kd.C k121 w A1_0 l1_0.length l1_0) (hc1_0 : l1_0.length ≤ c1_0) (hr1_1 : Kd.C k124 w A1_1 l1_1.length l1_1) (hc1_1 : l1_1.length ≤ c1_1) (h : laws_eqCell.f k l0_0 l0_1 l1_0 l1_1 = some r) :
  Calls Try.prog 56 #[.agg #[.slice A0_0 l0_0.length c0_0, .slice A0_1 l0_1.length c0_1], .agg #[.slice A1_0 l1_0.length c1_0, .slice A1_1 l1_1.length c1_1]] w fun e w' => e = .returned (.bool r) ∧ Below w.heap.size w w' := by
 have hu95 := Try.underlying95
 have HR0_0 := A_ hr0_0
 have HC0_0 := A_ hc0_0
 clear hr0_0 hc0_0
 have HR0_1 := A_ hr0_1
 have HC0_1 := A_ hc0_1
 clear hr0_1 hc0_1
 have HR1_0 := A_ hr1_0
 have HC1_0 := A_ hc1_0
 clear hr1_0 hc1_0
 have HR1_1 := A_ hr1_1
 have HC1_1 := A_ hc1_1
 clear hr1_1 hc1_1
 have HB := A_ (Below.refl w.heap.size w)
 have H : ((laws_eqSlotS.f k l0_0 l1_0).bind fun t317 => (if t317 = true then ((laws_eqValueS.f k l0_1 l1_1).bind fun t318 => (if t318 = true then (some true) else (some false))) else (some false))) = some r := h
 clear h
 replace H := Option.bind_eq_some_iff.mp H
 obtain ⟨t317, A30, H⟩ := H
 replace H : (if t317 = true then ((laws_eqValueS.f k l0_1 l1_1).bind fun t318 => (if t318 = true then (some true) else (some false))) else (some false)) = some r := H
 have A3 := A_ A30
 clear A30
 by_cases c4 : t317 = true
 ·subst c4
  have H1 : ((laws_eqValueS.f k l0_1 l1_1).bind fun t318 => (if t318 = true then (some true) else (some false))) = some r := by rw [if_pos rfl] at H; exact H
  clear H
  have H := H1
  clear H1
  replace H := Option.bind_eq_some_iff.mp H
  obtain ⟨t318, A50, H⟩ := H
  replace H : (if t318 = true then (some true) else (some false)) = some r := H
  have A5 := A_ A50
  clear A50
  by_cases c6 : t318 = true
  ·subst c6
   have H1 : (some true) = some r := by rw [if_pos rfl] at H; exact H
   clear H
   have H := H1
   clear H1
   obtain rfl := Option.some.inj H
   go_enter Try.func56, Try.ntmps56
   go_wp2_with (first | ((with_reducible refine gate_dst (N := 2) rfl ?_); refine box_event ?hg (N := 2) ?hd (cs := #[.slice A0_0 l0_0.length c0_0, .slice A0_1 l0_1.length c0_1]) (t := 95) ?hr ?_; (case hd => rfl); (case hg => rfl); (case hr => exact Z15); intro gb315 hg w7 hbox hb; have n0_ := A_ (below_step Z0 hb); have n1_ := A_ (hbox); have n2_ := A_ ((by rw [hg]; exact (below_size Z0) : w.heap.size ≤ gb315)); have n3_ := A_ ((by rw [hg]; exact (below_size Z0) : w.heap.size ≤ gb315)); clear HB; have HB := n0_; have BK315 := n1_; have GW315 := n2_; have GE315 := n3_; clear n0_ n1_ n2_ n3_; clear hb hbox hg) | ((with_reducible refine gate_dst (N := 3) rfl ?_); refine box_event ?hg (N := 3) ?hd (cs := #[.slice A1_0 l1_0.length c1_0, .slice A1_1 l1_1.length c1_1]) (t := 95) ?hr ?_; (case hd => rfl); (case hg => rfl); (case hr => exact Z15); intro gb316 hg w8 hbox hb; have n0_ := A_ (blk_below (g := gb315) (o := .cells #[.slice A0_0 l0_0.length c0_0, .slice A0_1 l0_1.length c0_1] 95 (0, 0)) (Z3 BK315.out) hb); have n1_ := A_ (below_step (Z2 GE315.out) hb); have n2_ := A_ (hbox); have n3_ := A_ ((by rw [hg]; exact (below_size (Z2 GE315.out)) : w.heap.size ≤ gb316)); have n4_ := A_ ((by rw [hg]; exact (below_size (Z2 GE315.out)) : w.heap.size ≤ gb316)); have n5_ := A_ ((by rw [hg]; exact Nat.ne_of_lt (blk_lt (g := gb315) (o := .cells #[.slice A0_0 l0_0.length c0_0, .slice A0_1 l0_1.length c0_1] 95 (0, 0)) (Z3 BK315.out)) : gb315 ≠ gb316)); have n6_ := A_ ((by rw [hg]; exact Nat.ne_of_gt (blk_lt (g := gb315) (o := .cells #[.slice A0_0 l0_0.length c0_0, .slice A0_1 l0_1.length c0_1] 95 (0, 0)) (Z3 BK315.out)) : gb316 ≠ gb315)); clear BK315; clear HB; have BK315 := n0_; have HB := n1_; have BK316 := n2_; have GW316 := n3_; have GE316 := n4_; have NB315_316 := n5_; have NB316_315 := n6_; clear n0_ n1_ n2_ n3_ n4_ n5_ n6_; clear hb hbox hg; have hnb9 := NB315_316.out; have hnc9 := NB316_315.out; have hcz10_0 : w8.cell? ⟨gb315, 0, none⟩ = some (.slice A0_0 l0_0.length c0_0) := (blk_cell BK315.out 0).trans rfl; have hcz10_1 : w8.cell? ⟨gb315, 1, none⟩ = some (.slice A0_1 l0_1.length c0_1) := (blk_cell BK315.out 1).trans rfl; have hfz10_0 := blk_frozen BK315.out 0; have hfz10_1 := blk_frozen BK315.out 1; have hcz11_0 : w8.cell? ⟨gb316, 0, none⟩ = some (.slice A1_0 l1_0.length c1_0) := (blk_cell BK316.out 0).trans rfl; have hcz11_1 : w8.cell? ⟨gb316, 1, none⟩ = some (.slice A1_1 l1_1.length c1_1) := (blk_cell BK316.out 1).trans rfl; have hfz11_0 := blk_frozen BK316.out 0; have hfz11_1 := blk_frozen BK316.out 1) | ((with_reducible refine gate_callee (f := 57) rfl ?_); refine goesL_ (some 9) rfl rfl Try.func57 (by kernel_rfl) rfl #[.slice A0_0 l0_0.length c0_0, .slice A1_0 l1_0.length c1_0] rfl Z5 ?_; (with_reducible refine (laws_eqSlotS.calls k _ _ l0_0 _ _ l1_0 true _ ?side1 ?side2 ?side3 ?side4 A3.out).mono ?_); (case side1 => exact Z4 HR0_0.out); (case side2 => exact HC0_0.out); (case side3 => exact Z4 HR1_0.out); (case side4 => exact HC1_0.out); rintro e w12 ⟨rfl, hb⟩; refine ⟨_, rfl, ?_⟩; have n0_ := A_ (blk_below (g := gb315) (o := .cells #[.slice A0_0 l0_0.length c0_0, .slice A0_1 l0_1.length c0_1] 95 (0, 0)) (Z3 BK315.out) hb); have n1_ := A_ (blk_below (g := gb316) (o := .cells #[.slice A1_0 l1_0.length c1_0, .slice A1_1 l1_1.length c1_1] 95 (0, 0)) (Z3 BK316.out) hb); have n2_ := A_ (below_step (Z6 GE315.out GE316.out) hb); clear BK315; clear BK316; clear HB; have BK315 := n0_; have BK316 := n1_; have HB := n2_; clear n0_ n1_ n2_; (try clear hb); (try clear hb2); (try clear hk); (try clear hi); have hcz13_0 : w12.cell? ⟨gb315, 0, none⟩ = some (.slice A0_0 l0_0.length c0_0) := (blk_cell BK315.out 0).trans rfl; have hcz13_1 : w12.cell? ⟨gb315, 1, none⟩ = some (.slice A0_1 l0_1.length c0_1) := (blk_cell BK315.out 1).trans rfl; have hfz13_0 := blk_frozen BK315.out 0; have hfz13_1 := blk_frozen BK315.out 1; have hcz14_0 : w12.cell? ⟨gb316, 0, none⟩ = some (.slice A1_0 l1_0.length c1_0) := (blk_cell BK316.out 0).trans rfl; have hcz14_1 : w12.cell? ⟨gb316, 1, none⟩ = some (.slice A1_1 l1_1.length c1_1) := (blk_cell BK316.out 1).trans rfl; have hfz14_0 := blk_frozen BK316.out 0; have hfz14_1 := blk_frozen BK316.out 1) | ((with_reducible refine gate_callee (f := 85) rfl ?_); refine goesL_ (some 15) rfl rfl Try.func85 (by kernel_rfl) rfl #[.slice A0_1 l0_1.length c0_1, .slice A1_1 l1_1.length c1_1] rfl Z5 ?_; (with_reducible refine (laws_eqValueS.calls k _ _ l0_1 _ _ l1_1 true _ ?side1 ?side2 ?side3 ?side4 A5.out).mono ?_); (case side1 => exact Z4 HR0_1.out); (case side2 => exact HC0_1.out); (case side3 => exact Z4 HR1_1.out); (case side4 => exact HC1_1.out); rintro e w15 ⟨rfl, hb⟩; refine ⟨_, rfl, ?_⟩; have n0_ := A_ (blk_below (g := gb315) (o := .cells #[.slice A0_0 l0_0.length c0_0, .slice A0_1 l0_1.length c0_1] 95 (0, 0)) (Z3 BK315.out) hb); have n1_ := A_ (blk_below (g := gb316) (o := .cells #[.slice A1_0 l1_0.length c1_0, .slice A1_1 l1_1.length c1_1] 95 (0, 0)) (Z3 BK316.out) hb); have n2_ := A_ (below_step (Z6 GE315.out GE316.out) hb); clear BK315; clear BK316; clear HB; have BK315 := n0_; have BK316 := n1_; have HB := n2_; clear n0_ n1_ n2_; (try clear hb); (try clear hb2); (try clear hk); (try clear hi)))
   go_ret
   exact ⟨Z7, Z6 GE315.out GE316.out⟩
  ·replace c6 := Bool.eq_false_iff.mpr c6
   subst c6
   have H1 : (some false) = some r := by rw [if_neg (show ¬ (false = true) by decide)] at H; exact H
   clear H
   have H := H1
   clear H1
   obtain rfl := Option.some.inj H
   go_enter Try.func56, Try.ntmps56
   go_wp2_with (first | ((with_reducible refine gate_dst (N := 2) rfl ?_); refine box_event ?hg (N := 2) ?hd (cs := #[.slice A0_0 l0_0.length c0_0, .slice A0_1 l0_1.length c0_1]) (t := 95) ?hr ?_; (case hd => rfl); (case hg => rfl); (case hr => exact Z15); intro gb315 hg w16 hbox hb; have n0_ := A_ (below_step Z0 hb); have n1_ := A_ (hbox); have n2_ := A_ ((by rw [hg]; exact (below_size Z0) : w.heap.size ≤ gb315)); have n3_ := A_ ((by rw [hg]; exact (below_size Z0) : w.heap.size ≤ gb315)); clear HB; have HB := n0_; have BK315 := n1_; have GW315 := n2_; have GE315 := n3_; clear n0_ n1_ n2_ n3_; clear hb hbox hg) | ((with_reducible refine gate_dst (N := 3) rfl ?_); refine box_event ?hg (N := 3) ?hd (cs := #[.slice A1_0 l1_0.length c1_0, .slice A1_1 l1_1.length c1_1]) (t := 95) ?hr ?_; (case hd => rfl); (case hg => rfl); (case hr => exact Z15); intro gb316 hg w17 hbox hb; have n0_ := A_ (blk_below (g := gb315) (o := .cells #[.slice A0_0 l0_0.length c0_0, .slice A0_1 l0_1.length c0_1] 95 (0, 0)) (Z3 BK315.out) hb); have n1_ := A_ (below_step (Z2 GE315.out) hb); have n2_ := A_ (hbox); have n3_ := A_ ((by rw [hg]; exact (below_size (Z2 GE315.out)) : w.heap.size ≤ gb316)); have n4_ := A_ ((by rw [hg]; exact (below_size (Z2 GE315.out)) : w.heap.size ≤ gb316)); have n5_ := A_ ((by rw [hg]; exact Nat.ne_of_lt (blk_lt (g := gb315) (o := .cells #[.slice A0_0 l0_0.length c0_0, .slice A0_1 l0_1.length c0_1] 95 (0, 0)) (Z3 BK315.out)) : gb315 ≠ gb316)); have n6_ := A_ ((by rw [hg]; exact Nat.ne_of_gt (blk_lt (g := gb315) (o := .cells #[.slice A0_0 l0_0.length c0_0, .slice A0_1 l0_1.length c0_1] 95 (0, 0)) (Z3 BK315.out)) : gb316 ≠ gb315)); clear BK315; clear HB; have BK315 := n0_; have HB := n1_; have BK316 := n2_; have GW316 := n3_; have GE316 := n4_; have NB315_316 := n5_; have NB316_315 := n6_; clear n0_ n1_ n2_ n3_ n4_ n5_ n6_; clear hb hbox hg; have hnb18 := NB315_316.out; have hnc18 := NB316_315.out; have hcz19_0 : w17.cell? ⟨gb315, 0, none⟩ = some (.slice A0_0 l0_0.length c0_0) := (blk_cell BK315.out 0).trans rfl; have hcz19_1 : w17.cell? ⟨gb315, 1, none⟩ = some (.slice A0_1 l0_1.length c0_1) := (blk_cell BK315.out 1).trans rfl; have hfz19_0 := blk_frozen BK315.out 0; have hfz19_1 := blk_frozen BK315.out 1; have hcz20_0 : w17.cell? ⟨gb316, 0, none⟩ = some (.slice A1_0 l1_0.length c1_0) := (blk_cell BK316.out 0).trans rfl; have hcz20_1 : w17.cell? ⟨gb316, 1, none⟩ = some (.slice A1_1 l1_1.length c1_1) := (blk_cell BK316.out 1).trans rfl; have hfz20_0 := blk_frozen BK316.out 0; have hfz20_1 := blk_frozen BK316.out 1) | ((with_reducible refine gate_callee (f := 57) rfl ?_); refine goesL_ (some 9) rfl rfl Try.func57 (by kernel_rfl) rfl #[.slice A0_0 l0_0.length c0_0, .slice A1_0 l1_0.length c1_0] rfl Z5 ?_; (with_reducible refine (laws_eqSlotS.calls k _ _ l0_0 _ _ l1_0 true _ ?side1 ?side2 ?side3 ?side4 A3.out).mono ?_); (case side1 => exact Z4 HR0_0.out); (case side2 => exact HC0_0.out); (case side3 => exact Z4 HR1_0.out); (case side4 => exact HC1_0.out); rintro e w21 ⟨rfl, hb⟩; refine ⟨_, rfl, ?_⟩; have n0_ := A_ (blk_below (g := gb315) (o := .cells #[.slice A0_0 l0_0.length c0_0, .slice A0_1 l0_1.length c0_1] 95 (0, 0)) (Z3 BK315.out) hb); have n1_ := A_ (blk_below (g := gb316) (o := .cells #[.slice A1_0 l1_0.length c1_0, .slice A1_1 l1_1.length c1_1] 95 (0, 0)) (Z3 BK316.out) hb); have n2_ := A_ (below_step (Z6 GE315.out GE316.out) hb); clear BK315; clear BK316; clear HB; have BK315 := n0_; have BK316 := n1_; have HB := n2_; clear n0_ n1_ n2_; (try clear hb); (try clear hb2); (try clear hk); (try clear hi); have hcz22_0 : w21.cell? ⟨gb315, 0, none⟩ = some (.slice A0_0 l0_0.length c0_0) := (blk_cell BK315.out 0).trans rfl; have hcz22_1 : w21.cell? ⟨gb315, 1, none⟩ = some (.slice A0_1 l0_1.length c0_1) := (blk_cell BK315.out 1).trans rfl; have hfz22_0 := blk_frozen BK315.out 0; have hfz22_1 := blk_frozen BK315.out 1; have hcz23_0 : w21.cell? ⟨gb316, 0, none⟩ = some (.slice A1_0 l1_0.length c1_0) := (blk_cell BK316.out 0).trans rfl; have hcz23_1 : w21.cell? ⟨gb316, 1, none⟩ = some (.slice A1_1 l1_1.length c1_1) := (blk_cell BK316.out 1).trans rfl; have hfz23_0 := blk_frozen BK316.out 0; have hfz23_1 := blk_frozen BK316.out 1) | ((with_reducible refine gate_callee (f := 85) rfl ?_); refine goesL_ (some 15) rfl rfl Try.func85 (by kernel_rfl) rfl #[.slice A0_1 l0_1.length c0_1, .slice A1_1 l1_1.length c1_1] rfl Z5 ?_; (with_reducible refine (laws_eqValueS.calls k _ _ l0_1 _ _ l1_1 false _ ?side1 ?side2 ?side3 ?side4 A5.out).mono ?_); (case side1 => exact Z4 HR0_1.out); (case side2 => exact HC0_1.out); (case side3 => exact Z4 HR1_1.out); (case side4 => exact HC1_1.out); rintro e w24 ⟨rfl, hb⟩; refine ⟨_, rfl, ?_⟩; have n0_ := A_ (blk_below (g := gb315) (o := .cells #[.slice A0_0 l0_0.length c0_0, .slice A0_1 l0_1.length c0_1] 95 (0, 0)) (Z3 BK315.out) hb); have n1_ := A_ (blk_below (g := gb316) (o := .cells #[.slice A1_0 l1_0.length c1_0, .slice A1_1 l1_1.length c1_1] 95 (0, 0)) (Z3 BK316.out) hb); have n2_ := A_ (below_step (Z6 GE315.out GE316.out) hb); clear BK315; clear BK316; clear HB; have BK315 := n0_; have BK316 := n1_; have HB := n2_; clear n0_ n1_ n2_; (try clear hb); (try clear hb2); (try clear hk); (try clear hi)))
   go_ret
   exact ⟨Z7, Z6 GE315.out GE316.out⟩
 ·replace c4 := Bool.eq_false_iff.mpr c4
  subst c4
  have H1 : (some false) = some r := by rw [if_neg (show ¬ (false = true) by decide)] at H; exact H
  clear H
  have H := H1
  clear H1
  obtain rfl := Option.some.inj H
  go_enter Try.func56, Try.ntmps56
  go_wp2_with (first | ((with_reducible refine gate_dst (N := 2) rfl ?_); refine box_event ?hg (N := 2) ?hd (cs := #[.slice A0_0 l0_0.length c0_0, .slice A0_1 l0_1.length c0_1]) (t := 95) ?hr ?_; (case hd => rfl); (case hg => rfl); (case hr => exact Z15); intro gb315 hg w25 hbox hb; have n0_ := A_ (below_step Z0 hb); have n1_ := A_ (hbox); have n2_ := A_ ((by rw [hg]; exact (below_size Z0) : w.heap.size ≤ gb315)); have n3_ := A_ ((by rw [hg]; exact (below_size Z0) : w.heap.size ≤ gb315)); clear HB; have HB := n0_; have BK315 := n1_; have GW315 := n2_; have GE315 := n3_; clear n0_ n1_ n2_ n3_; clear hb hbox hg) | ((with_reducible refine gate_dst (N := 3) rfl ?_); refine box_event ?hg (N := 3) ?hd (cs := #[.slice A1_0 l1_0.length c1_0, .slice A1_1 l1_1.length c1_1]) (t := 95) ?hr ?_; (case hd => rfl); (case hg => rfl); (case hr => exact Z15); intro gb316 hg w26 hbox hb; have n0_ := A_ (blk_below (g := gb315) (o := .cells #[.slice A0_0 l0_0.length c0_0, .slice A0_1 l0_1.length c0_1] 95 (0, 0)) (Z3 BK315.out) hb); have n1_ := A_ (below_step (Z2 GE315.out) hb); have n2_ := A_ (hbox); have n3_ := A_ ((by rw [hg]; exact (below_size (Z2 GE315.out)) : w.heap.size ≤ gb316)); have n4_ := A_ ((by rw [hg]; exact (below_size (Z2 GE315.out)) : w.heap.size ≤ gb316)); have n5_ := A_ ((by rw [hg]; exact Nat.ne_of_lt (blk_lt (g := gb315) (o := .cells #[.slice A0_0 l0_0.length c0_0, .slice A0_1 l0_1.length c0_1] 95 (0, 0)) (Z3 BK315.out)) : gb315 ≠ gb316)); have n6_ := A_ ((by rw [hg]; exact Nat.ne_of_gt (blk_lt (g := gb315) (o := .cells #[.slice A0_0 l0_0.length c0_0, .slice A0_1 l0_1.length c0_1] 95 (0, 0)) (Z3 BK315.out)) : gb316 ≠ gb315)); clear BK315; clear HB; have BK315 := n0_; have HB := n1_; have BK316 := n2_; have GW316 := n3_; have GE316 := n4_; have NB315_316 := n5_; have NB316_315 := n6_; clear n0_ n1_ n2_ n3_ n4_ n5_ n6_; clear hb hbox hg; have hnb27 := NB315_316.out; have hnc27 := NB316_315.out; have hcz28_0 : w26.cell? ⟨gb315, 0, none⟩ = some (.slice A0_0 l0_0.length c0_0) := (blk_cell BK315.out 0).trans rfl; have hcz28_1 : w26.cell? ⟨gb315, 1, none⟩ = some (.slice A0_1 l0_1.length c0_1) := (blk_cell BK315.out 1).trans rfl; have hfz28_0 := blk_frozen BK315.out 0; have hfz28_1 := blk_frozen BK315.out 1; have hcz29_0 : w26.cell? ⟨gb316, 0, none⟩ = some (.slice A1_0 l1_0.length c1_0) := (blk_cell BK316.out 0).trans rfl; have hcz29_1 : w26.cell? ⟨gb316, 1, none⟩ = some (.slice A1_1 l1_1.length c1_1) := (blk_cell BK316.out 1).trans rfl; have hfz29_0 := blk_frozen BK316.out 0; have hfz29_1 := blk_frozen BK316.out 1) | ((with_reducible refine gate_callee (f := 57) rfl ?_); refine goesL_ (some 9) rfl rfl Try.func57 (by kernel_rfl) rfl #[.slice A0_0 l0_0.length c0_0, .slice A1_0 l1_0.length c1_0] rfl Z5 ?_; (with_reducible refine (laws_eqSlotS.calls k _ _ l0_0 _ _ l1_0 false _ ?side1 ?side2 ?side3 ?side4 A3.out).mono ?_); (case side1 => exact Z4 HR0_0.out); (case side2 => exact HC0_0.out); (case side3 => exact Z4 HR1_0.out); (case side4 => exact HC1_0.out); rintro e w30 ⟨rfl, hb⟩; refine ⟨_, rfl, ?_⟩; have n0_ := A_ (blk_below (g := gb315) (o := .cells #[.slice A0_0 l0_0.length c0_0, .slice A0_1 l0_1.length c0_1] 95 (0, 0)) (Z3 BK315.out) hb); have n1_ := A_ (blk_below (g := gb316) (o := .cells #[.slice A1_0 l1_0.length c1_0, .slice A1_1 l1_1.length c1_1] 95 (0, 0)) (Z3 BK316.out) hb); have n2_ := A_ (below_step (Z6 GE315.out GE316.out) hb); clear BK315; clear BK316; clear HB; have BK315 := n0_; have BK316 := n1_; have HB := n2_; clear n0_ n1_ n2_; (try clear hb); (try clear hb2); (try clear hk); (try clear hi)))
  go_ret
  exact ⟨Z7, Z6 GE315.out GE316.out⟩
end Go.Proofs.Ytmphggpibaolcaa.PFnExactLineOk
