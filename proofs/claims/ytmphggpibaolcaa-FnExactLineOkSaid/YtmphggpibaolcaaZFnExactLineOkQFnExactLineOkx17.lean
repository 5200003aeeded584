/- Walks of the functions that the law 'FnExactLineOk' reaches, part 17: for each a Lean function and the proof that Go's comes to just its answer (lines of the print, under own names; no condition). -/
import Derived.Test.YtmphggpibaolcaaZFnExactLineOkQFnExactLineOkx0
import Derived.Test.YtmphggpibaolcaaZFnExactLineOkQFnExactLineOkx3
import Derived.Test.YtmphggpibaolcaaZFnExactLineOkQFnExactLineOkx7
import Derived.Test.YtmphggpibaolcaaZFnExactLineOkQFnExactLineOkx8
import Derived.Test.YtmphggpibaolcaaZFnExactLineOkQFnExactLineOkx13
import Derived.Test.YtmphggpibaolcaaZFnExactLineOkQFnExactLineOkx16
namespace Go.Proofs.Ytmphggpibaolcaa.PFnExactLineOk
open Go.RowKit Go.Proofs.YtmphggpibaolcaaW.PrintWords Go.Proofs.YtmphggpibaolcaaW.PrintLast Go.Proofs.YtmphggpibaolcaaW.PrintMore
attribute [local go_sem] max2_int min2_int max_two min_two max_three min_three max_four min_four
set_option linter.unusedVariables false
set_option linter.unusedSimpArgs false
def laws_FnExactLineOk.f (k : Nat) (l0_0 : List (S86)) (l0_1 : List (S45)) : Option (Bool) := (laws_szLine.f k l0_0 l0_1 1048576).bind fun t340 => (if t340 < 0 then (some true) else ((laws_toLine.f k l0_0 l0_1).bind fun bt341 => ((spec_LineOk.f k bt341.1 bt341.2).bind fun t347 => ((laws_toLine.f k l0_0 l0_1).bind fun bt348 => ((impl_LineOk.f k bt348.1 bt348.2).bind fun t355 => (if (t355 != t347) = true then (some false) else ((laws_toLine.f k l0_0 l0_1).bind fun bt356 => ((laws_eqLine.f k bt348.1 bt348.2 bt356.1 bt356.2).bind fun t362 => (if t362 = true then (some true) else (some false))))))))))
theorem laws_FnExactLineOk.mono : ∀ a0 a1 k, LeO (laws_FnExactLineOk.f k a0 a1) (laws_FnExactLineOk.f (k + 1) a0 a1) := by
 intro a0 a1 k
 unfold laws_FnExactLineOk.f
 repeat' first
   | (with_reducible exact impl_LineOk.mono _ _ _)
   | (with_reducible exact laws_eqLine.mono _ _ _ _ _)
   | (with_reducible exact laws_szLine.mono _ _ _ _)
   | (with_reducible exact laws_toLine.mono _ _ _)
   | (with_reducible exact spec_LineOk.mono _ _ _)
   | (with_reducible exact LeO.refl _)
   | (with_reducible exact LeO.none _)
   | (with_reducible refine LeO.ite ?_ ?_)
   | (with_reducible refine LeO.bind ?_ (fun _ => ?_))
   | exact impl_LineOk.mono _ _ _
   | exact laws_eqLine.mono _ _ _ _ _
   | exact laws_szLine.mono _ _ _ _
   | exact laws_toLine.mono _ _ _
   | exact spec_LineOk.mono _ _ _
   | exact LeO.none _
   | refine LeO.ite ?_ ?_
   | refine LeO.bind ?_ (fun _ => ?_)
set_option maxHeartbeats 8000000 in
set_option maxRecDepth 100000 in
theorem laws_FnExactLineOk.calls (k : Nat) (A0_0 : Option Addr) (c0_0 : Nat) (l0_0 : List (S86)) (A0_1 : Option Addr) (c0_1 : Nat) (l0_1 : List (S45)) (r : Bool) (w : World) (hr0_0 : Kd.C k86 w A0_0 l0_0.length l0_0) (hc0_0 : l0_0.length ≤ c0_0) (hr0_1 : Kd.C k45 w A0_1 l0_1.length l0_1) (hc0_1 : l0_1.length ≤ c0_1) (h : laws_FnExactLineOk.f k l0_0 l0_1 = some r) :
  Calls Try.prog 6 #[.agg #[.slice A0_0 l0_0.length c0_0, .slice A0_1 l0_1.length c0_1]] w fun e w' => e = .returned (.bool r) ∧ Below w.heap.size w w' := by
 have hu60 := Try.underlying60
 have hu65 := Try.underlying65
 have HR0_0 := A_ hr0_0
 have HC0_0 := A_ hc0_0
 clear hr0_0 hc0_0
 have HR0_1 := A_ hr0_1
 have HC0_1 := A_ hc0_1
 clear hr0_1 hc0_1
 have HB := A_ (Below.refl w.heap.size w)
 have H : ((laws_szLine.f k l0_0 l0_1 1048576).bind fun t340 => (if t340 < 0 then (some true) else ((laws_toLine.f k l0_0 l0_1).bind fun bt341 => ((spec_LineOk.f k bt341.1 bt341.2).bind fun t347 => ((laws_toLine.f k l0_0 l0_1).bind fun bt348 => ((impl_LineOk.f k bt348.1 bt348.2).bind fun t355 => (if (t355 != t347) = true then (some false) else ((laws_toLine.f k l0_0 l0_1).bind fun bt356 => ((laws_eqLine.f k bt348.1 bt348.2 bt356.1 bt356.2).bind fun t362 => (if t362 = true then (some true) else (some false))))))))))) = some r := h
 clear h
 replace H := Option.bind_eq_some_iff.mp H
 obtain ⟨t340, A20, H⟩ := H
 replace H : (if t340 < 0 then (some true) else ((laws_toLine.f k l0_0 l0_1).bind fun bt341 => ((spec_LineOk.f k bt341.1 bt341.2).bind fun t347 => ((laws_toLine.f k l0_0 l0_1).bind fun bt348 => ((impl_LineOk.f k bt348.1 bt348.2).bind fun t355 => (if (t355 != t347) = true then (some false) else ((laws_toLine.f k l0_0 l0_1).bind fun bt356 => ((laws_eqLine.f k bt348.1 bt348.2 bt356.1 bt356.2).bind fun t362 => (if t362 = true then (some true) else (some false)))))))))) = some r := H
 have A2 := A_ A20
 clear A20
 by_cases c3 : t340 < 0
 ·rw [if_pos c3] at H
  have c3b0 : decide (t340 < 0) = true := decide_eq_true c3
  clear c3
  obtain rfl := Option.some.inj H
  go_enter Try.func6, Try.ntmps6
  go_wp2_with (first | ((with_reducible refine gate_dst (N := 1) rfl ?_); refine box_event ?hg (N := 1) ?hd (cs := #[.slice A0_0 l0_0.length c0_0, .slice A0_1 l0_1.length c0_1]) (t := 60) ?hr ?_; (case hd => rfl); (case hg => rfl); (case hr => exact Z15); intro gb339 hg w4 hbox hb; have n0_ := A_ (below_step Z0 hb); have n1_ := A_ (hbox); have n2_ := A_ ((by rw [hg]; exact (below_size Z0) : w.heap.size ≤ gb339)); have n3_ := A_ ((by rw [hg]; exact (below_size Z0) : w.heap.size ≤ gb339)); clear HB; have HB := n0_; have BK339 := n1_; have GW339 := n2_; have GE339 := n3_; clear n0_ n1_ n2_ n3_; clear hb hbox hg; have hcz5_0 : w4.cell? ⟨gb339, 0, none⟩ = some (.slice A0_0 l0_0.length c0_0) := (blk_cell BK339.out 0).trans rfl; have hcz5_1 : w4.cell? ⟨gb339, 1, none⟩ = some (.slice A0_1 l0_1.length c0_1) := (blk_cell BK339.out 1).trans rfl; have hfz5_0 := blk_frozen BK339.out 0; have hfz5_1 := blk_frozen BK339.out 1) | ((with_reducible refine gate_callee (f := 26) rfl ?_); refine goesL_ (some 9) rfl rfl Try.func26 (by kernel_rfl) rfl #[.agg #[.slice A0_0 l0_0.length c0_0, .slice A0_1 l0_1.length c0_1], .int .i64 1048576] rfl Z5 ?_; (with_reducible refine (laws_szLine.calls k _ _ l0_0 _ _ l0_1 1048576 t340 _ ?side1 ?side2 ?side3 ?side4 A2.out).mono ?_); (case side1 => exact Z4 HR0_0.out); (case side2 => exact HC0_0.out); (case side3 => exact Z4 HR0_1.out); (case side4 => exact HC0_1.out); rintro e w6 ⟨rfl, hb⟩; refine ⟨_, rfl, ?_⟩; have n0_ := A_ (blk_below (g := gb339) (o := .cells #[.slice A0_0 l0_0.length c0_0, .slice A0_1 l0_1.length c0_1] 60 (0, 0)) (Z3 BK339.out) hb); have n1_ := A_ (below_step (Z2 GE339.out) hb); clear BK339; clear HB; have BK339 := n0_; have HB := n1_; clear n0_ n1_; (try clear hb); (try clear hb2); (try clear hk); (try clear hi)))
  go_ret
  exact ⟨Z7, Z2 GE339.out⟩
 ·rw [if_neg c3] at H
  have c3b0 : decide (t340 < 0) = false := decide_eq_false c3
  clear c3
  replace H := Option.bind_eq_some_iff.mp H
  obtain ⟨⟨t341, t344⟩, A70, H⟩ := H
  replace H : ((spec_LineOk.f k t341 t344).bind fun t347 => ((laws_toLine.f k l0_0 l0_1).bind fun bt348 => ((impl_LineOk.f k bt348.1 bt348.2).bind fun t355 => (if (t355 != t347) = true then (some false) else ((laws_toLine.f k l0_0 l0_1).bind fun bt356 => ((laws_eqLine.f k bt348.1 bt348.2 bt356.1 bt356.2).bind fun t362 => (if t362 = true then (some true) else (some false)))))))) = some r := H
  have A7 := A_ A70
  clear A70
  replace H := Option.bind_eq_some_iff.mp H
  obtain ⟨t347, A80, H⟩ := H
  replace H : ((laws_toLine.f k l0_0 l0_1).bind fun bt348 => ((impl_LineOk.f k bt348.1 bt348.2).bind fun t355 => (if (t355 != t347) = true then (some false) else ((laws_toLine.f k l0_0 l0_1).bind fun bt356 => ((laws_eqLine.f k bt348.1 bt348.2 bt356.1 bt356.2).bind fun t362 => (if t362 = true then (some true) else (some false))))))) = some r := H
  have A8 := A_ A80
  clear A80
  replace H := Option.bind_eq_some_iff.mp H
  obtain ⟨⟨t348, t351⟩, A90, H⟩ := H
  replace H : ((impl_LineOk.f k t348 t351).bind fun t355 => (if (t355 != t347) = true then (some false) else ((laws_toLine.f k l0_0 l0_1).bind fun bt356 => ((laws_eqLine.f k t348 t351 bt356.1 bt356.2).bind fun t362 => (if t362 = true then (some true) else (some false)))))) = some r := H
  have A9 := A_ A90
  clear A90
  replace H := Option.bind_eq_some_iff.mp H
  obtain ⟨t355, A100, H⟩ := H
  replace H : (if (t355 != t347) = true then (some false) else ((laws_toLine.f k l0_0 l0_1).bind fun bt356 => ((laws_eqLine.f k t348 t351 bt356.1 bt356.2).bind fun t362 => (if t362 = true then (some true) else (some false))))) = some r := H
  have A10 := A_ A100
  clear A100
  by_cases c11 : (t355 != t347) = true
  ·rw [if_pos c11] at H
   have c11b0 : (t355 != t347) = true := c11
   (try (have c11b1 : decide (t355 = t347) = false := by simpa using c11))
   (try (have c11b2 : (t355 == t347) = false := by simpa using c11))
   (try (have c11b3 : ¬ (t355 = t347) := by simpa using c11))
   clear c11
   obtain rfl := Option.some.inj H
   go_enter Try.func6, Try.ntmps6
   go_wp2_with (first | ((with_reducible refine gate_dst (N := 1) rfl ?_); refine box_event ?hg (N := 1) ?hd (cs := #[.slice A0_0 l0_0.length c0_0, .slice A0_1 l0_1.length c0_1]) (t := 60) ?hr ?_; (case hd => rfl); (case hg => rfl); (case hr => exact Z15); intro gb339 hg w12 hbox hb; have n0_ := A_ (below_step Z0 hb); have n1_ := A_ (hbox); have n2_ := A_ ((by rw [hg]; exact (below_size Z0) : w.heap.size ≤ gb339)); have n3_ := A_ ((by rw [hg]; exact (below_size Z0) : w.heap.size ≤ gb339)); clear HB; have HB := n0_; have BK339 := n1_; have GW339 := n2_; have GE339 := n3_; clear n0_ n1_ n2_ n3_; clear hb hbox hg; have hcz13_0 : w12.cell? ⟨gb339, 0, none⟩ = some (.slice A0_0 l0_0.length c0_0) := (blk_cell BK339.out 0).trans rfl; have hcz13_1 : w12.cell? ⟨gb339, 1, none⟩ = some (.slice A0_1 l0_1.length c0_1) := (blk_cell BK339.out 1).trans rfl; have hfz13_0 := blk_frozen BK339.out 0; have hfz13_1 := blk_frozen BK339.out 1) | ((with_reducible refine gate_callee (f := 26) rfl ?_); refine goesL_ (some 9) rfl rfl Try.func26 (by kernel_rfl) rfl #[.agg #[.slice A0_0 l0_0.length c0_0, .slice A0_1 l0_1.length c0_1], .int .i64 1048576] rfl Z5 ?_; (with_reducible refine (laws_szLine.calls k _ _ l0_0 _ _ l0_1 1048576 t340 _ ?side1 ?side2 ?side3 ?side4 A2.out).mono ?_); (case side1 => exact Z4 HR0_0.out); (case side2 => exact HC0_0.out); (case side3 => exact Z4 HR0_1.out); (case side4 => exact HC0_1.out); rintro e w14 ⟨rfl, hb⟩; refine ⟨_, rfl, ?_⟩; have n0_ := A_ (blk_below (g := gb339) (o := .cells #[.slice A0_0 l0_0.length c0_0, .slice A0_1 l0_1.length c0_1] 60 (0, 0)) (Z3 BK339.out) hb); have n1_ := A_ (below_step (Z2 GE339.out) hb); clear BK339; clear HB; have BK339 := n0_; have HB := n1_; clear n0_ n1_; (try clear hb); (try clear hb2); (try clear hk); (try clear hi); have hcz15_0 : w14.cell? ⟨gb339, 0, none⟩ = some (.slice A0_0 l0_0.length c0_0) := (blk_cell BK339.out 0).trans rfl; have hcz15_1 : w14.cell? ⟨gb339, 1, none⟩ = some (.slice A0_1 l0_1.length c0_1) := (blk_cell BK339.out 1).trans rfl; have hfz15_0 := blk_frozen BK339.out 0; have hfz15_1 := blk_frozen BK339.out 1) | ((with_reducible refine gate_callee (f := 28) rfl ?_); refine goesL_ (some 13) rfl rfl Try.func28 (by kernel_rfl) rfl #[.agg #[.slice A0_0 l0_0.length c0_0, .slice A0_1 l0_1.length c0_1]] rfl Z5 ?_; (with_reducible refine (laws_toLine.calls k _ _ l0_0 _ _ l0_1 t341 t344 _ ?side1 ?side2 ?side3 ?side4 A7.out).mono ?_); (case side1 => exact Z4 HR0_0.out); (case side2 => exact HC0_0.out); (case side3 => exact Z4 HR0_1.out); (case side4 => exact HC0_1.out); rintro e w16 ⟨v342, v345, rfl, ho0, ho1, hb⟩; refine ⟨_, rfl, ?_⟩; have n0_ := A_ (Kd.S_lower ho0 (below_size (Z2 GE339.out))); have n1_ := A_ (Kd.S_lower ho1 (below_size (Z2 GE339.out))); have n2_ := A_ (blk_below (g := gb339) (o := .cells #[.slice A0_0 l0_0.length c0_0, .slice A0_1 l0_1.length c0_1] 60 (0, 0)) (Z3 BK339.out) hb); have n3_ := A_ (below_step (Z2 GE339.out) hb); clear BK339; clear HB; have HO343 := n0_; have HO346 := n1_; have BK339 := n2_; have HB := n3_; clear n0_ n1_ n2_ n3_; (try clear hb); (try clear hb2); (try clear hk); (try clear hi); (try clear ho0); (try clear ho1); obtain ⟨Ao17, co17, eo17⟩ := Kd.S_slice HO343.out; subst eo17; obtain ⟨Ao18, co18, eo18⟩ := Kd.S_slice HO346.out; subst eo18) | ((with_reducible refine gate_callee (f := 27) rfl ?_); refine goesL_ (some 14) rfl rfl Try.func27 (by kernel_rfl) rfl #[.agg #[.slice Ao17 t341.length co17, .slice Ao18 t344.length co18]] rfl Z5 ?_; (with_reducible refine (spec_LineOk.calls k _ _ t341 _ _ t344 t347 _ ?side1 ?side2 ?side3 ?side4 A8.out).mono ?_); (case side1 => exact Z19 HO343.out); (case side2 => exact (Kd.S_reads' HO343.out).2.1); (case side3 => exact Z19 HO346.out); (case side4 => exact (Kd.S_reads' HO346.out).2.1); rintro e w19 ⟨rfl, hb⟩; refine ⟨_, rfl, ?_⟩; have n0_ := A_ (Kd.S_below (Z14 HO343.out) hb); have n1_ := A_ (Kd.S_below (Z14 HO346.out) hb); have n2_ := A_ (blk_below (g := gb339) (o := .cells #[.slice A0_0 l0_0.length c0_0, .slice A0_1 l0_1.length c0_1] 60 (0, 0)) (Z3 BK339.out) hb); have n3_ := A_ (below_step (Z2 GE339.out) hb); clear HO343; clear HO346; clear BK339; clear HB; have HO343 := n0_; have HO346 := n1_; have BK339 := n2_; have HB := n3_; clear n0_ n1_ n2_ n3_; (try clear hb); (try clear hb2); (try clear hk); (try clear hi); have hcz20_0 : w19.cell? ⟨gb339, 0, none⟩ = some (.slice A0_0 l0_0.length c0_0) := (blk_cell BK339.out 0).trans rfl; have hcz20_1 : w19.cell? ⟨gb339, 1, none⟩ = some (.slice A0_1 l0_1.length c0_1) := (blk_cell BK339.out 1).trans rfl; have hfz20_0 := blk_frozen BK339.out 0; have hfz20_1 := blk_frozen BK339.out 1) | ((with_reducible refine gate_callee (f := 28) rfl ?_); refine goesL_ (some 16) rfl rfl Try.func28 (by kernel_rfl) rfl #[.agg #[.slice A0_0 l0_0.length c0_0, .slice A0_1 l0_1.length c0_1]] rfl Z5 ?_; (with_reducible refine (laws_toLine.calls k _ _ l0_0 _ _ l0_1 t348 t351 _ ?side1 ?side2 ?side3 ?side4 A9.out).mono ?_); (case side1 => exact Z4 HR0_0.out); (case side2 => exact HC0_0.out); (case side3 => exact Z4 HR0_1.out); (case side4 => exact HC0_1.out); rintro e w21 ⟨v349, v352, rfl, ho0, ho1, hb⟩; refine ⟨_, rfl, ?_⟩; have n0_ := A_ (Kd.S_elder' (Z14 HO343.out) (Kd.S_base ho0) hb); have n1_ := A_ (Kd.S_elder' (Z14 HO346.out) (Kd.S_base ho1) hb); have n2_ := A_ (Kd.S_lower (Kd.S_new' ho0 (Kd.S_lt (Z14 HO343.out))) (below_size (Z2 GE339.out))); have n3_ := A_ (Kd.S_lower (Kd.S_new' ho1 (Kd.S_lt (Z14 HO346.out))) (below_size (Z2 GE339.out))); have n4_ := A_ (blk_below (g := gb339) (o := .cells #[.slice A0_0 l0_0.length c0_0, .slice A0_1 l0_1.length c0_1] 60 (0, 0)) (Z3 BK339.out) hb); have n5_ := A_ (below_step (Z2 GE339.out) hb); clear HO343; clear HO346; clear BK339; clear HB; have HO343 := n0_; have HO346 := n1_; have HO350 := n2_; have HO353 := n3_; have BK339 := n4_; have HB := n5_; clear n0_ n1_ n2_ n3_ n4_ n5_; (try clear hb); (try clear hb2); (try clear hk); (try clear hi); (try clear ho0); (try clear ho1)) | ((with_reducible refine gate_dst (N := 5) rfl ?_); refine box_event ?hg (N := 5) ?hd (cs := #[.slice none 0 0, .slice none 0 0]) (t := 65) ?hr ?_; (case hd => rfl); (case hg => rfl); (case hr => exact Z15); intro gb354 hg w22 hbox hb; have n0_ := A_ (Kd.S_below (Z14 HO343.out) hb); have n1_ := A_ (Kd.S_below (Z14 HO346.out) hb); have n2_ := A_ (Kd.S_below (Z14 HO350.out) hb); have n3_ := A_ (Kd.S_below (Z14 HO353.out) hb); have n4_ := A_ (blk_below (g := gb339) (o := .cells #[.slice A0_0 l0_0.length c0_0, .slice A0_1 l0_1.length c0_1] 60 (0, 0)) (Z3 BK339.out) hb); have n5_ := A_ (below_step (Z2 GE339.out) hb); have n6_ := A_ (hbox); have n7_ := A_ ((by rw [hg]; exact (below_size (Z2 GE339.out)) : w.heap.size ≤ gb354)); have n8_ := A_ ((by rw [hg]; exact (below_size (Z2 GE339.out)) : w.heap.size ≤ gb354)); have n9_ := A_ ((by rw [hg]; exact Nat.ne_of_lt (blk_lt (g := gb339) (o := .cells #[.slice A0_0 l0_0.length c0_0, .slice A0_1 l0_1.length c0_1] 60 (0, 0)) (Z3 BK339.out)) : gb339 ≠ gb354)); have n10_ := A_ ((by rw [hg]; exact Nat.ne_of_gt (blk_lt (g := gb339) (o := .cells #[.slice A0_0 l0_0.length c0_0, .slice A0_1 l0_1.length c0_1] 60 (0, 0)) (Z3 BK339.out)) : gb354 ≠ gb339)); clear HO343; clear HO346; clear HO350; clear HO353; clear BK339; clear HB; have HO343 := n0_; have HO346 := n1_; have HO350 := n2_; have HO353 := n3_; have BK339 := n4_; have HB := n5_; have BK354 := n6_; have GW354 := n7_; have GE354 := n8_; have NB339_354 := n9_; have NB354_339 := n10_; clear n0_ n1_ n2_ n3_ n4_ n5_ n6_ n7_ n8_ n9_ n10_; clear hb hbox hg; obtain ⟨Ao23, co23, eo23⟩ := Kd.S_slice HO350.out; subst eo23; have hnb24 := NB354_339.out; have hnc24 := NB339_354.out; have hcz25_0 : w22.cell? ⟨gb354, 0, none⟩ = some (.slice none 0 0) := (blk_cell BK354.out 0).trans rfl; have hcz25_1 : w22.cell? ⟨gb354, 1, none⟩ = some (.slice none 0 0) := (blk_cell BK354.out 1).trans rfl; have hfz25_0 := blk_frozen BK354.out 0; have hfz25_1 := blk_frozen BK354.out 1; obtain ⟨Ao26, co26, eo26⟩ := Kd.S_slice HO353.out; subst eo26) | ((with_reducible refine gate_callee (f := 29) rfl ?_); refine goesL_ (some 18) rfl rfl Try.func29 (by kernel_rfl) rfl #[.agg #[.slice Ao23 t348.length co23, .slice Ao26 t351.length co26]] rfl Z5 ?_; (with_reducible refine (impl_LineOk.calls k _ _ t348 _ _ t351 t355 _ ?side1 ?side2 ?side3 ?side4 A10.out).mono ?_); (case side1 => refine (Kd.S_reads' (e := 95) (base := w.heap.size) (ok := fun k_ => (True ∧ some k_ ≠ (.slice Ao17 t341.length co17 : Value).ownBlock)) (n := t348.length) (c := co23) ?_).2.2; exact (Z24 HO350.out BK354.out)); (case side2 => exact (Kd.S_reads' HO350.out).2.1); (case side3 => refine (Kd.S_reads' (e := 53) (base := w.heap.size) (ok := fun k_ => (True ∧ some k_ ≠ (.slice Ao18 t344.length co18 : Value).ownBlock)) (n := t351.length) (c := co26) ?_).2.2; exact (Z24 HO353.out BK354.out)); (case side4 => exact (Kd.S_reads' HO353.out).2.1); rintro e w27 ⟨rfl, hb⟩; refine ⟨_, rfl, ?_⟩; have n0_ := A_ (Kd.S_below (Z24 HO343.out BK354.out) hb); have n1_ := A_ (Kd.S_below (Z24 HO346.out BK354.out) hb); have n2_ := A_ (Kd.S_below (Z24 HO350.out BK354.out) hb); have n3_ := A_ (Kd.S_below (Z24 HO353.out BK354.out) hb); have n4_ := A_ (blk_below (g := gb339) (o := .cells #[.slice A0_0 l0_0.length c0_0, .slice A0_1 l0_1.length c0_1] 60 (0, 0)) (Z18 NB339_354.out BK339.out) hb); have n5_ := A_ (blk_below (g := gb354) (o := .cells #[.slice Ao23 t348.length co23, .slice Ao26 t351.length co26] 65 (0, 0)) (by (with_reducible repeat (first | refine blk_drewN ?_ _ | refine blk_drew ?_ | refine blk_alloc ?_ _)); refine blk_put (cs := #[.slice Ao23 t348.length co23, .slice none 0 0]) ?_ 1 _ rfl; (with_reducible repeat (first | refine blk_drewN ?_ _ | refine blk_drew ?_ | refine blk_alloc ?_ _)); refine blk_put (cs := #[.slice none 0 0, .slice none 0 0]) ?_ 0 _ rfl; (with_reducible repeat (first | refine blk_drewN ?_ _ | refine blk_drew ?_ | refine blk_alloc ?_ _)); exact BK354.out) hb); have n6_ := A_ (below_step (Z6 GE339.out GE354.out) hb); clear HO343; clear HO346; clear HO350; clear HO353; clear BK339; clear BK354; clear HB; have HO343 := n0_; have HO346 := n1_; have HO350 := n2_; have HO353 := n3_; have BK339 := n4_; have BK354 := n5_; have HB := n6_; clear n0_ n1_ n2_ n3_ n4_ n5_ n6_; (try clear hb); (try clear hb2); (try clear hk); (try clear hi)))
   go_ret
   exact ⟨Z7, Z6 GE339.out GE354.out⟩
  ·rw [if_neg c11] at H
   have c11b0 : (t355 != t347) = false := by simpa using c11
   (try (have c11b1 : decide (t355 = t347) = true := by simpa using c11))
   (try (have c11b2 : (t355 == t347) = true := by simpa using c11))
   clear c11
   replace H := Option.bind_eq_some_iff.mp H
   obtain ⟨⟨t356, t359⟩, A280, H⟩ := H
   replace H : ((laws_eqLine.f k t348 t351 t356 t359).bind fun t362 => (if t362 = true then (some true) else (some false))) = some r := H
   have A28 := A_ A280
   clear A280
   replace H := Option.bind_eq_some_iff.mp H
   obtain ⟨t362, A290, H⟩ := H
   replace H : (if t362 = true then (some true) else (some false)) = some r := H
   have A29 := A_ A290
   clear A290
   by_cases c30 : t362 = true
   ·subst c30
    have H1 : (some true) = some r := by rw [if_pos rfl] at H; exact H
    clear H
    have H := H1
    clear H1
    obtain rfl := Option.some.inj H
    go_enter Try.func6, Try.ntmps6
    try go_wp2_with (first | ((with_reducible refine gate_dst (N := 1) rfl ?_); refine box_event ?hg (N := 1) ?hd (cs := #[.slice A0_0 l0_0.length c0_0, .slice A0_1 l0_1.length c0_1]) (t := 60) ?hr ?_; (case hd => rfl); (case hg => rfl); (case hr => exact Z15); intro gb339 hg w31 hbox hb; have n0_ := A_ (below_step Z0 hb); have n1_ := A_ (hbox); have n2_ := A_ ((by rw [hg]; exact (below_size Z0) : w.heap.size ≤ gb339)); have n3_ := A_ ((by rw [hg]; exact (below_size Z0) : w.heap.size ≤ gb339)); clear HB; have HB := n0_; have BK339 := n1_; have GW339 := n2_; have GE339 := n3_; clear n0_ n1_ n2_ n3_; clear hb hbox hg; have hcz32_0 : w31.cell? ⟨gb339, 0, none⟩ = some (.slice A0_0 l0_0.length c0_0) := (blk_cell BK339.out 0).trans rfl; have hcz32_1 : w31.cell? ⟨gb339, 1, none⟩ = some (.slice A0_1 l0_1.length c0_1) := (blk_cell BK339.out 1).trans rfl; have hfz32_0 := blk_frozen BK339.out 0; have hfz32_1 := blk_frozen BK339.out 1) | ((with_reducible refine gate_callee (f := 26) rfl ?_); refine goesL_ (some 9) rfl rfl Try.func26 (by kernel_rfl) rfl #[.agg #[.slice A0_0 l0_0.length c0_0, .slice A0_1 l0_1.length c0_1], .int .i64 1048576] rfl Z5 ?_; (with_reducible refine (laws_szLine.calls k _ _ l0_0 _ _ l0_1 1048576 t340 _ ?side1 ?side2 ?side3 ?side4 A2.out).mono ?_); (case side1 => exact Z4 HR0_0.out); (case side2 => exact HC0_0.out); (case side3 => exact Z4 HR0_1.out); (case side4 => exact HC0_1.out); rintro e w33 ⟨rfl, hb⟩; refine ⟨_, rfl, ?_⟩; have n0_ := A_ (blk_below (g := gb339) (o := .cells #[.slice A0_0 l0_0.length c0_0, .slice A0_1 l0_1.length c0_1] 60 (0, 0)) (Z3 BK339.out) hb); have n1_ := A_ (below_step (Z2 GE339.out) hb); clear BK339; clear HB; have BK339 := n0_; have HB := n1_; clear n0_ n1_; (try clear hb); (try clear hb2); (try clear hk); (try clear hi); have hcz34_0 : w33.cell? ⟨gb339, 0, none⟩ = some (.slice A0_0 l0_0.length c0_0) := (blk_cell BK339.out 0).trans rfl; have hcz34_1 : w33.cell? ⟨gb339, 1, none⟩ = some (.slice A0_1 l0_1.length c0_1) := (blk_cell BK339.out 1).trans rfl; have hfz34_0 := blk_frozen BK339.out 0; have hfz34_1 := blk_frozen BK339.out 1) | ((with_reducible refine gate_callee (f := 28) rfl ?_); refine goesL_ (some 13) rfl rfl Try.func28 (by kernel_rfl) rfl #[.agg #[.slice A0_0 l0_0.length c0_0, .slice A0_1 l0_1.length c0_1]] rfl Z5 ?_; (with_reducible refine (laws_toLine.calls k _ _ l0_0 _ _ l0_1 t341 t344 _ ?side1 ?side2 ?side3 ?side4 A7.out).mono ?_); (case side1 => exact Z4 HR0_0.out); (case side2 => exact HC0_0.out); (case side3 => exact Z4 HR0_1.out); (case side4 => exact HC0_1.out); rintro e w35 ⟨v342, v345, rfl, ho0, ho1, hb⟩; refine ⟨_, rfl, ?_⟩; have n0_ := A_ (Kd.S_lower ho0 (below_size (Z2 GE339.out))); have n1_ := A_ (Kd.S_lower ho1 (below_size (Z2 GE339.out))); have n2_ := A_ (blk_below (g := gb339) (o := .cells #[.slice A0_0 l0_0.length c0_0, .slice A0_1 l0_1.length c0_1] 60 (0, 0)) (Z3 BK339.out) hb); have n3_ := A_ (below_step (Z2 GE339.out) hb); clear BK339; clear HB; have HO343 := n0_; have HO346 := n1_; have BK339 := n2_; have HB := n3_; clear n0_ n1_ n2_ n3_; (try clear hb); (try clear hb2); (try clear hk); (try clear hi); (try clear ho0); (try clear ho1); obtain ⟨Ao36, co36, eo36⟩ := Kd.S_slice HO343.out; subst eo36; obtain ⟨Ao37, co37, eo37⟩ := Kd.S_slice HO346.out; subst eo37) | ((with_reducible refine gate_callee (f := 27) rfl ?_); refine goesL_ (some 14) rfl rfl Try.func27 (by kernel_rfl) rfl #[.agg #[.slice Ao36 t341.length co36, .slice Ao37 t344.length co37]] rfl Z5 ?_; (with_reducible refine (spec_LineOk.calls k _ _ t341 _ _ t344 t347 _ ?side1 ?side2 ?side3 ?side4 A8.out).mono ?_); (case side1 => exact Z19 HO343.out); (case side2 => exact (Kd.S_reads' HO343.out).2.1); (case side3 => exact Z19 HO346.out); (case side4 => exact (Kd.S_reads' HO346.out).2.1); rintro e w38 ⟨rfl, hb⟩; refine ⟨_, rfl, ?_⟩; have n0_ := A_ (Kd.S_below (Z14 HO343.out) hb); have n1_ := A_ (Kd.S_below (Z14 HO346.out) hb); have n2_ := A_ (blk_below (g := gb339) (o := .cells #[.slice A0_0 l0_0.length c0_0, .slice A0_1 l0_1.length c0_1] 60 (0, 0)) (Z3 BK339.out) hb); have n3_ := A_ (below_step (Z2 GE339.out) hb); clear HO343; clear HO346; clear BK339; clear HB; have HO343 := n0_; have HO346 := n1_; have BK339 := n2_; have HB := n3_; clear n0_ n1_ n2_ n3_; (try clear hb); (try clear hb2); (try clear hk); (try clear hi); have hcz39_0 : w38.cell? ⟨gb339, 0, none⟩ = some (.slice A0_0 l0_0.length c0_0) := (blk_cell BK339.out 0).trans rfl; have hcz39_1 : w38.cell? ⟨gb339, 1, none⟩ = some (.slice A0_1 l0_1.length c0_1) := (blk_cell BK339.out 1).trans rfl; have hfz39_0 := blk_frozen BK339.out 0; have hfz39_1 := blk_frozen BK339.out 1) | ((with_reducible refine gate_callee (f := 28) rfl ?_); refine goesL_ (some 16) rfl rfl Try.func28 (by kernel_rfl) rfl #[.agg #[.slice A0_0 l0_0.length c0_0, .slice A0_1 l0_1.length c0_1]] rfl Z5 ?_; (with_reducible refine (laws_toLine.calls k _ _ l0_0 _ _ l0_1 t348 t351 _ ?side1 ?side2 ?side3 ?side4 A9.out).mono ?_); (case side1 => exact Z4 HR0_0.out); (case side2 => exact HC0_0.out); (case side3 => exact Z4 HR0_1.out); (case side4 => exact HC0_1.out); rintro e w40 ⟨v349, v352, rfl, ho0, ho1, hb⟩; refine ⟨_, rfl, ?_⟩; have n0_ := A_ (Kd.S_elder' (Z14 HO343.out) (Kd.S_base ho0) hb); have n1_ := A_ (Kd.S_elder' (Z14 HO346.out) (Kd.S_base ho1) hb); have n2_ := A_ (Kd.S_lower (Kd.S_new' ho0 (Kd.S_lt (Z14 HO343.out))) (below_size (Z2 GE339.out))); have n3_ := A_ (Kd.S_lower (Kd.S_new' ho1 (Kd.S_lt (Z14 HO346.out))) (below_size (Z2 GE339.out))); have n4_ := A_ (blk_below (g := gb339) (o := .cells #[.slice A0_0 l0_0.length c0_0, .slice A0_1 l0_1.length c0_1] 60 (0, 0)) (Z3 BK339.out) hb); have n5_ := A_ (below_step (Z2 GE339.out) hb); clear HO343; clear HO346; clear BK339; clear HB; have HO343 := n0_; have HO346 := n1_; have HO350 := n2_; have HO353 := n3_; have BK339 := n4_; have HB := n5_; clear n0_ n1_ n2_ n3_ n4_ n5_; (try clear hb); (try clear hb2); (try clear hk); (try clear hi); (try clear ho0); (try clear ho1)) | ((with_reducible refine gate_dst (N := 5) rfl ?_); refine box_event ?hg (N := 5) ?hd (cs := #[.slice none 0 0, .slice none 0 0]) (t := 65) ?hr ?_; (case hd => rfl); (case hg => rfl); (case hr => exact Z15); intro gb354 hg w41 hbox hb; have n0_ := A_ (Kd.S_below (Z14 HO343.out) hb); have n1_ := A_ (Kd.S_below (Z14 HO346.out) hb); have n2_ := A_ (Kd.S_below (Z14 HO350.out) hb); have n3_ := A_ (Kd.S_below (Z14 HO353.out) hb); have n4_ := A_ (blk_below (g := gb339) (o := .cells #[.slice A0_0 l0_0.length c0_0, .slice A0_1 l0_1.length c0_1] 60 (0, 0)) (Z3 BK339.out) hb); have n5_ := A_ (below_step (Z2 GE339.out) hb); have n6_ := A_ (hbox); have n7_ := A_ ((by rw [hg]; exact (below_size (Z2 GE339.out)) : w.heap.size ≤ gb354)); have n8_ := A_ ((by rw [hg]; exact (below_size (Z2 GE339.out)) : w.heap.size ≤ gb354)); have n9_ := A_ ((by rw [hg]; exact Nat.ne_of_lt (blk_lt (g := gb339) (o := .cells #[.slice A0_0 l0_0.length c0_0, .slice A0_1 l0_1.length c0_1] 60 (0, 0)) (Z3 BK339.out)) : gb339 ≠ gb354)); have n10_ := A_ ((by rw [hg]; exact Nat.ne_of_gt (blk_lt (g := gb339) (o := .cells #[.slice A0_0 l0_0.length c0_0, .slice A0_1 l0_1.length c0_1] 60 (0, 0)) (Z3 BK339.out)) : gb354 ≠ gb339)); clear HO343; clear HO346; clear HO350; clear HO353; clear BK339; clear HB; have HO343 := n0_; have HO346 := n1_; have HO350 := n2_; have HO353 := n3_; have BK339 := n4_; have HB := n5_; have BK354 := n6_; have GW354 := n7_; have GE354 := n8_; have NB339_354 := n9_; have NB354_339 := n10_; clear n0_ n1_ n2_ n3_ n4_ n5_ n6_ n7_ n8_ n9_ n10_; clear hb hbox hg; obtain ⟨Ao42, co42, eo42⟩ := Kd.S_slice HO350.out; subst eo42; have hnb43 := NB354_339.out; have hnc43 := NB339_354.out; have hcz44_0 : w41.cell? ⟨gb354, 0, none⟩ = some (.slice none 0 0) := (blk_cell BK354.out 0).trans rfl; have hcz44_1 : w41.cell? ⟨gb354, 1, none⟩ = some (.slice none 0 0) := (blk_cell BK354.out 1).trans rfl; have hfz44_0 := blk_frozen BK354.out 0; have hfz44_1 := blk_frozen BK354.out 1; obtain ⟨Ao45, co45, eo45⟩ := Kd.S_slice HO353.out; subst eo45) | ((with_reducible refine gate_callee (f := 29) rfl ?_); refine goesL_ (some 18) rfl rfl Try.func29 (by kernel_rfl) rfl #[.agg #[.slice Ao42 t348.length co42, .slice Ao45 t351.length co45]] rfl Z5 ?_; (with_reducible refine (impl_LineOk.calls k _ _ t348 _ _ t351 t355 _ ?side1 ?side2 ?side3 ?side4 A10.out).mono ?_); (case side1 => refine (Kd.S_reads' (e := 95) (base := w.heap.size) (ok := fun k_ => (True ∧ some k_ ≠ (.slice Ao36 t341.length co36 : Value).ownBlock)) (n := t348.length) (c := co42) ?_).2.2; exact (Z23 HO350.out BK354.out)); (case side2 => exact (Kd.S_reads' HO350.out).2.1); (case side3 => refine (Kd.S_reads' (e := 53) (base := w.heap.size) (ok := fun k_ => (True ∧ some k_ ≠ (.slice Ao37 t344.length co37 : Value).ownBlock)) (n := t351.length) (c := co45) ?_).2.2; exact (Z23 HO353.out BK354.out)); (case side4 => exact (Kd.S_reads' HO353.out).2.1); rintro e w46 ⟨rfl, hb⟩; refine ⟨_, rfl, ?_⟩; have n0_ := A_ (Kd.S_below (Z23 HO343.out BK354.out) hb); have n1_ := A_ (Kd.S_below (Z23 HO346.out BK354.out) hb); have n2_ := A_ (Kd.S_below (Z23 HO350.out BK354.out) hb); have n3_ := A_ (Kd.S_below (Z23 HO353.out BK354.out) hb); have n4_ := A_ (blk_below (g := gb339) (o := .cells #[.slice A0_0 l0_0.length c0_0, .slice A0_1 l0_1.length c0_1] 60 (0, 0)) (Z18 NB339_354.out BK339.out) hb); have n5_ := A_ (blk_below (g := gb354) (o := .cells #[.slice Ao42 t348.length co42, .slice Ao45 t351.length co45] 65 (0, 0)) (by (with_reducible repeat (first | refine blk_drewN ?_ _ | refine blk_drew ?_ | refine blk_alloc ?_ _)); refine blk_put (cs := #[.slice Ao42 t348.length co42, .slice none 0 0]) ?_ 1 _ rfl; (with_reducible repeat (first | refine blk_drewN ?_ _ | refine blk_drew ?_ | refine blk_alloc ?_ _)); refine blk_put (cs := #[.slice none 0 0, .slice none 0 0]) ?_ 0 _ rfl; (with_reducible repeat (first | refine blk_drewN ?_ _ | refine blk_drew ?_ | refine blk_alloc ?_ _)); exact BK354.out) hb); have n6_ := A_ (below_step (Z6 GE339.out GE354.out) hb); clear HO343; clear HO346; clear HO350; clear HO353; clear BK339; clear BK354; clear HB; have HO343 := n0_; have HO346 := n1_; have HO350 := n2_; have HO353 := n3_; have BK339 := n4_; have BK354 := n5_; have HB := n6_; clear n0_ n1_ n2_ n3_ n4_ n5_ n6_; (try clear hb); (try clear hb2); (try clear hk); (try clear hi)))
    have n0_ := A_ (Kd.S_drew HO343.out)
    have n1_ := A_ (Kd.S_drew HO346.out)
    have n2_ := A_ (Kd.S_drew HO350.out)
    have n3_ := A_ (Kd.S_drew HO353.out)
    have n4_ := A_ (blk_drew BK339.out)
    have n5_ := A_ (blk_drew BK354.out)
    have n6_ := A_ (below_drew1 HB.out)
    clear HO343
    clear HO346
    clear HO350
    clear HO353
    clear BK339
    clear BK354
    clear HB
    have HO343 := n0_
    have HO346 := n1_
    have HO350 := n2_
    have HO353 := n3_
    have BK339 := n4_
    have BK354 := n5_
    have HB := n6_
    clear n0_ n1_ n2_ n3_ n4_ n5_ n6_
    refine start_ (n := 5) (S := fun w' => w'.cell? ⟨gb354, 0, none⟩ = some (.slice Ao42 t348.length co42) ∧ w'.cell? ⟨gb354, 1, none⟩ = some (.slice Ao45 t351.length co45) ∧ w'.cell? ⟨gb339, 0, none⟩ = some (.slice A0_0 l0_0.length c0_0) ∧ w'.cell? ⟨gb339, 1, none⟩ = some (.slice A0_1 l0_1.length c0_1)) (ds := []) #[F,F,F,F,F] (by kernel_rfl) rfl rfl ⟨(blk_cell BK354.out 0).trans rfl, (blk_cell BK354.out 1).trans rfl, (blk_cell BK339.out 0).trans rfl, (blk_cell BK339.out 1).trans rfl⟩ (fun hHeld => ?_)
    generalize w46.drew = w47 at HO343 HO346 HO350 HO353 BK339 BK354 HB hHeld ⊢
    refine take_ (i := 0) (N := some 22) (v := ?_) (a' := ?_) #[T,F,F,F,F] rfl rfl (by kernel_rfl) ZF (Or.inl ⟨by rfl, ?_⟩) hHeld ?_ ?_
    rotate_left
    ·exact Z25
    rotate_left
    ·exact Z1
    refine take_ (i := 1) (N := some 23) (v := ?_) (a' := ?_) #[T,T,F,F,F] rfl rfl (by kernel_rfl) ZF (Or.inl ⟨by rfl, ?_⟩) hHeld ?_ ?_
    rotate_left
    ·exact Z25
    rotate_left
    ·exact Z1
    refine one_ (i := 2) (N := some 24) #[T,T,T,F,F] rfl rfl (by kernel_rfl) (by decide) (fun K hK => ?_)
    refine goes_ Try.func28 (by kernel_rfl) rfl #[.agg #[.slice A0_0 l0_0.length c0_0, .slice A0_1 l0_1.length c0_1]] (by rfl) rfl rfl Z5 ?_
    with_reducible refine (laws_toLine.calls k _ _ l0_0 _ _ l0_1 t356 t359 _ ?side1 ?side2 ?side3 ?side4 A28.out).mono ?_
    (case side1 => exact Z4 HR0_0.out)
    (case side2 => exact HC0_0.out)
    (case side3 => exact Z4 HR0_1.out)
    (case side4 => exact HC0_1.out)
    rintro e w48 ⟨v357, v360, rfl, ho0, ho1, hb⟩
    refine ⟨_, rfl, ?_⟩
    have n0_ := A_ (Kd.S_elder' (Z14 HO343.out) (Kd.S_base ho0) hb)
    have n1_ := A_ (Kd.S_elder' (Z14 HO346.out) (Kd.S_base ho1) hb)
    have n2_ := A_ (Kd.S_elder' (Z14 HO350.out) (Kd.S_base ho0) hb)
    have n3_ := A_ (Kd.S_elder' (Z14 HO353.out) (Kd.S_base ho1) hb)
    have n4_ := A_ (Kd.S_lower (Kd.S_new' (Kd.S_new' ho0 (Kd.S_lt (Z14 HO343.out))) (Kd.S_lt (Z14 HO350.out))) (below_size (Z6 GE339.out GE354.out)))
    have n5_ := A_ (Kd.S_lower (Kd.S_new' (Kd.S_new' ho1 (Kd.S_lt (Z14 HO346.out))) (Kd.S_lt (Z14 HO353.out))) (below_size (Z6 GE339.out GE354.out)))
    have n6_ := A_ (blk_below (g := gb339) (o := .cells #[.slice A0_0 l0_0.length c0_0, .slice A0_1 l0_1.length c0_1] 60 (0, 0)) (Z3 BK339.out) hb)
    have n7_ := A_ (blk_below (g := gb354) (o := .cells #[.slice Ao42 t348.length co42, .slice Ao45 t351.length co45] 65 (0, 0)) (Z3 BK354.out) hb)
    have n8_ := A_ (below_step (Z6 GE339.out GE354.out) hb)
    clear HO343
    clear HO346
    clear HO350
    clear HO353
    clear BK339
    clear BK354
    clear HB
    have HO343 := n0_
    have HO346 := n1_
    have HO350 := n2_
    have HO353 := n3_
    have HO358 := n4_
    have HO361 := n5_
    have BK339 := n6_
    have BK354 := n7_
    have HB := n8_
    clear n0_ n1_ n2_ n3_ n4_ n5_ n6_ n7_ n8_
    (try clear hb)
    (try clear hb2)
    (try clear hk)
    (try clear hi)
    (try clear ho0)
    (try clear ho1)
    obtain ⟨Ao49, co49, eo49⟩ := Kd.S_slice HO358.out
    (first | subst eo49 | (injection eo49 with f1_ f2_ f3_; have f4_ := f1_.symm; have f5_ := f3_.symm; clear f1_ f2_ f3_; subst f4_; subst f5_))
    obtain ⟨Ao50, co50, eo50⟩ := Kd.S_slice HO361.out
    (first | subst eo50 | (injection eo50 with f1_ f2_ f3_; have f4_ := f1_.symm; have f5_ := f3_.symm; clear f1_ f2_ f3_; subst f4_; subst f5_))
    refine hK.out _ _ ⟨(blk_cell BK354.out 0).trans rfl, (blk_cell BK354.out 1).trans rfl, (blk_cell BK339.out 0).trans rfl, (blk_cell BK339.out 1).trans rfl⟩ (fun hHeld => ?_)
    clear hK K
    refine norm_ (a' := ?_) ?_ ?_
    rotate_left
    ·show Act.put _ (some 24) _ = _
     simp only [Act.put, List.setIfInBounds_toArray, List.set_cons_zero, List.set_cons_succ, i64_w, i32_w]
     rfl
    refine one_ (i := 3) (N := some 25) #[T,T,T,T,F] rfl rfl (by kernel_rfl) (by decide) (fun K hK => ?_)
    refine goes_ Try.func30 (by kernel_rfl) rfl #[.agg #[.slice Ao42 t348.length co42, .slice Ao45 t351.length co45], .agg #[.slice Ao49 t356.length co49, .slice Ao50 t359.length co50]] (by rfl) rfl rfl Z5 ?_
    with_reducible refine (laws_eqLine.calls k _ _ t348 _ _ t351 _ _ t356 _ _ t359 true _ ?side1 ?side2 ?side3 ?side4 ?side5 ?side6 ?side7 ?side8 A29.out).mono ?_
    (case side1 => exact Z19 HO350.out)
    (case side2 => exact (Kd.S_reads' HO350.out).2.1)
    (case side3 => exact Z19 HO353.out)
    (case side4 => exact (Kd.S_reads' HO353.out).2.1)
    (case side5 => exact Z19 HO358.out)
    (case side6 => exact (Kd.S_reads' HO358.out).2.1)
    (case side7 => exact Z19 HO361.out)
    (case side8 => exact (Kd.S_reads' HO361.out).2.1)
    rintro e w51 ⟨rfl, hb⟩
    refine ⟨_, rfl, ?_⟩
    have n0_ := A_ (Kd.S_below (Z14 HO343.out) hb)
    have n1_ := A_ (Kd.S_below (Z14 HO346.out) hb)
    have n2_ := A_ (Kd.S_below (Z14 HO350.out) hb)
    have n3_ := A_ (Kd.S_below (Z14 HO353.out) hb)
    have n4_ := A_ (Kd.S_below (Z14 HO358.out) hb)
    have n5_ := A_ (Kd.S_below (Z14 HO361.out) hb)
    have n6_ := A_ (blk_below (g := gb339) (o := .cells #[.slice A0_0 l0_0.length c0_0, .slice A0_1 l0_1.length c0_1] 60 (0, 0)) (Z3 BK339.out) hb)
    have n7_ := A_ (blk_below (g := gb354) (o := .cells #[.slice Ao42 t348.length co42, .slice Ao45 t351.length co45] 65 (0, 0)) (Z3 BK354.out) hb)
    have n8_ := A_ (below_step (Z6 GE339.out GE354.out) hb)
    clear HO343
    clear HO346
    clear HO350
    clear HO353
    clear HO358
    clear HO361
    clear BK339
    clear BK354
    clear HB
    have HO343 := n0_
    have HO346 := n1_
    have HO350 := n2_
    have HO353 := n3_
    have HO358 := n4_
    have HO361 := n5_
    have BK339 := n6_
    have BK354 := n7_
    have HB := n8_
    clear n0_ n1_ n2_ n3_ n4_ n5_ n6_ n7_ n8_
    (try clear hb)
    (try clear hb2)
    (try clear hk)
    (try clear hi)
    refine hK.out _ _ ⟨(blk_cell BK354.out 0).trans rfl, (blk_cell BK354.out 1).trans rfl, (blk_cell BK339.out 0).trans rfl, (blk_cell BK339.out 1).trans rfl⟩ (fun hHeld => ?_)
    clear hK K
    refine norm_ (a' := ?_) ?_ ?_
    rotate_left
    ·exact Z20
    refine pure_ (i := 4) (N := some 26) (v := ?_) (a' := ?_) #[T,T,T,T,T] rfl rfl (by kernel_rfl) ZF (Or.inl ⟨by rfl, ?_⟩) ?_ ?_
    rotate_left
    ·exact Z13
    rotate_left
    ·exact Z1
    refine done_ (by kernel_rfl) ?_
    try go_wp2
    go_ret
    exact ⟨Z7, Z6 GE339.out GE354.out⟩
   ·replace c30 := Bool.eq_false_iff.mpr c30
    subst c30
    have H1 : (some false) = some r := by rw [if_neg (show ¬ (false = true) by decide)] at H; exact H
    clear H
    have H := H1
    clear H1
    obtain rfl := Option.some.inj H
    go_enter Try.func6, Try.ntmps6
    try go_wp2_with (first | ((with_reducible refine gate_dst (N := 1) rfl ?_); refine box_event ?hg (N := 1) ?hd (cs := #[.slice A0_0 l0_0.length c0_0, .slice A0_1 l0_1.length c0_1]) (t := 60) ?hr ?_; (case hd => rfl); (case hg => rfl); (case hr => exact Z15); intro gb339 hg w52 hbox hb; have n0_ := A_ (below_step Z0 hb); have n1_ := A_ (hbox); have n2_ := A_ ((by rw [hg]; exact (below_size Z0) : w.heap.size ≤ gb339)); have n3_ := A_ ((by rw [hg]; exact (below_size Z0) : w.heap.size ≤ gb339)); clear HB; have HB := n0_; have BK339 := n1_; have GW339 := n2_; have GE339 := n3_; clear n0_ n1_ n2_ n3_; clear hb hbox hg; have hcz53_0 : w52.cell? ⟨gb339, 0, none⟩ = some (.slice A0_0 l0_0.length c0_0) := (blk_cell BK339.out 0).trans rfl; have hcz53_1 : w52.cell? ⟨gb339, 1, none⟩ = some (.slice A0_1 l0_1.length c0_1) := (blk_cell BK339.out 1).trans rfl; have hfz53_0 := blk_frozen BK339.out 0; have hfz53_1 := blk_frozen BK339.out 1) | ((with_reducible refine gate_callee (f := 26) rfl ?_); refine goesL_ (some 9) rfl rfl Try.func26 (by kernel_rfl) rfl #[.agg #[.slice A0_0 l0_0.length c0_0, .slice A0_1 l0_1.length c0_1], .int .i64 1048576] rfl Z5 ?_; (with_reducible refine (laws_szLine.calls k _ _ l0_0 _ _ l0_1 1048576 t340 _ ?side1 ?side2 ?side3 ?side4 A2.out).mono ?_); (case side1 => exact Z4 HR0_0.out); (case side2 => exact HC0_0.out); (case side3 => exact Z4 HR0_1.out); (case side4 => exact HC0_1.out); rintro e w54 ⟨rfl, hb⟩; refine ⟨_, rfl, ?_⟩; have n0_ := A_ (blk_below (g := gb339) (o := .cells #[.slice A0_0 l0_0.length c0_0, .slice A0_1 l0_1.length c0_1] 60 (0, 0)) (Z3 BK339.out) hb); have n1_ := A_ (below_step (Z2 GE339.out) hb); clear BK339; clear HB; have BK339 := n0_; have HB := n1_; clear n0_ n1_; (try clear hb); (try clear hb2); (try clear hk); (try clear hi); have hcz55_0 : w54.cell? ⟨gb339, 0, none⟩ = some (.slice A0_0 l0_0.length c0_0) := (blk_cell BK339.out 0).trans rfl; have hcz55_1 : w54.cell? ⟨gb339, 1, none⟩ = some (.slice A0_1 l0_1.length c0_1) := (blk_cell BK339.out 1).trans rfl; have hfz55_0 := blk_frozen BK339.out 0; have hfz55_1 := blk_frozen BK339.out 1) | ((with_reducible refine gate_callee (f := 28) rfl ?_); refine goesL_ (some 13) rfl rfl Try.func28 (by kernel_rfl) rfl #[.agg #[.slice A0_0 l0_0.length c0_0, .slice A0_1 l0_1.length c0_1]] rfl Z5 ?_; (with_reducible refine (laws_toLine.calls k _ _ l0_0 _ _ l0_1 t341 t344 _ ?side1 ?side2 ?side3 ?side4 A7.out).mono ?_); (case side1 => exact Z4 HR0_0.out); (case side2 => exact HC0_0.out); (case side3 => exact Z4 HR0_1.out); (case side4 => exact HC0_1.out); rintro e w56 ⟨v342, v345, rfl, ho0, ho1, hb⟩; refine ⟨_, rfl, ?_⟩; have n0_ := A_ (Kd.S_lower ho0 (below_size (Z2 GE339.out))); have n1_ := A_ (Kd.S_lower ho1 (below_size (Z2 GE339.out))); have n2_ := A_ (blk_below (g := gb339) (o := .cells #[.slice A0_0 l0_0.length c0_0, .slice A0_1 l0_1.length c0_1] 60 (0, 0)) (Z3 BK339.out) hb); have n3_ := A_ (below_step (Z2 GE339.out) hb); clear BK339; clear HB; have HO343 := n0_; have HO346 := n1_; have BK339 := n2_; have HB := n3_; clear n0_ n1_ n2_ n3_; (try clear hb); (try clear hb2); (try clear hk); (try clear hi); (try clear ho0); (try clear ho1); obtain ⟨Ao57, co57, eo57⟩ := Kd.S_slice HO343.out; subst eo57; obtain ⟨Ao58, co58, eo58⟩ := Kd.S_slice HO346.out; subst eo58) | ((with_reducible refine gate_callee (f := 27) rfl ?_); refine goesL_ (some 14) rfl rfl Try.func27 (by kernel_rfl) rfl #[.agg #[.slice Ao57 t341.length co57, .slice Ao58 t344.length co58]] rfl Z5 ?_; (with_reducible refine (spec_LineOk.calls k _ _ t341 _ _ t344 t347 _ ?side1 ?side2 ?side3 ?side4 A8.out).mono ?_); (case side1 => exact Z19 HO343.out); (case side2 => exact (Kd.S_reads' HO343.out).2.1); (case side3 => exact Z19 HO346.out); (case side4 => exact (Kd.S_reads' HO346.out).2.1); rintro e w59 ⟨rfl, hb⟩; refine ⟨_, rfl, ?_⟩; have n0_ := A_ (Kd.S_below (Z14 HO343.out) hb); have n1_ := A_ (Kd.S_below (Z14 HO346.out) hb); have n2_ := A_ (blk_below (g := gb339) (o := .cells #[.slice A0_0 l0_0.length c0_0, .slice A0_1 l0_1.length c0_1] 60 (0, 0)) (Z3 BK339.out) hb); have n3_ := A_ (below_step (Z2 GE339.out) hb); clear HO343; clear HO346; clear BK339; clear HB; have HO343 := n0_; have HO346 := n1_; have BK339 := n2_; have HB := n3_; clear n0_ n1_ n2_ n3_; (try clear hb); (try clear hb2); (try clear hk); (try clear hi); have hcz60_0 : w59.cell? ⟨gb339, 0, none⟩ = some (.slice A0_0 l0_0.length c0_0) := (blk_cell BK339.out 0).trans rfl; have hcz60_1 : w59.cell? ⟨gb339, 1, none⟩ = some (.slice A0_1 l0_1.length c0_1) := (blk_cell BK339.out 1).trans rfl; have hfz60_0 := blk_frozen BK339.out 0; have hfz60_1 := blk_frozen BK339.out 1) | ((with_reducible refine gate_callee (f := 28) rfl ?_); refine goesL_ (some 16) rfl rfl Try.func28 (by kernel_rfl) rfl #[.agg #[.slice A0_0 l0_0.length c0_0, .slice A0_1 l0_1.length c0_1]] rfl Z5 ?_; (with_reducible refine (laws_toLine.calls k _ _ l0_0 _ _ l0_1 t348 t351 _ ?side1 ?side2 ?side3 ?side4 A9.out).mono ?_); (case side1 => exact Z4 HR0_0.out); (case side2 => exact HC0_0.out); (case side3 => exact Z4 HR0_1.out); (case side4 => exact HC0_1.out); rintro e w61 ⟨v349, v352, rfl, ho0, ho1, hb⟩; refine ⟨_, rfl, ?_⟩; have n0_ := A_ (Kd.S_elder' (Z14 HO343.out) (Kd.S_base ho0) hb); have n1_ := A_ (Kd.S_elder' (Z14 HO346.out) (Kd.S_base ho1) hb); have n2_ := A_ (Kd.S_lower (Kd.S_new' ho0 (Kd.S_lt (Z14 HO343.out))) (below_size (Z2 GE339.out))); have n3_ := A_ (Kd.S_lower (Kd.S_new' ho1 (Kd.S_lt (Z14 HO346.out))) (below_size (Z2 GE339.out))); have n4_ := A_ (blk_below (g := gb339) (o := .cells #[.slice A0_0 l0_0.length c0_0, .slice A0_1 l0_1.length c0_1] 60 (0, 0)) (Z3 BK339.out) hb); have n5_ := A_ (below_step (Z2 GE339.out) hb); clear HO343; clear HO346; clear BK339; clear HB; have HO343 := n0_; have HO346 := n1_; have HO350 := n2_; have HO353 := n3_; have BK339 := n4_; have HB := n5_; clear n0_ n1_ n2_ n3_ n4_ n5_; (try clear hb); (try clear hb2); (try clear hk); (try clear hi); (try clear ho0); (try clear ho1)) | ((with_reducible refine gate_dst (N := 5) rfl ?_); refine box_event ?hg (N := 5) ?hd (cs := #[.slice none 0 0, .slice none 0 0]) (t := 65) ?hr ?_; (case hd => rfl); (case hg => rfl); (case hr => exact Z15); intro gb354 hg w62 hbox hb; have n0_ := A_ (Kd.S_below (Z14 HO343.out) hb); have n1_ := A_ (Kd.S_below (Z14 HO346.out) hb); have n2_ := A_ (Kd.S_below (Z14 HO350.out) hb); have n3_ := A_ (Kd.S_below (Z14 HO353.out) hb); have n4_ := A_ (blk_below (g := gb339) (o := .cells #[.slice A0_0 l0_0.length c0_0, .slice A0_1 l0_1.length c0_1] 60 (0, 0)) (Z3 BK339.out) hb); have n5_ := A_ (below_step (Z2 GE339.out) hb); have n6_ := A_ (hbox); have n7_ := A_ ((by rw [hg]; exact (below_size (Z2 GE339.out)) : w.heap.size ≤ gb354)); have n8_ := A_ ((by rw [hg]; exact (below_size (Z2 GE339.out)) : w.heap.size ≤ gb354)); have n9_ := A_ ((by rw [hg]; exact Nat.ne_of_lt (blk_lt (g := gb339) (o := .cells #[.slice A0_0 l0_0.length c0_0, .slice A0_1 l0_1.length c0_1] 60 (0, 0)) (Z3 BK339.out)) : gb339 ≠ gb354)); have n10_ := A_ ((by rw [hg]; exact Nat.ne_of_gt (blk_lt (g := gb339) (o := .cells #[.slice A0_0 l0_0.length c0_0, .slice A0_1 l0_1.length c0_1] 60 (0, 0)) (Z3 BK339.out)) : gb354 ≠ gb339)); clear HO343; clear HO346; clear HO350; clear HO353; clear BK339; clear HB; have HO343 := n0_; have HO346 := n1_; have HO350 := n2_; have HO353 := n3_; have BK339 := n4_; have HB := n5_; have BK354 := n6_; have GW354 := n7_; have GE354 := n8_; have NB339_354 := n9_; have NB354_339 := n10_; clear n0_ n1_ n2_ n3_ n4_ n5_ n6_ n7_ n8_ n9_ n10_; clear hb hbox hg; obtain ⟨Ao63, co63, eo63⟩ := Kd.S_slice HO350.out; subst eo63; have hnb64 := NB354_339.out; have hnc64 := NB339_354.out; have hcz65_0 : w62.cell? ⟨gb354, 0, none⟩ = some (.slice none 0 0) := (blk_cell BK354.out 0).trans rfl; have hcz65_1 : w62.cell? ⟨gb354, 1, none⟩ = some (.slice none 0 0) := (blk_cell BK354.out 1).trans rfl; have hfz65_0 := blk_frozen BK354.out 0; have hfz65_1 := blk_frozen BK354.out 1; obtain ⟨Ao66, co66, eo66⟩ := Kd.S_slice HO353.out; subst eo66) | ((with_reducible refine gate_callee (f := 29) rfl ?_); refine goesL_ (some 18) rfl rfl Try.func29 (by kernel_rfl) rfl #[.agg #[.slice Ao63 t348.length co63, .slice Ao66 t351.length co66]] rfl Z5 ?_; (with_reducible refine (impl_LineOk.calls k _ _ t348 _ _ t351 t355 _ ?side1 ?side2 ?side3 ?side4 A10.out).mono ?_); (case side1 => refine (Kd.S_reads' (e := 95) (base := w.heap.size) (ok := fun k_ => (True ∧ some k_ ≠ (.slice Ao57 t341.length co57 : Value).ownBlock)) (n := t348.length) (c := co63) ?_).2.2; exact (Z22 HO350.out BK354.out)); (case side2 => exact (Kd.S_reads' HO350.out).2.1); (case side3 => refine (Kd.S_reads' (e := 53) (base := w.heap.size) (ok := fun k_ => (True ∧ some k_ ≠ (.slice Ao58 t344.length co58 : Value).ownBlock)) (n := t351.length) (c := co66) ?_).2.2; exact (Z22 HO353.out BK354.out)); (case side4 => exact (Kd.S_reads' HO353.out).2.1); rintro e w67 ⟨rfl, hb⟩; refine ⟨_, rfl, ?_⟩; have n0_ := A_ (Kd.S_below (Z22 HO343.out BK354.out) hb); have n1_ := A_ (Kd.S_below (Z22 HO346.out BK354.out) hb); have n2_ := A_ (Kd.S_below (Z22 HO350.out BK354.out) hb); have n3_ := A_ (Kd.S_below (Z22 HO353.out BK354.out) hb); have n4_ := A_ (blk_below (g := gb339) (o := .cells #[.slice A0_0 l0_0.length c0_0, .slice A0_1 l0_1.length c0_1] 60 (0, 0)) (Z18 NB339_354.out BK339.out) hb); have n5_ := A_ (blk_below (g := gb354) (o := .cells #[.slice Ao63 t348.length co63, .slice Ao66 t351.length co66] 65 (0, 0)) (by (with_reducible repeat (first | refine blk_drewN ?_ _ | refine blk_drew ?_ | refine blk_alloc ?_ _)); refine blk_put (cs := #[.slice Ao63 t348.length co63, .slice none 0 0]) ?_ 1 _ rfl; (with_reducible repeat (first | refine blk_drewN ?_ _ | refine blk_drew ?_ | refine blk_alloc ?_ _)); refine blk_put (cs := #[.slice none 0 0, .slice none 0 0]) ?_ 0 _ rfl; (with_reducible repeat (first | refine blk_drewN ?_ _ | refine blk_drew ?_ | refine blk_alloc ?_ _)); exact BK354.out) hb); have n6_ := A_ (below_step (Z6 GE339.out GE354.out) hb); clear HO343; clear HO346; clear HO350; clear HO353; clear BK339; clear BK354; clear HB; have HO343 := n0_; have HO346 := n1_; have HO350 := n2_; have HO353 := n3_; have BK339 := n4_; have BK354 := n5_; have HB := n6_; clear n0_ n1_ n2_ n3_ n4_ n5_ n6_; (try clear hb); (try clear hb2); (try clear hk); (try clear hi)))
    have n0_ := A_ (Kd.S_drew HO343.out)
    have n1_ := A_ (Kd.S_drew HO346.out)
    have n2_ := A_ (Kd.S_drew HO350.out)
    have n3_ := A_ (Kd.S_drew HO353.out)
    have n4_ := A_ (blk_drew BK339.out)
    have n5_ := A_ (blk_drew BK354.out)
    have n6_ := A_ (below_drew1 HB.out)
    clear HO343
    clear HO346
    clear HO350
    clear HO353
    clear BK339
    clear BK354
    clear HB
    have HO343 := n0_
    have HO346 := n1_
    have HO350 := n2_
    have HO353 := n3_
    have BK339 := n4_
    have BK354 := n5_
    have HB := n6_
    clear n0_ n1_ n2_ n3_ n4_ n5_ n6_
    refine start_ (n := 5) (S := fun w' => w'.cell? ⟨gb354, 0, none⟩ = some (.slice Ao63 t348.length co63) ∧ w'.cell? ⟨gb354, 1, none⟩ = some (.slice Ao66 t351.length co66) ∧ w'.cell? ⟨gb339, 0, none⟩ = some (.slice A0_0 l0_0.length c0_0) ∧ w'.cell? ⟨gb339, 1, none⟩ = some (.slice A0_1 l0_1.length c0_1)) (ds := []) #[F,F,F,F,F] (by kernel_rfl) rfl rfl ⟨(blk_cell BK354.out 0).trans rfl, (blk_cell BK354.out 1).trans rfl, (blk_cell BK339.out 0).trans rfl, (blk_cell BK339.out 1).trans rfl⟩ (fun hHeld => ?_)
    generalize w67.drew = w68 at HO343 HO346 HO350 HO353 BK339 BK354 HB hHeld ⊢
    refine take_ (i := 0) (N := some 22) (v := ?_) (a' := ?_) #[T,F,F,F,F] rfl rfl (by kernel_rfl) ZF (Or.inl ⟨by rfl, ?_⟩) hHeld ?_ ?_
    rotate_left
    ·exact Z25
    rotate_left
    ·exact Z1
    refine take_ (i := 1) (N := some 23) (v := ?_) (a' := ?_) #[T,T,F,F,F] rfl rfl (by kernel_rfl) ZF (Or.inl ⟨by rfl, ?_⟩) hHeld ?_ ?_
    rotate_left
    ·exact Z25
    rotate_left
    ·exact Z1
    refine one_ (i := 2) (N := some 24) #[T,T,T,F,F] rfl rfl (by kernel_rfl) (by decide) (fun K hK => ?_)
    refine goes_ Try.func28 (by kernel_rfl) rfl #[.agg #[.slice A0_0 l0_0.length c0_0, .slice A0_1 l0_1.length c0_1]] (by rfl) rfl rfl Z5 ?_
    with_reducible refine (laws_toLine.calls k _ _ l0_0 _ _ l0_1 t356 t359 _ ?side1 ?side2 ?side3 ?side4 A28.out).mono ?_
    (case side1 => exact Z4 HR0_0.out)
    (case side2 => exact HC0_0.out)
    (case side3 => exact Z4 HR0_1.out)
    (case side4 => exact HC0_1.out)
    rintro e w69 ⟨v357, v360, rfl, ho0, ho1, hb⟩
    refine ⟨_, rfl, ?_⟩
    have n0_ := A_ (Kd.S_elder' (Z14 HO343.out) (Kd.S_base ho0) hb)
    have n1_ := A_ (Kd.S_elder' (Z14 HO346.out) (Kd.S_base ho1) hb)
    have n2_ := A_ (Kd.S_elder' (Z14 HO350.out) (Kd.S_base ho0) hb)
    have n3_ := A_ (Kd.S_elder' (Z14 HO353.out) (Kd.S_base ho1) hb)
    have n4_ := A_ (Kd.S_lower (Kd.S_new' (Kd.S_new' ho0 (Kd.S_lt (Z14 HO343.out))) (Kd.S_lt (Z14 HO350.out))) (below_size (Z6 GE339.out GE354.out)))
    have n5_ := A_ (Kd.S_lower (Kd.S_new' (Kd.S_new' ho1 (Kd.S_lt (Z14 HO346.out))) (Kd.S_lt (Z14 HO353.out))) (below_size (Z6 GE339.out GE354.out)))
    have n6_ := A_ (blk_below (g := gb339) (o := .cells #[.slice A0_0 l0_0.length c0_0, .slice A0_1 l0_1.length c0_1] 60 (0, 0)) (Z3 BK339.out) hb)
    have n7_ := A_ (blk_below (g := gb354) (o := .cells #[.slice Ao63 t348.length co63, .slice Ao66 t351.length co66] 65 (0, 0)) (Z3 BK354.out) hb)
    have n8_ := A_ (below_step (Z6 GE339.out GE354.out) hb)
    clear HO343
    clear HO346
    clear HO350
    clear HO353
    clear BK339
    clear BK354
    clear HB
    have HO343 := n0_
    have HO346 := n1_
    have HO350 := n2_
    have HO353 := n3_
    have HO358 := n4_
    have HO361 := n5_
    have BK339 := n6_
    have BK354 := n7_
    have HB := n8_
    clear n0_ n1_ n2_ n3_ n4_ n5_ n6_ n7_ n8_
    (try clear hb)
    (try clear hb2)
    (try clear hk)
    (try clear hi)
    (try clear ho0)
    (try clear ho1)
    obtain ⟨Ao70, co70, eo70⟩ := Kd.S_slice HO358.out
    (first | subst eo70 | (injection eo70 with f1_ f2_ f3_; have f4_ := f1_.symm; have f5_ := f3_.symm; clear f1_ f2_ f3_; subst f4_; subst f5_))
    obtain ⟨Ao71, co71, eo71⟩ := Kd.S_slice HO361.out
    (first | subst eo71 | (injection eo71 with f1_ f2_ f3_; have f4_ := f1_.symm; have f5_ := f3_.symm; clear f1_ f2_ f3_; subst f4_; subst f5_))
    refine hK.out _ _ ⟨(blk_cell BK354.out 0).trans rfl, (blk_cell BK354.out 1).trans rfl, (blk_cell BK339.out 0).trans rfl, (blk_cell BK339.out 1).trans rfl⟩ (fun hHeld => ?_)
    clear hK K
    refine norm_ (a' := ?_) ?_ ?_
    rotate_left
    ·show Act.put _ (some 24) _ = _
     simp only [Act.put, List.setIfInBounds_toArray, List.set_cons_zero, List.set_cons_succ, i64_w, i32_w]
     rfl
    refine one_ (i := 3) (N := some 25) #[T,T,T,T,F] rfl rfl (by kernel_rfl) (by decide) (fun K hK => ?_)
    refine goes_ Try.func30 (by kernel_rfl) rfl #[.agg #[.slice Ao63 t348.length co63, .slice Ao66 t351.length co66], .agg #[.slice Ao70 t356.length co70, .slice Ao71 t359.length co71]] (by rfl) rfl rfl Z5 ?_
    with_reducible refine (laws_eqLine.calls k _ _ t348 _ _ t351 _ _ t356 _ _ t359 false _ ?side1 ?side2 ?side3 ?side4 ?side5 ?side6 ?side7 ?side8 A29.out).mono ?_
    (case side1 => exact Z19 HO350.out)
    (case side2 => exact (Kd.S_reads' HO350.out).2.1)
    (case side3 => exact Z19 HO353.out)
    (case side4 => exact (Kd.S_reads' HO353.out).2.1)
    (case side5 => exact Z19 HO358.out)
    (case side6 => exact (Kd.S_reads' HO358.out).2.1)
    (case side7 => exact Z19 HO361.out)
    (case side8 => exact (Kd.S_reads' HO361.out).2.1)
    rintro e w72 ⟨rfl, hb⟩
    refine ⟨_, rfl, ?_⟩
    have n0_ := A_ (Kd.S_below (Z14 HO343.out) hb)
    have n1_ := A_ (Kd.S_below (Z14 HO346.out) hb)
    have n2_ := A_ (Kd.S_below (Z14 HO350.out) hb)
    have n3_ := A_ (Kd.S_below (Z14 HO353.out) hb)
    have n4_ := A_ (Kd.S_below (Z14 HO358.out) hb)
    have n5_ := A_ (Kd.S_below (Z14 HO361.out) hb)
    have n6_ := A_ (blk_below (g := gb339) (o := .cells #[.slice A0_0 l0_0.length c0_0, .slice A0_1 l0_1.length c0_1] 60 (0, 0)) (Z3 BK339.out) hb)
    have n7_ := A_ (blk_below (g := gb354) (o := .cells #[.slice Ao63 t348.length co63, .slice Ao66 t351.length co66] 65 (0, 0)) (Z3 BK354.out) hb)
    have n8_ := A_ (below_step (Z6 GE339.out GE354.out) hb)
    clear HO343
    clear HO346
    clear HO350
    clear HO353
    clear HO358
    clear HO361
    clear BK339
    clear BK354
    clear HB
    have HO343 := n0_
    have HO346 := n1_
    have HO350 := n2_
    have HO353 := n3_
    have HO358 := n4_
    have HO361 := n5_
    have BK339 := n6_
    have BK354 := n7_
    have HB := n8_
    clear n0_ n1_ n2_ n3_ n4_ n5_ n6_ n7_ n8_
    (try clear hb)
    (try clear hb2)
    (try clear hk)
    (try clear hi)
    refine hK.out _ _ ⟨(blk_cell BK354.out 0).trans rfl, (blk_cell BK354.out 1).trans rfl, (blk_cell BK339.out 0).trans rfl, (blk_cell BK339.out 1).trans rfl⟩ (fun hHeld => ?_)
    clear hK K
    refine norm_ (a' := ?_) ?_ ?_
    rotate_left
    ·exact Z20
    refine pure_ (i := 4) (N := some 26) (v := ?_) (a' := ?_) #[T,T,T,T,T] rfl rfl (by kernel_rfl) ZF (Or.inl ⟨by rfl, ?_⟩) ?_ ?_
    rotate_left
    ·exact Z13
    rotate_left
    ·exact Z1
    refine done_ (by kernel_rfl) ?_
    try go_wp2
    go_ret
    exact ⟨Z7, Z6 GE339.out GE354.out⟩
end Go.Proofs.Ytmphggpibaolcaa.PFnExactLineOk
