/- Walks of the functions that the law 'FnExactLineWants' reaches, part 18: for each a Lean function and the proof that Go's comes to just its answer (lines of the print, under own names; no condition). -/
import Derived.Test.YtmphggpibaolcaaZFnExactLineWantsQFnExactLineWantsx0
import Derived.Test.YtmphggpibaolcaaZFnExactLineWantsQFnExactLineWantsx3
import Derived.Test.YtmphggpibaolcaaZFnExactLineWantsQFnExactLineWantsx4
import Derived.Test.YtmphggpibaolcaaZFnExactLineWantsQFnExactLineWantsx8
import Derived.Test.YtmphggpibaolcaaZFnExactLineWantsQFnExactLineWantsx12
import Derived.Test.YtmphggpibaolcaaZFnExactLineWantsQFnExactLineWantsx17
namespace Go.Proofs.Ytmphggpibaolcaa.PFnExactLineWants
open Go.RowKit Go.Proofs.YtmphggpibaolcaaW.PrintWords Go.Proofs.YtmphggpibaolcaaW.PrintLast Go.Proofs.YtmphggpibaolcaaW.PrintMore
attribute [local go_sem] max2_int min2_int max_two min_two max_three min_three max_four min_four
set_option linter.unusedVariables false
set_option linter.unusedSimpArgs false
def laws_FnExactLineWants.f (k : Nat) (l0_0 : List (S86)) (l0_1 : List (S45)) : Option (Bool) := (laws_szLine.f k l0_0 l0_1 1048576).bind fun t349 => (if t349 < 0 then (some true) else ((laws_toLine.f k l0_0 l0_1).bind fun bt350 => ((spec_LineWants.f k bt350.1 bt350.2).bind fun t356 => ((laws_toLine.f k l0_0 l0_1).bind fun bt357 => ((impl_LineWants.f k bt357.1 bt357.2).bind fun t364 => (if t364 = t356 then ((laws_toLine.f k l0_0 l0_1).bind fun bt365 => ((laws_eqLine.f k bt357.1 bt357.2 bt365.1 bt365.2).bind fun t371 => (if t371 = true then (some true) else (some false)))) else (some false)))))))
theorem laws_FnExactLineWants.mono : ∀ a0 a1 k, LeO (laws_FnExactLineWants.f k a0 a1) (laws_FnExactLineWants.f (k + 1) a0 a1) := by
 intro a0 a1 k
 unfold laws_FnExactLineWants.f
 repeat' first
   | (with_reducible exact impl_LineWants.mono _ _ _)
   | (with_reducible exact laws_eqLine.mono _ _ _ _ _)
   | (with_reducible exact laws_szLine.mono _ _ _ _)
   | (with_reducible exact laws_toLine.mono _ _ _)
   | (with_reducible exact spec_LineWants.mono _ _ _)
   | (with_reducible exact LeO.refl _)
   | (with_reducible exact LeO.none _)
   | (with_reducible refine LeO.ite ?_ ?_)
   | (with_reducible refine LeO.bind ?_ (fun _ => ?_))
   | exact impl_LineWants.mono _ _ _
   | exact laws_eqLine.mono _ _ _ _ _
   | exact laws_szLine.mono _ _ _ _
   | exact laws_toLine.mono _ _ _
   | exact spec_LineWants.mono _ _ _
   | exact LeO.none _
   | refine LeO.ite ?_ ?_
   | refine LeO.bind ?_ (fun _ => ?_)
set_option maxHeartbeats 8000000 in
set_option maxRecDepth 100000 in
theorem laws_FnExactLineWants.calls (k : Nat) (A0_0 : Option Addr) (c0_0 : Nat) (l0_0 : List (S86)) (A0_1 : Option Addr) (c0_1 : Nat) (l0_1 : List (S45)) (r : Bool) (w : World) (hr0_0 : Kd.C k86 w A0_0 l0_0.length l0_0) (hc0_0 : l0_0.length ≤ c0_0) (hr0_1 : Kd.C k45 w A0_1 l0_1.length l0_1) (hc0_1 : l0_1.length ≤ c0_1) (h : laws_FnExactLineWants.f k l0_0 l0_1 = some r) :
  Calls Try.prog 7 #[.agg #[.slice A0_0 l0_0.length c0_0, .slice A0_1 l0_1.length c0_1]] w fun e w' => e = .returned (.bool r) ∧ Below w.heap.size w w' := by
 have hu60 := Try.underlying60
 have hu65 := Try.underlying65
 have HR0_0 := A_ hr0_0
 have HC0_0 := A_ hc0_0
 clear hr0_0 hc0_0
 have HR0_1 := A_ hr0_1
 have HC0_1 := A_ hc0_1
 clear hr0_1 hc0_1
 have HB := A_ (Below.refl w.heap.size w)
 have H : ((laws_szLine.f k l0_0 l0_1 1048576).bind fun t349 => (if t349 < 0 then (some true) else ((laws_toLine.f k l0_0 l0_1).bind fun bt350 => ((spec_LineWants.f k bt350.1 bt350.2).bind fun t356 => ((laws_toLine.f k l0_0 l0_1).bind fun bt357 => ((impl_LineWants.f k bt357.1 bt357.2).bind fun t364 => (if t364 = t356 then ((laws_toLine.f k l0_0 l0_1).bind fun bt365 => ((laws_eqLine.f k bt357.1 bt357.2 bt365.1 bt365.2).bind fun t371 => (if t371 = true then (some true) else (some false)))) else (some false)))))))) = some r := h
 clear h
 replace H := Option.bind_eq_some_iff.mp H
 obtain ⟨t349, A20, H⟩ := H
 replace H : (if t349 < 0 then (some true) else ((laws_toLine.f k l0_0 l0_1).bind fun bt350 => ((spec_LineWants.f k bt350.1 bt350.2).bind fun t356 => ((laws_toLine.f k l0_0 l0_1).bind fun bt357 => ((impl_LineWants.f k bt357.1 bt357.2).bind fun t364 => (if t364 = t356 then ((laws_toLine.f k l0_0 l0_1).bind fun bt365 => ((laws_eqLine.f k bt357.1 bt357.2 bt365.1 bt365.2).bind fun t371 => (if t371 = true then (some true) else (some false)))) else (some false))))))) = some r := H
 have A2 := A_ A20
 clear A20
 by_cases c3 : t349 < 0
 ·rw [if_pos c3] at H
  have c3b0 : decide (t349 < 0) = true := decide_eq_true c3
  clear c3
  obtain rfl := Option.some.inj H
  go_enter Try.func7, Try.ntmps7
  go_wp2_with (first | ((with_reducible refine gate_dst (N := 1) rfl ?_); refine box_event ?hg (N := 1) ?hd (cs := #[.slice A0_0 l0_0.length c0_0, .slice A0_1 l0_1.length c0_1]) (t := 60) ?hr ?_; (case hd => rfl); (case hg => rfl); (case hr => exact Z15); intro gb348 hg w4 hbox hb; have n0_ := A_ (below_step Z0 hb); have n1_ := A_ (hbox); have n2_ := A_ ((by rw [hg]; exact (below_size Z0) : w.heap.size ≤ gb348)); have n3_ := A_ ((by rw [hg]; exact (below_size Z0) : w.heap.size ≤ gb348)); clear HB; have HB := n0_; have BK348 := n1_; have GW348 := n2_; have GE348 := n3_; clear n0_ n1_ n2_ n3_; clear hb hbox hg; have hcz5_0 : w4.cell? ⟨gb348, 0, none⟩ = some (.slice A0_0 l0_0.length c0_0) := (blk_cell BK348.out 0).trans rfl; have hcz5_1 : w4.cell? ⟨gb348, 1, none⟩ = some (.slice A0_1 l0_1.length c0_1) := (blk_cell BK348.out 1).trans rfl; have hfz5_0 := blk_frozen BK348.out 0; have hfz5_1 := blk_frozen BK348.out 1) | ((with_reducible refine gate_callee (f := 26) rfl ?_); refine goesL_ (some 9) rfl rfl Try.func26 (by kernel_rfl) rfl #[.agg #[.slice A0_0 l0_0.length c0_0, .slice A0_1 l0_1.length c0_1], .int .i64 1048576] rfl Z5 ?_; (with_reducible refine (laws_szLine.calls k _ _ l0_0 _ _ l0_1 1048576 t349 _ ?side1 ?side2 ?side3 ?side4 A2.out).mono ?_); (case side1 => exact Z4 HR0_0.out); (case side2 => exact HC0_0.out); (case side3 => exact Z4 HR0_1.out); (case side4 => exact HC0_1.out); rintro e w6 ⟨rfl, hb⟩; refine ⟨_, rfl, ?_⟩; have n0_ := A_ (blk_below (g := gb348) (o := .cells #[.slice A0_0 l0_0.length c0_0, .slice A0_1 l0_1.length c0_1] 60 (0, 0)) (Z3 BK348.out) hb); have n1_ := A_ (below_step (Z2 GE348.out) hb); clear BK348; clear HB; have BK348 := n0_; have HB := n1_; clear n0_ n1_; (try clear hb); (try clear hb2); (try clear hk); (try clear hi)))
  go_ret
  exact ⟨Z7, Z2 GE348.out⟩
 ·rw [if_neg c3] at H
  have c3b0 : decide (t349 < 0) = false := decide_eq_false c3
  clear c3
  replace H := Option.bind_eq_some_iff.mp H
  obtain ⟨⟨t350, t353⟩, A70, H⟩ := H
  replace H : ((spec_LineWants.f k t350 t353).bind fun t356 => ((laws_toLine.f k l0_0 l0_1).bind fun bt357 => ((impl_LineWants.f k bt357.1 bt357.2).bind fun t364 => (if t364 = t356 then ((laws_toLine.f k l0_0 l0_1).bind fun bt365 => ((laws_eqLine.f k bt357.1 bt357.2 bt365.1 bt365.2).bind fun t371 => (if t371 = true then (some true) else (some false)))) else (some false))))) = some r := H
  have A7 := A_ A70
  clear A70
  replace H := Option.bind_eq_some_iff.mp H
  obtain ⟨t356, A80, H⟩ := H
  replace H : ((laws_toLine.f k l0_0 l0_1).bind fun bt357 => ((impl_LineWants.f k bt357.1 bt357.2).bind fun t364 => (if t364 = t356 then ((laws_toLine.f k l0_0 l0_1).bind fun bt365 => ((laws_eqLine.f k bt357.1 bt357.2 bt365.1 bt365.2).bind fun t371 => (if t371 = true then (some true) else (some false)))) else (some false)))) = some r := H
  have A8 := A_ A80
  clear A80
  replace H := Option.bind_eq_some_iff.mp H
  obtain ⟨⟨t357, t360⟩, A90, H⟩ := H
  replace H : ((impl_LineWants.f k t357 t360).bind fun t364 => (if t364 = t356 then ((laws_toLine.f k l0_0 l0_1).bind fun bt365 => ((laws_eqLine.f k t357 t360 bt365.1 bt365.2).bind fun t371 => (if t371 = true then (some true) else (some false)))) else (some false))) = some r := H
  have A9 := A_ A90
  clear A90
  replace H := Option.bind_eq_some_iff.mp H
  obtain ⟨t364, A100, H⟩ := H
  replace H : (if t364 = t356 then ((laws_toLine.f k l0_0 l0_1).bind fun bt365 => ((laws_eqLine.f k t357 t360 bt365.1 bt365.2).bind fun t371 => (if t371 = true then (some true) else (some false)))) else (some false)) = some r := H
  have A10 := A_ A100
  clear A100
  by_cases c11 : t364 = t356
  ·rw [if_pos c11] at H
   have c11b0 : (t364 == t356) = true := beq_iff_eq.mpr c11
   have c11b1 : (t364 != t356) = false := bne_eq_false_iff_eq.mpr c11
   clear c11
   replace H := Option.bind_eq_some_iff.mp H
   obtain ⟨⟨t365, t368⟩, A120, H⟩ := H
   replace H : ((laws_eqLine.f k t357 t360 t365 t368).bind fun t371 => (if t371 = true then (some true) else (some false))) = some r := H
   have A12 := A_ A120
   clear A120
   replace H := Option.bind_eq_some_iff.mp H
   obtain ⟨t371, A130, H⟩ := H
   replace H : (if t371 = true then (some true) else (some false)) = some r := H
   have A13 := A_ A130
   clear A130
   by_cases c14 : t371 = true
   ·subst c14
    have H1 : (some true) = some r := by rw [if_pos rfl] at H; exact H
    clear H
    have H := H1
    clear H1
    obtain rfl := Option.some.inj H
    go_enter Try.func7, Try.ntmps7
    try go_wp2_with (first | ((with_reducible refine gate_dst (N := 1) rfl ?_); refine box_event ?hg (N := 1) ?hd (cs := #[.slice A0_0 l0_0.length c0_0, .slice A0_1 l0_1.length c0_1]) (t := 60) ?hr ?_; (case hd => rfl); (case hg => rfl); (case hr => exact Z15); intro gb348 hg w15 hbox hb; have n0_ := A_ (below_step Z0 hb); have n1_ := A_ (hbox); have n2_ := A_ ((by rw [hg]; exact (below_size Z0) : w.heap.size ≤ gb348)); have n3_ := A_ ((by rw [hg]; exact (below_size Z0) : w.heap.size ≤ gb348)); clear HB; have HB := n0_; have BK348 := n1_; have GW348 := n2_; have GE348 := n3_; clear n0_ n1_ n2_ n3_; clear hb hbox hg; have hcz16_0 : w15.cell? ⟨gb348, 0, none⟩ = some (.slice A0_0 l0_0.length c0_0) := (blk_cell BK348.out 0).trans rfl; have hcz16_1 : w15.cell? ⟨gb348, 1, none⟩ = some (.slice A0_1 l0_1.length c0_1) := (blk_cell BK348.out 1).trans rfl; have hfz16_0 := blk_frozen BK348.out 0; have hfz16_1 := blk_frozen BK348.out 1) | ((with_reducible refine gate_callee (f := 26) rfl ?_); refine goesL_ (some 9) rfl rfl Try.func26 (by kernel_rfl) rfl #[.agg #[.slice A0_0 l0_0.length c0_0, .slice A0_1 l0_1.length c0_1], .int .i64 1048576] rfl Z5 ?_; (with_reducible refine (laws_szLine.calls k _ _ l0_0 _ _ l0_1 1048576 t349 _ ?side1 ?side2 ?side3 ?side4 A2.out).mono ?_); (case side1 => exact Z4 HR0_0.out); (case side2 => exact HC0_0.out); (case side3 => exact Z4 HR0_1.out); (case side4 => exact HC0_1.out); rintro e w17 ⟨rfl, hb⟩; refine ⟨_, rfl, ?_⟩; have n0_ := A_ (blk_below (g := gb348) (o := .cells #[.slice A0_0 l0_0.length c0_0, .slice A0_1 l0_1.length c0_1] 60 (0, 0)) (Z3 BK348.out) hb); have n1_ := A_ (below_step (Z2 GE348.out) hb); clear BK348; clear HB; have BK348 := n0_; have HB := n1_; clear n0_ n1_; (try clear hb); (try clear hb2); (try clear hk); (try clear hi); have hcz18_0 : w17.cell? ⟨gb348, 0, none⟩ = some (.slice A0_0 l0_0.length c0_0) := (blk_cell BK348.out 0).trans rfl; have hcz18_1 : w17.cell? ⟨gb348, 1, none⟩ = some (.slice A0_1 l0_1.length c0_1) := (blk_cell BK348.out 1).trans rfl; have hfz18_0 := blk_frozen BK348.out 0; have hfz18_1 := blk_frozen BK348.out 1) | ((with_reducible refine gate_callee (f := 28) rfl ?_); refine goesL_ (some 13) rfl rfl Try.func28 (by kernel_rfl) rfl #[.agg #[.slice A0_0 l0_0.length c0_0, .slice A0_1 l0_1.length c0_1]] rfl Z5 ?_; (with_reducible refine (laws_toLine.calls k _ _ l0_0 _ _ l0_1 t350 t353 _ ?side1 ?side2 ?side3 ?side4 A7.out).mono ?_); (case side1 => exact Z4 HR0_0.out); (case side2 => exact HC0_0.out); (case side3 => exact Z4 HR0_1.out); (case side4 => exact HC0_1.out); rintro e w19 ⟨v351, v354, rfl, ho0, ho1, hb⟩; refine ⟨_, rfl, ?_⟩; have n0_ := A_ (Kd.S_lower ho0 (below_size (Z2 GE348.out))); have n1_ := A_ (Kd.S_lower ho1 (below_size (Z2 GE348.out))); have n2_ := A_ (blk_below (g := gb348) (o := .cells #[.slice A0_0 l0_0.length c0_0, .slice A0_1 l0_1.length c0_1] 60 (0, 0)) (Z3 BK348.out) hb); have n3_ := A_ (below_step (Z2 GE348.out) hb); clear BK348; clear HB; have HO352 := n0_; have HO355 := n1_; have BK348 := n2_; have HB := n3_; clear n0_ n1_ n2_ n3_; (try clear hb); (try clear hb2); (try clear hk); (try clear hi); (try clear ho0); (try clear ho1); obtain ⟨Ao20, co20, eo20⟩ := Kd.S_slice HO352.out; subst eo20; obtain ⟨Ao21, co21, eo21⟩ := Kd.S_slice HO355.out; subst eo21) | ((with_reducible refine gate_callee (f := 31) rfl ?_); refine goesL_ (some 14) rfl rfl Try.func31 (by kernel_rfl) rfl #[.agg #[.slice Ao20 t350.length co20, .slice Ao21 t353.length co21]] rfl Z5 ?_; (with_reducible refine (spec_LineWants.calls k _ _ t350 _ _ t353 t356 _ ?side1 ?side2 ?side3 ?side4 A8.out).mono ?_); (case side1 => exact Z20 HO352.out); (case side2 => exact (Kd.S_reads' HO352.out).2.1); (case side3 => exact Z20 HO355.out); (case side4 => exact (Kd.S_reads' HO355.out).2.1); rintro e w22 ⟨rfl, hb⟩; refine ⟨_, rfl, ?_⟩; have n0_ := A_ (Kd.S_below (Z14 HO352.out) hb); have n1_ := A_ (Kd.S_below (Z14 HO355.out) hb); have n2_ := A_ (blk_below (g := gb348) (o := .cells #[.slice A0_0 l0_0.length c0_0, .slice A0_1 l0_1.length c0_1] 60 (0, 0)) (Z3 BK348.out) hb); have n3_ := A_ (below_step (Z2 GE348.out) hb); clear HO352; clear HO355; clear BK348; clear HB; have HO352 := n0_; have HO355 := n1_; have BK348 := n2_; have HB := n3_; clear n0_ n1_ n2_ n3_; (try clear hb); (try clear hb2); (try clear hk); (try clear hi); have hcz23_0 : w22.cell? ⟨gb348, 0, none⟩ = some (.slice A0_0 l0_0.length c0_0) := (blk_cell BK348.out 0).trans rfl; have hcz23_1 : w22.cell? ⟨gb348, 1, none⟩ = some (.slice A0_1 l0_1.length c0_1) := (blk_cell BK348.out 1).trans rfl; have hfz23_0 := blk_frozen BK348.out 0; have hfz23_1 := blk_frozen BK348.out 1) | ((with_reducible refine gate_callee (f := 28) rfl ?_); refine goesL_ (some 16) rfl rfl Try.func28 (by kernel_rfl) rfl #[.agg #[.slice A0_0 l0_0.length c0_0, .slice A0_1 l0_1.length c0_1]] rfl Z5 ?_; (with_reducible refine (laws_toLine.calls k _ _ l0_0 _ _ l0_1 t357 t360 _ ?side1 ?side2 ?side3 ?side4 A9.out).mono ?_); (case side1 => exact Z4 HR0_0.out); (case side2 => exact HC0_0.out); (case side3 => exact Z4 HR0_1.out); (case side4 => exact HC0_1.out); rintro e w24 ⟨v358, v361, rfl, ho0, ho1, hb⟩; refine ⟨_, rfl, ?_⟩; have n0_ := A_ (Kd.S_elder' (Z14 HO352.out) (Kd.S_base ho0) hb); have n1_ := A_ (Kd.S_elder' (Z14 HO355.out) (Kd.S_base ho1) hb); have n2_ := A_ (Kd.S_lower (Kd.S_new' ho0 (Kd.S_lt (Z14 HO352.out))) (below_size (Z2 GE348.out))); have n3_ := A_ (Kd.S_lower (Kd.S_new' ho1 (Kd.S_lt (Z14 HO355.out))) (below_size (Z2 GE348.out))); have n4_ := A_ (blk_below (g := gb348) (o := .cells #[.slice A0_0 l0_0.length c0_0, .slice A0_1 l0_1.length c0_1] 60 (0, 0)) (Z3 BK348.out) hb); have n5_ := A_ (below_step (Z2 GE348.out) hb); clear HO352; clear HO355; clear BK348; clear HB; have HO352 := n0_; have HO355 := n1_; have HO359 := n2_; have HO362 := n3_; have BK348 := n4_; have HB := n5_; clear n0_ n1_ n2_ n3_ n4_ n5_; (try clear hb); (try clear hb2); (try clear hk); (try clear hi); (try clear ho0); (try clear ho1)) | ((with_reducible refine gate_dst (N := 5) rfl ?_); refine box_event ?hg (N := 5) ?hd (cs := #[.slice none 0 0, .slice none 0 0]) (t := 65) ?hr ?_; (case hd => rfl); (case hg => rfl); (case hr => exact Z15); intro gb363 hg w25 hbox hb; have n0_ := A_ (Kd.S_below (Z14 HO352.out) hb); have n1_ := A_ (Kd.S_below (Z14 HO355.out) hb); have n2_ := A_ (Kd.S_below (Z14 HO359.out) hb); have n3_ := A_ (Kd.S_below (Z14 HO362.out) hb); have n4_ := A_ (blk_below (g := gb348) (o := .cells #[.slice A0_0 l0_0.length c0_0, .slice A0_1 l0_1.length c0_1] 60 (0, 0)) (Z3 BK348.out) hb); have n5_ := A_ (below_step (Z2 GE348.out) hb); have n6_ := A_ (hbox); have n7_ := A_ ((by rw [hg]; exact (below_size (Z2 GE348.out)) : w.heap.size ≤ gb363)); have n8_ := A_ ((by rw [hg]; exact (below_size (Z2 GE348.out)) : w.heap.size ≤ gb363)); have n9_ := A_ ((by rw [hg]; exact Nat.ne_of_lt (blk_lt (g := gb348) (o := .cells #[.slice A0_0 l0_0.length c0_0, .slice A0_1 l0_1.length c0_1] 60 (0, 0)) (Z3 BK348.out)) : gb348 ≠ gb363)); have n10_ := A_ ((by rw [hg]; exact Nat.ne_of_gt (blk_lt (g := gb348) (o := .cells #[.slice A0_0 l0_0.length c0_0, .slice A0_1 l0_1.length c0_1] 60 (0, 0)) (Z3 BK348.out)) : gb363 ≠ gb348)); clear HO352; clear HO355; clear HO359; clear HO362; clear BK348; clear HB; have HO352 := n0_; have HO355 := n1_; have HO359 := n2_; have HO362 := n3_; have BK348 := n4_; have HB := n5_; have BK363 := n6_; have GW363 := n7_; have GE363 := n8_; have NB348_363 := n9_; have NB363_348 := n10_; clear n0_ n1_ n2_ n3_ n4_ n5_ n6_ n7_ n8_ n9_ n10_; clear hb hbox hg; obtain ⟨Ao26, co26, eo26⟩ := Kd.S_slice HO359.out; subst eo26; have hnb27 := NB363_348.out; have hnc27 := NB348_363.out; have hcz28_0 : w25.cell? ⟨gb363, 0, none⟩ = some (.slice none 0 0) := (blk_cell BK363.out 0).trans rfl; have hcz28_1 : w25.cell? ⟨gb363, 1, none⟩ = some (.slice none 0 0) := (blk_cell BK363.out 1).trans rfl; have hfz28_0 := blk_frozen BK363.out 0; have hfz28_1 := blk_frozen BK363.out 1; obtain ⟨Ao29, co29, eo29⟩ := Kd.S_slice HO362.out; subst eo29) | ((with_reducible refine gate_callee (f := 32) rfl ?_); refine goesL_ (some 18) rfl rfl Try.func32 (by kernel_rfl) rfl #[.agg #[.slice Ao26 t357.length co26, .slice Ao29 t360.length co29]] rfl Z5 ?_; (with_reducible refine (impl_LineWants.calls k _ _ t357 _ _ t360 t364 _ ?side1 ?side2 ?side3 ?side4 A10.out).mono ?_); (case side1 => refine (Kd.S_reads' (e := 95) (base := w.heap.size) (ok := fun k_ => (True ∧ some k_ ≠ (.slice Ao20 t350.length co20 : Value).ownBlock)) (n := t357.length) (c := co26) ?_).2.2; exact (Z24 HO359.out BK363.out)); (case side2 => exact (Kd.S_reads' HO359.out).2.1); (case side3 => refine (Kd.S_reads' (e := 53) (base := w.heap.size) (ok := fun k_ => (True ∧ some k_ ≠ (.slice Ao21 t353.length co21 : Value).ownBlock)) (n := t360.length) (c := co29) ?_).2.2; exact (Z24 HO362.out BK363.out)); (case side4 => exact (Kd.S_reads' HO362.out).2.1); rintro e w30 ⟨rfl, hb⟩; refine ⟨_, rfl, ?_⟩; have n0_ := A_ (Kd.S_below (Z24 HO352.out BK363.out) hb); have n1_ := A_ (Kd.S_below (Z24 HO355.out BK363.out) hb); have n2_ := A_ (Kd.S_below (Z24 HO359.out BK363.out) hb); have n3_ := A_ (Kd.S_below (Z24 HO362.out BK363.out) hb); have n4_ := A_ (blk_below (g := gb348) (o := .cells #[.slice A0_0 l0_0.length c0_0, .slice A0_1 l0_1.length c0_1] 60 (0, 0)) (Z19 NB348_363.out BK348.out) hb); have n5_ := A_ (blk_below (g := gb363) (o := .cells #[.slice Ao26 t357.length co26, .slice Ao29 t360.length co29] 65 (0, 0)) (by (with_reducible repeat (first | refine blk_drewN ?_ _ | refine blk_drew ?_ | refine blk_alloc ?_ _)); refine blk_put (cs := #[.slice Ao26 t357.length co26, .slice none 0 0]) ?_ 1 _ rfl; (with_reducible repeat (first | refine blk_drewN ?_ _ | refine blk_drew ?_ | refine blk_alloc ?_ _)); refine blk_put (cs := #[.slice none 0 0, .slice none 0 0]) ?_ 0 _ rfl; (with_reducible repeat (first | refine blk_drewN ?_ _ | refine blk_drew ?_ | refine blk_alloc ?_ _)); exact BK363.out) hb); have n6_ := A_ (below_step (Z6 GE348.out GE363.out) hb); clear HO352; clear HO355; clear HO359; clear HO362; clear BK348; clear BK363; clear HB; have HO352 := n0_; have HO355 := n1_; have HO359 := n2_; have HO362 := n3_; have BK348 := n4_; have BK363 := n5_; have HB := n6_; clear n0_ n1_ n2_ n3_ n4_ n5_ n6_; (try clear hb); (try clear hb2); (try clear hk); (try clear hi)))
    have n0_ := A_ (Kd.S_drew HO352.out)
    have n1_ := A_ (Kd.S_drew HO355.out)
    have n2_ := A_ (Kd.S_drew HO359.out)
    have n3_ := A_ (Kd.S_drew HO362.out)
    have n4_ := A_ (blk_drew BK348.out)
    have n5_ := A_ (blk_drew BK363.out)
    have n6_ := A_ (below_drew1 HB.out)
    clear HO352
    clear HO355
    clear HO359
    clear HO362
    clear BK348
    clear BK363
    clear HB
    have HO352 := n0_
    have HO355 := n1_
    have HO359 := n2_
    have HO362 := n3_
    have BK348 := n4_
    have BK363 := n5_
    have HB := n6_
    clear n0_ n1_ n2_ n3_ n4_ n5_ n6_
    refine start_ (n := 5) (S := fun w' => w'.cell? ⟨gb363, 0, none⟩ = some (.slice Ao26 t357.length co26) ∧ w'.cell? ⟨gb363, 1, none⟩ = some (.slice Ao29 t360.length co29) ∧ w'.cell? ⟨gb348, 0, none⟩ = some (.slice A0_0 l0_0.length c0_0) ∧ w'.cell? ⟨gb348, 1, none⟩ = some (.slice A0_1 l0_1.length c0_1)) (ds := []) #[F,F,F,F,F] (by kernel_rfl) rfl rfl ⟨(blk_cell BK363.out 0).trans rfl, (blk_cell BK363.out 1).trans rfl, (blk_cell BK348.out 0).trans rfl, (blk_cell BK348.out 1).trans rfl⟩ (fun hHeld => ?_)
    generalize w30.drew = w31 at HO352 HO355 HO359 HO362 BK348 BK363 HB hHeld ⊢
    refine take_ (i := 0) (N := some 22) (v := ?_) (a' := ?_) #[T,F,F,F,F] rfl rfl (by kernel_rfl) ZF (Or.inl ⟨by rfl, ?_⟩) hHeld ?_ ?_
    rotate_left
    ·exact Z25
    rotate_left
    ·exact Z1
    refine take_ (i := 1) (N := some 23) (v := ?_) (a' := ?_) #[T,T,F,F,F] rfl rfl (by kernel_rfl) ZF (Or.inl ⟨by rfl, ?_⟩) hHeld ?_ ?_
    rotate_left
    ·exact Z25
    rotate_left
    ·exact Z1
    refine one_ (i := 2) (N := some 24) #[T,T,T,F,F] rfl rfl (by kernel_rfl) (by decide) (fun K hK => ?_)
    refine goes_ Try.func28 (by kernel_rfl) rfl #[.agg #[.slice A0_0 l0_0.length c0_0, .slice A0_1 l0_1.length c0_1]] (by rfl) rfl rfl Z5 ?_
    with_reducible refine (laws_toLine.calls k _ _ l0_0 _ _ l0_1 t365 t368 _ ?side1 ?side2 ?side3 ?side4 A12.out).mono ?_
    (case side1 => exact Z4 HR0_0.out)
    (case side2 => exact HC0_0.out)
    (case side3 => exact Z4 HR0_1.out)
    (case side4 => exact HC0_1.out)
    rintro e w32 ⟨v366, v369, rfl, ho0, ho1, hb⟩
    refine ⟨_, rfl, ?_⟩
    have n0_ := A_ (Kd.S_elder' (Z14 HO352.out) (Kd.S_base ho0) hb)
    have n1_ := A_ (Kd.S_elder' (Z14 HO355.out) (Kd.S_base ho1) hb)
    have n2_ := A_ (Kd.S_elder' (Z14 HO359.out) (Kd.S_base ho0) hb)
    have n3_ := A_ (Kd.S_elder' (Z14 HO362.out) (Kd.S_base ho1) hb)
    have n4_ := A_ (Kd.S_lower (Kd.S_new' (Kd.S_new' ho0 (Kd.S_lt (Z14 HO352.out))) (Kd.S_lt (Z14 HO359.out))) (below_size (Z6 GE348.out GE363.out)))
    have n5_ := A_ (Kd.S_lower (Kd.S_new' (Kd.S_new' ho1 (Kd.S_lt (Z14 HO355.out))) (Kd.S_lt (Z14 HO362.out))) (below_size (Z6 GE348.out GE363.out)))
    have n6_ := A_ (blk_below (g := gb348) (o := .cells #[.slice A0_0 l0_0.length c0_0, .slice A0_1 l0_1.length c0_1] 60 (0, 0)) (Z3 BK348.out) hb)
    have n7_ := A_ (blk_below (g := gb363) (o := .cells #[.slice Ao26 t357.length co26, .slice Ao29 t360.length co29] 65 (0, 0)) (Z3 BK363.out) hb)
    have n8_ := A_ (below_step (Z6 GE348.out GE363.out) hb)
    clear HO352
    clear HO355
    clear HO359
    clear HO362
    clear BK348
    clear BK363
    clear HB
    have HO352 := n0_
    have HO355 := n1_
    have HO359 := n2_
    have HO362 := n3_
    have HO367 := n4_
    have HO370 := n5_
    have BK348 := n6_
    have BK363 := n7_
    have HB := n8_
    clear n0_ n1_ n2_ n3_ n4_ n5_ n6_ n7_ n8_
    (try clear hb)
    (try clear hb2)
    (try clear hk)
    (try clear hi)
    (try clear ho0)
    (try clear ho1)
    obtain ⟨Ao33, co33, eo33⟩ := Kd.S_slice HO367.out
    (first | subst eo33 | (injection eo33 with f1_ f2_ f3_; have f4_ := f1_.symm; have f5_ := f3_.symm; clear f1_ f2_ f3_; subst f4_; subst f5_))
    obtain ⟨Ao34, co34, eo34⟩ := Kd.S_slice HO370.out
    (first | subst eo34 | (injection eo34 with f1_ f2_ f3_; have f4_ := f1_.symm; have f5_ := f3_.symm; clear f1_ f2_ f3_; subst f4_; subst f5_))
    refine hK.out _ _ ⟨(blk_cell BK363.out 0).trans rfl, (blk_cell BK363.out 1).trans rfl, (blk_cell BK348.out 0).trans rfl, (blk_cell BK348.out 1).trans rfl⟩ (fun hHeld => ?_)
    clear hK K
    refine norm_ (a' := ?_) ?_ ?_
    rotate_left
    ·show Act.put _ (some 24) _ = _
     simp only [Act.put, List.setIfInBounds_toArray, List.set_cons_zero, List.set_cons_succ, i64_w, i32_w]
     rfl
    refine one_ (i := 3) (N := some 25) #[T,T,T,T,F] rfl rfl (by kernel_rfl) (by decide) (fun K hK => ?_)
    refine goes_ Try.func30 (by kernel_rfl) rfl #[.agg #[.slice Ao26 t357.length co26, .slice Ao29 t360.length co29], .agg #[.slice Ao33 t365.length co33, .slice Ao34 t368.length co34]] (by rfl) rfl rfl Z5 ?_
    with_reducible refine (laws_eqLine.calls k _ _ t357 _ _ t360 _ _ t365 _ _ t368 true _ ?side1 ?side2 ?side3 ?side4 ?side5 ?side6 ?side7 ?side8 A13.out).mono ?_
    (case side1 => exact Z20 HO359.out)
    (case side2 => exact (Kd.S_reads' HO359.out).2.1)
    (case side3 => exact Z20 HO362.out)
    (case side4 => exact (Kd.S_reads' HO362.out).2.1)
    (case side5 => exact Z20 HO367.out)
    (case side6 => exact (Kd.S_reads' HO367.out).2.1)
    (case side7 => exact Z20 HO370.out)
    (case side8 => exact (Kd.S_reads' HO370.out).2.1)
    rintro e w35 ⟨rfl, hb⟩
    refine ⟨_, rfl, ?_⟩
    have n0_ := A_ (Kd.S_below (Z14 HO352.out) hb)
    have n1_ := A_ (Kd.S_below (Z14 HO355.out) hb)
    have n2_ := A_ (Kd.S_below (Z14 HO359.out) hb)
    have n3_ := A_ (Kd.S_below (Z14 HO362.out) hb)
    have n4_ := A_ (Kd.S_below (Z14 HO367.out) hb)
    have n5_ := A_ (Kd.S_below (Z14 HO370.out) hb)
    have n6_ := A_ (blk_below (g := gb348) (o := .cells #[.slice A0_0 l0_0.length c0_0, .slice A0_1 l0_1.length c0_1] 60 (0, 0)) (Z3 BK348.out) hb)
    have n7_ := A_ (blk_below (g := gb363) (o := .cells #[.slice Ao26 t357.length co26, .slice Ao29 t360.length co29] 65 (0, 0)) (Z3 BK363.out) hb)
    have n8_ := A_ (below_step (Z6 GE348.out GE363.out) hb)
    clear HO352
    clear HO355
    clear HO359
    clear HO362
    clear HO367
    clear HO370
    clear BK348
    clear BK363
    clear HB
    have HO352 := n0_
    have HO355 := n1_
    have HO359 := n2_
    have HO362 := n3_
    have HO367 := n4_
    have HO370 := n5_
    have BK348 := n6_
    have BK363 := n7_
    have HB := n8_
    clear n0_ n1_ n2_ n3_ n4_ n5_ n6_ n7_ n8_
    (try clear hb)
    (try clear hb2)
    (try clear hk)
    (try clear hi)
    refine hK.out _ _ ⟨(blk_cell BK363.out 0).trans rfl, (blk_cell BK363.out 1).trans rfl, (blk_cell BK348.out 0).trans rfl, (blk_cell BK348.out 1).trans rfl⟩ (fun hHeld => ?_)
    clear hK K
    refine norm_ (a' := ?_) ?_ ?_
    rotate_left
    ·exact Z21
    refine pure_ (i := 4) (N := some 26) (v := ?_) (a' := ?_) #[T,T,T,T,T] rfl rfl (by kernel_rfl) ZF (Or.inl ⟨by rfl, ?_⟩) ?_ ?_
    rotate_left
    ·exact Z13
    rotate_left
    ·exact Z1
    refine done_ (by kernel_rfl) ?_
    try go_wp2
    go_ret
    exact ⟨Z7, Z6 GE348.out GE363.out⟩
   ·replace c14 := Bool.eq_false_iff.mpr c14
    subst c14
    have H1 : (some false) = some r := by rw [if_neg (show ¬ (false = true) by decide)] at H; exact H
    clear H
    have H := H1
    clear H1
    obtain rfl := Option.some.inj H
    go_enter Try.func7, Try.ntmps7
    try go_wp2_with (first | ((with_reducible refine gate_dst (N := 1) rfl ?_); refine box_event ?hg (N := 1) ?hd (cs := #[.slice A0_0 l0_0.length c0_0, .slice A0_1 l0_1.length c0_1]) (t := 60) ?hr ?_; (case hd => rfl); (case hg => rfl); (case hr => exact Z15); intro gb348 hg w36 hbox hb; have n0_ := A_ (below_step Z0 hb); have n1_ := A_ (hbox); have n2_ := A_ ((by rw [hg]; exact (below_size Z0) : w.heap.size ≤ gb348)); have n3_ := A_ ((by rw [hg]; exact (below_size Z0) : w.heap.size ≤ gb348)); clear HB; have HB := n0_; have BK348 := n1_; have GW348 := n2_; have GE348 := n3_; clear n0_ n1_ n2_ n3_; clear hb hbox hg; have hcz37_0 : w36.cell? ⟨gb348, 0, none⟩ = some (.slice A0_0 l0_0.length c0_0) := (blk_cell BK348.out 0).trans rfl; have hcz37_1 : w36.cell? ⟨gb348, 1, none⟩ = some (.slice A0_1 l0_1.length c0_1) := (blk_cell BK348.out 1).trans rfl; have hfz37_0 := blk_frozen BK348.out 0; have hfz37_1 := blk_frozen BK348.out 1) | ((with_reducible refine gate_callee (f := 26) rfl ?_); refine goesL_ (some 9) rfl rfl Try.func26 (by kernel_rfl) rfl #[.agg #[.slice A0_0 l0_0.length c0_0, .slice A0_1 l0_1.length c0_1], .int .i64 1048576] rfl Z5 ?_; (with_reducible refine (laws_szLine.calls k _ _ l0_0 _ _ l0_1 1048576 t349 _ ?side1 ?side2 ?side3 ?side4 A2.out).mono ?_); (case side1 => exact Z4 HR0_0.out); (case side2 => exact HC0_0.out); (case side3 => exact Z4 HR0_1.out); (case side4 => exact HC0_1.out); rintro e w38 ⟨rfl, hb⟩; refine ⟨_, rfl, ?_⟩; have n0_ := A_ (blk_below (g := gb348) (o := .cells #[.slice A0_0 l0_0.length c0_0, .slice A0_1 l0_1.length c0_1] 60 (0, 0)) (Z3 BK348.out) hb); have n1_ := A_ (below_step (Z2 GE348.out) hb); clear BK348; clear HB; have BK348 := n0_; have HB := n1_; clear n0_ n1_; (try clear hb); (try clear hb2); (try clear hk); (try clear hi); have hcz39_0 : w38.cell? ⟨gb348, 0, none⟩ = some (.slice A0_0 l0_0.length c0_0) := (blk_cell BK348.out 0).trans rfl; have hcz39_1 : w38.cell? ⟨gb348, 1, none⟩ = some (.slice A0_1 l0_1.length c0_1) := (blk_cell BK348.out 1).trans rfl; have hfz39_0 := blk_frozen BK348.out 0; have hfz39_1 := blk_frozen BK348.out 1) | ((with_reducible refine gate_callee (f := 28) rfl ?_); refine goesL_ (some 13) rfl rfl Try.func28 (by kernel_rfl) rfl #[.agg #[.slice A0_0 l0_0.length c0_0, .slice A0_1 l0_1.length c0_1]] rfl Z5 ?_; (with_reducible refine (laws_toLine.calls k _ _ l0_0 _ _ l0_1 t350 t353 _ ?side1 ?side2 ?side3 ?side4 A7.out).mono ?_); (case side1 => exact Z4 HR0_0.out); (case side2 => exact HC0_0.out); (case side3 => exact Z4 HR0_1.out); (case side4 => exact HC0_1.out); rintro e w40 ⟨v351, v354, rfl, ho0, ho1, hb⟩; refine ⟨_, rfl, ?_⟩; have n0_ := A_ (Kd.S_lower ho0 (below_size (Z2 GE348.out))); have n1_ := A_ (Kd.S_lower ho1 (below_size (Z2 GE348.out))); have n2_ := A_ (blk_below (g := gb348) (o := .cells #[.slice A0_0 l0_0.length c0_0, .slice A0_1 l0_1.length c0_1] 60 (0, 0)) (Z3 BK348.out) hb); have n3_ := A_ (below_step (Z2 GE348.out) hb); clear BK348; clear HB; have HO352 := n0_; have HO355 := n1_; have BK348 := n2_; have HB := n3_; clear n0_ n1_ n2_ n3_; (try clear hb); (try clear hb2); (try clear hk); (try clear hi); (try clear ho0); (try clear ho1); obtain ⟨Ao41, co41, eo41⟩ := Kd.S_slice HO352.out; subst eo41; obtain ⟨Ao42, co42, eo42⟩ := Kd.S_slice HO355.out; subst eo42) | ((with_reducible refine gate_callee (f := 31) rfl ?_); refine goesL_ (some 14) rfl rfl Try.func31 (by kernel_rfl) rfl #[.agg #[.slice Ao41 t350.length co41, .slice Ao42 t353.length co42]] rfl Z5 ?_; (with_reducible refine (spec_LineWants.calls k _ _ t350 _ _ t353 t356 _ ?side1 ?side2 ?side3 ?side4 A8.out).mono ?_); (case side1 => exact Z20 HO352.out); (case side2 => exact (Kd.S_reads' HO352.out).2.1); (case side3 => exact Z20 HO355.out); (case side4 => exact (Kd.S_reads' HO355.out).2.1); rintro e w43 ⟨rfl, hb⟩; refine ⟨_, rfl, ?_⟩; have n0_ := A_ (Kd.S_below (Z14 HO352.out) hb); have n1_ := A_ (Kd.S_below (Z14 HO355.out) hb); have n2_ := A_ (blk_below (g := gb348) (o := .cells #[.slice A0_0 l0_0.length c0_0, .slice A0_1 l0_1.length c0_1] 60 (0, 0)) (Z3 BK348.out) hb); have n3_ := A_ (below_step (Z2 GE348.out) hb); clear HO352; clear HO355; clear BK348; clear HB; have HO352 := n0_; have HO355 := n1_; have BK348 := n2_; have HB := n3_; clear n0_ n1_ n2_ n3_; (try clear hb); (try clear hb2); (try clear hk); (try clear hi); have hcz44_0 : w43.cell? ⟨gb348, 0, none⟩ = some (.slice A0_0 l0_0.length c0_0) := (blk_cell BK348.out 0).trans rfl; have hcz44_1 : w43.cell? ⟨gb348, 1, none⟩ = some (.slice A0_1 l0_1.length c0_1) := (blk_cell BK348.out 1).trans rfl; have hfz44_0 := blk_frozen BK348.out 0; have hfz44_1 := blk_frozen BK348.out 1) | ((with_reducible refine gate_callee (f := 28) rfl ?_); refine goesL_ (some 16) rfl rfl Try.func28 (by kernel_rfl) rfl #[.agg #[.slice A0_0 l0_0.length c0_0, .slice A0_1 l0_1.length c0_1]] rfl Z5 ?_; (with_reducible refine (laws_toLine.calls k _ _ l0_0 _ _ l0_1 t357 t360 _ ?side1 ?side2 ?side3 ?side4 A9.out).mono ?_); (case side1 => exact Z4 HR0_0.out); (case side2 => exact HC0_0.out); (case side3 => exact Z4 HR0_1.out); (case side4 => exact HC0_1.out); rintro e w45 ⟨v358, v361, rfl, ho0, ho1, hb⟩; refine ⟨_, rfl, ?_⟩; have n0_ := A_ (Kd.S_elder' (Z14 HO352.out) (Kd.S_base ho0) hb); have n1_ := A_ (Kd.S_elder' (Z14 HO355.out) (Kd.S_base ho1) hb); have n2_ := A_ (Kd.S_lower (Kd.S_new' ho0 (Kd.S_lt (Z14 HO352.out))) (below_size (Z2 GE348.out))); have n3_ := A_ (Kd.S_lower (Kd.S_new' ho1 (Kd.S_lt (Z14 HO355.out))) (below_size (Z2 GE348.out))); have n4_ := A_ (blk_below (g := gb348) (o := .cells #[.slice A0_0 l0_0.length c0_0, .slice A0_1 l0_1.length c0_1] 60 (0, 0)) (Z3 BK348.out) hb); have n5_ := A_ (below_step (Z2 GE348.out) hb); clear HO352; clear HO355; clear BK348; clear HB; have HO352 := n0_; have HO355 := n1_; have HO359 := n2_; have HO362 := n3_; have BK348 := n4_; have HB := n5_; clear n0_ n1_ n2_ n3_ n4_ n5_; (try clear hb); (try clear hb2); (try clear hk); (try clear hi); (try clear ho0); (try clear ho1)) | ((with_reducible refine gate_dst (N := 5) rfl ?_); refine box_event ?hg (N := 5) ?hd (cs := #[.slice none 0 0, .slice none 0 0]) (t := 65) ?hr ?_; (case hd => rfl); (case hg => rfl); (case hr => exact Z15); intro gb363 hg w46 hbox hb; have n0_ := A_ (Kd.S_below (Z14 HO352.out) hb); have n1_ := A_ (Kd.S_below (Z14 HO355.out) hb); have n2_ := A_ (Kd.S_below (Z14 HO359.out) hb); have n3_ := A_ (Kd.S_below (Z14 HO362.out) hb); have n4_ := A_ (blk_below (g := gb348) (o := .cells #[.slice A0_0 l0_0.length c0_0, .slice A0_1 l0_1.length c0_1] 60 (0, 0)) (Z3 BK348.out) hb); have n5_ := A_ (below_step (Z2 GE348.out) hb); have n6_ := A_ (hbox); have n7_ := A_ ((by rw [hg]; exact (below_size (Z2 GE348.out)) : w.heap.size ≤ gb363)); have n8_ := A_ ((by rw [hg]; exact (below_size (Z2 GE348.out)) : w.heap.size ≤ gb363)); have n9_ := A_ ((by rw [hg]; exact Nat.ne_of_lt (blk_lt (g := gb348) (o := .cells #[.slice A0_0 l0_0.length c0_0, .slice A0_1 l0_1.length c0_1] 60 (0, 0)) (Z3 BK348.out)) : gb348 ≠ gb363)); have n10_ := A_ ((by rw [hg]; exact Nat.ne_of_gt (blk_lt (g := gb348) (o := .cells #[.slice A0_0 l0_0.length c0_0, .slice A0_1 l0_1.length c0_1] 60 (0, 0)) (Z3 BK348.out)) : gb363 ≠ gb348)); clear HO352; clear HO355; clear HO359; clear HO362; clear BK348; clear HB; have HO352 := n0_; have HO355 := n1_; have HO359 := n2_; have HO362 := n3_; have BK348 := n4_; have HB := n5_; have BK363 := n6_; have GW363 := n7_; have GE363 := n8_; have NB348_363 := n9_; have NB363_348 := n10_; clear n0_ n1_ n2_ n3_ n4_ n5_ n6_ n7_ n8_ n9_ n10_; clear hb hbox hg; obtain ⟨Ao47, co47, eo47⟩ := Kd.S_slice HO359.out; subst eo47; have hnb48 := NB363_348.out; have hnc48 := NB348_363.out; have hcz49_0 : w46.cell? ⟨gb363, 0, none⟩ = some (.slice none 0 0) := (blk_cell BK363.out 0).trans rfl; have hcz49_1 : w46.cell? ⟨gb363, 1, none⟩ = some (.slice none 0 0) := (blk_cell BK363.out 1).trans rfl; have hfz49_0 := blk_frozen BK363.out 0; have hfz49_1 := blk_frozen BK363.out 1; obtain ⟨Ao50, co50, eo50⟩ := Kd.S_slice HO362.out; subst eo50) | ((with_reducible refine gate_callee (f := 32) rfl ?_); refine goesL_ (some 18) rfl rfl Try.func32 (by kernel_rfl) rfl #[.agg #[.slice Ao47 t357.length co47, .slice Ao50 t360.length co50]] rfl Z5 ?_; (with_reducible refine (impl_LineWants.calls k _ _ t357 _ _ t360 t364 _ ?side1 ?side2 ?side3 ?side4 A10.out).mono ?_); (case side1 => refine (Kd.S_reads' (e := 95) (base := w.heap.size) (ok := fun k_ => (True ∧ some k_ ≠ (.slice Ao41 t350.length co41 : Value).ownBlock)) (n := t357.length) (c := co47) ?_).2.2; exact (Z23 HO359.out BK363.out)); (case side2 => exact (Kd.S_reads' HO359.out).2.1); (case side3 => refine (Kd.S_reads' (e := 53) (base := w.heap.size) (ok := fun k_ => (True ∧ some k_ ≠ (.slice Ao42 t353.length co42 : Value).ownBlock)) (n := t360.length) (c := co50) ?_).2.2; exact (Z23 HO362.out BK363.out)); (case side4 => exact (Kd.S_reads' HO362.out).2.1); rintro e w51 ⟨rfl, hb⟩; refine ⟨_, rfl, ?_⟩; have n0_ := A_ (Kd.S_below (Z23 HO352.out BK363.out) hb); have n1_ := A_ (Kd.S_below (Z23 HO355.out BK363.out) hb); have n2_ := A_ (Kd.S_below (Z23 HO359.out BK363.out) hb); have n3_ := A_ (Kd.S_below (Z23 HO362.out BK363.out) hb); have n4_ := A_ (blk_below (g := gb348) (o := .cells #[.slice A0_0 l0_0.length c0_0, .slice A0_1 l0_1.length c0_1] 60 (0, 0)) (Z19 NB348_363.out BK348.out) hb); have n5_ := A_ (blk_below (g := gb363) (o := .cells #[.slice Ao47 t357.length co47, .slice Ao50 t360.length co50] 65 (0, 0)) (by (with_reducible repeat (first | refine blk_drewN ?_ _ | refine blk_drew ?_ | refine blk_alloc ?_ _)); refine blk_put (cs := #[.slice Ao47 t357.length co47, .slice none 0 0]) ?_ 1 _ rfl; (with_reducible repeat (first | refine blk_drewN ?_ _ | refine blk_drew ?_ | refine blk_alloc ?_ _)); refine blk_put (cs := #[.slice none 0 0, .slice none 0 0]) ?_ 0 _ rfl; (with_reducible repeat (first | refine blk_drewN ?_ _ | refine blk_drew ?_ | refine blk_alloc ?_ _)); exact BK363.out) hb); have n6_ := A_ (below_step (Z6 GE348.out GE363.out) hb); clear HO352; clear HO355; clear HO359; clear HO362; clear BK348; clear BK363; clear HB; have HO352 := n0_; have HO355 := n1_; have HO359 := n2_; have HO362 := n3_; have BK348 := n4_; have BK363 := n5_; have HB := n6_; clear n0_ n1_ n2_ n3_ n4_ n5_ n6_; (try clear hb); (try clear hb2); (try clear hk); (try clear hi)))
    have n0_ := A_ (Kd.S_drew HO352.out)
    have n1_ := A_ (Kd.S_drew HO355.out)
    have n2_ := A_ (Kd.S_drew HO359.out)
    have n3_ := A_ (Kd.S_drew HO362.out)
    have n4_ := A_ (blk_drew BK348.out)
    have n5_ := A_ (blk_drew BK363.out)
    have n6_ := A_ (below_drew1 HB.out)
    clear HO352
    clear HO355
    clear HO359
    clear HO362
    clear BK348
    clear BK363
    clear HB
    have HO352 := n0_
    have HO355 := n1_
    have HO359 := n2_
    have HO362 := n3_
    have BK348 := n4_
    have BK363 := n5_
    have HB := n6_
    clear n0_ n1_ n2_ n3_ n4_ n5_ n6_
    refine start_ (n := 5) (S := fun w' => w'.cell? ⟨gb363, 0, none⟩ = some (.slice Ao47 t357.length co47) ∧ w'.cell? ⟨gb363, 1, none⟩ = some (.slice Ao50 t360.length co50) ∧ w'.cell? ⟨gb348, 0, none⟩ = some (.slice A0_0 l0_0.length c0_0) ∧ w'.cell? ⟨gb348, 1, none⟩ = some (.slice A0_1 l0_1.length c0_1)) (ds := []) #[F,F,F,F,F] (by kernel_rfl) rfl rfl ⟨(blk_cell BK363.out 0).trans rfl, (blk_cell BK363.out 1).trans rfl, (blk_cell BK348.out 0).trans rfl, (blk_cell BK348.out 1).trans rfl⟩ (fun hHeld => ?_)
    generalize w51.drew = w52 at HO352 HO355 HO359 HO362 BK348 BK363 HB hHeld ⊢
    refine take_ (i := 0) (N := some 22) (v := ?_) (a' := ?_) #[T,F,F,F,F] rfl rfl (by kernel_rfl) ZF (Or.inl ⟨by rfl, ?_⟩) hHeld ?_ ?_
    rotate_left
    ·exact Z25
    rotate_left
    ·exact Z1
    refine take_ (i := 1) (N := some 23) (v := ?_) (a' := ?_) #[T,T,F,F,F] rfl rfl (by kernel_rfl) ZF (Or.inl ⟨by rfl, ?_⟩) hHeld ?_ ?_
    rotate_left
    ·exact Z25
    rotate_left
    ·exact Z1
    refine one_ (i := 2) (N := some 24) #[T,T,T,F,F] rfl rfl (by kernel_rfl) (by decide) (fun K hK => ?_)
    refine goes_ Try.func28 (by kernel_rfl) rfl #[.agg #[.slice A0_0 l0_0.length c0_0, .slice A0_1 l0_1.length c0_1]] (by rfl) rfl rfl Z5 ?_
    with_reducible refine (laws_toLine.calls k _ _ l0_0 _ _ l0_1 t365 t368 _ ?side1 ?side2 ?side3 ?side4 A12.out).mono ?_
    (case side1 => exact Z4 HR0_0.out)
    (case side2 => exact HC0_0.out)
    (case side3 => exact Z4 HR0_1.out)
    (case side4 => exact HC0_1.out)
    rintro e w53 ⟨v366, v369, rfl, ho0, ho1, hb⟩
    refine ⟨_, rfl, ?_⟩
    have n0_ := A_ (Kd.S_elder' (Z14 HO352.out) (Kd.S_base ho0) hb)
    have n1_ := A_ (Kd.S_elder' (Z14 HO355.out) (Kd.S_base ho1) hb)
    have n2_ := A_ (Kd.S_elder' (Z14 HO359.out) (Kd.S_base ho0) hb)
    have n3_ := A_ (Kd.S_elder' (Z14 HO362.out) (Kd.S_base ho1) hb)
    have n4_ := A_ (Kd.S_lower (Kd.S_new' (Kd.S_new' ho0 (Kd.S_lt (Z14 HO352.out))) (Kd.S_lt (Z14 HO359.out))) (below_size (Z6 GE348.out GE363.out)))
    have n5_ := A_ (Kd.S_lower (Kd.S_new' (Kd.S_new' ho1 (Kd.S_lt (Z14 HO355.out))) (Kd.S_lt (Z14 HO362.out))) (below_size (Z6 GE348.out GE363.out)))
    have n6_ := A_ (blk_below (g := gb348) (o := .cells #[.slice A0_0 l0_0.length c0_0, .slice A0_1 l0_1.length c0_1] 60 (0, 0)) (Z3 BK348.out) hb)
    have n7_ := A_ (blk_below (g := gb363) (o := .cells #[.slice Ao47 t357.length co47, .slice Ao50 t360.length co50] 65 (0, 0)) (Z3 BK363.out) hb)
    have n8_ := A_ (below_step (Z6 GE348.out GE363.out) hb)
    clear HO352
    clear HO355
    clear HO359
    clear HO362
    clear BK348
    clear BK363
    clear HB
    have HO352 := n0_
    have HO355 := n1_
    have HO359 := n2_
    have HO362 := n3_
    have HO367 := n4_
    have HO370 := n5_
    have BK348 := n6_
    have BK363 := n7_
    have HB := n8_
    clear n0_ n1_ n2_ n3_ n4_ n5_ n6_ n7_ n8_
    (try clear hb)
    (try clear hb2)
    (try clear hk)
    (try clear hi)
    (try clear ho0)
    (try clear ho1)
    obtain ⟨Ao54, co54, eo54⟩ := Kd.S_slice HO367.out
    (first | subst eo54 | (injection eo54 with f1_ f2_ f3_; have f4_ := f1_.symm; have f5_ := f3_.symm; clear f1_ f2_ f3_; subst f4_; subst f5_))
    obtain ⟨Ao55, co55, eo55⟩ := Kd.S_slice HO370.out
    (first | subst eo55 | (injection eo55 with f1_ f2_ f3_; have f4_ := f1_.symm; have f5_ := f3_.symm; clear f1_ f2_ f3_; subst f4_; subst f5_))
    refine hK.out _ _ ⟨(blk_cell BK363.out 0).trans rfl, (blk_cell BK363.out 1).trans rfl, (blk_cell BK348.out 0).trans rfl, (blk_cell BK348.out 1).trans rfl⟩ (fun hHeld => ?_)
    clear hK K
    refine norm_ (a' := ?_) ?_ ?_
    rotate_left
    ·show Act.put _ (some 24) _ = _
     simp only [Act.put, List.setIfInBounds_toArray, List.set_cons_zero, List.set_cons_succ, i64_w, i32_w]
     rfl
    refine one_ (i := 3) (N := some 25) #[T,T,T,T,F] rfl rfl (by kernel_rfl) (by decide) (fun K hK => ?_)
    refine goes_ Try.func30 (by kernel_rfl) rfl #[.agg #[.slice Ao47 t357.length co47, .slice Ao50 t360.length co50], .agg #[.slice Ao54 t365.length co54, .slice Ao55 t368.length co55]] (by rfl) rfl rfl Z5 ?_
    with_reducible refine (laws_eqLine.calls k _ _ t357 _ _ t360 _ _ t365 _ _ t368 false _ ?side1 ?side2 ?side3 ?side4 ?side5 ?side6 ?side7 ?side8 A13.out).mono ?_
    (case side1 => exact Z20 HO359.out)
    (case side2 => exact (Kd.S_reads' HO359.out).2.1)
    (case side3 => exact Z20 HO362.out)
    (case side4 => exact (Kd.S_reads' HO362.out).2.1)
    (case side5 => exact Z20 HO367.out)
    (case side6 => exact (Kd.S_reads' HO367.out).2.1)
    (case side7 => exact Z20 HO370.out)
    (case side8 => exact (Kd.S_reads' HO370.out).2.1)
    rintro e w56 ⟨rfl, hb⟩
    refine ⟨_, rfl, ?_⟩
    have n0_ := A_ (Kd.S_below (Z14 HO352.out) hb)
    have n1_ := A_ (Kd.S_below (Z14 HO355.out) hb)
    have n2_ := A_ (Kd.S_below (Z14 HO359.out) hb)
    have n3_ := A_ (Kd.S_below (Z14 HO362.out) hb)
    have n4_ := A_ (Kd.S_below (Z14 HO367.out) hb)
    have n5_ := A_ (Kd.S_below (Z14 HO370.out) hb)
    have n6_ := A_ (blk_below (g := gb348) (o := .cells #[.slice A0_0 l0_0.length c0_0, .slice A0_1 l0_1.length c0_1] 60 (0, 0)) (Z3 BK348.out) hb)
    have n7_ := A_ (blk_below (g := gb363) (o := .cells #[.slice Ao47 t357.length co47, .slice Ao50 t360.length co50] 65 (0, 0)) (Z3 BK363.out) hb)
    have n8_ := A_ (below_step (Z6 GE348.out GE363.out) hb)
    clear HO352
    clear HO355
    clear HO359
    clear HO362
    clear HO367
    clear HO370
    clear BK348
    clear BK363
    clear HB
    have HO352 := n0_
    have HO355 := n1_
    have HO359 := n2_
    have HO362 := n3_
    have HO367 := n4_
    have HO370 := n5_
    have BK348 := n6_
    have BK363 := n7_
    have HB := n8_
    clear n0_ n1_ n2_ n3_ n4_ n5_ n6_ n7_ n8_
    (try clear hb)
    (try clear hb2)
    (try clear hk)
    (try clear hi)
    refine hK.out _ _ ⟨(blk_cell BK363.out 0).trans rfl, (blk_cell BK363.out 1).trans rfl, (blk_cell BK348.out 0).trans rfl, (blk_cell BK348.out 1).trans rfl⟩ (fun hHeld => ?_)
    clear hK K
    refine norm_ (a' := ?_) ?_ ?_
    rotate_left
    ·exact Z21
    refine pure_ (i := 4) (N := some 26) (v := ?_) (a' := ?_) #[T,T,T,T,T] rfl rfl (by kernel_rfl) ZF (Or.inl ⟨by rfl, ?_⟩) ?_ ?_
    rotate_left
    ·exact Z13
    rotate_left
    ·exact Z1
    refine done_ (by kernel_rfl) ?_
    try go_wp2
    go_ret
    exact ⟨Z7, Z6 GE348.out GE363.out⟩
  ·rw [if_neg c11] at H
   have c11b0 : (t364 == t356) = false := beq_eq_false_iff_ne.mpr c11
   have c11b1 : (t364 != t356) = true := bne_iff_ne.mpr c11
   obtain rfl := Option.some.inj H
   go_enter Try.func7, Try.ntmps7
   go_wp2_with (first | ((with_reducible refine gate_dst (N := 1) rfl ?_); refine box_event ?hg (N := 1) ?hd (cs := #[.slice A0_0 l0_0.length c0_0, .slice A0_1 l0_1.length c0_1]) (t := 60) ?hr ?_; (case hd => rfl); (case hg => rfl); (case hr => exact Z15); intro gb348 hg w57 hbox hb; have n0_ := A_ (below_step Z0 hb); have n1_ := A_ (hbox); have n2_ := A_ ((by rw [hg]; exact (below_size Z0) : w.heap.size ≤ gb348)); have n3_ := A_ ((by rw [hg]; exact (below_size Z0) : w.heap.size ≤ gb348)); clear HB; have HB := n0_; have BK348 := n1_; have GW348 := n2_; have GE348 := n3_; clear n0_ n1_ n2_ n3_; clear hb hbox hg; have hcz58_0 : w57.cell? ⟨gb348, 0, none⟩ = some (.slice A0_0 l0_0.length c0_0) := (blk_cell BK348.out 0).trans rfl; have hcz58_1 : w57.cell? ⟨gb348, 1, none⟩ = some (.slice A0_1 l0_1.length c0_1) := (blk_cell BK348.out 1).trans rfl; have hfz58_0 := blk_frozen BK348.out 0; have hfz58_1 := blk_frozen BK348.out 1) | ((with_reducible refine gate_callee (f := 26) rfl ?_); refine goesL_ (some 9) rfl rfl Try.func26 (by kernel_rfl) rfl #[.agg #[.slice A0_0 l0_0.length c0_0, .slice A0_1 l0_1.length c0_1], .int .i64 1048576] rfl Z5 ?_; (with_reducible refine (laws_szLine.calls k _ _ l0_0 _ _ l0_1 1048576 t349 _ ?side1 ?side2 ?side3 ?side4 A2.out).mono ?_); (case side1 => exact Z4 HR0_0.out); (case side2 => exact HC0_0.out); (case side3 => exact Z4 HR0_1.out); (case side4 => exact HC0_1.out); rintro e w59 ⟨rfl, hb⟩; refine ⟨_, rfl, ?_⟩; have n0_ := A_ (blk_below (g := gb348) (o := .cells #[.slice A0_0 l0_0.length c0_0, .slice A0_1 l0_1.length c0_1] 60 (0, 0)) (Z3 BK348.out) hb); have n1_ := A_ (below_step (Z2 GE348.out) hb); clear BK348; clear HB; have BK348 := n0_; have HB := n1_; clear n0_ n1_; (try clear hb); (try clear hb2); (try clear hk); (try clear hi); have hcz60_0 : w59.cell? ⟨gb348, 0, none⟩ = some (.slice A0_0 l0_0.length c0_0) := (blk_cell BK348.out 0).trans rfl; have hcz60_1 : w59.cell? ⟨gb348, 1, none⟩ = some (.slice A0_1 l0_1.length c0_1) := (blk_cell BK348.out 1).trans rfl; have hfz60_0 := blk_frozen BK348.out 0; have hfz60_1 := blk_frozen BK348.out 1) | ((with_reducible refine gate_callee (f := 28) rfl ?_); refine goesL_ (some 13) rfl rfl Try.func28 (by kernel_rfl) rfl #[.agg #[.slice A0_0 l0_0.length c0_0, .slice A0_1 l0_1.length c0_1]] rfl Z5 ?_; (with_reducible refine (laws_toLine.calls k _ _ l0_0 _ _ l0_1 t350 t353 _ ?side1 ?side2 ?side3 ?side4 A7.out).mono ?_); (case side1 => exact Z4 HR0_0.out); (case side2 => exact HC0_0.out); (case side3 => exact Z4 HR0_1.out); (case side4 => exact HC0_1.out); rintro e w61 ⟨v351, v354, rfl, ho0, ho1, hb⟩; refine ⟨_, rfl, ?_⟩; have n0_ := A_ (Kd.S_lower ho0 (below_size (Z2 GE348.out))); have n1_ := A_ (Kd.S_lower ho1 (below_size (Z2 GE348.out))); have n2_ := A_ (blk_below (g := gb348) (o := .cells #[.slice A0_0 l0_0.length c0_0, .slice A0_1 l0_1.length c0_1] 60 (0, 0)) (Z3 BK348.out) hb); have n3_ := A_ (below_step (Z2 GE348.out) hb); clear BK348; clear HB; have HO352 := n0_; have HO355 := n1_; have BK348 := n2_; have HB := n3_; clear n0_ n1_ n2_ n3_; (try clear hb); (try clear hb2); (try clear hk); (try clear hi); (try clear ho0); (try clear ho1); obtain ⟨Ao62, co62, eo62⟩ := Kd.S_slice HO352.out; subst eo62; obtain ⟨Ao63, co63, eo63⟩ := Kd.S_slice HO355.out; subst eo63) | ((with_reducible refine gate_callee (f := 31) rfl ?_); refine goesL_ (some 14) rfl rfl Try.func31 (by kernel_rfl) rfl #[.agg #[.slice Ao62 t350.length co62, .slice Ao63 t353.length co63]] rfl Z5 ?_; (with_reducible refine (spec_LineWants.calls k _ _ t350 _ _ t353 t356 _ ?side1 ?side2 ?side3 ?side4 A8.out).mono ?_); (case side1 => exact Z20 HO352.out); (case side2 => exact (Kd.S_reads' HO352.out).2.1); (case side3 => exact Z20 HO355.out); (case side4 => exact (Kd.S_reads' HO355.out).2.1); rintro e w64 ⟨rfl, hb⟩; refine ⟨_, rfl, ?_⟩; have n0_ := A_ (Kd.S_below (Z14 HO352.out) hb); have n1_ := A_ (Kd.S_below (Z14 HO355.out) hb); have n2_ := A_ (blk_below (g := gb348) (o := .cells #[.slice A0_0 l0_0.length c0_0, .slice A0_1 l0_1.length c0_1] 60 (0, 0)) (Z3 BK348.out) hb); have n3_ := A_ (below_step (Z2 GE348.out) hb); clear HO352; clear HO355; clear BK348; clear HB; have HO352 := n0_; have HO355 := n1_; have BK348 := n2_; have HB := n3_; clear n0_ n1_ n2_ n3_; (try clear hb); (try clear hb2); (try clear hk); (try clear hi); have hcz65_0 : w64.cell? ⟨gb348, 0, none⟩ = some (.slice A0_0 l0_0.length c0_0) := (blk_cell BK348.out 0).trans rfl; have hcz65_1 : w64.cell? ⟨gb348, 1, none⟩ = some (.slice A0_1 l0_1.length c0_1) := (blk_cell BK348.out 1).trans rfl; have hfz65_0 := blk_frozen BK348.out 0; have hfz65_1 := blk_frozen BK348.out 1) | ((with_reducible refine gate_callee (f := 28) rfl ?_); refine goesL_ (some 16) rfl rfl Try.func28 (by kernel_rfl) rfl #[.agg #[.slice A0_0 l0_0.length c0_0, .slice A0_1 l0_1.length c0_1]] rfl Z5 ?_; (with_reducible refine (laws_toLine.calls k _ _ l0_0 _ _ l0_1 t357 t360 _ ?side1 ?side2 ?side3 ?side4 A9.out).mono ?_); (case side1 => exact Z4 HR0_0.out); (case side2 => exact HC0_0.out); (case side3 => exact Z4 HR0_1.out); (case side4 => exact HC0_1.out); rintro e w66 ⟨v358, v361, rfl, ho0, ho1, hb⟩; refine ⟨_, rfl, ?_⟩; have n0_ := A_ (Kd.S_elder' (Z14 HO352.out) (Kd.S_base ho0) hb); have n1_ := A_ (Kd.S_elder' (Z14 HO355.out) (Kd.S_base ho1) hb); have n2_ := A_ (Kd.S_lower (Kd.S_new' ho0 (Kd.S_lt (Z14 HO352.out))) (below_size (Z2 GE348.out))); have n3_ := A_ (Kd.S_lower (Kd.S_new' ho1 (Kd.S_lt (Z14 HO355.out))) (below_size (Z2 GE348.out))); have n4_ := A_ (blk_below (g := gb348) (o := .cells #[.slice A0_0 l0_0.length c0_0, .slice A0_1 l0_1.length c0_1] 60 (0, 0)) (Z3 BK348.out) hb); have n5_ := A_ (below_step (Z2 GE348.out) hb); clear HO352; clear HO355; clear BK348; clear HB; have HO352 := n0_; have HO355 := n1_; have HO359 := n2_; have HO362 := n3_; have BK348 := n4_; have HB := n5_; clear n0_ n1_ n2_ n3_ n4_ n5_; (try clear hb); (try clear hb2); (try clear hk); (try clear hi); (try clear ho0); (try clear ho1)) | ((with_reducible refine gate_dst (N := 5) rfl ?_); refine box_event ?hg (N := 5) ?hd (cs := #[.slice none 0 0, .slice none 0 0]) (t := 65) ?hr ?_; (case hd => rfl); (case hg => rfl); (case hr => exact Z15); intro gb363 hg w67 hbox hb; have n0_ := A_ (Kd.S_below (Z14 HO352.out) hb); have n1_ := A_ (Kd.S_below (Z14 HO355.out) hb); have n2_ := A_ (Kd.S_below (Z14 HO359.out) hb); have n3_ := A_ (Kd.S_below (Z14 HO362.out) hb); have n4_ := A_ (blk_below (g := gb348) (o := .cells #[.slice A0_0 l0_0.length c0_0, .slice A0_1 l0_1.length c0_1] 60 (0, 0)) (Z3 BK348.out) hb); have n5_ := A_ (below_step (Z2 GE348.out) hb); have n6_ := A_ (hbox); have n7_ := A_ ((by rw [hg]; exact (below_size (Z2 GE348.out)) : w.heap.size ≤ gb363)); have n8_ := A_ ((by rw [hg]; exact (below_size (Z2 GE348.out)) : w.heap.size ≤ gb363)); have n9_ := A_ ((by rw [hg]; exact Nat.ne_of_lt (blk_lt (g := gb348) (o := .cells #[.slice A0_0 l0_0.length c0_0, .slice A0_1 l0_1.length c0_1] 60 (0, 0)) (Z3 BK348.out)) : gb348 ≠ gb363)); have n10_ := A_ ((by rw [hg]; exact Nat.ne_of_gt (blk_lt (g := gb348) (o := .cells #[.slice A0_0 l0_0.length c0_0, .slice A0_1 l0_1.length c0_1] 60 (0, 0)) (Z3 BK348.out)) : gb363 ≠ gb348)); clear HO352; clear HO355; clear HO359; clear HO362; clear BK348; clear HB; have HO352 := n0_; have HO355 := n1_; have HO359 := n2_; have HO362 := n3_; have BK348 := n4_; have HB := n5_; have BK363 := n6_; have GW363 := n7_; have GE363 := n8_; have NB348_363 := n9_; have NB363_348 := n10_; clear n0_ n1_ n2_ n3_ n4_ n5_ n6_ n7_ n8_ n9_ n10_; clear hb hbox hg; obtain ⟨Ao68, co68, eo68⟩ := Kd.S_slice HO359.out; subst eo68; have hnb69 := NB363_348.out; have hnc69 := NB348_363.out; have hcz70_0 : w67.cell? ⟨gb363, 0, none⟩ = some (.slice none 0 0) := (blk_cell BK363.out 0).trans rfl; have hcz70_1 : w67.cell? ⟨gb363, 1, none⟩ = some (.slice none 0 0) := (blk_cell BK363.out 1).trans rfl; have hfz70_0 := blk_frozen BK363.out 0; have hfz70_1 := blk_frozen BK363.out 1; obtain ⟨Ao71, co71, eo71⟩ := Kd.S_slice HO362.out; subst eo71) | ((with_reducible refine gate_callee (f := 32) rfl ?_); refine goesL_ (some 18) rfl rfl Try.func32 (by kernel_rfl) rfl #[.agg #[.slice Ao68 t357.length co68, .slice Ao71 t360.length co71]] rfl Z5 ?_; (with_reducible refine (impl_LineWants.calls k _ _ t357 _ _ t360 t364 _ ?side1 ?side2 ?side3 ?side4 A10.out).mono ?_); (case side1 => refine (Kd.S_reads' (e := 95) (base := w.heap.size) (ok := fun k_ => (True ∧ some k_ ≠ (.slice Ao62 t350.length co62 : Value).ownBlock)) (n := t357.length) (c := co68) ?_).2.2; exact (Z22 HO359.out BK363.out)); (case side2 => exact (Kd.S_reads' HO359.out).2.1); (case side3 => refine (Kd.S_reads' (e := 53) (base := w.heap.size) (ok := fun k_ => (True ∧ some k_ ≠ (.slice Ao63 t353.length co63 : Value).ownBlock)) (n := t360.length) (c := co71) ?_).2.2; exact (Z22 HO362.out BK363.out)); (case side4 => exact (Kd.S_reads' HO362.out).2.1); rintro e w72 ⟨rfl, hb⟩; refine ⟨_, rfl, ?_⟩; have n0_ := A_ (Kd.S_below (Z22 HO352.out BK363.out) hb); have n1_ := A_ (Kd.S_below (Z22 HO355.out BK363.out) hb); have n2_ := A_ (Kd.S_below (Z22 HO359.out BK363.out) hb); have n3_ := A_ (Kd.S_below (Z22 HO362.out BK363.out) hb); have n4_ := A_ (blk_below (g := gb348) (o := .cells #[.slice A0_0 l0_0.length c0_0, .slice A0_1 l0_1.length c0_1] 60 (0, 0)) (Z19 NB348_363.out BK348.out) hb); have n5_ := A_ (blk_below (g := gb363) (o := .cells #[.slice Ao68 t357.length co68, .slice Ao71 t360.length co71] 65 (0, 0)) (by (with_reducible repeat (first | refine blk_drewN ?_ _ | refine blk_drew ?_ | refine blk_alloc ?_ _)); refine blk_put (cs := #[.slice Ao68 t357.length co68, .slice none 0 0]) ?_ 1 _ rfl; (with_reducible repeat (first | refine blk_drewN ?_ _ | refine blk_drew ?_ | refine blk_alloc ?_ _)); refine blk_put (cs := #[.slice none 0 0, .slice none 0 0]) ?_ 0 _ rfl; (with_reducible repeat (first | refine blk_drewN ?_ _ | refine blk_drew ?_ | refine blk_alloc ?_ _)); exact BK363.out) hb); have n6_ := A_ (below_step (Z6 GE348.out GE363.out) hb); clear HO352; clear HO355; clear HO359; clear HO362; clear BK348; clear BK363; clear HB; have HO352 := n0_; have HO355 := n1_; have HO359 := n2_; have HO362 := n3_; have BK348 := n4_; have BK363 := n5_; have HB := n6_; clear n0_ n1_ n2_ n3_ n4_ n5_ n6_; (try clear hb); (try clear hb2); (try clear hk); (try clear hi)))
   go_ret
   exact ⟨Z7, Z6 GE348.out GE363.out⟩
end Go.Proofs.Ytmphggpibaolcaa.PFnExactLineWants
